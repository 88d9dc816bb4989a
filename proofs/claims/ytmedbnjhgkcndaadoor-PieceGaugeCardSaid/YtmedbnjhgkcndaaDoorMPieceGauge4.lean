/- Several texts in one: G39 G17 G41 G56 G42 G18 -/
import Derived.WalkKit
import Derived.Maps.AppendAt
import Derived.Deep.AppendLies
import Derived.KernelRfl
import Derived.Laws.OwnMore
import Derived.Great.BuildSlice
import Derived.Orders
import Derived.Laws.StructEq
import Derived.ChangeKeysEq
import Derived.Defers
import Derived.Laws.BytesString
import Derived.RangeFuncNested
import Derived.RangeFuncBound
import Derived.RangeFuncCalls
import Derived.RangeFuncLeaves
import Derived.OrdersIn
import Derived.LoopNIn
import Derived.Test.YtmedbnjhgkcndaaDoorProg
import Derived.ProofKit
import Derived.OpenShut
import Derived.ChangeOld
import Derived.Deep.Slices
import Derived.Lib.SmallJoins
import Derived.JoinedOf
import Derived.JoinedAt
import Derived.Below
import Derived.Shelf.Strings.Builder1
import Derived.Shelf.Strings.Builder2
import Derived.Shelf.Strings.OnBuilder
import Derived.Test.YtmedbnjhgkcndaaDoorRows
import Derived.LaidMore
import Derived.SevenTiedAt
import Derived.Test.YtmedbnjhgkcndaaDoorCards
import Derived.Test.YtmedbnjhgkcndaaDoorTie
import Derived.Test.YtmedbnjhgkcndaaDoorMPieceGauge3
namespace Go.Proofs.YtmedbnjhgkcndaaDoor
open Go.RowKit
set_option linter.unusedVariables false

noncomputable def stitch_Turn_l1  : List api_Stitch → (Int × api_Stitch) → Option (List api_Stitch ⊕ Empty) := fun s0 x0 => match s0, x0 with
  | s21, (x24, x26) =>
    Option.bind (F_stitch_forms x26.Kind) fun r30 =>
    Option.bind (α := Bool) (
      if r30.1.sided then
        some (!x26.Purl)
      else
        some false) fun o34 =>
    Option.bind (α := (Int × Int)) (
      if decide (0 < r30.1.b.2) then
        some (x26.B, x26.A)
      else
        some (x26.A, x26.B)) fun (o38, o39) =>
    Option.bind (appO s21 [(api_Stitch.mk x26.Kind o34 o38 o39)]) fun l46 =>
    some (.inl l46)
noncomputable def stitch_Turn_l2  : List api_Stitch → (Int × api_Stitch) → Option (List api_Stitch ⊕ Empty) := fun s0 x0 => match s0, x0 with
  | s22, (x25, x27) =>
    Option.bind (F_stitch_forms x27.Kind) fun r31 =>
    Option.bind (α := Bool) (
      if r31.1.sided then
        some (!x27.Purl)
      else
        some false) fun o35 =>
    Option.bind (α := (Int × Int)) (
      if decide (0 < r31.1.b.2) then
        some (x27.B, x27.A)
      else
        some (x27.A, x27.B)) fun (o39, o40) =>
    Option.bind (appO s22 [(api_Stitch.mk x27.Kind o35 o39 o40)]) fun l47 =>
    some (.inl l47)
noncomputable def F_stitch_Turn (p0 : (List api_Stitch)) : Option ((List api_Stitch) × Int) :=
  Option.bind (F_stitch_All p0) fun r6 =>
  if r6 != 0 then
    some (([] : (List api_Stitch)), r6)
  else
    Option.bind (capO (p0.length : Int)) fun z14 =>
    Option.bind (F_slices_Backward___api_Stitch_api_Stitch_ p0) fun r19 =>
    Option.bind (I_slices_Backward___api_Stitch_api_Stitch__1 r19 _ _ (stitch_Turn_l2) ([] : List api_Stitch)) fun z0 => match z0 with
      | .inl s22 =>
        some (s22, 0)
      | .inr z0 =>
        nomatch z0
def c_stitch_Turn_val (r : ((List api_Stitch) × Int)) (x : Value) : Value := .tuple #[x, .int .i64 r.2]
def c_stitch_Turn_D (r : ((List api_Stitch) × Int)) (x : Value) : List Fact := [fRep (rL r_api_Stitch) x r.1]
set_option maxHeartbeats 4000000 in
set_option maxRecDepth 100000 in
theorem c_stitch_Turn (E : Nat → Prop) (w0 : World) (p0 : (List api_Stitch)) (v0 : Value) (r : ((List api_Stitch) × Int)) (h : F_stitch_Turn p0 = some r) (S : St0 E [] w0 w0 [] [fRep (rL r_api_Stitch) (v0) p0]) :
    Calls Tryd.prog 39 #[v0] w0 (Ret (X := Value) E [] w0 (c_stitch_Turn_val r) (fun _ => []) (c_stitch_Turn_D r)) := by
  unfold F_stitch_Turn at h
  obtain ⟨ad1, cp2, _, rfl, _⟩ := S.know (i := 0) (e := fRep (rL r_api_Stitch) (v0) p0) rfl
  refine sEnterM (args := [.slice ad1 p0.length cp2]) 51 Tryd.func39 rfl rfl (by simp) S (fun a S => ?_)
  refine sSeq (fun K3 hK3 => ?_)
  refine sRegion ?_
  refine sMove (.slice none 0 0) S (wN rfl) (.inr rfl) rfl rfl (lb rfl) fun a S => ?_
  refine sMove (iv 0) S (wN rfl) (.inr rfl) rfl rfl (lb rfl) fun a S => ?_
  refine leafL (leafT (hK3 _ _ ?_))
  refine sSeq (fun K4 hK4 => ?_)
  refine sSeq (fun K5 hK5 => ?_)
  refine sRegion ?_
  refine sMove (.slice ad1 p0.length cp2) S (wN rfl) (.inl rfl) rfl rfl (lb rfl) fun a S => ?_
  obtain ⟨r6, hx7, h⟩ := bindSome h
  have S1 := S.mem
  refine sCallQ (X := Unit) (f := 40) (vs := [.slice ad1 p0.length cp2]) (val := fun _ => iv r6) S (wN rfl) rfl callee40 rfl (S1.quiet [0] rfl) (fun E1 w1 S1 => c_stitch_All E1 w1 p0 (.slice ad1 p0.length cp2) r6 hx7 S1) rfl (lb rfl) fun _ a w S => ?_
  refine sMove (iv r6) S (wN rfl) (.inr rfl) rfl rfl (lb rfl) fun a S => ?_
  refine leafL (leafT (hK5 _ _ ?_))
  refine sSeq (fun K8 hK8 => ?_)
  refine sRegion ?_
  refine sMove (iv r6) S (wN rfl) (.inl rfl) rfl rfl (lb rfl) fun a S => ?_
  refine sBin (.bool (r6 != 0)) S (wN rfl) rfl rfl rfl (bNe _ _ _ _ .i64 r6 0) rfl (lb rfl) fun a S => ?_
  refine leafL (leafT (hK8 _ _ ?_))
  rcases iteSome h with ⟨hc9, h⟩ | ⟨hc9, h⟩
  · refine sCondT S rfl hc9 ?_
    refine sSeq (fun K10 hK10 => ?_)
    refine sRegion ?_
    refine sMove (iv r6) S (wN rfl) (.inl rfl) rfl rfl (lb rfl) fun a S => ?_
    refine sMove (.slice none 0 0) S (wN rfl) (.inr rfl) rfl rfl (lb rfl) fun a S => ?_
    refine sMove (iv r6) S (wN rfl) (.inr rfl) rfl rfl (lb rfl) fun a S => ?_
    refine leafL (leafT (hK10 _ _ ?_))
    obtain rfl := Option.some.inj h
    have S := S.learn (fRep (rL r_api_Stitch) (.slice none 0 0) ([] : (List api_Stitch))) (rL_nil _ _ _)
    exact wp_ret (rThen (sRetM0 (.tuple #[.slice none 0 0, iv r6]) S (rsl2 rfl (rvT (t := 2) (v := .slice none 0 0) S rfl) (rvT (t := 3) (v := iv r6) S rfl)) ⟨(.slice none 0 0), rfl, S.mem.sel [] [0] (by decide) rfl rfl⟩))
  refine sCondF S rfl hc9 ?_
  refine wp_skip (leafT (hK4 _ _ ?_))
  refine sSeq (fun K11 hK11 => ?_)
  refine sRegion ?_
  refine sMove (.slice ad1 p0.length cp2) S (wN rfl) (.inl rfl) rfl rfl (lb rfl) fun a S => ?_
  refine sLen (ad := ad1) (m := p0.length) (c := cp2) S (wN rfl) rfl Tryd.underlying52 rfl rfl (lb rfl) fun a S => ?_
  obtain ⟨z14, hx15, h⟩ := bindSome h
  refine sMake0 r_api_Stitch (m := (p0.length : Int)) (u := z14) (.agg #[.int .u8 0, .bool false, iv 0, iv 0]) 24 S (wN rfl) rfl Tryd.underlying52 rfl (by decide) rfl rfl hx15 rfl (lb rfl) fun a w ad12 cp13 S => ?_
  refine sAlloc (.slice none 0 0) S (wN rfl) rfl rfl [.slice none 0 0] rfl rfl (lb rfl) fun a b16 w S => ?_
  refine sStore (p := b16) (off := 0) (T := 52) (vs := [.slice none 0 0]) (v := .slice ad12 ([] : List api_Stitch).length cp13) 0 [.slice ad12 ([] : List api_Stitch).length cp13] S (wN rfl) rfl rfl rfl rfl rfl rfl rfl (by simp) rfl fun a w S => ?_
  refine leafL (leafT (hK11 _ _ ?_))
  refine sSeq (fun K17 hK17 => ?_)
  refine sSeq (fun K18 hK18 => ?_)
  refine sRegion ?_
  refine sMove (.slice ad1 p0.length cp2) S (wN rfl) (.inl rfl) rfl rfl (lb rfl) fun a S => ?_
  obtain ⟨r19, hx20, h⟩ := bindSome h
  refine sCall (X := Value) (f := 51) (vs := [.slice ad1 p0.length cp2]) (val := c_slices_Backward___api_Stitch_api_Stitch__val r19) (B' := fun _ => []) (D' := c_slices_Backward___api_Stitch_api_Stitch__D r19) [] [eBox b16 52 [.slice ad12 ([] : List api_Stitch).length cp13], eRow r_api_Stitch 56 (.slice ad12 ([] : List api_Stitch).length cp13) ([] : List api_Stitch)] [fRep (rL r_api_Stitch) (.slice ad1 p0.length cp2) p0] [0, 1] [0] S (wN rfl) rfl callee51 rfl (by decide) rfl rfl (fun E1 w1 S1 => c_slices_Backward___api_Stitch_api_Stitch_ E1 w1 p0 (.slice ad1 p0.length cp2) r19 hx20 S1) rfl (lb rfl) fun u21 a w S => ?_
  refine leafL (leafT (hK18 _ _ ?_))
  refine wp_block ?_
  obtain ⟨t53, hl54, g52⟩ := bindSome h
  replace S : St [] E [] w0 51 a w [(5, .pointer (some ⟨b16, 0, none⟩)), (19, .func (.func 67) #[] #[u21])] [eBox b16 52 [.slice ad12 ([] : List api_Stitch).length cp13], eRow r_api_Stitch 56 (.slice ad12 ([] : List api_Stitch).length cp13) ([] : List api_Stitch)] [fPtr (rL r_api_Stitch) (u21) r19] := S.fix [0, 1] [0] (by decide) rfl rfl rfl
  refine sRange2 (B := stitch_Turn_l2) (fun s0 L D => match s0 with | s22 => ∃ ad23, ∃ cp24, L = [eBox b16 52 [.slice ad23 s22.length cp24], eRow r_api_Stitch 56 (.slice ad23 s22.length cp24) s22] ∧ D = [fPtr (rL r_api_Stitch) (u21) r19]) (fun _ _ _ _ => False) [0] S hl54 rfl callee67 (it_slices_Backward___api_Stitch_api_Stitch__1 r19 u21) rfl (by decide) (by decide) ⟨ad12, cp13, rfl, rfl⟩ ?_ ?_ ?_
  · intro E l0 s22 x25 x27 u26 u28 b L D K a w0 hK hIL hB S
    clear hl54 g52 h hK
    unfold stitch_Turn_l2 at hB
    dsimp only at hB hIL
    obtain ⟨ad23, cp24, rfl, rfl⟩ := hIL
    have h := hB
    clear hB
    obtain rfl : u26 = iv x25 := S.mem.know (i := 0) (e := fRep (rI .i64) (u26) x25) rfl
    obtain rfl : u28 = .agg #[.int .u8 x27.Kind, .bool x27.Purl, iv x27.A, iv x27.B] := S.mem.know (i := 1) (e := fRep r_api_Stitch (u28) x27) rfl
    refine sRegionR (by repeat (first | exact roundU_out | exact it_out | exact lo_false | refine lo_then ?_ | refine lo_block ?_)) rfl ?_
    refine sAlloc (.agg #[.int .u8 0, .bool false, iv 0, iv 0]) S (wN rfl) rfl rfl [.int .u8 0, .bool false, iv 0, iv 0] rfl rfl (lb rfl) fun a b29 w S => ?_
    refine sStore (p := b29) (off := 0) (T := 56) (vs := [.int .u8 0, .bool false, iv 0, iv 0]) (v := .agg #[.int .u8 x27.Kind, .bool x27.Purl, iv x27.A, iv x27.B]) 0 [.int .u8 x27.Kind, .bool x27.Purl, iv x27.A, iv x27.B] S (wN rfl) rfl rfl rfl rfl rfl rfl rfl (by simp) rfl fun a w S => ?_
    refine leafL (leafT (⟨_, _, _, S, fun K a w0 hK S => ?_⟩))
    refine wpIn_block ?_
    refine sSeqR (fun K30 hK30 => ?_)
    refine sRegionR (by repeat (first | exact roundU_out | exact it_out | exact lo_false | refine lo_then ?_ | refine lo_block ?_)) rfl ?_
    refine sField (b := b29) (off := 0) 0 0 S (wN rfl) rfl rfl rfl rfl rfl (lb rfl) fun a S => ?_
    refine sLoad1 (p := b29) (off := 0) (T := 56) (vs := [.int .u8 x27.Kind, .bool x27.Purl, iv x27.A, iv x27.B]) 0 (.int .u8 x27.Kind) S (wN rfl) rfl rfl rfl rfl rfl rfl (lb rfl) fun a S => ?_
    obtain ⟨r31, hx32, h⟩ := bindSome h
    refine sCall (X := Value) (f := 52) (vs := [.int .u8 x27.Kind]) (val := c_stitch_forms_val r31) (B' := fun _ => []) (D' := c_stitch_forms_D r31) [] [eBox b29 56 [.int .u8 x27.Kind, .bool x27.Purl, iv x27.A, iv x27.B], eBox b16 52 [.slice ad23 s22.length cp24], eRow r_api_Stitch 56 (.slice ad23 s22.length cp24) s22] [] [0, 1, 2] [] S (wN rfl) rfl callee52 rfl (by decide) rfl rfl (fun E1 w1 S1 => c_stitch_forms E1 w1 x27.Kind r31 hx32 S1) rfl (lb rfl) fun u33 a w S => ?_
    obtain rfl : u33 = gv_stitch_form r31.1 := S.mem.know (i := 0) (e := fRep r_stitch_form (u33) r31.1) rfl
    refine sMove (.tuple #[gv_stitch_form r31.1, .bool r31.2]) S (wN rfl) (.inl rfl) rfl rfl (lb rfl) fun a S => ?_
    refine sExtract (vs := [gv_stitch_form r31.1, .bool r31.2]) (gv_stitch_form r31.1) S (wN rfl) rfl rfl rfl rfl (lb rfl) fun a S => ?_
    refine sExtract (vs := [gv_stitch_form r31.1, .bool r31.2]) (.bool r31.2) S (wN rfl) rfl rfl rfl rfl (lb rfl) fun a S => ?_
    refine sAlloc (gv_stitch_form (stitch_form.mk (⟨#[]⟩ : ByteArray) (0, 0) (0, 0) false 0 0)) S (wN rfl) rfl rfl (gl_stitch_form (stitch_form.mk (⟨#[]⟩ : ByteArray) (0, 0) (0, 0) false 0 0)) rfl rfl (lb rfl) fun a b34 w S => ?_
    refine sStore (p := b34) (off := 0) (T := 100) (vs := [.string (⟨#[]⟩ : ByteArray), iv 0, iv 0, iv 0, iv 0, .bool false, iv 0, iv 0]) (v := gv_stitch_form r31.1) 0 [.string r31.1.letter, iv r31.1.a.1, iv r31.1.a.2, iv r31.1.b.1, iv r31.1.b.2, .bool r31.1.sided, iv r31.1.uses, iv r31.1.made] S (wN rfl) rfl rfl rfl rfl rfl rfl rfl (by simp) rfl fun a w S => ?_
    refine sMove (.bool r31.2) S (wN rfl) (.inr rfl) rfl rfl (lb rfl) fun a S => ?_
    refine leafL (leafT (hK30 _ _ ?_))
    obtain ⟨t36, h, g37⟩ := bindSome h
    refine sCutR (fun a w => ∃ o35, o35 = t36 ∧ St [] E K w0 51 a w [(5, .pointer (some ⟨b16, 0, none⟩)), (7, .pointer (some ⟨b29, 0, none⟩)), (8, .pointer (some ⟨b34, 0, none⟩)), (19, .func (.func 67) #[] #[u21]), (21, .agg #[.int .u8 x27.Kind, .bool x27.Purl, iv x27.A, iv x27.B])] [eBox b16 52 [.slice ad23 s22.length cp24], eBox b29 56 [.int .u8 x27.Kind, .bool o35, iv x27.A, iv x27.B], eBox b34 100 (gl_stitch_form r31.1), eRow r_api_Stitch 56 (.slice ad23 s22.length cp24) s22] [fPtr (rL r_api_Stitch) (u21) r19]) ?_ (fun a w hI => ?_)
    · refine sRegionR (by repeat (first | exact roundU_out | exact it_out | exact lo_false | refine lo_then ?_ | refine lo_block ?_)) rfl ?_
      refine sField (b := b34) (off := 0) 5 5 S (wN rfl) rfl rfl rfl rfl rfl (lb rfl) fun a S => ?_
      refine sLoad1 (p := b34) (off := 5) (T := 100) (vs := (gl_stitch_form r31.1)) 0 (.bool r31.1.sided) S (wN rfl) rfl rfl rfl rfl rfl rfl (lb rfl) fun a S => ?_
      refine sMove (.bool r31.1.sided) S (wN rfl) (.inl rfl) rfl rfl (lb rfl) fun a S => ?_
      rcases iteSome h with ⟨hc38, h⟩ | ⟨hc38, h⟩
      rotate_left
      · refine sSkip 2 true 30 31 S rfl rfl rfl hc38 rfl (lb rfl) fun a S => ?_
        refine sSkip 2 true 30 32 S rfl rfl rfl hc38 rfl (lb rfl) fun a S => ?_
        refine sSkip 2 true 30 33 S rfl rfl rfl hc38 rfl (lb rfl) fun a S => ?_
        refine sPickF (.bool false) S (wN rfl) rfl rfl hc38 rfl rfl (lb rfl) fun a S => ?_
        refine sField (b := b29) (off := 0) 1 1 S (wN rfl) rfl rfl rfl rfl rfl (lb rfl) fun a S => ?_
        refine sStore (p := b29) (off := 1) (T := 56) (vs := [.int .u8 x27.Kind, .bool x27.Purl, iv x27.A, iv x27.B]) (v := .bool false) 1 [.bool false] S (wN rfl) rfl rfl rfl rfl rfl rfl rfl (by simp) rfl fun a w S => ?_
        exact leafL (leafT (⟨false, Option.some.inj h, S.fix [2, 0, 1, 3] [3] (by decide) rfl rfl rfl⟩))
      refine sField (b := b29) (off := 0) 1 1 S (wG 2 true 30 rfl rfl rfl hc38) rfl rfl rfl rfl rfl (lb rfl) fun a S => ?_
      refine sLoad1 (p := b29) (off := 1) (T := 56) (vs := [.int .u8 x27.Kind, .bool x27.Purl, iv x27.A, iv x27.B]) 1 (.bool x27.Purl) S (wG 2 true 30 rfl rfl rfl hc38) rfl rfl rfl rfl rfl rfl (lb rfl) fun a S => ?_
      refine sNot (b := x27.Purl) S (wG 2 true 30 rfl rfl rfl hc38) rfl rfl rfl (lb rfl) fun a S => ?_
      refine sPickT (.bool (!x27.Purl)) S (wN rfl) rfl rfl hc38 rfl rfl (lb rfl) fun a S => ?_
      refine sField (b := b29) (off := 0) 1 1 S (wN rfl) rfl rfl rfl rfl rfl (lb rfl) fun a S => ?_
      refine sStore (p := b29) (off := 1) (T := 56) (vs := [.int .u8 x27.Kind, .bool x27.Purl, iv x27.A, iv x27.B]) (v := .bool (!x27.Purl)) 1 [.bool (!x27.Purl)] S (wN rfl) rfl rfl rfl rfl rfl rfl rfl (by simp) rfl fun a w S => ?_
      exact leafL (leafT (⟨!x27.Purl, Option.some.inj h, S.fix [2, 0, 1, 3] [3] (by decide) rfl rfl rfl⟩))
    obtain ⟨o35, rfl, S⟩ := hI
    have h := g37
    clear g37
    try dsimp only at h
    obtain ⟨t41, h, g42⟩ := bindSome h
    refine sCutR (fun a w => ∃ o39, ∃ o40, (o39, o40) = t41 ∧ St [] E K w0 51 a w [(5, .pointer (some ⟨b16, 0, none⟩)), (7, .pointer (some ⟨b29, 0, none⟩)), (19, .func (.func 67) #[] #[u21]), (21, .agg #[.int .u8 x27.Kind, .bool x27.Purl, iv x27.A, iv x27.B])] [eBox b16 52 [.slice ad23 s22.length cp24], eBox b29 56 [.int .u8 x27.Kind, .bool o35, iv o39, iv o40], eRow r_api_Stitch 56 (.slice ad23 s22.length cp24) s22] [fPtr (rL r_api_Stitch) (u21) r19]) ?_ (fun a w hI => ?_)
    rotate_left
    · obtain ⟨o39, o40, rfl, S⟩ := hI
      have h := g42
      clear g42
      try dsimp only at h
      refine sRegionR (by repeat (first | exact roundU_out | exact it_out | exact lo_false | refine lo_then ?_ | refine lo_block ?_)) rfl ?_
      refine sLoad1 (p := b16) (off := 0) (T := 52) (vs := [.slice ad23 s22.length cp24]) 0 (.slice ad23 s22.length cp24) S (wN rfl) rfl rfl rfl rfl rfl rfl (lb rfl) fun a S => ?_
      refine sLoadN (p := b29) (off := 0) (T := 56) (vs := [.int .u8 x27.Kind, .bool o35, iv o39, iv o40]) 1 [.int .u8 x27.Kind, .bool o35, iv o39, iv o40] S (wN rfl) rfl rfl rfl rfl rfl rfl rfl (lb rfl) fun a S => ?_
      have S := S.learn (fRep r_api_Stitch (.agg #[.int .u8 x27.Kind, .bool o35, iv o39, iv o40]) (api_Stitch.mk x27.Kind o35 o39 o40)) rfl
      refine sLit (r := r_api_Stitch) (T := 56) (xs := [(api_Stitch.mk x27.Kind o35 o39 o40)]) [(0, .agg #[.int .u8 x27.Kind, .bool o35, iv o39, iv o40])] 1 [.agg #[.int .u8 x27.Kind, .bool o35, iv o39, iv o40]] [.int .u8 x27.Kind, .bool o35, iv o39, iv o40] (.agg #[.int .u8 0, .bool false, iv 0, iv 0]) 24 S (wN rfl) rfl rfl Tryd.underlying52 rfl (by decide) (by decide) (by kernel_rfl) rfl (fun E1 w1 hE => All.cons (r_api_Stitch.mono hE (S.mem.know (i := 0) (e := fRep r_api_Stitch (.agg #[.int .u8 x27.Kind, .bool o35, iv o39, iv o40]) (api_Stitch.mk x27.Kind o35 o39 o40)) rfl)) (All.nil _ _ _)) rfl rfl (lb rfl) fun a w ad45 cp46 S => ?_
      obtain ⟨l47, hx48, h⟩ := bindSome h
      refine sApp (r := r_api_Stitch) (T := 56) (xs := s22) (ys := [(api_Stitch.mk x27.Kind o35 o39 o40)]) (v := .slice ad23 s22.length cp24) (u := .slice ad45 [(api_Stitch.mk x27.Kind o35 o39 o40)].length cp46) 3 (.agg #[.int .u8 0, .bool false, iv 0, iv 0]) 24 S (wN rfl) rfl Tryd.underlying52 rfl rfl (by decide) rfl rfl rfl (src_R (T := 56) 0 S.mem rfl) hx48 rfl (lb rfl) fun a w ad49 cp50 S => ?_
      refine sStore (p := b16) (off := 0) (T := 52) (vs := [.slice ad23 s22.length cp24]) (v := .slice ad49 l47.length cp50) 2 [.slice ad49 l47.length cp50] S (wN rfl) rfl rfl rfl rfl rfl rfl rfl (by simp) rfl fun a w S => ?_
      exact leafL (leafB (rnN l47 _ _ [] (Option.some.inj h) ⟨ad49, cp50, rfl, rfl⟩ (S.fix [0, 1] [1] (by decide) rfl rfl rfl)))
    refine sSeqR (fun K43 hK43 => ?_)
    refine sRegionR (by repeat (first | exact roundU_out | exact it_out | exact lo_false | refine lo_then ?_ | refine lo_block ?_)) rfl ?_
    refine sField (b := b34) (off := 0) 3 3 S (wN rfl) rfl rfl rfl rfl rfl (lb rfl) fun a S => ?_
    refine sIdxV (v := .pointer (some ⟨b34, 3, none⟩)) (k := .i64) (j := 1) (q := .pointer (some ⟨b34, 4, none⟩)) S (wN rfl) rfl rfl rfl (idxV_arr (m := 2) (sz := 1) Tryd.underlying61 rfl (by decide) (by decide) 3) rfl (lb rfl) fun a S => ?_
    refine sLoad1 (p := b34) (off := 4) (T := 100) (vs := (gl_stitch_form r31.1)) 2 (iv r31.1.b.2) S (wN rfl) rfl rfl rfl rfl rfl rfl (lb rfl) fun a S => ?_
    refine sBin (.bool (decide (0 < r31.1.b.2))) S (wN rfl) rfl rfl rfl (bGt _ _ _ _ .i64 r31.1.b.2 0) rfl (lb rfl) fun a S => ?_
    refine leafL (leafT (hK43 _ _ ?_))
    rcases iteSome h with ⟨hc44, h⟩ | ⟨hc44, h⟩
    rotate_left
    · refine sCondFR S rfl hc44 ?_
      exact wpIn_skip (leafT (⟨x27.A, x27.B, Option.some.inj h, S.fix [0, 1, 3] [0] (by decide) rfl rfl rfl⟩))
    refine sCondTR S rfl hc44 ?_
    refine sRegionR (by repeat (first | exact roundU_out | exact it_out | exact lo_false | refine lo_then ?_ | refine lo_block ?_)) rfl ?_
    refine sField (b := b29) (off := 0) 3 3 S (wN rfl) rfl rfl rfl rfl rfl (lb rfl) fun a S => ?_
    refine sLoad1 (p := b29) (off := 3) (T := 56) (vs := [.int .u8 x27.Kind, .bool o35, iv x27.A, iv x27.B]) 1 (iv x27.B) S (wN rfl) rfl rfl rfl rfl rfl rfl (lb rfl) fun a S => ?_
    refine sField (b := b29) (off := 0) 2 2 S (wN rfl) rfl rfl rfl rfl rfl (lb rfl) fun a S => ?_
    refine sLoad1 (p := b29) (off := 2) (T := 56) (vs := [.int .u8 x27.Kind, .bool o35, iv x27.A, iv x27.B]) 1 (iv x27.A) S (wN rfl) rfl rfl rfl rfl rfl rfl (lb rfl) fun a S => ?_
    refine sField (b := b29) (off := 0) 2 2 S (wN rfl) rfl rfl rfl rfl rfl (lb rfl) fun a S => ?_
    refine sStore (p := b29) (off := 2) (T := 56) (vs := [.int .u8 x27.Kind, .bool o35, iv x27.A, iv x27.B]) (v := iv x27.B) 1 [iv x27.B] S (wN rfl) rfl rfl rfl rfl rfl rfl rfl (by simp) rfl fun a w S => ?_
    refine sField (b := b29) (off := 0) 3 3 S (wN rfl) rfl rfl rfl rfl rfl (lb rfl) fun a S => ?_
    refine sStore (p := b29) (off := 3) (T := 56) (vs := [.int .u8 x27.Kind, .bool o35, iv x27.B, iv x27.B]) (v := iv x27.A) 0 [iv x27.A] S (wN rfl) rfl rfl rfl rfl rfl rfl rfl (by simp) rfl fun a w S => ?_
    exact leafL (leafT (⟨x27.B, x27.A, Option.some.inj h, S.fix [1, 0, 3] [0] (by decide) rfl rfl rfl⟩))
  · intro dk51 s22 L D a w hr hIL S
    clear h
    obtain rfl := hr
    dsimp only at g52 hIL
    obtain ⟨ad23, cp24, rfl, rfl⟩ := hIL
    have h := g52
    clear g52 hl54
    replace S : St [mark dk51] E [] w0 51 a w [(5, .pointer (some ⟨b16, 0, none⟩)), (19, .func (.func 67) #[] #[u21])] [eBox b16 52 [.slice ad23 s22.length cp24], eRow r_api_Stitch 56 (.slice ad23 s22.length cp24) s22, eDef dk51] [fPtr (rL r_api_Stitch) (u21) r19] := S
    refine leafB (leafT (hK17 _ _ ?_))
    refine sSeq (fun K55 hK55 => ?_)
    refine sRegion ?_
    refine sLoad1 (p := b16) (off := 0) (T := 52) (vs := [.slice ad23 s22.length cp24]) 0 (.slice ad23 s22.length cp24) S (wN rfl) rfl rfl rfl rfl rfl rfl (lb rfl) fun a S => ?_
    refine sMove (.slice ad23 s22.length cp24) S (wN rfl) (.inr rfl) rfl rfl (lb rfl) fun a S => ?_
    refine sMove (iv 0) S (wN rfl) (.inr rfl) rfl rfl (lb rfl) fun a S => ?_
    refine leafL (leafT (hK55 _ _ ?_))
    refine wp_ret (sRetM1 2 S rfl (fun a w S => ?_))
    obtain rfl := Option.some.inj h
    have S := S.shutR (r := r_api_Stitch) (T := 56) (v := .slice ad23 s22.length cp24) (xs := s22) 1 rfl
    exact sFin (.tuple #[.slice ad23 s22.length cp24, iv 0]) S (rsl2 rfl (rvT (t := 2) (v := .slice ad23 s22.length cp24) S rfl) (rvT (t := 3) (v := iv 0) S rfl)) ⟨(.slice ad23 s22.length cp24), rfl, S.mem.sel [] [0] (by decide) rfl rfl⟩
  · intro dk51 c0 t0 L D a w hr hIX S
    clear h
    exact hIX.elim

end Go.Proofs.YtmedbnjhgkcndaaDoor
namespace Go.Proofs.YtmedbnjhgkcndaaDoor
open Go.RowKit
set_option linter.unusedVariables false

def anc_piece_Chart_0 : List (List Nat) := [[], [0], [0, 1], [0, 1, 2], [], [4], [4, 5], [4, 5, 6], [0, 1, 2, 3, 4, 5, 6, 7], [0, 1, 2, 3, 4, 5, 6, 7, 8], [], [0, 1, 2, 3, 4, 5, 6, 7, 8, 9, 10]]
def anc_piece_Chart_1 : List (List Nat) := [[], [0], [], [0, 1, 2], [0, 1, 2, 3], [], [5], [], [7], [5, 6, 7, 8], [5, 6, 7, 8, 9], [0, 1, 2, 3, 4, 5, 6, 7, 8, 9, 10], [0, 1, 2, 3, 4, 5, 6, 7, 8, 9, 10, 11], [], [0, 1, 2, 3, 4, 5, 6, 7, 8, 9, 10, 11, 12, 13]]
def anc_piece_Chart_2 : List (List Nat) := [[], [0], [], [2], [0, 1, 2, 3], [0, 1, 2, 3, 4], [], [6], [], [6, 7, 8], [6, 7, 8, 9], [0, 1, 2, 3, 4, 5, 6, 7, 8, 9, 10], [0, 1, 2, 3, 4, 5, 6, 7, 8, 9, 10, 11], [], [0, 1, 2, 3, 4, 5, 6, 7, 8, 9, 10, 11, 12, 13]]
def anc_piece_Chart_3 : List (List Nat) := [[], [0], [], [2], [0, 1, 2, 3], [0, 1, 2, 3, 4], [], [6], [], [8], [6, 7, 8, 9], [6, 7, 8, 9, 10], [0, 1, 2, 3, 4, 5, 6, 7, 8, 9, 10, 11], [], [13], [0, 1, 2, 3, 4, 5, 6, 7, 8, 9, 10, 11, 12, 13, 14], [], [16], [0, 1, 2, 3, 4, 5, 6, 7, 8, 9, 10, 11, 12, 13, 14, 15, 16, 17], [0, 1, 2, 3, 4, 5, 6, 7, 8, 9, 10, 11, 12, 13, 14, 15, 16, 17, 18]]
noncomputable def piece_Chart_l1 (x127 : Int) (x132 : Int) (o67 : Int) (o99 : Int) : (List api_Stitch × Int) → Option ((List api_Stitch × Int) ⊕ List api_Stitch) := fun s0 => match s0 with
  | (s167, s170) =>
    if decide (s170 < (w64 ((w64 ((w64 (x127 - x132)) - o67)) - o99))) then
      Option.bind (appO s167 [(api_Stitch.mk 1 false 0 0)]) fun l183 =>
      some (.inl (l183, w64 (s170 + 1)))
    else
      some (.inr s167)
noncomputable def piece_Chart_l2 (p0 : api_Piece) : (Int × List api_Row) → Option ((Int × List api_Row) ⊕ ((api_Chart × Int) ⊕ (List api_Row))) := fun s0 => match s0 with
  | (s44, s45) =>
    if decide (s44 < (p0.Left.length : Int)) then
      Option.bind (α := List api_Row ⊕ (api_Chart × Int)) (
        Option.bind (α := (Int × Bool × Int × Int × Int)) (
          Option.bind (idxO p0.Right s44) fun x70 =>
          Option.bind (idxO p0.Right (w64 (s44 - 1))) fun x75 =>
          Option.bind (F_piece_bend (w64 (x70 - x75)) 3) fun r80 =>
          some (r80.s.Kind, r80.s.Purl, r80.s.A, r80.s.B, r80.uses)) fun (o63, o64, o65, o66, o67) =>
        Option.bind (α := (Int × Bool × Int × Int × Int)) (
          Option.bind (idxO p0.Left (w64 (s44 - 1))) fun x102 =>
          Option.bind (idxO p0.Left s44) fun x107 =>
          Option.bind (F_piece_bend (w64 (x102 - x107)) 4) fun r112 =>
          some (r112.s.Kind, r112.s.Purl, r112.s.A, r112.s.B, r112.uses)) fun (o95, o96, o97, o98, o99) =>
        Option.bind (idxO p0.Right (w64 (s44 - 1))) fun x127 =>
        Option.bind (idxO p0.Left (w64 (s44 - 1))) fun x132 =>
        if decide ((w64 ((w64 ((w64 (x127 - x132)) - o67)) - o99)) < 1) then
          some (.inr ((api_Chart.mk 0 ([] : (List api_Row))), 22))
        else
          Option.bind (α := List api_Stitch) (
            if o63 != 0 then
              Option.bind (appO ([] : List api_Stitch) [(api_Stitch.mk o63 o64 o65 o66)]) fun l157 =>
              some l157
            else
              some ([] : List api_Stitch)) fun o148 =>
          Option.bind (α := List api_Stitch) (
            Option.bind (whileO (piece_Chart_l1 x127 x132 o67 o99) (o148, 0)) fun e174 =>
              some e174) fun o161 =>
          Option.bind (α := List api_Stitch) (
            if o95 != 0 then
              Option.bind (appO o161 [(api_Stitch.mk o95 o96 o97 o98)]) fun l196 =>
              some l196
            else
              some o161) fun o187 =>
          Option.bind (remI s44 2) fun z201 =>
          Option.bind (α := List api_Stitch) (
            if z201 == 1 then
              Option.bind (F_stitch_Turn o187) fun r210 =>
              some r210.1
            else
              some o187) fun o203 =>
          Option.bind (appO s45 [(api_Row.mk (z201 == 1) o203)]) fun l217 =>
          some (.inl l217)) fun z0 => match z0 with
        | .inl o57 =>
          some (.inl (w64 (s44 + 1), o57))
        | .inr z =>
          some (.inr (.inl z))
    else
      some (.inr (.inr s45))
noncomputable def F_piece_Chart (p0 : api_Piece) : Option (api_Chart × Int) :=
  Option.bind (F_piece_Check p0) fun r14 =>
  if r14 != 0 then
    some ((api_Chart.mk 0 ([] : (List api_Row))), r14)
  else
    Option.bind (idxO p0.Right 0) fun x20 =>
    Option.bind (idxO p0.Left 0) fun x25 =>
    Option.bind (α := List api_Row ⊕ (api_Chart × Int)) (
      Option.bind (whileO (piece_Chart_l2 p0) (1, ([] : List api_Row))) fun z0 => match z0 with
        | .inl z =>
          some (.inr z)
        | .inr e51 =>
          some (.inl e51)) fun z0 => match z0 with
      | .inl o38 =>
        some ((api_Chart.mk (w64 (x20 - x25)) o38), 0)
      | .inr z =>
        some z
def c_piece_Chart_val (r : (api_Chart × Int)) (x : Value) : Value := .tuple #[x, .int .i64 r.2]
def c_piece_Chart_D (r : (api_Chart × Int)) (x : Value) : List Fact := [fRep r_api_Chart x r.1]
set_option maxHeartbeats 4000000 in
set_option maxRecDepth 100000 in
theorem c_piece_Chart (E : Nat → Prop) (w0 : World) (p0 : api_Piece) (v0 : Value) (r : (api_Chart × Int)) (h : F_piece_Chart p0 = some r) (S : St0 E [] w0 w0 [] [fRep r_api_Piece (v0) p0]) :
    Calls Tryd.prog 17 #[v0] w0 (Ret (X := Value) E [] w0 (c_piece_Chart_val r) (fun _ => []) (c_piece_Chart_D r)) := by
  unfold F_piece_Chart at h
  obtain ⟨u1, u2, rfl, hu3, hu4⟩ := S.know (i := 0) (e := fRep r_api_Piece (v0) p0) rfl
  have S := S.learn (fRep (rL (rI .i64)) u1 p0.Left) hu3
  obtain ⟨ad5, cp6, _, rfl, _⟩ := hu3
  have S := S.learn (fRep (rL (rI .i64)) u2 p0.Right) hu4
  obtain ⟨ad7, cp8, _, rfl, _⟩ := hu4
  refine sEnter (args := [.agg #[.slice ad5 p0.Left.length cp6, .slice ad7 p0.Right.length cp8]]) 127 Tryd.func17 rfl rfl (by simp) S (fun a S => ?_)
  refine sSeq (fun K9 hK9 => ?_)
  refine sRegion ?_
  refine sBox (v := .agg #[.slice ad5 p0.Left.length cp6, .slice ad7 p0.Right.length cp8]) S (wN rfl) rfl rfl [.slice ad5 p0.Left.length cp6, .slice ad7 p0.Right.length cp8] rfl rfl (lb rfl) fun a b10 w S => ?_
  refine sAlloc (.agg #[iv 0, .slice none 0 0]) S (wN rfl) rfl rfl [iv 0, .slice none 0 0] rfl rfl (lb rfl) fun a b11 w S => ?_
  refine sMove (iv 0) S (wN rfl) (.inr rfl) rfl rfl (lb rfl) fun a S => ?_
  refine leafL (leafT (hK9 _ _ ?_))
  refine sSeq (fun K12 hK12 => ?_)
  refine sSeq (fun K13 hK13 => ?_)
  refine sRegion ?_
  refine sLoadN (p := b10) (off := 0) (T := 30) (vs := [.slice ad5 p0.Left.length cp6, .slice ad7 p0.Right.length cp8]) 1 [.slice ad5 p0.Left.length cp6, .slice ad7 p0.Right.length cp8] S (wN rfl) rfl rfl rfl rfl rfl rfl rfl (lb rfl) fun a S => ?_
  obtain ⟨r14, hx15, h⟩ := bindSome h
  have S1 := S.mem
  refine sCallQ (X := Unit) (f := 13) (vs := [.agg #[.slice ad5 p0.Left.length cp6, .slice ad7 p0.Right.length cp8]]) (val := fun _ => iv r14) S (wN rfl) rfl callee13 rfl (S1.quiet [2] rfl) (fun E1 w1 S1 => c_piece_Check E1 w1 p0 (.agg #[.slice ad5 p0.Left.length cp6, .slice ad7 p0.Right.length cp8]) r14 hx15 S1) rfl (lb rfl) fun _ a w S => ?_
  refine sMove (iv r14) S (wN rfl) (.inr rfl) rfl rfl (lb rfl) fun a S => ?_
  refine leafL (leafT (hK13 _ _ ?_))
  refine sSeq (fun K16 hK16 => ?_)
  refine sRegion ?_
  refine sMove (iv r14) S (wN rfl) (.inl rfl) rfl rfl (lb rfl) fun a S => ?_
  refine sBin (.bool (r14 != 0)) S (wN rfl) rfl rfl rfl (bNe _ _ _ _ .i64 r14 0) rfl (lb rfl) fun a S => ?_
  refine leafL (leafT (hK16 _ _ ?_))
  rcases iteSome h with ⟨hc17, h⟩ | ⟨hc17, h⟩
  · refine sCondT S rfl hc17 ?_
    refine sSeq (fun K18 hK18 => ?_)
    refine sRegion ?_
    refine sBuild [] [iv 0, .slice none 0 0] S (wN rfl) rfl rfl rfl rfl (lb rfl) fun a S => ?_
    refine sMove (iv r14) S (wN rfl) (.inl rfl) rfl rfl (lb rfl) fun a S => ?_
    refine sStore (p := b11) (off := 0) (T := 40) (vs := [iv 0, .slice none 0 0]) (v := .agg #[iv 0, .slice none 0 0]) 0 [iv 0, .slice none 0 0] S (wN rfl) rfl rfl rfl rfl rfl rfl rfl (by simp) rfl fun a w S => ?_
    refine sMove (iv r14) S (wN rfl) (.inr rfl) rfl rfl (lb rfl) fun a S => ?_
    refine leafL (leafT (hK18 _ _ ?_))
    obtain rfl := Option.some.inj h
    have S := S.learn (fRep (rL r_api_Row) (.slice none 0 0) ([] : (List api_Row))) (rL_nil _ _ _)
    have S := S.learn (fRep r_api_Chart (.agg #[iv 0, .slice none 0 0]) (api_Chart.mk 0 ([] : (List api_Row)))) ⟨_, rfl, S.mem.know (i := 0) (e := fRep (rL r_api_Row) (.slice none 0 0) ([] : (List api_Row))) rfl⟩
    exact wp_ret (rThen (sRet (.tuple #[.agg #[iv 0, .slice none 0 0], iv r14]) S (rsl2 rfl (rvN (c := 2) (t := 40) (T := 40) (p := b11) 0 [iv 0, .slice none 0 0] S rfl rfl rfl rfl) (rvT (t := 3) (v := iv r14) S rfl)) ⟨(.agg #[iv 0, .slice none 0 0]), rfl, S.mem.sel [] [0] (by decide) rfl rfl⟩))
  refine sCondF S rfl hc17 ?_
  refine wp_skip (leafT (hK12 _ _ ?_))
  refine sSeq (fun K19 hK19 => ?_)
  obtain ⟨x20, hx21, h⟩ := bindSome h
  obtain ⟨x25, hx26, h⟩ := bindSome h
  obtain ⟨q31, hq32, S⟩ := pIdx (P := Tryd.prog) (r := (rI .i64)) (v := .slice ad7 p0.Right.length cp8) (xs := p0.Right) (j := 0) 28 3 0 S Tryd.underlying28 rfl rfl hx21
  obtain ⟨u33, S⟩ := pLoad (r := (rI .i64)) (q := q31) (x := x20) 0 S rfl
  obtain rfl : u33 = iv x20 := S.mem.know (i := 1) (e := fRep (rI .i64) (u33) x20) rfl
  obtain ⟨q34, hq35, S⟩ := pIdx (P := Tryd.prog) (r := (rI .i64)) (v := .slice ad5 p0.Left.length cp6) (xs := p0.Left) (j := 0) 28 3 4 S Tryd.underlying28 rfl rfl hx26
  obtain ⟨u36, S⟩ := pLoad (r := (rI .i64)) (q := q34) (x := x25) 0 S rfl
  obtain rfl : u36 = iv x25 := S.mem.know (i := 1) (e := fRep (rI .i64) (u36) x25) rfl
  refine sDraw (nf := [10, 11]) (W := [(0, 18, .pointer (some ⟨b10, 1, none⟩)), (1, 19, .slice ad7 p0.Right.length cp8), (2, 20, q31), (3, 21, iv x20), (4, 22, .pointer (some ⟨b10, 0, none⟩)), (5, 23, .slice ad5 p0.Left.length cp6), (6, 24, q34), (7, 25, iv x25), (8, 26, iv (w64 (x20 - x25))), (9, 27, .agg #[iv (w64 (x20 - x25)), .slice none 0 0])]) rfl S ?_
  refine node_by (A := anc_piece_Chart_0) (nf := [10, 11]) (Y := []) (W := [(0, 18, .pointer (some ⟨b10, 1, none⟩)), (1, 19, .slice ad7 p0.Right.length cp8), (2, 20, q31), (3, 21, iv x20), (4, 22, .pointer (some ⟨b10, 0, none⟩)), (5, 23, .slice ad5 p0.Left.length cp6), (6, 24, q34), (7, 25, iv x25), (8, 26, iv (w64 (x20 - x25))), (9, 27, .agg #[iv (w64 (x20 - x25)), .slice none 0 0])]) 12 (by kernel_rfl) (by kernel_rfl) (by kernel_rfl) (by kernel_rfl) (by kernel_rfl) [0, 1, 2, 3, 4, 5, 6, 7, 8, 9] (by kernel_rfl) (by decide) (by decide) (aF 0 11 (by decide) ?_ (aF 1 10 (by decide) ?_ (aF 2 9 (by decide) ?_ (aF 3 8 (by decide) ?_ (aF 4 7 (by decide) ?_ (aF 5 6 (by decide) ?_ (aF 6 5 (by decide) ?_ (aF 7 4 (by decide) ?_ (aF 8 3 (by decide) ?_ (aF 9 2 (by decide) ?_ (aN 10 1 (by decide) ?_ (aB 11 0 10 (by decide) (trivial))))))))))))) [] (fun q hq => by cases hq) (fun hY => absurd (hY 10 (by decide)) (by decide))
  · refine fI 18 (.pointer (some ⟨b10, 1, none⟩)) [(1, .pointer (some ⟨b10, 0, none⟩))] 0 [none] rfl rfl rfl rfl rfl rfl fun G a w S => ?_
    refine sField (b := b10) (off := 0) 1 1 S (wN rfl) rfl rfl rfl rfl rfl (lb rfl) fun a S => ?_
    exact leafL ⟨rfl, S⟩
  · refine fI 19 (.slice ad7 p0.Right.length cp8) [(18, .pointer (some ⟨b10, 1, none⟩))] 1 [some 0] rfl rfl rfl rfl rfl rfl fun G a w S => ?_
    refine sLoad1 (p := b10) (off := 1) (T := 30) (vs := [.slice ad5 p0.Left.length cp6, .slice ad7 p0.Right.length cp8]) 1 (.slice ad7 p0.Right.length cp8) S (wN rfl) rfl rfl rfl rfl rfl rfl (lb rfl) fun a S => ?_
    exact leafL ⟨rfl, S⟩
  · refine fI 20 q31 [(19, .slice ad7 p0.Right.length cp8)] 2 [some 1] rfl rfl rfl rfl rfl rfl fun G a w S => ?_
    refine sIdxV (v := .slice ad7 p0.Right.length cp8) (k := .i64) (j := 0) S (wN rfl) rfl rfl rfl hq32 rfl (lb rfl) fun a S => ?_
    exact leafL ⟨rfl, S⟩
  · refine fI 21 (iv x20) [(20, q31)] 3 [some 2] rfl rfl rfl rfl rfl rfl fun G a w S => ?_
    refine sLoadV1 (vq := q31) 3 (iv x20) S (wN rfl) rfl rfl rfl rfl rfl (lb rfl) fun a S => ?_
    exact leafL ⟨rfl, S⟩
  · refine fI 22 (.pointer (some ⟨b10, 0, none⟩)) [(1, .pointer (some ⟨b10, 0, none⟩))] 4 [none] rfl rfl rfl rfl rfl rfl fun G a w S => ?_
    refine sField (b := b10) (off := 0) 0 0 S (wN rfl) rfl rfl rfl rfl rfl (lb rfl) fun a S => ?_
    exact leafL ⟨rfl, S⟩
  · refine fI 23 (.slice ad5 p0.Left.length cp6) [(22, .pointer (some ⟨b10, 0, none⟩))] 5 [some 4] rfl rfl rfl rfl rfl rfl fun G a w S => ?_
    refine sLoad1 (p := b10) (off := 0) (T := 30) (vs := [.slice ad5 p0.Left.length cp6, .slice ad7 p0.Right.length cp8]) 1 (.slice ad5 p0.Left.length cp6) S (wN rfl) rfl rfl rfl rfl rfl rfl (lb rfl) fun a S => ?_
    exact leafL ⟨rfl, S⟩
  · refine fI 24 q34 [(23, .slice ad5 p0.Left.length cp6)] 6 [some 5] rfl rfl rfl rfl rfl rfl fun G a w S => ?_
    refine sIdxV (v := .slice ad5 p0.Left.length cp6) (k := .i64) (j := 0) S (wN rfl) rfl rfl rfl hq35 rfl (lb rfl) fun a S => ?_
    exact leafL ⟨rfl, S⟩
  · refine fI 25 (iv x25) [(24, q34)] 7 [some 6] rfl rfl rfl rfl rfl rfl fun G a w S => ?_
    refine sLoadV1 (vq := q34) 0 (iv x25) S (wN rfl) rfl rfl rfl rfl rfl (lb rfl) fun a S => ?_
    exact leafL ⟨rfl, S⟩
  · refine fI 26 (iv (w64 (x20 - x25))) [(21, iv x20), (25, iv x25)] 8 [some 3, some 7] rfl rfl rfl rfl rfl rfl fun G a w S => ?_
    refine sBin (iv (w64 (x20 - x25))) S (wN rfl) rfl rfl rfl (bSub _ _ _ _ x20 x25) rfl (lb rfl) fun a S => ?_
    exact leafL ⟨rfl, S⟩
  · refine fI 27 (.agg #[iv (w64 (x20 - x25)), .slice none 0 0]) [(26, iv (w64 (x20 - x25)))] 9 [some 8] rfl rfl rfl rfl rfl rfl fun G a w S => ?_
    refine sBuild [(0, iv (w64 (x20 - x25)))] [iv (w64 (x20 - x25)), .slice none 0 0] S (wN rfl) rfl rfl rfl rfl (lb rfl) fun a S => ?_
    exact leafL ⟨rfl, S⟩
  refine ⟨_, [], rfl, (srcs_of [] rfl rfl rfl), fun G a w S => ?_⟩
  refine sAlloc (.agg #[iv 0, .slice none 0 0]) S (wN rfl) rfl rfl [iv 0, .slice none 0 0] rfl rfl (lb rfl) fun a b37 w S => ?_
  refine leafL ⟨rfl, _, _, .inl ⟨5, (.pointer (some ⟨b37, 0, none⟩)), [], rfl, S, hz_of rfl, ?_⟩⟩
  refine node_by (A := anc_piece_Chart_0) (nf := [10, 11]) (Y := [10]) 12 (by kernel_rfl) (by kernel_rfl) (by kernel_rfl) (by kernel_rfl) (by kernel_rfl) [10, 0, 1, 2, 3, 4, 5, 6, 7, 8, 9] (by kernel_rfl) (by decide) (by decide) (aF 0 11 (by decide) ?_ (aF 1 10 (by decide) ?_ (aF 2 9 (by decide) ?_ (aF 3 8 (by decide) ?_ (aF 4 7 (by decide) ?_ (aF 5 6 (by decide) ?_ (aF 6 5 (by decide) ?_ (aF 7 4 (by decide) ?_ (aF 8 3 (by decide) ?_ (aF 9 2 (by decide) ?_ (aY 10 1 (by decide) (aN 11 0 (by decide) ?_ (trivial))))))))))))) [] (fun q hq => by cases hq) (fun hY => absurd (hY 11 (by decide)) (by decide))
  · refine fI 18 (.pointer (some ⟨b10, 1, none⟩)) [(1, .pointer (some ⟨b10, 0, none⟩))] 1 [none] rfl rfl rfl rfl rfl rfl fun G a w S => ?_
    refine sField (b := b10) (off := 0) 1 1 S (wN rfl) rfl rfl rfl rfl rfl (lb rfl) fun a S => ?_
    exact leafL ⟨rfl, S⟩
  · refine fI 19 (.slice ad7 p0.Right.length cp8) [(18, .pointer (some ⟨b10, 1, none⟩))] 2 [some 1] rfl rfl rfl rfl rfl rfl fun G a w S => ?_
    refine sLoad1 (p := b10) (off := 1) (T := 30) (vs := [.slice ad5 p0.Left.length cp6, .slice ad7 p0.Right.length cp8]) 2 (.slice ad7 p0.Right.length cp8) S (wN rfl) rfl rfl rfl rfl rfl rfl (lb rfl) fun a S => ?_
    exact leafL ⟨rfl, S⟩
  · refine fI 20 q31 [(19, .slice ad7 p0.Right.length cp8)] 3 [some 2] rfl rfl rfl rfl rfl rfl fun G a w S => ?_
    refine sIdxV (v := .slice ad7 p0.Right.length cp8) (k := .i64) (j := 0) S (wN rfl) rfl rfl rfl hq32 rfl (lb rfl) fun a S => ?_
    exact leafL ⟨rfl, S⟩
  · refine fI 21 (iv x20) [(20, q31)] 4 [some 3] rfl rfl rfl rfl rfl rfl fun G a w S => ?_
    refine sLoadV1 (vq := q31) 3 (iv x20) S (wN rfl) rfl rfl rfl rfl rfl (lb rfl) fun a S => ?_
    exact leafL ⟨rfl, S⟩
  · refine fI 22 (.pointer (some ⟨b10, 0, none⟩)) [(1, .pointer (some ⟨b10, 0, none⟩))] 5 [none] rfl rfl rfl rfl rfl rfl fun G a w S => ?_
    refine sField (b := b10) (off := 0) 0 0 S (wN rfl) rfl rfl rfl rfl rfl (lb rfl) fun a S => ?_
    exact leafL ⟨rfl, S⟩
  · refine fI 23 (.slice ad5 p0.Left.length cp6) [(22, .pointer (some ⟨b10, 0, none⟩))] 6 [some 5] rfl rfl rfl rfl rfl rfl fun G a w S => ?_
    refine sLoad1 (p := b10) (off := 0) (T := 30) (vs := [.slice ad5 p0.Left.length cp6, .slice ad7 p0.Right.length cp8]) 2 (.slice ad5 p0.Left.length cp6) S (wN rfl) rfl rfl rfl rfl rfl rfl (lb rfl) fun a S => ?_
    exact leafL ⟨rfl, S⟩
  · refine fI 24 q34 [(23, .slice ad5 p0.Left.length cp6)] 7 [some 6] rfl rfl rfl rfl rfl rfl fun G a w S => ?_
    refine sIdxV (v := .slice ad5 p0.Left.length cp6) (k := .i64) (j := 0) S (wN rfl) rfl rfl rfl hq35 rfl (lb rfl) fun a S => ?_
    exact leafL ⟨rfl, S⟩
  · refine fI 25 (iv x25) [(24, q34)] 8 [some 7] rfl rfl rfl rfl rfl rfl fun G a w S => ?_
    refine sLoadV1 (vq := q34) 0 (iv x25) S (wN rfl) rfl rfl rfl rfl rfl (lb rfl) fun a S => ?_
    exact leafL ⟨rfl, S⟩
  · refine fI 26 (iv (w64 (x20 - x25))) [(21, iv x20), (25, iv x25)] 9 [some 4, some 8] rfl rfl rfl rfl rfl rfl fun G a w S => ?_
    refine sBin (iv (w64 (x20 - x25))) S (wN rfl) rfl rfl rfl (bSub _ _ _ _ x20 x25) rfl (lb rfl) fun a S => ?_
    exact leafL ⟨rfl, S⟩
  · refine fI 27 (.agg #[iv (w64 (x20 - x25)), .slice none 0 0]) [(26, iv (w64 (x20 - x25)))] 10 [some 9] rfl rfl rfl rfl rfl rfl fun G a w S => ?_
    refine sBuild [(0, iv (w64 (x20 - x25)))] [iv (w64 (x20 - x25)), .slice none 0 0] S (wN rfl) rfl rfl rfl rfl (lb rfl) fun a S => ?_
    exact leafL ⟨rfl, S⟩
  refine ⟨_, [(5, .pointer (some ⟨b37, 0, none⟩)), (27, .agg #[iv (w64 (x20 - x25)), .slice none 0 0])], rfl, (srcs_of [some 0, some 10] rfl rfl rfl), fun G a w S => ?_⟩
  refine sStore (p := b37) (off := 0) (T := 40) (vs := [iv 0, .slice none 0 0]) (v := .agg #[iv (w64 (x20 - x25)), .slice none 0 0]) 0 [iv (w64 (x20 - x25)), .slice none 0 0] S (wN rfl) rfl rfl rfl rfl rfl rfl rfl (by simp) rfl fun a w S => ?_
  refine leafL ⟨rfl, _, _, .inr ⟨[], rfl, S, hz_of rfl, ?_⟩⟩
  refine node_by (A := anc_piece_Chart_0) (nf := [10, 11]) (Y := [11, 10]) 12 (by kernel_rfl) (by kernel_rfl) (by kernel_rfl) (by kernel_rfl) (by kernel_rfl) [10, 0, 1, 2, 3, 4, 5, 6, 7, 8, 9] (by kernel_rfl) (by decide) (by decide) (aD 0 11 11 (by decide) (aD 1 10 11 (by decide) (aD 2 9 11 (by decide) (aD 3 8 11 (by decide) (aD 4 7 11 (by decide) (aD 5 6 11 (by decide) (aD 6 5 11 (by decide) (aD 7 4 11 (by decide) (aD 8 3 11 (by decide) (aD 9 2 11 (by decide) (aY 10 1 (by decide) (aY 11 0 (by decide) (trivial))))))))))))) [(1, .pointer (some ⟨b10, 0, none⟩)), (2, .pointer (some ⟨b11, 0, none⟩)), (5, .pointer (some ⟨b37, 0, none⟩))] (fin_of [none, none, some 0] rfl (by kernel_rfl) (by kernel_rfl)) (fun _ a w S => ?_)
  refine leafT (hK19 _ _ ?_)
  obtain ⟨t41, h, g42⟩ := bindSome h
  refine sCut (fun a w => ∃ o38, .inl o38 = t41 ∧ ∃ ad39, ∃ cp40, St [] E [] w0 127 a w [(2, .pointer (some ⟨b11, 0, none⟩)), (5, .pointer (some ⟨b37, 0, none⟩))] [eBox b11 40 [iv 0, .slice none 0 0], eBox b37 40 [iv (w64 (x20 - x25)), .slice ad39 o38.length cp40], eRow r_api_Row 54 (.slice ad39 o38.length cp40) o38] []) ?_ (fun a w hI => ?_)
  rotate_left
  · obtain ⟨o38, rfl, ad39, cp40, S⟩ := hI
    have h := g42
    clear g42
    try dsimp only at h
    refine sSeq (fun K221 hK221 => ?_)
    refine sRegion ?_
    refine sLoadN (p := b37) (off := 0) (T := 40) (vs := [iv (w64 (x20 - x25)), .slice ad39 o38.length cp40]) 1 [iv (w64 (x20 - x25)), .slice ad39 o38.length cp40] S (wN rfl) rfl rfl rfl rfl rfl rfl rfl (lb rfl) fun a S => ?_
    refine sStore (p := b11) (off := 0) (T := 40) (vs := [iv 0, .slice none 0 0]) (v := .agg #[iv (w64 (x20 - x25)), .slice ad39 o38.length cp40]) 0 [iv (w64 (x20 - x25)), .slice ad39 o38.length cp40] S (wN rfl) rfl rfl rfl rfl rfl rfl rfl (by simp) rfl fun a w S => ?_
    refine sMove (iv 0) S (wN rfl) (.inr rfl) rfl rfl (lb rfl) fun a S => ?_
    refine leafL (leafT (hK221 _ _ ?_))
    obtain rfl := Option.some.inj h
    have S := S.shutR (r := r_api_Row) (T := 54) (v := .slice ad39 o38.length cp40) (xs := o38) 2 rfl
    have S := S.learn (fRep r_api_Chart (.agg #[iv (w64 (x20 - x25)), .slice ad39 o38.length cp40]) (api_Chart.mk (w64 (x20 - x25)) o38)) ⟨_, rfl, S.mem.know (i := 0) (e := fRep (rL r_api_Row) (.slice ad39 o38.length cp40) o38) rfl⟩
    exact wp_ret (sRet (.tuple #[.agg #[iv (w64 (x20 - x25)), .slice ad39 o38.length cp40], iv 0]) S (rsl2 rfl (rvN (c := 2) (t := 40) (T := 40) (p := b11) 0 [iv (w64 (x20 - x25)), .slice ad39 o38.length cp40] S rfl rfl rfl rfl) (rvT (t := 3) (v := iv 0) S rfl)) ⟨(.agg #[iv (w64 (x20 - x25)), .slice ad39 o38.length cp40]), rfl, S.mem.sel [] [0] (by decide) rfl rfl⟩)
  refine sSeq (fun K43 hK43 => ?_)
  refine sRegion ?_
  refine sMove (iv 1) S (wN rfl) (.inr rfl) rfl rfl (lb rfl) fun a S => ?_
  refine leafL (leafT (hK43 _ _ ?_))
  refine wp_block ?_
  have S := S.nilRow r_api_Row 54 (α := api_Row)
  obtain ⟨t50, hl, g49⟩ := bindSome h
  refine sLoop hl (fun s0 a w => match s0 with | (s44, s45) => ∃ ad46, ∃ cp47, St [] E [] w0 127 a w [(1, .pointer (some ⟨b10, 0, none⟩)), (2, .pointer (some ⟨b11, 0, none⟩)), (5, .pointer (some ⟨b37, 0, none⟩)), (6, iv s44)] [eBox b10 30 [.slice ad5 p0.Left.length cp6, .slice ad7 p0.Right.length cp8], eBox b11 40 [iv 0, .slice none 0 0], eBox b37 40 [iv (w64 (x20 - x25)), .slice ad46 s45.length cp47], eRow r_api_Row 54 (.slice ad46 s45.length cp47) s45] [fRep (rL (rI .i64)) (.slice ad5 p0.Left.length cp6) p0.Left, fRep (rL (rI .i64)) (.slice ad7 p0.Right.length cp8) p0.Right]) ⟨none, 0, S.fix [3, 2, 1, 0] [7, 6] (by decide) rfl rfl rfl⟩ ?_
  clear hl h
  intro s0 a w c0 hI h hu48
  obtain ⟨s44, s45⟩ := s0
  unfold piece_Chart_l2 at h
  dsimp only at h hI
  obtain ⟨ad46, cp47, S⟩ := hI
  refine sSeq (fun K54 hK54 => ?_)
  refine sSeq (fun K55 hK55 => ?_)
  refine sRegion ?_
  refine sMove (iv s44) S (wN rfl) (.inl rfl) rfl rfl (lb rfl) fun a S => ?_
  refine sField (b := b10) (off := 0) 0 0 S (wN rfl) rfl rfl rfl rfl rfl (lb rfl) fun a S => ?_
  refine sLoad1 (p := b10) (off := 0) (T := 30) (vs := [.slice ad5 p0.Left.length cp6, .slice ad7 p0.Right.length cp8]) 0 (.slice ad5 p0.Left.length cp6) S (wN rfl) rfl rfl rfl rfl rfl rfl (lb rfl) fun a S => ?_
  refine sLen (ad := ad5) (m := p0.Left.length) (c := cp6) S (wN rfl) rfl Tryd.underlying28 rfl rfl (lb rfl) fun a S => ?_
  refine sBin (.bool (decide (s44 < (p0.Left.length : Int)))) S (wN rfl) rfl rfl rfl (bLt _ _ _ _ .i64 s44 (p0.Left.length : Int)) rfl (lb rfl) fun a S => ?_
  refine leafL (leafT (hK55 _ _ ?_))
  rcases iteSome h with ⟨hc56, h⟩ | ⟨hc56, h⟩
  rotate_left
  · refine sCondF S rfl hc56 ?_
    obtain rfl := Option.some.inj h
    obtain rfl := hu48 _ rfl
    have h := g49
    clear g49
    try dsimp only at h
    exact wp_exit (xThen (xThen (xHit (leafT (⟨s45, Option.some.inj h, ad46, cp47, S.fix [1, 2, 3] [] (by decide) rfl rfl rfl⟩)))))
  refine sCondT S rfl hc56 ?_
  refine wp_skip (leafT (hK54 _ _ ?_))
  obtain ⟨t60, h, g61⟩ := bindSome h
  refine sCut (fun a w => ∃ o57, .inl o57 = t60 ∧ ∃ ad58, ∃ cp59, St [] E [] w0 127 a w [(1, .pointer (some ⟨b10, 0, none⟩)), (2, .pointer (some ⟨b11, 0, none⟩)), (5, .pointer (some ⟨b37, 0, none⟩)), (6, iv s44)] [eBox b10 30 [.slice ad5 p0.Left.length cp6, .slice ad7 p0.Right.length cp8], eBox b11 40 [iv 0, .slice none 0 0], eBox b37 40 [iv (w64 (x20 - x25)), .slice ad58 o57.length cp59], eRow r_api_Row 54 (.slice ad58 o57.length cp59) o57] [fRep (rL (rI .i64)) (.slice ad5 p0.Left.length cp6) p0.Left, fRep (rL (rI .i64)) (.slice ad7 p0.Right.length cp8) p0.Right]) ?_ (fun a w hI => ?_)
  rotate_left
  · obtain ⟨o57, rfl, ad58, cp59, S⟩ := hI
    have h := g61
    clear g61
    try dsimp only at h
    refine sRegion ?_
    refine sMove (iv s44) S (wN rfl) (.inl rfl) rfl rfl (lb rfl) fun a S => ?_
    refine sBin (iv (w64 (s44 + 1))) S (wN rfl) rfl rfl rfl (bAdd _ _ _ _ s44 1) rfl (lb rfl) fun a S => ?_
    refine sMove (iv (w64 (s44 + 1))) S (wN rfl) (.inr rfl) rfl rfl (lb rfl) fun a S => ?_
    exact leafL (leafT (⟨(w64 (s44 + 1), o57), (Option.some.inj h).symm, ⟨ad58, cp59, S.fix [0, 1, 2, 3] [0, 1] (by decide) rfl rfl rfl⟩⟩))
  refine wp_block ?_
  obtain ⟨t68, h, g69⟩ := bindSome h
  refine sCut (fun a w => ∃ o63, ∃ o64, ∃ o65, ∃ o66, ∃ o67, (o63, o64, o65, o66, o67) = t68 ∧ ∃ b62, St [] E [] w0 127 a w [(1, .pointer (some ⟨b10, 0, none⟩)), (2, .pointer (some ⟨b11, 0, none⟩)), (5, .pointer (some ⟨b37, 0, none⟩)), (6, iv s44), (7, .pointer (some ⟨b62, 0, none⟩))] [eBox b10 30 [.slice ad5 p0.Left.length cp6, .slice ad7 p0.Right.length cp8], eBox b11 40 [iv 0, .slice none 0 0], eBox b37 40 [iv (w64 (x20 - x25)), .slice ad46 s45.length cp47], eBox b62 81 [.int .u8 o63, .bool o64, iv o65, iv o66, iv o67], eRow r_api_Row 54 (.slice ad46 s45.length cp47) s45] [fRep (rL (rI .i64)) (.slice ad5 p0.Left.length cp6) p0.Left, fRep (rL (rI .i64)) (.slice ad7 p0.Right.length cp8) p0.Right]) ?_ (fun a w hI => ?_)
  · obtain ⟨x70, hx71, h⟩ := bindSome h
    obtain ⟨x75, hx76, h⟩ := bindSome h
    obtain ⟨r80, hx81, h⟩ := bindSome h
    obtain ⟨q84, hq85, S⟩ := pIdx (P := Tryd.prog) (r := (rI .i64)) (v := .slice ad7 p0.Right.length cp8) (xs := p0.Right) (j := s44) 28 3 1 S Tryd.underlying28 rfl rfl hx71
    obtain ⟨u86, S⟩ := pLoad (r := (rI .i64)) (q := q84) (x := x70) 0 S rfl
    obtain rfl : u86 = iv x70 := S.mem.know (i := 1) (e := fRep (rI .i64) (u86) x70) rfl
    obtain ⟨q87, hq88, S⟩ := pIdx (P := Tryd.prog) (r := (rI .i64)) (v := .slice ad7 p0.Right.length cp8) (xs := p0.Right) (j := w64 (s44 - 1)) 28 3 4 S Tryd.underlying28 rfl rfl hx76
    obtain ⟨u89, S⟩ := pLoad (r := (rI .i64)) (q := q87) (x := x75) 0 S rfl
    obtain rfl : u89 = iv x75 := S.mem.know (i := 1) (e := fRep (rI .i64) (u89) x75) rfl
    refine sDraw (nf := [12, 13, 14]) (W := [(0, 35, .pointer (some ⟨b10, 1, none⟩)), (1, 36, .slice ad7 p0.Right.length cp8), (2, 37, iv s44), (3, 38, q84), (4, 39, iv x70), (5, 40, .pointer (some ⟨b10, 1, none⟩)), (6, 41, .slice ad7 p0.Right.length cp8), (7, 42, iv s44), (8, 43, iv (w64 (s44 - 1))), (9, 44, q87), (10, 45, iv x75), (11, 46, iv (w64 (x70 - x75)))]) rfl S ?_
    refine node_by (A := anc_piece_Chart_1) (nf := [12, 13, 14]) (Y := []) (W := [(0, 35, .pointer (some ⟨b10, 1, none⟩)), (1, 36, .slice ad7 p0.Right.length cp8), (2, 37, iv s44), (3, 38, q84), (4, 39, iv x70), (5, 40, .pointer (some ⟨b10, 1, none⟩)), (6, 41, .slice ad7 p0.Right.length cp8), (7, 42, iv s44), (8, 43, iv (w64 (s44 - 1))), (9, 44, q87), (10, 45, iv x75), (11, 46, iv (w64 (x70 - x75)))]) 15 (by kernel_rfl) (by kernel_rfl) (by kernel_rfl) (by kernel_rfl) (by kernel_rfl) [0, 1, 2, 3, 4, 5, 6, 7, 8, 9, 10, 11] (by kernel_rfl) (by decide) (by decide) (aF 0 14 (by decide) ?_ (aF 1 13 (by decide) ?_ (aF 2 12 (by decide) ?_ (aF 3 11 (by decide) ?_ (aF 4 10 (by decide) ?_ (aF 5 9 (by decide) ?_ (aF 6 8 (by decide) ?_ (aF 7 7 (by decide) ?_ (aF 8 6 (by decide) ?_ (aF 9 5 (by decide) ?_ (aF 10 4 (by decide) ?_ (aF 11 3 (by decide) ?_ (aN 12 2 (by decide) ?_ (aN 13 1 (by decide) ?_ (aB 14 0 12 (by decide) (trivial)))))))))))))))) [] (fun q hq => by cases hq) (fun hY => absurd (hY 12 (by decide)) (by decide))
    · refine fI 35 (.pointer (some ⟨b10, 1, none⟩)) [(1, .pointer (some ⟨b10, 0, none⟩))] 0 [none] rfl rfl rfl rfl rfl rfl fun G a w S => ?_
      refine sField (b := b10) (off := 0) 1 1 S (wN rfl) rfl rfl rfl rfl rfl (lb rfl) fun a S => ?_
      exact leafL ⟨rfl, S⟩
    · refine fI 36 (.slice ad7 p0.Right.length cp8) [(35, .pointer (some ⟨b10, 1, none⟩))] 1 [some 0] rfl rfl rfl rfl rfl rfl fun G a w S => ?_
      refine sLoad1 (p := b10) (off := 1) (T := 30) (vs := [.slice ad5 p0.Left.length cp6, .slice ad7 p0.Right.length cp8]) 0 (.slice ad7 p0.Right.length cp8) S (wN rfl) rfl rfl rfl rfl rfl rfl (lb rfl) fun a S => ?_
      exact leafL ⟨rfl, S⟩
    · refine fI 37 (iv s44) [(6, iv s44)] 2 [none] rfl rfl rfl rfl rfl rfl fun G a w S => ?_
      refine sMove (iv s44) S (wN rfl) (.inl rfl) rfl rfl (lb rfl) fun a S => ?_
      exact leafL ⟨rfl, S⟩
    · refine fI 38 q84 [(36, .slice ad7 p0.Right.length cp8), (37, iv s44)] 3 [some 1, some 2] rfl rfl rfl rfl rfl rfl fun G a w S => ?_
      refine sIdxV (v := .slice ad7 p0.Right.length cp8) (k := .i64) (j := s44) S (wN rfl) rfl rfl rfl hq85 rfl (lb rfl) fun a S => ?_
      exact leafL ⟨rfl, S⟩
    · refine fI 39 (iv x70) [(38, q84)] 4 [some 3] rfl rfl rfl rfl rfl rfl fun G a w S => ?_
      refine sLoadV1 (vq := q84) 3 (iv x70) S (wN rfl) rfl rfl rfl rfl rfl (lb rfl) fun a S => ?_
      exact leafL ⟨rfl, S⟩
    · refine fI 40 (.pointer (some ⟨b10, 1, none⟩)) [(1, .pointer (some ⟨b10, 0, none⟩))] 5 [none] rfl rfl rfl rfl rfl rfl fun G a w S => ?_
      refine sField (b := b10) (off := 0) 1 1 S (wN rfl) rfl rfl rfl rfl rfl (lb rfl) fun a S => ?_
      exact leafL ⟨rfl, S⟩
    · refine fI 41 (.slice ad7 p0.Right.length cp8) [(40, .pointer (some ⟨b10, 1, none⟩))] 6 [some 5] rfl rfl rfl rfl rfl rfl fun G a w S => ?_
      refine sLoad1 (p := b10) (off := 1) (T := 30) (vs := [.slice ad5 p0.Left.length cp6, .slice ad7 p0.Right.length cp8]) 0 (.slice ad7 p0.Right.length cp8) S (wN rfl) rfl rfl rfl rfl rfl rfl (lb rfl) fun a S => ?_
      exact leafL ⟨rfl, S⟩
    · refine fI 42 (iv s44) [(6, iv s44)] 7 [none] rfl rfl rfl rfl rfl rfl fun G a w S => ?_
      refine sMove (iv s44) S (wN rfl) (.inl rfl) rfl rfl (lb rfl) fun a S => ?_
      exact leafL ⟨rfl, S⟩
    · refine fI 43 (iv (w64 (s44 - 1))) [(42, iv s44)] 8 [some 7] rfl rfl rfl rfl rfl rfl fun G a w S => ?_
      refine sBin (iv (w64 (s44 - 1))) S (wN rfl) rfl rfl rfl (bSub _ _ _ _ s44 1) rfl (lb rfl) fun a S => ?_
      exact leafL ⟨rfl, S⟩
    · refine fI 44 q87 [(41, .slice ad7 p0.Right.length cp8), (43, iv (w64 (s44 - 1)))] 9 [some 6, some 8] rfl rfl rfl rfl rfl rfl fun G a w S => ?_
      refine sIdxV (v := .slice ad7 p0.Right.length cp8) (k := .i64) (j := w64 (s44 - 1)) S (wN rfl) rfl rfl rfl hq88 rfl (lb rfl) fun a S => ?_
      exact leafL ⟨rfl, S⟩
    · refine fI 45 (iv x75) [(44, q87)] 10 [some 9] rfl rfl rfl rfl rfl rfl fun G a w S => ?_
      refine sLoadV1 (vq := q87) 0 (iv x75) S (wN rfl) rfl rfl rfl rfl rfl (lb rfl) fun a S => ?_
      exact leafL ⟨rfl, S⟩
    · refine fI 46 (iv (w64 (x70 - x75))) [(39, iv x70), (45, iv x75)] 11 [some 4, some 10] rfl rfl rfl rfl rfl rfl fun G a w S => ?_
      refine sBin (iv (w64 (x70 - x75))) S (wN rfl) rfl rfl rfl (bSub _ _ _ _ x70 x75) rfl (lb rfl) fun a S => ?_
      exact leafL ⟨rfl, S⟩
    · refine ⟨_, [(46, iv (w64 (x70 - x75)))], rfl, (srcs_of [some 11] rfl rfl rfl), fun G a w S => ?_⟩
      refine sCall (X := Value) (f := 38) (vs := [iv (w64 (x70 - x75)), .int .u8 3]) (val := c_piece_bend_val r80) (B' := fun _ => []) (D' := c_piece_bend_D r80) [] [eBox b10 30 [.slice ad5 p0.Left.length cp6, .slice ad7 p0.Right.length cp8], eBox b11 40 [iv 0, .slice none 0 0], eBox b37 40 [iv (w64 (x20 - x25)), .slice ad46 s45.length cp47], eRow r_api_Row 54 (.slice ad46 s45.length cp47) s45] [] [0, 1, 2, 3] [] S (wN rfl) rfl callee38 rfl (by decide) rfl rfl (fun E1 w1 S1 => c_piece_bend E1 w1 (w64 (x70 - x75)) 3 r80 hx81 S1) rfl (lb rfl) fun u90 a w S => ?_
      obtain rfl : u90 = .agg #[.int .u8 r80.s.Kind, .bool r80.s.Purl, iv r80.s.A, iv r80.s.B, iv r80.uses] := S.mem.know (i := 0) (e := fRep r_piece_edge (u90) r80) rfl
      refine leafL ⟨rfl, _, _, .inl ⟨47, (.agg #[.int .u8 r80.s.Kind, .bool r80.s.Purl, iv r80.s.A, iv r80.s.B, iv r80.uses]), [], rfl, S, hz_of rfl, ?_⟩⟩
      refine node_by (A := anc_piece_Chart_1) (nf := [12, 13, 14]) (Y := [12]) 15 (by kernel_rfl) (by kernel_rfl) (by kernel_rfl) (by kernel_rfl) (by kernel_rfl) [12, 0, 1, 2, 3, 4, 5, 6, 7, 8, 9, 10, 11] (by kernel_rfl) (by decide) (by decide) (aD 0 14 12 (by decide) (aD 1 13 12 (by decide) (aD 2 12 12 (by decide) (aD 3 11 12 (by decide) (aD 4 10 12 (by decide) (aD 5 9 12 (by decide) (aD 6 8 12 (by decide) (aD 7 7 12 (by decide) (aD 8 6 12 (by decide) (aD 9 5 12 (by decide) (aD 10 4 12 (by decide) (aD 11 3 12 (by decide) (aY 12 2 (by decide) (aN 13 1 (by decide) ?_ (aB 14 0 13 (by decide) (trivial)))))))))))))))) [] (fun q hq => by cases hq) (fun hY => absurd (hY 13 (by decide)) (by decide))
      refine ⟨_, [], rfl, (srcs_of [] rfl rfl rfl), fun G a w S => ?_⟩
      refine sAlloc (.agg #[.int .u8 0, .bool false, iv 0, iv 0, iv 0]) S (wN rfl) rfl rfl [.int .u8 0, .bool false, iv 0, iv 0, iv 0] rfl rfl (lb rfl) fun a b91 w S => ?_
      refine leafL ⟨rfl, _, _, .inl ⟨7, (.pointer (some ⟨b91, 0, none⟩)), [], rfl, S, hz_of rfl, ?_⟩⟩
      refine node_by (A := anc_piece_Chart_1) (nf := [12, 13, 14]) (Y := [13, 12]) 15 (by kernel_rfl) (by kernel_rfl) (by kernel_rfl) (by kernel_rfl) (by kernel_rfl) [13, 12, 0, 1, 2, 3, 4, 5, 6, 7, 8, 9, 10, 11] (by kernel_rfl) (by decide) (by decide) (aD 0 14 12 (by decide) (aD 1 13 12 (by decide) (aD 2 12 12 (by decide) (aD 3 11 12 (by decide) (aD 4 10 12 (by decide) (aD 5 9 12 (by decide) (aD 6 8 12 (by decide) (aD 7 7 12 (by decide) (aD 8 6 12 (by decide) (aD 9 5 12 (by decide) (aD 10 4 12 (by decide) (aD 11 3 12 (by decide) (aY 12 2 (by decide) (aY 13 1 (by decide) (aN 14 0 (by decide) ?_ (trivial)))))))))))))))) [] (fun q hq => by cases hq) (fun hY => absurd (hY 14 (by decide)) (by decide))
      refine ⟨_, [(7, .pointer (some ⟨b91, 0, none⟩)), (47, .agg #[.int .u8 r80.s.Kind, .bool r80.s.Purl, iv r80.s.A, iv r80.s.B, iv r80.uses])], rfl, (srcs_of [some 0, some 1] rfl rfl rfl), fun G a w S => ?_⟩
      refine sStore (p := b91) (off := 0) (T := 81) (vs := [.int .u8 0, .bool false, iv 0, iv 0, iv 0]) (v := .agg #[.int .u8 r80.s.Kind, .bool r80.s.Purl, iv r80.s.A, iv r80.s.B, iv r80.uses]) 0 [.int .u8 r80.s.Kind, .bool r80.s.Purl, iv r80.s.A, iv r80.s.B, iv r80.uses] S (wN rfl) rfl rfl rfl rfl rfl rfl rfl (by simp) rfl fun a w S => ?_
      refine leafL ⟨rfl, _, _, .inr ⟨[], rfl, S, hz_of rfl, ?_⟩⟩
      refine node_by (A := anc_piece_Chart_1) (nf := [12, 13, 14]) (Y := [14, 13, 12]) 15 (by kernel_rfl) (by kernel_rfl) (by kernel_rfl) (by kernel_rfl) (by kernel_rfl) [13, 12, 0, 1, 2, 3, 4, 5, 6, 7, 8, 9, 10, 11] (by kernel_rfl) (by decide) (by decide) (aD 0 14 14 (by decide) (aD 1 13 14 (by decide) (aD 2 12 14 (by decide) (aD 3 11 14 (by decide) (aD 4 10 14 (by decide) (aD 5 9 14 (by decide) (aD 6 8 14 (by decide) (aD 7 7 14 (by decide) (aD 8 6 14 (by decide) (aD 9 5 14 (by decide) (aD 10 4 14 (by decide) (aD 11 3 14 (by decide) (aY 12 2 (by decide) (aY 13 1 (by decide) (aY 14 0 (by decide) (trivial)))))))))))))))) [(1, .pointer (some ⟨b10, 0, none⟩)), (2, .pointer (some ⟨b11, 0, none⟩)), (5, .pointer (some ⟨b37, 0, none⟩)), (6, iv s44), (7, .pointer (some ⟨b91, 0, none⟩))] (fin_of [none, none, none, none, some 0] rfl (by kernel_rfl) (by kernel_rfl)) (fun _ a w S => ?_)
      exact leafT (⟨r80.s.Kind, r80.s.Purl, r80.s.A, r80.s.B, r80.uses, Option.some.inj h, b91, S.fix [1, 2, 3, 0, 4] [7, 8] (by decide) rfl rfl rfl⟩)
    refine ⟨_, [], rfl, (srcs_of [] rfl rfl rfl), fun G a w S => ?_⟩
    refine sAlloc (.agg #[.int .u8 0, .bool false, iv 0, iv 0, iv 0]) S (wN rfl) rfl rfl [.int .u8 0, .bool false, iv 0, iv 0, iv 0] rfl rfl (lb rfl) fun a b92 w S => ?_
    refine leafL ⟨rfl, _, _, .inl ⟨7, (.pointer (some ⟨b92, 0, none⟩)), [], rfl, S, hz_of rfl, ?_⟩⟩
    refine node_by (A := anc_piece_Chart_1) (nf := [12, 13, 14]) (Y := [13]) 15 (by kernel_rfl) (by kernel_rfl) (by kernel_rfl) (by kernel_rfl) (by kernel_rfl) [13, 0, 1, 2, 3, 4, 5, 6, 7, 8, 9, 10, 11] (by kernel_rfl) (by decide) (by decide) (aF 0 14 (by decide) ?_ (aF 1 13 (by decide) ?_ (aF 2 12 (by decide) ?_ (aF 3 11 (by decide) ?_ (aF 4 10 (by decide) ?_ (aF 5 9 (by decide) ?_ (aF 6 8 (by decide) ?_ (aF 7 7 (by decide) ?_ (aF 8 6 (by decide) ?_ (aF 9 5 (by decide) ?_ (aF 10 4 (by decide) ?_ (aF 11 3 (by decide) ?_ (aN 12 2 (by decide) ?_ (aY 13 1 (by decide) (aB 14 0 12 (by decide) (trivial)))))))))))))))) [] (fun q hq => by cases hq) (fun hY => absurd (hY 12 (by decide)) (by decide))
    · refine fI 35 (.pointer (some ⟨b10, 1, none⟩)) [(1, .pointer (some ⟨b10, 0, none⟩))] 1 [none] rfl rfl rfl rfl rfl rfl fun G a w S => ?_
      refine sField (b := b10) (off := 0) 1 1 S (wN rfl) rfl rfl rfl rfl rfl (lb rfl) fun a S => ?_
      exact leafL ⟨rfl, S⟩
    · refine fI 36 (.slice ad7 p0.Right.length cp8) [(35, .pointer (some ⟨b10, 1, none⟩))] 2 [some 1] rfl rfl rfl rfl rfl rfl fun G a w S => ?_
      refine sLoad1 (p := b10) (off := 1) (T := 30) (vs := [.slice ad5 p0.Left.length cp6, .slice ad7 p0.Right.length cp8]) 1 (.slice ad7 p0.Right.length cp8) S (wN rfl) rfl rfl rfl rfl rfl rfl (lb rfl) fun a S => ?_
      exact leafL ⟨rfl, S⟩
    · refine fI 37 (iv s44) [(6, iv s44)] 3 [none] rfl rfl rfl rfl rfl rfl fun G a w S => ?_
      refine sMove (iv s44) S (wN rfl) (.inl rfl) rfl rfl (lb rfl) fun a S => ?_
      exact leafL ⟨rfl, S⟩
    · refine fI 38 q84 [(36, .slice ad7 p0.Right.length cp8), (37, iv s44)] 4 [some 2, some 3] rfl rfl rfl rfl rfl rfl fun G a w S => ?_
      refine sIdxV (v := .slice ad7 p0.Right.length cp8) (k := .i64) (j := s44) S (wN rfl) rfl rfl rfl hq85 rfl (lb rfl) fun a S => ?_
      exact leafL ⟨rfl, S⟩
    · refine fI 39 (iv x70) [(38, q84)] 5 [some 4] rfl rfl rfl rfl rfl rfl fun G a w S => ?_
      refine sLoadV1 (vq := q84) 3 (iv x70) S (wN rfl) rfl rfl rfl rfl rfl (lb rfl) fun a S => ?_
      exact leafL ⟨rfl, S⟩
    · refine fI 40 (.pointer (some ⟨b10, 1, none⟩)) [(1, .pointer (some ⟨b10, 0, none⟩))] 6 [none] rfl rfl rfl rfl rfl rfl fun G a w S => ?_
      refine sField (b := b10) (off := 0) 1 1 S (wN rfl) rfl rfl rfl rfl rfl (lb rfl) fun a S => ?_
      exact leafL ⟨rfl, S⟩
    · refine fI 41 (.slice ad7 p0.Right.length cp8) [(40, .pointer (some ⟨b10, 1, none⟩))] 7 [some 6] rfl rfl rfl rfl rfl rfl fun G a w S => ?_
      refine sLoad1 (p := b10) (off := 1) (T := 30) (vs := [.slice ad5 p0.Left.length cp6, .slice ad7 p0.Right.length cp8]) 1 (.slice ad7 p0.Right.length cp8) S (wN rfl) rfl rfl rfl rfl rfl rfl (lb rfl) fun a S => ?_
      exact leafL ⟨rfl, S⟩
    · refine fI 42 (iv s44) [(6, iv s44)] 8 [none] rfl rfl rfl rfl rfl rfl fun G a w S => ?_
      refine sMove (iv s44) S (wN rfl) (.inl rfl) rfl rfl (lb rfl) fun a S => ?_
      exact leafL ⟨rfl, S⟩
    · refine fI 43 (iv (w64 (s44 - 1))) [(42, iv s44)] 9 [some 8] rfl rfl rfl rfl rfl rfl fun G a w S => ?_
      refine sBin (iv (w64 (s44 - 1))) S (wN rfl) rfl rfl rfl (bSub _ _ _ _ s44 1) rfl (lb rfl) fun a S => ?_
      exact leafL ⟨rfl, S⟩
    · refine fI 44 q87 [(41, .slice ad7 p0.Right.length cp8), (43, iv (w64 (s44 - 1)))] 10 [some 7, some 9] rfl rfl rfl rfl rfl rfl fun G a w S => ?_
      refine sIdxV (v := .slice ad7 p0.Right.length cp8) (k := .i64) (j := w64 (s44 - 1)) S (wN rfl) rfl rfl rfl hq88 rfl (lb rfl) fun a S => ?_
      exact leafL ⟨rfl, S⟩
    · refine fI 45 (iv x75) [(44, q87)] 11 [some 10] rfl rfl rfl rfl rfl rfl fun G a w S => ?_
      refine sLoadV1 (vq := q87) 0 (iv x75) S (wN rfl) rfl rfl rfl rfl rfl (lb rfl) fun a S => ?_
      exact leafL ⟨rfl, S⟩
    · refine fI 46 (iv (w64 (x70 - x75))) [(39, iv x70), (45, iv x75)] 12 [some 5, some 11] rfl rfl rfl rfl rfl rfl fun G a w S => ?_
      refine sBin (iv (w64 (x70 - x75))) S (wN rfl) rfl rfl rfl (bSub _ _ _ _ x70 x75) rfl (lb rfl) fun a S => ?_
      exact leafL ⟨rfl, S⟩
    refine ⟨_, [(46, iv (w64 (x70 - x75)))], rfl, (srcs_of [some 12] rfl rfl rfl), fun G a w S => ?_⟩
    refine sCall (X := Value) (f := 38) (vs := [iv (w64 (x70 - x75)), .int .u8 3]) (val := c_piece_bend_val r80) (B' := fun _ => []) (D' := c_piece_bend_D r80) [] [eBox b92 81 [.int .u8 0, .bool false, iv 0, iv 0, iv 0], eBox b10 30 [.slice ad5 p0.Left.length cp6, .slice ad7 p0.Right.length cp8], eBox b11 40 [iv 0, .slice none 0 0], eBox b37 40 [iv (w64 (x20 - x25)), .slice ad46 s45.length cp47], eRow r_api_Row 54 (.slice ad46 s45.length cp47) s45] [] [0, 1, 2, 3, 4] [] S (wN rfl) rfl callee38 rfl (by decide) rfl rfl (fun E1 w1 S1 => c_piece_bend E1 w1 (w64 (x70 - x75)) 3 r80 hx81 S1) rfl (lb rfl) fun u93 a w S => ?_
    obtain rfl : u93 = .agg #[.int .u8 r80.s.Kind, .bool r80.s.Purl, iv r80.s.A, iv r80.s.B, iv r80.uses] := S.mem.know (i := 0) (e := fRep r_piece_edge (u93) r80) rfl
    refine leafL ⟨rfl, _, _, .inl ⟨47, (.agg #[.int .u8 r80.s.Kind, .bool r80.s.Purl, iv r80.s.A, iv r80.s.B, iv r80.uses]), [], rfl, S, hz_of rfl, ?_⟩⟩
    refine node_by (A := anc_piece_Chart_1) (nf := [12, 13, 14]) (Y := [12, 13]) 15 (by kernel_rfl) (by kernel_rfl) (by kernel_rfl) (by kernel_rfl) (by kernel_rfl) [12, 13, 0, 1, 2, 3, 4, 5, 6, 7, 8, 9, 10, 11] (by kernel_rfl) (by decide) (by decide) (aD 0 14 12 (by decide) (aD 1 13 12 (by decide) (aD 2 12 12 (by decide) (aD 3 11 12 (by decide) (aD 4 10 12 (by decide) (aD 5 9 12 (by decide) (aD 6 8 12 (by decide) (aD 7 7 12 (by decide) (aD 8 6 12 (by decide) (aD 9 5 12 (by decide) (aD 10 4 12 (by decide) (aD 11 3 12 (by decide) (aY 12 2 (by decide) (aY 13 1 (by decide) (aN 14 0 (by decide) ?_ (trivial)))))))))))))))) [] (fun q hq => by cases hq) (fun hY => absurd (hY 14 (by decide)) (by decide))
    refine ⟨_, [(7, .pointer (some ⟨b92, 0, none⟩)), (47, .agg #[.int .u8 r80.s.Kind, .bool r80.s.Purl, iv r80.s.A, iv r80.s.B, iv r80.uses])], rfl, (srcs_of [some 1, some 0] rfl rfl rfl), fun G a w S => ?_⟩
    refine sStore (p := b92) (off := 0) (T := 81) (vs := [.int .u8 0, .bool false, iv 0, iv 0, iv 0]) (v := .agg #[.int .u8 r80.s.Kind, .bool r80.s.Purl, iv r80.s.A, iv r80.s.B, iv r80.uses]) 0 [.int .u8 r80.s.Kind, .bool r80.s.Purl, iv r80.s.A, iv r80.s.B, iv r80.uses] S (wN rfl) rfl rfl rfl rfl rfl rfl rfl (by simp) rfl fun a w S => ?_
    refine leafL ⟨rfl, _, _, .inr ⟨[], rfl, S, hz_of rfl, ?_⟩⟩
    refine node_by (A := anc_piece_Chart_1) (nf := [12, 13, 14]) (Y := [14, 12, 13]) 15 (by kernel_rfl) (by kernel_rfl) (by kernel_rfl) (by kernel_rfl) (by kernel_rfl) [12, 13, 0, 1, 2, 3, 4, 5, 6, 7, 8, 9, 10, 11] (by kernel_rfl) (by decide) (by decide) (aD 0 14 14 (by decide) (aD 1 13 14 (by decide) (aD 2 12 14 (by decide) (aD 3 11 14 (by decide) (aD 4 10 14 (by decide) (aD 5 9 14 (by decide) (aD 6 8 14 (by decide) (aD 7 7 14 (by decide) (aD 8 6 14 (by decide) (aD 9 5 14 (by decide) (aD 10 4 14 (by decide) (aD 11 3 14 (by decide) (aY 12 2 (by decide) (aY 13 1 (by decide) (aY 14 0 (by decide) (trivial)))))))))))))))) [(1, .pointer (some ⟨b10, 0, none⟩)), (2, .pointer (some ⟨b11, 0, none⟩)), (5, .pointer (some ⟨b37, 0, none⟩)), (6, iv s44), (7, .pointer (some ⟨b92, 0, none⟩))] (fin_of [none, none, none, none, some 1] rfl (by kernel_rfl) (by kernel_rfl)) (fun _ a w S => ?_)
    exact leafT (⟨r80.s.Kind, r80.s.Purl, r80.s.A, r80.s.B, r80.uses, Option.some.inj h, b92, S.fix [1, 2, 3, 0, 4] [7, 8] (by decide) rfl rfl rfl⟩)
  obtain ⟨o63, o64, o65, o66, o67, rfl, b62, S⟩ := hI
  have h := g69
  clear g69
  try dsimp only at h
  obtain ⟨t100, h, g101⟩ := bindSome h
  refine sCut (fun a w => ∃ o95, ∃ o96, ∃ o97, ∃ o98, ∃ o99, (o95, o96, o97, o98, o99) = t100 ∧ ∃ b94, St [] E [] w0 127 a w [(1, .pointer (some ⟨b10, 0, none⟩)), (2, .pointer (some ⟨b11, 0, none⟩)), (5, .pointer (some ⟨b37, 0, none⟩)), (6, iv s44), (7, .pointer (some ⟨b62, 0, none⟩)), (8, .pointer (some ⟨b94, 0, none⟩))] [eBox b10 30 [.slice ad5 p0.Left.length cp6, .slice ad7 p0.Right.length cp8], eBox b11 40 [iv 0, .slice none 0 0], eBox b37 40 [iv (w64 (x20 - x25)), .slice ad46 s45.length cp47], eBox b62 81 [.int .u8 o63, .bool o64, iv o65, iv o66, iv o67], eBox b94 81 [.int .u8 o95, .bool o96, iv o97, iv o98, iv o99], eRow r_api_Row 54 (.slice ad46 s45.length cp47) s45] [fRep (rL (rI .i64)) (.slice ad5 p0.Left.length cp6) p0.Left, fRep (rL (rI .i64)) (.slice ad7 p0.Right.length cp8) p0.Right]) ?_ (fun a w hI => ?_)
  · obtain ⟨x102, hx103, h⟩ := bindSome h
    obtain ⟨x107, hx108, h⟩ := bindSome h
    obtain ⟨r112, hx113, h⟩ := bindSome h
    obtain ⟨q116, hq117, S⟩ := pIdx (P := Tryd.prog) (r := (rI .i64)) (v := .slice ad5 p0.Left.length cp6) (xs := p0.Left) (j := w64 (s44 - 1)) 28 3 0 S Tryd.underlying28 rfl rfl hx103
    obtain ⟨u118, S⟩ := pLoad (r := (rI .i64)) (q := q116) (x := x102) 0 S rfl
    obtain rfl : u118 = iv x102 := S.mem.know (i := 1) (e := fRep (rI .i64) (u118) x102) rfl
    obtain ⟨q119, hq120, S⟩ := pIdx (P := Tryd.prog) (r := (rI .i64)) (v := .slice ad5 p0.Left.length cp6) (xs := p0.Left) (j := s44) 28 3 3 S Tryd.underlying28 rfl rfl hx108
    obtain ⟨u121, S⟩ := pLoad (r := (rI .i64)) (q := q119) (x := x107) 0 S rfl
    obtain rfl : u121 = iv x107 := S.mem.know (i := 1) (e := fRep (rI .i64) (u121) x107) rfl
    refine sDraw (nf := [12, 13, 14]) (W := [(0, 48, .pointer (some ⟨b10, 0, none⟩)), (1, 49, .slice ad5 p0.Left.length cp6), (2, 50, iv s44), (3, 51, iv (w64 (s44 - 1))), (4, 52, q116), (5, 53, iv x102), (6, 54, .pointer (some ⟨b10, 0, none⟩)), (7, 55, .slice ad5 p0.Left.length cp6), (8, 56, iv s44), (9, 57, q119), (10, 58, iv x107), (11, 59, iv (w64 (x102 - x107)))]) rfl S ?_
    refine node_by (A := anc_piece_Chart_2) (nf := [12, 13, 14]) (Y := []) (W := [(0, 48, .pointer (some ⟨b10, 0, none⟩)), (1, 49, .slice ad5 p0.Left.length cp6), (2, 50, iv s44), (3, 51, iv (w64 (s44 - 1))), (4, 52, q116), (5, 53, iv x102), (6, 54, .pointer (some ⟨b10, 0, none⟩)), (7, 55, .slice ad5 p0.Left.length cp6), (8, 56, iv s44), (9, 57, q119), (10, 58, iv x107), (11, 59, iv (w64 (x102 - x107)))]) 15 (by kernel_rfl) (by kernel_rfl) (by kernel_rfl) (by kernel_rfl) (by kernel_rfl) [0, 1, 2, 3, 4, 5, 6, 7, 8, 9, 10, 11] (by kernel_rfl) (by decide) (by decide) (aF 0 14 (by decide) ?_ (aF 1 13 (by decide) ?_ (aF 2 12 (by decide) ?_ (aF 3 11 (by decide) ?_ (aF 4 10 (by decide) ?_ (aF 5 9 (by decide) ?_ (aF 6 8 (by decide) ?_ (aF 7 7 (by decide) ?_ (aF 8 6 (by decide) ?_ (aF 9 5 (by decide) ?_ (aF 10 4 (by decide) ?_ (aF 11 3 (by decide) ?_ (aN 12 2 (by decide) ?_ (aN 13 1 (by decide) ?_ (aB 14 0 12 (by decide) (trivial)))))))))))))))) [] (fun q hq => by cases hq) (fun hY => absurd (hY 12 (by decide)) (by decide))
    · refine fI 48 (.pointer (some ⟨b10, 0, none⟩)) [(1, .pointer (some ⟨b10, 0, none⟩))] 0 [none] rfl rfl rfl rfl rfl rfl fun G a w S => ?_
      refine sField (b := b10) (off := 0) 0 0 S (wN rfl) rfl rfl rfl rfl rfl (lb rfl) fun a S => ?_
      exact leafL ⟨rfl, S⟩
    · refine fI 49 (.slice ad5 p0.Left.length cp6) [(48, .pointer (some ⟨b10, 0, none⟩))] 1 [some 0] rfl rfl rfl rfl rfl rfl fun G a w S => ?_
      refine sLoad1 (p := b10) (off := 0) (T := 30) (vs := [.slice ad5 p0.Left.length cp6, .slice ad7 p0.Right.length cp8]) 0 (.slice ad5 p0.Left.length cp6) S (wN rfl) rfl rfl rfl rfl rfl rfl (lb rfl) fun a S => ?_
      exact leafL ⟨rfl, S⟩
    · refine fI 50 (iv s44) [(6, iv s44)] 2 [none] rfl rfl rfl rfl rfl rfl fun G a w S => ?_
      refine sMove (iv s44) S (wN rfl) (.inl rfl) rfl rfl (lb rfl) fun a S => ?_
      exact leafL ⟨rfl, S⟩
    · refine fI 51 (iv (w64 (s44 - 1))) [(50, iv s44)] 3 [some 2] rfl rfl rfl rfl rfl rfl fun G a w S => ?_
      refine sBin (iv (w64 (s44 - 1))) S (wN rfl) rfl rfl rfl (bSub _ _ _ _ s44 1) rfl (lb rfl) fun a S => ?_
      exact leafL ⟨rfl, S⟩
    · refine fI 52 q116 [(49, .slice ad5 p0.Left.length cp6), (51, iv (w64 (s44 - 1)))] 4 [some 1, some 3] rfl rfl rfl rfl rfl rfl fun G a w S => ?_
      refine sIdxV (v := .slice ad5 p0.Left.length cp6) (k := .i64) (j := w64 (s44 - 1)) S (wN rfl) rfl rfl rfl hq117 rfl (lb rfl) fun a S => ?_
      exact leafL ⟨rfl, S⟩
    · refine fI 53 (iv x102) [(52, q116)] 5 [some 4] rfl rfl rfl rfl rfl rfl fun G a w S => ?_
      refine sLoadV1 (vq := q116) 3 (iv x102) S (wN rfl) rfl rfl rfl rfl rfl (lb rfl) fun a S => ?_
      exact leafL ⟨rfl, S⟩
    · refine fI 54 (.pointer (some ⟨b10, 0, none⟩)) [(1, .pointer (some ⟨b10, 0, none⟩))] 6 [none] rfl rfl rfl rfl rfl rfl fun G a w S => ?_
      refine sField (b := b10) (off := 0) 0 0 S (wN rfl) rfl rfl rfl rfl rfl (lb rfl) fun a S => ?_
      exact leafL ⟨rfl, S⟩
    · refine fI 55 (.slice ad5 p0.Left.length cp6) [(54, .pointer (some ⟨b10, 0, none⟩))] 7 [some 6] rfl rfl rfl rfl rfl rfl fun G a w S => ?_
      refine sLoad1 (p := b10) (off := 0) (T := 30) (vs := [.slice ad5 p0.Left.length cp6, .slice ad7 p0.Right.length cp8]) 0 (.slice ad5 p0.Left.length cp6) S (wN rfl) rfl rfl rfl rfl rfl rfl (lb rfl) fun a S => ?_
      exact leafL ⟨rfl, S⟩
    · refine fI 56 (iv s44) [(6, iv s44)] 8 [none] rfl rfl rfl rfl rfl rfl fun G a w S => ?_
      refine sMove (iv s44) S (wN rfl) (.inl rfl) rfl rfl (lb rfl) fun a S => ?_
      exact leafL ⟨rfl, S⟩
    · refine fI 57 q119 [(55, .slice ad5 p0.Left.length cp6), (56, iv s44)] 9 [some 7, some 8] rfl rfl rfl rfl rfl rfl fun G a w S => ?_
      refine sIdxV (v := .slice ad5 p0.Left.length cp6) (k := .i64) (j := s44) S (wN rfl) rfl rfl rfl hq120 rfl (lb rfl) fun a S => ?_
      exact leafL ⟨rfl, S⟩
    · refine fI 58 (iv x107) [(57, q119)] 10 [some 9] rfl rfl rfl rfl rfl rfl fun G a w S => ?_
      refine sLoadV1 (vq := q119) 0 (iv x107) S (wN rfl) rfl rfl rfl rfl rfl (lb rfl) fun a S => ?_
      exact leafL ⟨rfl, S⟩
    · refine fI 59 (iv (w64 (x102 - x107))) [(53, iv x102), (58, iv x107)] 11 [some 5, some 10] rfl rfl rfl rfl rfl rfl fun G a w S => ?_
      refine sBin (iv (w64 (x102 - x107))) S (wN rfl) rfl rfl rfl (bSub _ _ _ _ x102 x107) rfl (lb rfl) fun a S => ?_
      exact leafL ⟨rfl, S⟩
    · refine ⟨_, [(59, iv (w64 (x102 - x107)))], rfl, (srcs_of [some 11] rfl rfl rfl), fun G a w S => ?_⟩
      refine sCall (X := Value) (f := 38) (vs := [iv (w64 (x102 - x107)), .int .u8 4]) (val := c_piece_bend_val r112) (B' := fun _ => []) (D' := c_piece_bend_D r112) [] [eBox b10 30 [.slice ad5 p0.Left.length cp6, .slice ad7 p0.Right.length cp8], eBox b11 40 [iv 0, .slice none 0 0], eBox b37 40 [iv (w64 (x20 - x25)), .slice ad46 s45.length cp47], eBox b62 81 [.int .u8 o63, .bool o64, iv o65, iv o66, iv o67], eRow r_api_Row 54 (.slice ad46 s45.length cp47) s45] [] [0, 1, 2, 3, 4] [] S (wN rfl) rfl callee38 rfl (by decide) rfl rfl (fun E1 w1 S1 => c_piece_bend E1 w1 (w64 (x102 - x107)) 4 r112 hx113 S1) rfl (lb rfl) fun u122 a w S => ?_
      obtain rfl : u122 = .agg #[.int .u8 r112.s.Kind, .bool r112.s.Purl, iv r112.s.A, iv r112.s.B, iv r112.uses] := S.mem.know (i := 0) (e := fRep r_piece_edge (u122) r112) rfl
      refine leafL ⟨rfl, _, _, .inl ⟨60, (.agg #[.int .u8 r112.s.Kind, .bool r112.s.Purl, iv r112.s.A, iv r112.s.B, iv r112.uses]), [], rfl, S, hz_of rfl, ?_⟩⟩
      refine node_by (A := anc_piece_Chart_2) (nf := [12, 13, 14]) (Y := [12]) 15 (by kernel_rfl) (by kernel_rfl) (by kernel_rfl) (by kernel_rfl) (by kernel_rfl) [12, 0, 1, 2, 3, 4, 5, 6, 7, 8, 9, 10, 11] (by kernel_rfl) (by decide) (by decide) (aD 0 14 12 (by decide) (aD 1 13 12 (by decide) (aD 2 12 12 (by decide) (aD 3 11 12 (by decide) (aD 4 10 12 (by decide) (aD 5 9 12 (by decide) (aD 6 8 12 (by decide) (aD 7 7 12 (by decide) (aD 8 6 12 (by decide) (aD 9 5 12 (by decide) (aD 10 4 12 (by decide) (aD 11 3 12 (by decide) (aY 12 2 (by decide) (aN 13 1 (by decide) ?_ (aB 14 0 13 (by decide) (trivial)))))))))))))))) [] (fun q hq => by cases hq) (fun hY => absurd (hY 13 (by decide)) (by decide))
      refine ⟨_, [], rfl, (srcs_of [] rfl rfl rfl), fun G a w S => ?_⟩
      refine sAlloc (.agg #[.int .u8 0, .bool false, iv 0, iv 0, iv 0]) S (wN rfl) rfl rfl [.int .u8 0, .bool false, iv 0, iv 0, iv 0] rfl rfl (lb rfl) fun a b123 w S => ?_
      refine leafL ⟨rfl, _, _, .inl ⟨8, (.pointer (some ⟨b123, 0, none⟩)), [], rfl, S, hz_of rfl, ?_⟩⟩
      refine node_by (A := anc_piece_Chart_2) (nf := [12, 13, 14]) (Y := [13, 12]) 15 (by kernel_rfl) (by kernel_rfl) (by kernel_rfl) (by kernel_rfl) (by kernel_rfl) [13, 12, 0, 1, 2, 3, 4, 5, 6, 7, 8, 9, 10, 11] (by kernel_rfl) (by decide) (by decide) (aD 0 14 12 (by decide) (aD 1 13 12 (by decide) (aD 2 12 12 (by decide) (aD 3 11 12 (by decide) (aD 4 10 12 (by decide) (aD 5 9 12 (by decide) (aD 6 8 12 (by decide) (aD 7 7 12 (by decide) (aD 8 6 12 (by decide) (aD 9 5 12 (by decide) (aD 10 4 12 (by decide) (aD 11 3 12 (by decide) (aY 12 2 (by decide) (aY 13 1 (by decide) (aN 14 0 (by decide) ?_ (trivial)))))))))))))))) [] (fun q hq => by cases hq) (fun hY => absurd (hY 14 (by decide)) (by decide))
      refine ⟨_, [(8, .pointer (some ⟨b123, 0, none⟩)), (60, .agg #[.int .u8 r112.s.Kind, .bool r112.s.Purl, iv r112.s.A, iv r112.s.B, iv r112.uses])], rfl, (srcs_of [some 0, some 1] rfl rfl rfl), fun G a w S => ?_⟩
      refine sStore (p := b123) (off := 0) (T := 81) (vs := [.int .u8 0, .bool false, iv 0, iv 0, iv 0]) (v := .agg #[.int .u8 r112.s.Kind, .bool r112.s.Purl, iv r112.s.A, iv r112.s.B, iv r112.uses]) 0 [.int .u8 r112.s.Kind, .bool r112.s.Purl, iv r112.s.A, iv r112.s.B, iv r112.uses] S (wN rfl) rfl rfl rfl rfl rfl rfl rfl (by simp) rfl fun a w S => ?_
      refine leafL ⟨rfl, _, _, .inr ⟨[], rfl, S, hz_of rfl, ?_⟩⟩
      refine node_by (A := anc_piece_Chart_2) (nf := [12, 13, 14]) (Y := [14, 13, 12]) 15 (by kernel_rfl) (by kernel_rfl) (by kernel_rfl) (by kernel_rfl) (by kernel_rfl) [13, 12, 0, 1, 2, 3, 4, 5, 6, 7, 8, 9, 10, 11] (by kernel_rfl) (by decide) (by decide) (aD 0 14 14 (by decide) (aD 1 13 14 (by decide) (aD 2 12 14 (by decide) (aD 3 11 14 (by decide) (aD 4 10 14 (by decide) (aD 5 9 14 (by decide) (aD 6 8 14 (by decide) (aD 7 7 14 (by decide) (aD 8 6 14 (by decide) (aD 9 5 14 (by decide) (aD 10 4 14 (by decide) (aD 11 3 14 (by decide) (aY 12 2 (by decide) (aY 13 1 (by decide) (aY 14 0 (by decide) (trivial)))))))))))))))) [(1, .pointer (some ⟨b10, 0, none⟩)), (2, .pointer (some ⟨b11, 0, none⟩)), (5, .pointer (some ⟨b37, 0, none⟩)), (6, iv s44), (7, .pointer (some ⟨b62, 0, none⟩)), (8, .pointer (some ⟨b123, 0, none⟩))] (fin_of [none, none, none, none, none, some 0] rfl (by kernel_rfl) (by kernel_rfl)) (fun _ a w S => ?_)
      exact leafT (⟨r112.s.Kind, r112.s.Purl, r112.s.A, r112.s.B, r112.uses, Option.some.inj h, b123, S.fix [1, 2, 3, 4, 0, 5] [7, 8] (by decide) rfl rfl rfl⟩)
    refine ⟨_, [], rfl, (srcs_of [] rfl rfl rfl), fun G a w S => ?_⟩
    refine sAlloc (.agg #[.int .u8 0, .bool false, iv 0, iv 0, iv 0]) S (wN rfl) rfl rfl [.int .u8 0, .bool false, iv 0, iv 0, iv 0] rfl rfl (lb rfl) fun a b124 w S => ?_
    refine leafL ⟨rfl, _, _, .inl ⟨8, (.pointer (some ⟨b124, 0, none⟩)), [], rfl, S, hz_of rfl, ?_⟩⟩
    refine node_by (A := anc_piece_Chart_2) (nf := [12, 13, 14]) (Y := [13]) 15 (by kernel_rfl) (by kernel_rfl) (by kernel_rfl) (by kernel_rfl) (by kernel_rfl) [13, 0, 1, 2, 3, 4, 5, 6, 7, 8, 9, 10, 11] (by kernel_rfl) (by decide) (by decide) (aF 0 14 (by decide) ?_ (aF 1 13 (by decide) ?_ (aF 2 12 (by decide) ?_ (aF 3 11 (by decide) ?_ (aF 4 10 (by decide) ?_ (aF 5 9 (by decide) ?_ (aF 6 8 (by decide) ?_ (aF 7 7 (by decide) ?_ (aF 8 6 (by decide) ?_ (aF 9 5 (by decide) ?_ (aF 10 4 (by decide) ?_ (aF 11 3 (by decide) ?_ (aN 12 2 (by decide) ?_ (aY 13 1 (by decide) (aB 14 0 12 (by decide) (trivial)))))))))))))))) [] (fun q hq => by cases hq) (fun hY => absurd (hY 12 (by decide)) (by decide))
    · refine fI 48 (.pointer (some ⟨b10, 0, none⟩)) [(1, .pointer (some ⟨b10, 0, none⟩))] 1 [none] rfl rfl rfl rfl rfl rfl fun G a w S => ?_
      refine sField (b := b10) (off := 0) 0 0 S (wN rfl) rfl rfl rfl rfl rfl (lb rfl) fun a S => ?_
      exact leafL ⟨rfl, S⟩
    · refine fI 49 (.slice ad5 p0.Left.length cp6) [(48, .pointer (some ⟨b10, 0, none⟩))] 2 [some 1] rfl rfl rfl rfl rfl rfl fun G a w S => ?_
      refine sLoad1 (p := b10) (off := 0) (T := 30) (vs := [.slice ad5 p0.Left.length cp6, .slice ad7 p0.Right.length cp8]) 1 (.slice ad5 p0.Left.length cp6) S (wN rfl) rfl rfl rfl rfl rfl rfl (lb rfl) fun a S => ?_
      exact leafL ⟨rfl, S⟩
    · refine fI 50 (iv s44) [(6, iv s44)] 3 [none] rfl rfl rfl rfl rfl rfl fun G a w S => ?_
      refine sMove (iv s44) S (wN rfl) (.inl rfl) rfl rfl (lb rfl) fun a S => ?_
      exact leafL ⟨rfl, S⟩
    · refine fI 51 (iv (w64 (s44 - 1))) [(50, iv s44)] 4 [some 3] rfl rfl rfl rfl rfl rfl fun G a w S => ?_
      refine sBin (iv (w64 (s44 - 1))) S (wN rfl) rfl rfl rfl (bSub _ _ _ _ s44 1) rfl (lb rfl) fun a S => ?_
      exact leafL ⟨rfl, S⟩
    · refine fI 52 q116 [(49, .slice ad5 p0.Left.length cp6), (51, iv (w64 (s44 - 1)))] 5 [some 2, some 4] rfl rfl rfl rfl rfl rfl fun G a w S => ?_
      refine sIdxV (v := .slice ad5 p0.Left.length cp6) (k := .i64) (j := w64 (s44 - 1)) S (wN rfl) rfl rfl rfl hq117 rfl (lb rfl) fun a S => ?_
      exact leafL ⟨rfl, S⟩
    · refine fI 53 (iv x102) [(52, q116)] 6 [some 5] rfl rfl rfl rfl rfl rfl fun G a w S => ?_
      refine sLoadV1 (vq := q116) 3 (iv x102) S (wN rfl) rfl rfl rfl rfl rfl (lb rfl) fun a S => ?_
      exact leafL ⟨rfl, S⟩
    · refine fI 54 (.pointer (some ⟨b10, 0, none⟩)) [(1, .pointer (some ⟨b10, 0, none⟩))] 7 [none] rfl rfl rfl rfl rfl rfl fun G a w S => ?_
      refine sField (b := b10) (off := 0) 0 0 S (wN rfl) rfl rfl rfl rfl rfl (lb rfl) fun a S => ?_
      exact leafL ⟨rfl, S⟩
    · refine fI 55 (.slice ad5 p0.Left.length cp6) [(54, .pointer (some ⟨b10, 0, none⟩))] 8 [some 7] rfl rfl rfl rfl rfl rfl fun G a w S => ?_
      refine sLoad1 (p := b10) (off := 0) (T := 30) (vs := [.slice ad5 p0.Left.length cp6, .slice ad7 p0.Right.length cp8]) 1 (.slice ad5 p0.Left.length cp6) S (wN rfl) rfl rfl rfl rfl rfl rfl (lb rfl) fun a S => ?_
      exact leafL ⟨rfl, S⟩
    · refine fI 56 (iv s44) [(6, iv s44)] 9 [none] rfl rfl rfl rfl rfl rfl fun G a w S => ?_
      refine sMove (iv s44) S (wN rfl) (.inl rfl) rfl rfl (lb rfl) fun a S => ?_
      exact leafL ⟨rfl, S⟩
    · refine fI 57 q119 [(55, .slice ad5 p0.Left.length cp6), (56, iv s44)] 10 [some 8, some 9] rfl rfl rfl rfl rfl rfl fun G a w S => ?_
      refine sIdxV (v := .slice ad5 p0.Left.length cp6) (k := .i64) (j := s44) S (wN rfl) rfl rfl rfl hq120 rfl (lb rfl) fun a S => ?_
      exact leafL ⟨rfl, S⟩
    · refine fI 58 (iv x107) [(57, q119)] 11 [some 10] rfl rfl rfl rfl rfl rfl fun G a w S => ?_
      refine sLoadV1 (vq := q119) 0 (iv x107) S (wN rfl) rfl rfl rfl rfl rfl (lb rfl) fun a S => ?_
      exact leafL ⟨rfl, S⟩
    · refine fI 59 (iv (w64 (x102 - x107))) [(53, iv x102), (58, iv x107)] 12 [some 6, some 11] rfl rfl rfl rfl rfl rfl fun G a w S => ?_
      refine sBin (iv (w64 (x102 - x107))) S (wN rfl) rfl rfl rfl (bSub _ _ _ _ x102 x107) rfl (lb rfl) fun a S => ?_
      exact leafL ⟨rfl, S⟩
    refine ⟨_, [(59, iv (w64 (x102 - x107)))], rfl, (srcs_of [some 12] rfl rfl rfl), fun G a w S => ?_⟩
    refine sCall (X := Value) (f := 38) (vs := [iv (w64 (x102 - x107)), .int .u8 4]) (val := c_piece_bend_val r112) (B' := fun _ => []) (D' := c_piece_bend_D r112) [] [eBox b124 81 [.int .u8 0, .bool false, iv 0, iv 0, iv 0], eBox b10 30 [.slice ad5 p0.Left.length cp6, .slice ad7 p0.Right.length cp8], eBox b11 40 [iv 0, .slice none 0 0], eBox b37 40 [iv (w64 (x20 - x25)), .slice ad46 s45.length cp47], eBox b62 81 [.int .u8 o63, .bool o64, iv o65, iv o66, iv o67], eRow r_api_Row 54 (.slice ad46 s45.length cp47) s45] [] [0, 1, 2, 3, 4, 5] [] S (wN rfl) rfl callee38 rfl (by decide) rfl rfl (fun E1 w1 S1 => c_piece_bend E1 w1 (w64 (x102 - x107)) 4 r112 hx113 S1) rfl (lb rfl) fun u125 a w S => ?_
    obtain rfl : u125 = .agg #[.int .u8 r112.s.Kind, .bool r112.s.Purl, iv r112.s.A, iv r112.s.B, iv r112.uses] := S.mem.know (i := 0) (e := fRep r_piece_edge (u125) r112) rfl
    refine leafL ⟨rfl, _, _, .inl ⟨60, (.agg #[.int .u8 r112.s.Kind, .bool r112.s.Purl, iv r112.s.A, iv r112.s.B, iv r112.uses]), [], rfl, S, hz_of rfl, ?_⟩⟩
    refine node_by (A := anc_piece_Chart_2) (nf := [12, 13, 14]) (Y := [12, 13]) 15 (by kernel_rfl) (by kernel_rfl) (by kernel_rfl) (by kernel_rfl) (by kernel_rfl) [12, 13, 0, 1, 2, 3, 4, 5, 6, 7, 8, 9, 10, 11] (by kernel_rfl) (by decide) (by decide) (aD 0 14 12 (by decide) (aD 1 13 12 (by decide) (aD 2 12 12 (by decide) (aD 3 11 12 (by decide) (aD 4 10 12 (by decide) (aD 5 9 12 (by decide) (aD 6 8 12 (by decide) (aD 7 7 12 (by decide) (aD 8 6 12 (by decide) (aD 9 5 12 (by decide) (aD 10 4 12 (by decide) (aD 11 3 12 (by decide) (aY 12 2 (by decide) (aY 13 1 (by decide) (aN 14 0 (by decide) ?_ (trivial)))))))))))))))) [] (fun q hq => by cases hq) (fun hY => absurd (hY 14 (by decide)) (by decide))
    refine ⟨_, [(8, .pointer (some ⟨b124, 0, none⟩)), (60, .agg #[.int .u8 r112.s.Kind, .bool r112.s.Purl, iv r112.s.A, iv r112.s.B, iv r112.uses])], rfl, (srcs_of [some 1, some 0] rfl rfl rfl), fun G a w S => ?_⟩
    refine sStore (p := b124) (off := 0) (T := 81) (vs := [.int .u8 0, .bool false, iv 0, iv 0, iv 0]) (v := .agg #[.int .u8 r112.s.Kind, .bool r112.s.Purl, iv r112.s.A, iv r112.s.B, iv r112.uses]) 0 [.int .u8 r112.s.Kind, .bool r112.s.Purl, iv r112.s.A, iv r112.s.B, iv r112.uses] S (wN rfl) rfl rfl rfl rfl rfl rfl rfl (by simp) rfl fun a w S => ?_
    refine leafL ⟨rfl, _, _, .inr ⟨[], rfl, S, hz_of rfl, ?_⟩⟩
    refine node_by (A := anc_piece_Chart_2) (nf := [12, 13, 14]) (Y := [14, 12, 13]) 15 (by kernel_rfl) (by kernel_rfl) (by kernel_rfl) (by kernel_rfl) (by kernel_rfl) [12, 13, 0, 1, 2, 3, 4, 5, 6, 7, 8, 9, 10, 11] (by kernel_rfl) (by decide) (by decide) (aD 0 14 14 (by decide) (aD 1 13 14 (by decide) (aD 2 12 14 (by decide) (aD 3 11 14 (by decide) (aD 4 10 14 (by decide) (aD 5 9 14 (by decide) (aD 6 8 14 (by decide) (aD 7 7 14 (by decide) (aD 8 6 14 (by decide) (aD 9 5 14 (by decide) (aD 10 4 14 (by decide) (aD 11 3 14 (by decide) (aY 12 2 (by decide) (aY 13 1 (by decide) (aY 14 0 (by decide) (trivial)))))))))))))))) [(1, .pointer (some ⟨b10, 0, none⟩)), (2, .pointer (some ⟨b11, 0, none⟩)), (5, .pointer (some ⟨b37, 0, none⟩)), (6, iv s44), (7, .pointer (some ⟨b62, 0, none⟩)), (8, .pointer (some ⟨b124, 0, none⟩))] (fin_of [none, none, none, none, none, some 1] rfl (by kernel_rfl) (by kernel_rfl)) (fun _ a w S => ?_)
    exact leafT (⟨r112.s.Kind, r112.s.Purl, r112.s.A, r112.s.B, r112.uses, Option.some.inj h, b124, S.fix [1, 2, 3, 4, 0, 5] [7, 8] (by decide) rfl rfl rfl⟩)
  obtain ⟨o95, o96, o97, o98, o99, rfl, b94, S⟩ := hI
  have h := g101
  clear g101
  try dsimp only at h
  refine sSeq (fun K126 hK126 => ?_)
  obtain ⟨x127, hx128, h⟩ := bindSome h
  obtain ⟨x132, hx133, h⟩ := bindSome h
  obtain ⟨q137, hq138, S⟩ := pIdx (P := Tryd.prog) (r := (rI .i64)) (v := .slice ad7 p0.Right.length cp8) (xs := p0.Right) (j := w64 (s44 - 1)) 28 3 1 S Tryd.underlying28 rfl rfl hx128
  obtain ⟨u139, S⟩ := pLoad (r := (rI .i64)) (q := q137) (x := x127) 0 S rfl
  obtain rfl : u139 = iv x127 := S.mem.know (i := 1) (e := fRep (rI .i64) (u139) x127) rfl
  obtain ⟨q140, hq141, S⟩ := pIdx (P := Tryd.prog) (r := (rI .i64)) (v := .slice ad5 p0.Left.length cp6) (xs := p0.Left) (j := w64 (s44 - 1)) 28 3 3 S Tryd.underlying28 rfl rfl hx133
  obtain ⟨u142, S⟩ := pLoad (r := (rI .i64)) (q := q140) (x := x132) 0 S rfl
  obtain rfl : u142 = iv x132 := S.mem.know (i := 1) (e := fRep (rI .i64) (u142) x132) rfl
  refine sDraw (nf := []) (W := [(0, 61, .pointer (some ⟨b10, 1, none⟩)), (1, 62, .slice ad7 p0.Right.length cp8), (2, 63, iv s44), (3, 64, iv (w64 (s44 - 1))), (4, 65, q137), (5, 66, iv x127), (6, 67, .pointer (some ⟨b10, 0, none⟩)), (7, 68, .slice ad5 p0.Left.length cp6), (8, 69, iv s44), (9, 70, iv (w64 (s44 - 1))), (10, 71, q140), (11, 72, iv x132), (12, 73, iv (w64 (x127 - x132))), (13, 74, .pointer (some ⟨b62, 4, none⟩)), (14, 75, iv o67), (15, 76, iv (w64 ((w64 (x127 - x132)) - o67))), (16, 77, .pointer (some ⟨b94, 4, none⟩)), (17, 78, iv o99), (18, 79, iv (w64 ((w64 ((w64 (x127 - x132)) - o67)) - o99))), (19, 9, iv (w64 ((w64 ((w64 (x127 - x132)) - o67)) - o99)))]) rfl S ?_
  refine node_by (A := anc_piece_Chart_3) (nf := []) (Y := []) (W := [(0, 61, .pointer (some ⟨b10, 1, none⟩)), (1, 62, .slice ad7 p0.Right.length cp8), (2, 63, iv s44), (3, 64, iv (w64 (s44 - 1))), (4, 65, q137), (5, 66, iv x127), (6, 67, .pointer (some ⟨b10, 0, none⟩)), (7, 68, .slice ad5 p0.Left.length cp6), (8, 69, iv s44), (9, 70, iv (w64 (s44 - 1))), (10, 71, q140), (11, 72, iv x132), (12, 73, iv (w64 (x127 - x132))), (13, 74, .pointer (some ⟨b62, 4, none⟩)), (14, 75, iv o67), (15, 76, iv (w64 ((w64 (x127 - x132)) - o67))), (16, 77, .pointer (some ⟨b94, 4, none⟩)), (17, 78, iv o99), (18, 79, iv (w64 ((w64 ((w64 (x127 - x132)) - o67)) - o99))), (19, 9, iv (w64 ((w64 ((w64 (x127 - x132)) - o67)) - o99)))]) 20 (by kernel_rfl) (by kernel_rfl) (by kernel_rfl) (by kernel_rfl) (by kernel_rfl) [0, 1, 2, 3, 4, 5, 6, 7, 8, 9, 10, 11, 12, 13, 14, 15, 16, 17, 18, 19] (by kernel_rfl) (by decide) (by decide) (aF 0 19 (by decide) ?_ (aF 1 18 (by decide) ?_ (aF 2 17 (by decide) ?_ (aF 3 16 (by decide) ?_ (aF 4 15 (by decide) ?_ (aF 5 14 (by decide) ?_ (aF 6 13 (by decide) ?_ (aF 7 12 (by decide) ?_ (aF 8 11 (by decide) ?_ (aF 9 10 (by decide) ?_ (aF 10 9 (by decide) ?_ (aF 11 8 (by decide) ?_ (aF 12 7 (by decide) ?_ (aF 13 6 (by decide) ?_ (aF 14 5 (by decide) ?_ (aF 15 4 (by decide) ?_ (aF 16 3 (by decide) ?_ (aF 17 2 (by decide) ?_ (aF 18 1 (by decide) ?_ (aF 19 0 (by decide) ?_ (trivial))))))))))))))))))))) [(1, .pointer (some ⟨b10, 0, none⟩)), (2, .pointer (some ⟨b11, 0, none⟩)), (5, .pointer (some ⟨b37, 0, none⟩)), (6, iv s44), (7, .pointer (some ⟨b62, 0, none⟩)), (8, .pointer (some ⟨b94, 0, none⟩)), (9, iv (w64 ((w64 ((w64 (x127 - x132)) - o67)) - o99)))] (fin_of [none, none, none, none, none, none, some 19] rfl (by kernel_rfl) (by kernel_rfl)) (fun _ a w S => ?_)
  · refine fI 61 (.pointer (some ⟨b10, 1, none⟩)) [(1, .pointer (some ⟨b10, 0, none⟩))] 0 [none] rfl rfl rfl rfl rfl rfl fun G a w S => ?_
    refine sField (b := b10) (off := 0) 1 1 S (wN rfl) rfl rfl rfl rfl rfl (lb rfl) fun a S => ?_
    exact leafL ⟨rfl, S⟩
  · refine fI 62 (.slice ad7 p0.Right.length cp8) [(61, .pointer (some ⟨b10, 1, none⟩))] 1 [some 0] rfl rfl rfl rfl rfl rfl fun G a w S => ?_
    refine sLoad1 (p := b10) (off := 1) (T := 30) (vs := [.slice ad5 p0.Left.length cp6, .slice ad7 p0.Right.length cp8]) 0 (.slice ad7 p0.Right.length cp8) S (wN rfl) rfl rfl rfl rfl rfl rfl (lb rfl) fun a S => ?_
    exact leafL ⟨rfl, S⟩
  · refine fI 63 (iv s44) [(6, iv s44)] 2 [none] rfl rfl rfl rfl rfl rfl fun G a w S => ?_
    refine sMove (iv s44) S (wN rfl) (.inl rfl) rfl rfl (lb rfl) fun a S => ?_
    exact leafL ⟨rfl, S⟩
  · refine fI 64 (iv (w64 (s44 - 1))) [(63, iv s44)] 3 [some 2] rfl rfl rfl rfl rfl rfl fun G a w S => ?_
    refine sBin (iv (w64 (s44 - 1))) S (wN rfl) rfl rfl rfl (bSub _ _ _ _ s44 1) rfl (lb rfl) fun a S => ?_
    exact leafL ⟨rfl, S⟩
  · refine fI 65 q137 [(62, .slice ad7 p0.Right.length cp8), (64, iv (w64 (s44 - 1)))] 4 [some 1, some 3] rfl rfl rfl rfl rfl rfl fun G a w S => ?_
    refine sIdxV (v := .slice ad7 p0.Right.length cp8) (k := .i64) (j := w64 (s44 - 1)) S (wN rfl) rfl rfl rfl hq138 rfl (lb rfl) fun a S => ?_
    exact leafL ⟨rfl, S⟩
  · refine fI 66 (iv x127) [(65, q137)] 5 [some 4] rfl rfl rfl rfl rfl rfl fun G a w S => ?_
    refine sLoadV1 (vq := q137) 3 (iv x127) S (wN rfl) rfl rfl rfl rfl rfl (lb rfl) fun a S => ?_
    exact leafL ⟨rfl, S⟩
  · refine fI 67 (.pointer (some ⟨b10, 0, none⟩)) [(1, .pointer (some ⟨b10, 0, none⟩))] 6 [none] rfl rfl rfl rfl rfl rfl fun G a w S => ?_
    refine sField (b := b10) (off := 0) 0 0 S (wN rfl) rfl rfl rfl rfl rfl (lb rfl) fun a S => ?_
    exact leafL ⟨rfl, S⟩
  · refine fI 68 (.slice ad5 p0.Left.length cp6) [(67, .pointer (some ⟨b10, 0, none⟩))] 7 [some 6] rfl rfl rfl rfl rfl rfl fun G a w S => ?_
    refine sLoad1 (p := b10) (off := 0) (T := 30) (vs := [.slice ad5 p0.Left.length cp6, .slice ad7 p0.Right.length cp8]) 0 (.slice ad5 p0.Left.length cp6) S (wN rfl) rfl rfl rfl rfl rfl rfl (lb rfl) fun a S => ?_
    exact leafL ⟨rfl, S⟩
  · refine fI 69 (iv s44) [(6, iv s44)] 8 [none] rfl rfl rfl rfl rfl rfl fun G a w S => ?_
    refine sMove (iv s44) S (wN rfl) (.inl rfl) rfl rfl (lb rfl) fun a S => ?_
    exact leafL ⟨rfl, S⟩
  · refine fI 70 (iv (w64 (s44 - 1))) [(69, iv s44)] 9 [some 8] rfl rfl rfl rfl rfl rfl fun G a w S => ?_
    refine sBin (iv (w64 (s44 - 1))) S (wN rfl) rfl rfl rfl (bSub _ _ _ _ s44 1) rfl (lb rfl) fun a S => ?_
    exact leafL ⟨rfl, S⟩
  · refine fI 71 q140 [(68, .slice ad5 p0.Left.length cp6), (70, iv (w64 (s44 - 1)))] 10 [some 7, some 9] rfl rfl rfl rfl rfl rfl fun G a w S => ?_
    refine sIdxV (v := .slice ad5 p0.Left.length cp6) (k := .i64) (j := w64 (s44 - 1)) S (wN rfl) rfl rfl rfl hq141 rfl (lb rfl) fun a S => ?_
    exact leafL ⟨rfl, S⟩
  · refine fI 72 (iv x132) [(71, q140)] 11 [some 10] rfl rfl rfl rfl rfl rfl fun G a w S => ?_
    refine sLoadV1 (vq := q140) 0 (iv x132) S (wN rfl) rfl rfl rfl rfl rfl (lb rfl) fun a S => ?_
    exact leafL ⟨rfl, S⟩
  · refine fI 73 (iv (w64 (x127 - x132))) [(66, iv x127), (72, iv x132)] 12 [some 5, some 11] rfl rfl rfl rfl rfl rfl fun G a w S => ?_
    refine sBin (iv (w64 (x127 - x132))) S (wN rfl) rfl rfl rfl (bSub _ _ _ _ x127 x132) rfl (lb rfl) fun a S => ?_
    exact leafL ⟨rfl, S⟩
  · refine fI 74 (.pointer (some ⟨b62, 4, none⟩)) [(7, .pointer (some ⟨b62, 0, none⟩))] 13 [none] rfl rfl rfl rfl rfl rfl fun G a w S => ?_
    refine sField (b := b62) (off := 0) 4 4 S (wN rfl) rfl rfl rfl rfl rfl (lb rfl) fun a S => ?_
    exact leafL ⟨rfl, S⟩
  · refine fI 75 (iv o67) [(74, .pointer (some ⟨b62, 4, none⟩))] 14 [some 13] rfl rfl rfl rfl rfl rfl fun G a w S => ?_
    refine sLoad1 (p := b62) (off := 4) (T := 81) (vs := [.int .u8 o63, .bool o64, iv o65, iv o66, iv o67]) 3 (iv o67) S (wN rfl) rfl rfl rfl rfl rfl rfl (lb rfl) fun a S => ?_
    exact leafL ⟨rfl, S⟩
  · refine fI 76 (iv (w64 ((w64 (x127 - x132)) - o67))) [(73, iv (w64 (x127 - x132))), (75, iv o67)] 15 [some 12, some 14] rfl rfl rfl rfl rfl rfl fun G a w S => ?_
    refine sBin (iv (w64 ((w64 (x127 - x132)) - o67))) S (wN rfl) rfl rfl rfl (bSub _ _ _ _ (w64 (x127 - x132)) o67) rfl (lb rfl) fun a S => ?_
    exact leafL ⟨rfl, S⟩
  · refine fI 77 (.pointer (some ⟨b94, 4, none⟩)) [(8, .pointer (some ⟨b94, 0, none⟩))] 16 [none] rfl rfl rfl rfl rfl rfl fun G a w S => ?_
    refine sField (b := b94) (off := 0) 4 4 S (wN rfl) rfl rfl rfl rfl rfl (lb rfl) fun a S => ?_
    exact leafL ⟨rfl, S⟩
  · refine fI 78 (iv o99) [(77, .pointer (some ⟨b94, 4, none⟩))] 17 [some 16] rfl rfl rfl rfl rfl rfl fun G a w S => ?_
    refine sLoad1 (p := b94) (off := 4) (T := 81) (vs := [.int .u8 o95, .bool o96, iv o97, iv o98, iv o99]) 4 (iv o99) S (wN rfl) rfl rfl rfl rfl rfl rfl (lb rfl) fun a S => ?_
    exact leafL ⟨rfl, S⟩
  · refine fI 79 (iv (w64 ((w64 ((w64 (x127 - x132)) - o67)) - o99))) [(76, iv (w64 ((w64 (x127 - x132)) - o67))), (78, iv o99)] 18 [some 15, some 17] rfl rfl rfl rfl rfl rfl fun G a w S => ?_
    refine sBin (iv (w64 ((w64 ((w64 (x127 - x132)) - o67)) - o99))) S (wN rfl) rfl rfl rfl (bSub _ _ _ _ (w64 ((w64 (x127 - x132)) - o67)) o99) rfl (lb rfl) fun a S => ?_
    exact leafL ⟨rfl, S⟩
  · refine fI 9 (iv (w64 ((w64 ((w64 (x127 - x132)) - o67)) - o99))) [(79, iv (w64 ((w64 ((w64 (x127 - x132)) - o67)) - o99)))] 19 [some 18] rfl rfl rfl rfl rfl rfl fun G a w S => ?_
    refine sMove (iv (w64 ((w64 ((w64 (x127 - x132)) - o67)) - o99))) S (wN rfl) (.inr rfl) rfl rfl (lb rfl) fun a S => ?_
    exact leafL ⟨rfl, S⟩
  refine leafT (hK126 _ _ ?_)
  refine sSeq (fun K143 hK143 => ?_)
  refine sSeq (fun K144 hK144 => ?_)
  refine sRegion ?_
  refine sMove (iv (w64 ((w64 ((w64 (x127 - x132)) - o67)) - o99))) S (wN rfl) (.inl rfl) rfl rfl (lb rfl) fun a S => ?_
  refine sBin (.bool (decide ((w64 ((w64 ((w64 (x127 - x132)) - o67)) - o99)) < 1))) S (wN rfl) rfl rfl rfl (bLt _ _ _ _ .i64 (w64 ((w64 ((w64 (x127 - x132)) - o67)) - o99)) 1) rfl (lb rfl) fun a S => ?_
  refine leafL (leafT (hK144 _ _ ?_))
  rcases iteSome h with ⟨hc145, h⟩ | ⟨hc145, h⟩
  · refine sCondT S rfl hc145 ?_
    refine sSeq (fun K146 hK146 => ?_)
    refine sRegion ?_
    refine sBuild [] [iv 0, .slice none 0 0] S (wN rfl) rfl rfl rfl rfl (lb rfl) fun a S => ?_
    refine sStore (p := b11) (off := 0) (T := 40) (vs := [iv 0, .slice none 0 0]) (v := .agg #[iv 0, .slice none 0 0]) 1 [iv 0, .slice none 0 0] S (wN rfl) rfl rfl rfl rfl rfl rfl rfl (by simp) rfl fun a w S => ?_
    refine sMove (iv 22) S (wN rfl) (.inr rfl) rfl rfl (lb rfl) fun a S => ?_
    refine leafL (leafT (hK146 _ _ ?_))
    obtain rfl := Option.some.inj h
    have h := g61
    clear g61
    try dsimp only at h
    obtain rfl := Option.some.inj h
    obtain rfl := hu48 _ rfl
    have h := g49
    clear g49
    try dsimp only at h
    obtain rfl := Option.some.inj h
    have h := g42
    clear g42
    try dsimp only at h
    obtain rfl := Option.some.inj h
    have S := S.learn (fRep (rL r_api_Row) (.slice none 0 0) ([] : (List api_Row))) (rL_nil _ _ _)
    have S := S.learn (fRep r_api_Chart (.agg #[iv 0, .slice none 0 0]) (api_Chart.mk 0 ([] : (List api_Row)))) ⟨_, rfl, S.mem.know (i := 0) (e := fRep (rL r_api_Row) (.slice none 0 0) ([] : (List api_Row))) rfl⟩
    exact wp_ret (rThen (rBlock (rThen (rThen (rBlock (rThen (sRet (.tuple #[.agg #[iv 0, .slice none 0 0], iv 22]) S (rsl2 rfl (rvN (c := 2) (t := 40) (T := 40) (p := b11) 0 [iv 0, .slice none 0 0] S rfl rfl rfl rfl) (rvT (t := 3) (v := iv 22) S rfl)) ⟨(.agg #[iv 0, .slice none 0 0]), rfl, S.mem.sel [] [0] (by decide) rfl rfl⟩)))))))
  refine sCondF S rfl hc145 ?_
  refine wp_skip (leafT (hK143 _ _ ?_))
  refine sSeq (fun K147 hK147 => ?_)
  refine sRegion ?_
  refine sMove (.slice none 0 0) S (wN rfl) (.inr rfl) rfl rfl (lb rfl) fun a S => ?_
  refine leafL (leafT (hK147 _ _ ?_))
  obtain ⟨t151, h, g152⟩ := bindSome h
  refine sCut (fun a w => ∃ o148, o148 = t151 ∧ ∃ ad149, ∃ cp150, St [] E [] w0 127 a w [(1, .pointer (some ⟨b10, 0, none⟩)), (2, .pointer (some ⟨b11, 0, none⟩)), (5, .pointer (some ⟨b37, 0, none⟩)), (6, iv s44), (8, .pointer (some ⟨b94, 0, none⟩)), (9, iv (w64 ((w64 ((w64 (x127 - x132)) - o67)) - o99))), (10, .slice ad149 o148.length cp150)] [eBox b10 30 [.slice ad5 p0.Left.length cp6, .slice ad7 p0.Right.length cp8], eBox b11 40 [iv 0, .slice none 0 0], eBox b37 40 [iv (w64 (x20 - x25)), .slice ad46 s45.length cp47], eBox b94 81 [.int .u8 o95, .bool o96, iv o97, iv o98, iv o99], eRow r_api_Stitch 56 (.slice ad149 o148.length cp150) o148, eRow r_api_Row 54 (.slice ad46 s45.length cp47) s45] [fRep (rL (rI .i64)) (.slice ad5 p0.Left.length cp6) p0.Left, fRep (rL (rI .i64)) (.slice ad7 p0.Right.length cp8) p0.Right]) ?_ (fun a w hI => ?_)
  · refine sSeq (fun K153 hK153 => ?_)
    refine sRegion ?_
    refine sField (b := b62) (off := 0) 0 0 S (wN rfl) rfl rfl rfl rfl rfl (lb rfl) fun a S => ?_
    refine sField (b := b62) (off := 0) 0 0 S (wN rfl) rfl rfl rfl rfl rfl (lb rfl) fun a S => ?_
    refine sLoad1 (p := b62) (off := 0) (T := 81) (vs := [.int .u8 o63, .bool o64, iv o65, iv o66, iv o67]) 3 (.int .u8 o63) S (wN rfl) rfl rfl rfl rfl rfl rfl (lb rfl) fun a S => ?_
    refine sBin (.bool (o63 != 0)) S (wN rfl) rfl rfl rfl (bNe _ _ _ _ .u8 o63 0) rfl (lb rfl) fun a S => ?_
    refine leafL (leafT (hK153 _ _ ?_))
    rcases iteSome h with ⟨hc154, h⟩ | ⟨hc154, h⟩
    rotate_left
    · refine sCondF S rfl hc154 ?_
      have S := S.nilRow r_api_Stitch 56 (α := api_Stitch)
      exact wp_skip (leafT (⟨([] : List api_Stitch), Option.some.inj h, none, 0, S.fix [1, 2, 3, 5, 0, 6] [6, 7] (by decide) rfl rfl rfl⟩))
    refine sCondT S rfl hc154 ?_
    refine sRegion ?_
    refine sMove (.slice none 0 0) S (wN rfl) (.inl rfl) rfl rfl (lb rfl) fun a S => ?_
    refine sField (b := b62) (off := 0) 0 0 S (wN rfl) rfl rfl rfl rfl rfl (lb rfl) fun a S => ?_
    refine sLoadN (p := b62) (off := 0) (T := 81) (vs := [.int .u8 o63, .bool o64, iv o65, iv o66, iv o67]) 3 [.int .u8 o63, .bool o64, iv o65, iv o66] S (wN rfl) rfl rfl rfl rfl rfl rfl rfl (lb rfl) fun a S => ?_
    have S := S.learn (fRep r_api_Stitch (.agg #[.int .u8 o63, .bool o64, iv o65, iv o66]) (api_Stitch.mk o63 o64 o65 o66)) rfl
    refine sLit (r := r_api_Stitch) (T := 56) (xs := [(api_Stitch.mk o63 o64 o65 o66)]) [(0, .agg #[.int .u8 o63, .bool o64, iv o65, iv o66])] 1 [.agg #[.int .u8 o63, .bool o64, iv o65, iv o66]] [.int .u8 o63, .bool o64, iv o65, iv o66] (.agg #[.int .u8 0, .bool false, iv 0, iv 0]) 24 S (wN rfl) rfl rfl Tryd.underlying52 rfl (by decide) (by decide) (by kernel_rfl) rfl (fun E1 w1 hE => All.cons (r_api_Stitch.mono hE (S.mem.know (i := 0) (e := fRep r_api_Stitch (.agg #[.int .u8 o63, .bool o64, iv o65, iv o66]) (api_Stitch.mk o63 o64 o65 o66)) rfl)) (All.nil _ _ _)) rfl rfl (lb rfl) fun a w ad155 cp156 S => ?_
    have S := S.nilRow r_api_Stitch 56 (α := api_Stitch)
    obtain ⟨l157, hx158, h⟩ := bindSome h
    refine sApp (r := r_api_Stitch) (T := 56) (xs := ([] : List api_Stitch)) (ys := [(api_Stitch.mk o63 o64 o65 o66)]) (v := .slice none 0 0) (u := .slice ad155 [(api_Stitch.mk o63 o64 o65 o66)].length cp156) 0 (.agg #[.int .u8 0, .bool false, iv 0, iv 0]) 24 S (wN rfl) rfl Tryd.underlying52 rfl rfl (by decide) rfl rfl rfl (src_R (T := 56) 1 S.mem rfl) hx158 rfl (lb rfl) fun a w ad159 cp160 S => ?_
    refine sMove (.slice ad159 l157.length cp160) S (wN rfl) (.inr rfl) rfl rfl (lb rfl) fun a S => ?_
    exact leafL (leafT (⟨l157, Option.some.inj h, ad159, cp160, S.fix [2, 3, 4, 6, 0, 7] [7, 8] (by decide) rfl rfl rfl⟩))
  obtain ⟨o148, rfl, ad149, cp150, S⟩ := hI
  have h := g152
  clear g152
  try dsimp only at h
  obtain ⟨t164, h, g165⟩ := bindSome h
  refine sCut (fun a w => ∃ o161, o161 = t164 ∧ ∃ ad162, ∃ cp163, St [] E [] w0 127 a w [(1, .pointer (some ⟨b10, 0, none⟩)), (2, .pointer (some ⟨b11, 0, none⟩)), (5, .pointer (some ⟨b37, 0, none⟩)), (6, iv s44), (8, .pointer (some ⟨b94, 0, none⟩)), (10, .slice ad162 o161.length cp163)] [eBox b10 30 [.slice ad5 p0.Left.length cp6, .slice ad7 p0.Right.length cp8], eBox b11 40 [iv 0, .slice none 0 0], eBox b37 40 [iv (w64 (x20 - x25)), .slice ad46 s45.length cp47], eBox b94 81 [.int .u8 o95, .bool o96, iv o97, iv o98, iv o99], eRow r_api_Stitch 56 (.slice ad162 o161.length cp163) o161, eRow r_api_Row 54 (.slice ad46 s45.length cp47) s45] [fRep (rL (rI .i64)) (.slice ad5 p0.Left.length cp6) p0.Left, fRep (rL (rI .i64)) (.slice ad7 p0.Right.length cp8) p0.Right]) ?_ (fun a w hI => ?_)
  · refine sSeq (fun K166 hK166 => ?_)
    refine sRegion ?_
    refine sMove (iv (w64 ((w64 ((w64 (x127 - x132)) - o67)) - o99))) S (wN rfl) (.inl rfl) rfl rfl (lb rfl) fun a S => ?_
    refine sMove (iv 0) S (wN rfl) (.inl rfl) rfl rfl (lb rfl) fun a S => ?_
    refine leafL (leafT (hK166 _ _ ?_))
    refine wp_block ?_
    obtain ⟨t173, hl, g172⟩ := bindSome h
    refine sLoop hl (fun s0 a w => match s0 with | (s167, s170) => ∃ ad168, ∃ cp169, St [] E [] w0 127 a w [(1, .pointer (some ⟨b10, 0, none⟩)), (2, .pointer (some ⟨b11, 0, none⟩)), (5, .pointer (some ⟨b37, 0, none⟩)), (6, iv s44), (8, .pointer (some ⟨b94, 0, none⟩)), (10, .slice ad168 s167.length cp169), (92, iv (w64 ((w64 ((w64 (x127 - x132)) - o67)) - o99))), (93, iv s170)] [eBox b10 30 [.slice ad5 p0.Left.length cp6, .slice ad7 p0.Right.length cp8], eBox b11 40 [iv 0, .slice none 0 0], eBox b37 40 [iv (w64 (x20 - x25)), .slice ad46 s45.length cp47], eBox b94 81 [.int .u8 o95, .bool o96, iv o97, iv o98, iv o99], eRow r_api_Stitch 56 (.slice ad168 s167.length cp169) s167, eRow r_api_Row 54 (.slice ad46 s45.length cp47) s45] [fRep (rL (rI .i64)) (.slice ad5 p0.Left.length cp6) p0.Left, fRep (rL (rI .i64)) (.slice ad7 p0.Right.length cp8) p0.Right]) ⟨ad149, cp150, S.fix [0, 1, 2, 3, 4, 5] [0, 1] (by decide) rfl rfl rfl⟩ ?_
    clear hl h
    intro s0 a w c0 hI h hu171
    obtain ⟨s167, s170⟩ := s0
    unfold piece_Chart_l1 at h
    dsimp only at h hI
    obtain ⟨ad168, cp169, S⟩ := hI
    refine sSeq (fun K177 hK177 => ?_)
    refine sRegion ?_
    refine sBin (.bool (decide (s170 < (w64 ((w64 ((w64 (x127 - x132)) - o67)) - o99))))) S (wN rfl) rfl rfl rfl (bLt _ _ _ _ .i64 s170 (w64 ((w64 ((w64 (x127 - x132)) - o67)) - o99))) rfl (lb rfl) fun a S => ?_
    refine leafL (leafT (hK177 _ _ ?_))
    refine sSeq (fun K178 hK178 => ?_)
    rcases iteSome h with ⟨hc179, h⟩ | ⟨hc179, h⟩
    rotate_left
    · refine sCondF S rfl hc179 ?_
      obtain rfl := Option.some.inj h
      obtain rfl := hu171 _ rfl
      have h := g172
      clear g172
      try dsimp only at h
      exact wp_exit (xThen (xThen (xHit (leafT (⟨s167, Option.some.inj h, ad168, cp169, S.fix [0, 1, 2, 3, 4, 5] [0, 1] (by decide) rfl rfl rfl⟩)))))
    refine sCondT S rfl hc179 ?_
    refine wp_skip (leafT (hK178 _ _ ?_))
    refine sSeq (fun K180 hK180 => ?_)
    refine wp_block ?_
    refine sRegion ?_
    refine sMove (.slice ad168 s167.length cp169) S (wN rfl) (.inl rfl) rfl rfl (lb rfl) fun a S => ?_
    refine sBuild [(0, .int .u8 1)] [.int .u8 1, .bool false, iv 0, iv 0] S (wN rfl) rfl rfl rfl rfl (lb rfl) fun a S => ?_
    have S := S.learn (fRep r_api_Stitch (.agg #[.int .u8 1, .bool false, iv 0, iv 0]) (api_Stitch.mk 1 false 0 0)) rfl
    refine sLit (r := r_api_Stitch) (T := 56) (xs := [(api_Stitch.mk 1 false 0 0)]) [(0, .agg #[.int .u8 1, .bool false, iv 0, iv 0])] 1 [.agg #[.int .u8 1, .bool false, iv 0, iv 0]] [.int .u8 1, .bool false, iv 0, iv 0] (.agg #[.int .u8 0, .bool false, iv 0, iv 0]) 24 S (wN rfl) rfl rfl Tryd.underlying52 rfl (by decide) (by decide) (by kernel_rfl) rfl (fun E1 w1 hE => All.cons (r_api_Stitch.mono hE (S.mem.know (i := 0) (e := fRep r_api_Stitch (.agg #[.int .u8 1, .bool false, iv 0, iv 0]) (api_Stitch.mk 1 false 0 0)) rfl)) (All.nil _ _ _)) rfl rfl (lb rfl) fun a w ad181 cp182 S => ?_
    obtain ⟨l183, hx184, h⟩ := bindSome h
    refine sApp (r := r_api_Stitch) (T := 56) (xs := s167) (ys := [(api_Stitch.mk 1 false 0 0)]) (v := .slice ad168 s167.length cp169) (u := .slice ad181 [(api_Stitch.mk 1 false 0 0)].length cp182) 5 (.agg #[.int .u8 0, .bool false, iv 0, iv 0]) 24 S (wN rfl) rfl Tryd.underlying52 rfl rfl (by decide) rfl rfl rfl (src_R (T := 56) 0 S.mem rfl) hx184 rfl (lb rfl) fun a w ad185 cp186 S => ?_
    refine sMove (.slice ad185 l183.length cp186) S (wN rfl) (.inr rfl) rfl rfl (lb rfl) fun a S => ?_
    refine leafL (leafB (leafT (hK180 _ _ ?_)))
    refine sRegion ?_
    refine sBin (iv (w64 (s170 + 1))) S (wN rfl) rfl rfl rfl (bAdd _ _ _ _ s170 1) rfl (lb rfl) fun a S => ?_
    refine sMove (iv (w64 (s170 + 1))) S (wN rfl) (.inl rfl) rfl rfl (lb rfl) fun a S => ?_
    exact leafL (leafT (⟨(l183, w64 (s170 + 1)), (Option.some.inj h).symm, ⟨ad185, cp186, S.fix [2, 3, 4, 5, 0, 6] [1, 2] (by decide) rfl rfl rfl⟩⟩))
  obtain ⟨o161, rfl, ad162, cp163, S⟩ := hI
  have h := g165
  clear g165
  try dsimp only at h
  obtain ⟨t190, h, g191⟩ := bindSome h
  refine sCut (fun a w => ∃ o187, o187 = t190 ∧ ∃ ad188, ∃ cp189, St [] E [] w0 127 a w [(1, .pointer (some ⟨b10, 0, none⟩)), (2, .pointer (some ⟨b11, 0, none⟩)), (5, .pointer (some ⟨b37, 0, none⟩)), (6, iv s44), (10, .slice ad188 o187.length cp189)] [eBox b10 30 [.slice ad5 p0.Left.length cp6, .slice ad7 p0.Right.length cp8], eBox b11 40 [iv 0, .slice none 0 0], eBox b37 40 [iv (w64 (x20 - x25)), .slice ad46 s45.length cp47], eRow r_api_Stitch 56 (.slice ad188 o187.length cp189) o187, eRow r_api_Row 54 (.slice ad46 s45.length cp47) s45] [fRep (rL (rI .i64)) (.slice ad5 p0.Left.length cp6) p0.Left, fRep (rL (rI .i64)) (.slice ad7 p0.Right.length cp8) p0.Right]) ?_ (fun a w hI => ?_)
  · refine sSeq (fun K192 hK192 => ?_)
    refine sRegion ?_
    refine sField (b := b94) (off := 0) 0 0 S (wN rfl) rfl rfl rfl rfl rfl (lb rfl) fun a S => ?_
    refine sField (b := b94) (off := 0) 0 0 S (wN rfl) rfl rfl rfl rfl rfl (lb rfl) fun a S => ?_
    refine sLoad1 (p := b94) (off := 0) (T := 81) (vs := [.int .u8 o95, .bool o96, iv o97, iv o98, iv o99]) 3 (.int .u8 o95) S (wN rfl) rfl rfl rfl rfl rfl rfl (lb rfl) fun a S => ?_
    refine sBin (.bool (o95 != 0)) S (wN rfl) rfl rfl rfl (bNe _ _ _ _ .u8 o95 0) rfl (lb rfl) fun a S => ?_
    refine leafL (leafT (hK192 _ _ ?_))
    rcases iteSome h with ⟨hc193, h⟩ | ⟨hc193, h⟩
    rotate_left
    · refine sCondF S rfl hc193 ?_
      exact wp_skip (leafT (⟨o161, Option.some.inj h, ad162, cp163, S.fix [0, 1, 2, 4, 5] [0, 1] (by decide) rfl rfl rfl⟩))
    refine sCondT S rfl hc193 ?_
    refine sRegion ?_
    refine sMove (.slice ad162 o161.length cp163) S (wN rfl) (.inl rfl) rfl rfl (lb rfl) fun a S => ?_
    refine sField (b := b94) (off := 0) 0 0 S (wN rfl) rfl rfl rfl rfl rfl (lb rfl) fun a S => ?_
    refine sLoadN (p := b94) (off := 0) (T := 81) (vs := [.int .u8 o95, .bool o96, iv o97, iv o98, iv o99]) 3 [.int .u8 o95, .bool o96, iv o97, iv o98] S (wN rfl) rfl rfl rfl rfl rfl rfl rfl (lb rfl) fun a S => ?_
    have S := S.learn (fRep r_api_Stitch (.agg #[.int .u8 o95, .bool o96, iv o97, iv o98]) (api_Stitch.mk o95 o96 o97 o98)) rfl
    refine sLit (r := r_api_Stitch) (T := 56) (xs := [(api_Stitch.mk o95 o96 o97 o98)]) [(0, .agg #[.int .u8 o95, .bool o96, iv o97, iv o98])] 1 [.agg #[.int .u8 o95, .bool o96, iv o97, iv o98]] [.int .u8 o95, .bool o96, iv o97, iv o98] (.agg #[.int .u8 0, .bool false, iv 0, iv 0]) 24 S (wN rfl) rfl rfl Tryd.underlying52 rfl (by decide) (by decide) (by kernel_rfl) rfl (fun E1 w1 hE => All.cons (r_api_Stitch.mono hE (S.mem.know (i := 0) (e := fRep r_api_Stitch (.agg #[.int .u8 o95, .bool o96, iv o97, iv o98]) (api_Stitch.mk o95 o96 o97 o98)) rfl)) (All.nil _ _ _)) rfl rfl (lb rfl) fun a w ad194 cp195 S => ?_
    obtain ⟨l196, hx197, h⟩ := bindSome h
    refine sApp (r := r_api_Stitch) (T := 56) (xs := o161) (ys := [(api_Stitch.mk o95 o96 o97 o98)]) (v := .slice ad162 o161.length cp163) (u := .slice ad194 [(api_Stitch.mk o95 o96 o97 o98)].length cp195) 5 (.agg #[.int .u8 0, .bool false, iv 0, iv 0]) 24 S (wN rfl) rfl Tryd.underlying52 rfl rfl (by decide) rfl rfl rfl (src_R (T := 56) 0 S.mem rfl) hx197 rfl (lb rfl) fun a w ad198 cp199 S => ?_
    refine sMove (.slice ad198 l196.length cp199) S (wN rfl) (.inr rfl) rfl rfl (lb rfl) fun a S => ?_
    exact leafL (leafT (⟨l196, Option.some.inj h, ad198, cp199, S.fix [2, 3, 4, 0, 6] [1, 2] (by decide) rfl rfl rfl⟩))
  obtain ⟨o187, rfl, ad188, cp189, S⟩ := hI
  have h := g191
  clear g191
  try dsimp only at h
  refine sSeq (fun K200 hK200 => ?_)
  refine sRegion ?_
  refine sMove (iv s44) S (wN rfl) (.inl rfl) rfl rfl (lb rfl) fun a S => ?_
  obtain ⟨z201, hx202, h⟩ := bindSome h
  refine sBin (iv z201) S (wN rfl) rfl rfl rfl (bRem _ _ _ _ (x := s44) (y := 2) hx202) rfl (lb rfl) fun a S => ?_
  refine sBin (.bool (z201 == 1)) S (wN rfl) rfl rfl rfl (bEq _ _ _ _ .i64 z201 1) rfl (lb rfl) fun a S => ?_
  refine sMove (.bool (z201 == 1)) S (wN rfl) (.inr rfl) rfl rfl (lb rfl) fun a S => ?_
  refine leafL (leafT (hK200 _ _ ?_))
  obtain ⟨t206, h, g207⟩ := bindSome h
  refine sCut (fun a w => ∃ o203, o203 = t206 ∧ ∃ ad204, ∃ cp205, St [] E [] w0 127 a w [(1, .pointer (some ⟨b10, 0, none⟩)), (2, .pointer (some ⟨b11, 0, none⟩)), (5, .pointer (some ⟨b37, 0, none⟩)), (6, iv s44), (10, .slice ad204 o203.length cp205), (11, .bool (z201 == 1))] [eBox b10 30 [.slice ad5 p0.Left.length cp6, .slice ad7 p0.Right.length cp8], eBox b11 40 [iv 0, .slice none 0 0], eBox b37 40 [iv (w64 (x20 - x25)), .slice ad46 s45.length cp47], eRow r_api_Row 54 (.slice ad46 s45.length cp47) s45] [fRep (rL r_api_Stitch) (.slice ad204 o203.length cp205) o203, fRep (rL (rI .i64)) (.slice ad5 p0.Left.length cp6) p0.Left, fRep (rL (rI .i64)) (.slice ad7 p0.Right.length cp8) p0.Right]) ?_ (fun a w hI => ?_)
  · refine sSeq (fun K208 hK208 => ?_)
    refine sRegion ?_
    refine sMove (.bool (z201 == 1)) S (wN rfl) (.inl rfl) rfl rfl (lb rfl) fun a S => ?_
    refine leafL (leafT (hK208 _ _ ?_))
    rcases iteSome h with ⟨hc209, h⟩ | ⟨hc209, h⟩
    rotate_left
    · refine sCondF S rfl hc209 ?_
      have S := S.shutR (r := r_api_Stitch) (T := 56) (v := .slice ad188 o187.length cp189) (xs := o187) 3 rfl
      exact wp_skip (leafT (⟨o187, Option.some.inj h, ad188, cp189, S.fix [0, 1, 2, 3] [0, 1, 2] (by decide) rfl rfl rfl⟩))
    refine sCondT S rfl hc209 ?_
    refine sRegion ?_
    refine sMove (.slice ad188 o187.length cp189) S (wN rfl) (.inl rfl) rfl rfl (lb rfl) fun a S => ?_
    obtain ⟨r210, hx211, h⟩ := bindSome h
    have S := S.shutR (r := r_api_Stitch) (T := 56) (v := .slice ad188 o187.length cp189) (xs := o187) 3 rfl
    refine sCall (X := Value) (f := 39) (vs := [.slice ad188 o187.length cp189]) (val := c_stitch_Turn_val r210) (B' := fun _ => []) (D' := c_stitch_Turn_D r210) [] [eBox b10 30 [.slice ad5 p0.Left.length cp6, .slice ad7 p0.Right.length cp8], eBox b11 40 [iv 0, .slice none 0 0], eBox b37 40 [iv (w64 (x20 - x25)), .slice ad46 s45.length cp47], eRow r_api_Row 54 (.slice ad46 s45.length cp47) s45] [fRep (rL r_api_Stitch) (.slice ad188 o187.length cp189) o187] [0, 1, 2, 3] [0] S (wN rfl) rfl callee39 rfl (by decide) rfl rfl (fun E1 w1 S1 => c_stitch_Turn E1 w1 o187 (.slice ad188 o187.length cp189) r210 hx211 S1) rfl (lb rfl) fun u212 a w S => ?_
    obtain ⟨ad213, cp214, _, rfl, _⟩ := S.mem.know (i := 0) (e := fRep (rL r_api_Stitch) (u212) r210.1) rfl
    refine sMove (.tuple #[.slice ad213 r210.1.length cp214, iv r210.2]) S (wN rfl) (.inl rfl) rfl rfl (lb rfl) fun a S => ?_
    refine sExtract (vs := [.slice ad213 r210.1.length cp214, iv r210.2]) (.slice ad213 r210.1.length cp214) S (wN rfl) rfl rfl rfl rfl (lb rfl) fun a S => ?_
    refine sExtract (vs := [.slice ad213 r210.1.length cp214, iv r210.2]) (iv r210.2) S (wN rfl) rfl rfl rfl rfl (lb rfl) fun a S => ?_
    refine sMove (.slice ad213 r210.1.length cp214) S (wN rfl) (.inr rfl) rfl rfl (lb rfl) fun a S => ?_
    exact leafL (leafT (⟨r210.1, Option.some.inj h, ad213, cp214, S.fix [0, 1, 2, 3] [0, 2, 3] (by decide) rfl rfl rfl⟩))
  obtain ⟨o203, rfl, ad204, cp205, S⟩ := hI
  have h := g207
  clear g207
  try dsimp only at h
  refine sRegion ?_
  refine sField (b := b37) (off := 0) 1 1 S (wN rfl) rfl rfl rfl rfl rfl (lb rfl) fun a S => ?_
  refine sLoad1 (p := b37) (off := 1) (T := 40) (vs := [iv (w64 (x20 - x25)), .slice ad46 s45.length cp47]) 2 (.slice ad46 s45.length cp47) S (wN rfl) rfl rfl rfl rfl rfl rfl (lb rfl) fun a S => ?_
  refine sMove (.bool (z201 == 1)) S (wN rfl) (.inl rfl) rfl rfl (lb rfl) fun a S => ?_
  refine sMove (.slice ad204 o203.length cp205) S (wN rfl) (.inl rfl) rfl rfl (lb rfl) fun a S => ?_
  refine sBuild [(0, .bool (z201 == 1)), (1, .slice ad204 o203.length cp205)] [.bool (z201 == 1), .slice ad204 o203.length cp205] S (wN rfl) rfl rfl rfl rfl (lb rfl) fun a S => ?_
  have S := S.learn (fRep r_api_Row (.agg #[.bool (z201 == 1), .slice ad204 o203.length cp205]) (api_Row.mk (z201 == 1) o203)) ⟨_, rfl, S.mem.know (i := 0) (e := fRep (rL r_api_Stitch) (.slice ad204 o203.length cp205) o203) rfl⟩
  refine sLit (r := r_api_Row) (T := 54) (xs := [(api_Row.mk (z201 == 1) o203)]) [(0, .agg #[.bool (z201 == 1), .slice ad204 o203.length cp205])] 1 [.agg #[.bool (z201 == 1), .slice ad204 o203.length cp205]] [.bool (z201 == 1), .slice ad204 o203.length cp205] (.agg #[.bool false, .slice none 0 0]) 32 S (wN rfl) rfl rfl Tryd.underlying38 rfl (by decide) (by decide) (by kernel_rfl) rfl (fun E1 w1 hE => All.cons (r_api_Row.mono hE (S.mem.know (i := 0) (e := fRep r_api_Row (.agg #[.bool (z201 == 1), .slice ad204 o203.length cp205]) (api_Row.mk (z201 == 1) o203)) rfl)) (All.nil _ _ _)) rfl rfl (lb rfl) fun a w ad215 cp216 S => ?_
  obtain ⟨l217, hx218, h⟩ := bindSome h
  refine sApp (r := r_api_Row) (T := 54) (xs := s45) (ys := [(api_Row.mk (z201 == 1) o203)]) (v := .slice ad46 s45.length cp47) (u := .slice ad215 [(api_Row.mk (z201 == 1) o203)].length cp216) 4 (.agg #[.bool false, .slice none 0 0]) 32 S (wN rfl) rfl Tryd.underlying38 rfl rfl (by decide) rfl rfl rfl (src_R (T := 54) 0 S.mem rfl) hx218 rfl (lb rfl) fun a w ad219 cp220 S => ?_
  refine sField (b := b37) (off := 0) 1 1 S (wN rfl) rfl rfl rfl rfl rfl (lb rfl) fun a S => ?_
  refine sStore (p := b37) (off := 1) (T := 40) (vs := [iv (w64 (x20 - x25)), .slice ad46 s45.length cp47]) (v := .slice ad219 l217.length cp220) 4 [.slice ad219 l217.length cp220] S (wN rfl) rfl rfl rfl rfl rfl rfl rfl (by simp) rfl fun a w S => ?_
  exact leafL (leafB (leafT (⟨l217, Option.some.inj h, ad219, cp220, S.fix [3, 4, 0, 1] [2, 3] (by decide) rfl rfl rfl⟩)))

end Go.Proofs.YtmedbnjhgkcndaaDoor
namespace Go.Proofs.YtmedbnjhgkcndaaDoor
open Go.RowKit
set_option linter.unusedVariables false

noncomputable def F_piece_grows (p0 : api_Stitch) : Option Int :=
  if p0.Kind == 5 then
    some (w64 (p0.A - 1))
  else
    if p0.Kind == 9 then
      some p0.A
    else
      Option.bind (α := Bool) (
        if p0.Kind == 3 then
          some (p0.Kind == 3)
        else
          some (p0.Kind == 4)) fun o11 =>
      if o11 then
        some (w64 (1 - p0.A))
      else
        if p0.Kind == 10 then
          some (w64 (0 - p0.A))
        else
          some 0
set_option maxHeartbeats 4000000 in
set_option maxRecDepth 100000 in
theorem c_piece_grows (E : Nat → Prop) (w0 : World) (p0 : api_Stitch) (v0 : Value) (r : Int) (h : F_piece_grows p0 = some r) (S : St0 E [] w0 w0 [] [fRep r_api_Stitch (v0) p0]) :
    Calls Tryd.prog 41 #[v0] w0 (Ret (X := Unit) E [] w0 (fun _ => .int .i64 r) (fun _ => []) (fun _ => [])) := by
  unfold F_piece_grows at h
  obtain rfl : v0 = .agg #[.int .u8 p0.Kind, .bool p0.Purl, iv p0.A, iv p0.B] := S.know (i := 0) (e := fRep r_api_Stitch (v0) p0) rfl
  refine sEnter (args := [.agg #[.int .u8 p0.Kind, .bool p0.Purl, iv p0.A, iv p0.B]]) 25 Tryd.func41 rfl rfl (by simp) S (fun a S => ?_)
  refine sSeq (fun K1 hK1 => ?_)
  refine sRegion ?_
  refine sBox (v := .agg #[.int .u8 p0.Kind, .bool p0.Purl, iv p0.A, iv p0.B]) S (wN rfl) rfl rfl [.int .u8 p0.Kind, .bool p0.Purl, iv p0.A, iv p0.B] rfl rfl (lb rfl) fun a b2 w S => ?_
  refine sMove (iv 0) S (wN rfl) (.inr rfl) rfl rfl (lb rfl) fun a S => ?_
  refine leafL (leafT (hK1 _ _ ?_))
  refine sSeq (fun K3 hK3 => ?_)
  refine sSeq (fun K4 hK4 => ?_)
  refine sRegion ?_
  refine sField (b := b2) (off := 0) 0 0 S (wN rfl) rfl rfl rfl rfl rfl (lb rfl) fun a S => ?_
  refine sLoad1 (p := b2) (off := 0) (T := 56) (vs := [.int .u8 p0.Kind, .bool p0.Purl, iv p0.A, iv p0.B]) 0 (.int .u8 p0.Kind) S (wN rfl) rfl rfl rfl rfl rfl rfl (lb rfl) fun a S => ?_
  refine leafL (leafT (hK4 _ _ ?_))
  refine wp_block ?_
  refine sSeq (fun K5 hK5 => ?_)
  refine sRegion ?_
  refine sBin (.bool (p0.Kind == 5)) S (wN rfl) rfl rfl rfl (bEq _ _ _ _ .u8 p0.Kind 5) rfl (lb rfl) fun a S => ?_
  refine sMove (.bool (p0.Kind == 5)) S (wN rfl) (.inr rfl) rfl rfl (lb rfl) fun a S => ?_
  refine leafL (leafT (hK5 _ _ ?_))
  rcases iteSome h with ⟨hc6, h⟩ | ⟨hc6, h⟩
  · refine sCondT S rfl hc6 ?_
    refine sSeq (fun K7 hK7 => ?_)
    refine sRegion ?_
    refine sField (b := b2) (off := 0) 2 2 S (wN rfl) rfl rfl rfl rfl rfl (lb rfl) fun a S => ?_
    refine sLoad1 (p := b2) (off := 2) (T := 56) (vs := [.int .u8 p0.Kind, .bool p0.Purl, iv p0.A, iv p0.B]) 0 (iv p0.A) S (wN rfl) rfl rfl rfl rfl rfl rfl (lb rfl) fun a S => ?_
    refine sBin (iv (w64 (p0.A - 1))) S (wN rfl) rfl rfl rfl (bSub _ _ _ _ p0.A 1) rfl (lb rfl) fun a S => ?_
    refine sMove (iv (w64 (p0.A - 1))) S (wN rfl) (.inr rfl) rfl rfl (lb rfl) fun a S => ?_
    refine leafL (leafT (hK7 _ _ ?_))
    obtain rfl := Option.some.inj h
    exact wp_ret (rBlock (rThen (sRet (iv (w64 (p0.A - 1))) S (rsl1 rfl (rvT (t := 2) (v := iv (w64 (p0.A - 1))) S rfl)) ⟨(), rfl, S.mem.sel [] [] (by decide) rfl rfl⟩)))
  refine sCondF S rfl hc6 ?_
  refine sSeq (fun K8 hK8 => ?_)
  refine sRegion ?_
  refine sBin (.bool (p0.Kind == 9)) S (wN rfl) rfl rfl rfl (bEq _ _ _ _ .u8 p0.Kind 9) rfl (lb rfl) fun a S => ?_
  refine sMove (.bool (p0.Kind == 9)) S (wN rfl) (.inr rfl) rfl rfl (lb rfl) fun a S => ?_
  refine leafL (leafT (hK8 _ _ ?_))
  rcases iteSome h with ⟨hc9, h⟩ | ⟨hc9, h⟩
  · refine sCondT S rfl hc9 ?_
    refine sSeq (fun K10 hK10 => ?_)
    refine sRegion ?_
    refine sField (b := b2) (off := 0) 2 2 S (wN rfl) rfl rfl rfl rfl rfl (lb rfl) fun a S => ?_
    refine sLoad1 (p := b2) (off := 2) (T := 56) (vs := [.int .u8 p0.Kind, .bool p0.Purl, iv p0.A, iv p0.B]) 0 (iv p0.A) S (wN rfl) rfl rfl rfl rfl rfl rfl (lb rfl) fun a S => ?_
    refine sMove (iv p0.A) S (wN rfl) (.inr rfl) rfl rfl (lb rfl) fun a S => ?_
    refine leafL (leafT (hK10 _ _ ?_))
    obtain rfl := Option.some.inj h
    exact wp_ret (rBlock (rThen (sRet (iv p0.A) S (rsl1 rfl (rvT (t := 2) (v := iv p0.A) S rfl)) ⟨(), rfl, S.mem.sel [] [] (by decide) rfl rfl⟩)))
  refine sCondF S rfl hc9 ?_
  obtain ⟨t12, h, g13⟩ := bindSome h
  refine sCut (fun a w => ∃ o11, o11 = t12 ∧ St [] E [] w0 25 a w [(1, .pointer (some ⟨b2, 0, none⟩)), (4, .int .u8 p0.Kind), (14, .bool o11)] [eBox b2 56 [.int .u8 p0.Kind, .bool p0.Purl, iv p0.A, iv p0.B]] []) ?_ (fun a w hI => ?_)
  · refine sSeq (fun K14 hK14 => ?_)
    refine sRegion ?_
    refine sBin (.bool (p0.Kind == 3)) S (wN rfl) rfl rfl rfl (bEq _ _ _ _ .u8 p0.Kind 3) rfl (lb rfl) fun a S => ?_
    refine sMove (.bool (p0.Kind == 3)) S (wN rfl) (.inr rfl) rfl rfl (lb rfl) fun a S => ?_
    refine leafL (leafT (hK14 _ _ ?_))
    rcases iteSome h with ⟨hc15, h⟩ | ⟨hc15, h⟩
    · refine sCondT S rfl hc15 ?_
      exact wp_skip (leafT (⟨p0.Kind == 3, Option.some.inj h, S.fix [0] [] (by decide) rfl rfl rfl⟩))
    refine sCondF S rfl hc15 ?_
    refine sRegion ?_
    refine sBin (.bool (p0.Kind == 4)) S (wN rfl) rfl rfl rfl (bEq _ _ _ _ .u8 p0.Kind 4) rfl (lb rfl) fun a S => ?_
    refine sMove (.bool (p0.Kind == 4)) S (wN rfl) (.inr rfl) rfl rfl (lb rfl) fun a S => ?_
    exact leafL (leafT (⟨p0.Kind == 4, Option.some.inj h, S.fix [0] [] (by decide) rfl rfl rfl⟩))
  obtain ⟨o11, rfl, S⟩ := hI
  have h := g13
  clear g13
  try dsimp only at h
  rcases iteSome h with ⟨hc16, h⟩ | ⟨hc16, h⟩
  · refine sCondT S rfl hc16 ?_
    refine sSeq (fun K17 hK17 => ?_)
    refine sRegion ?_
    refine sField (b := b2) (off := 0) 2 2 S (wN rfl) rfl rfl rfl rfl rfl (lb rfl) fun a S => ?_
    refine sLoad1 (p := b2) (off := 2) (T := 56) (vs := [.int .u8 p0.Kind, .bool p0.Purl, iv p0.A, iv p0.B]) 0 (iv p0.A) S (wN rfl) rfl rfl rfl rfl rfl rfl (lb rfl) fun a S => ?_
    refine sBin (iv (w64 (1 - p0.A))) S (wN rfl) rfl rfl rfl (bSub _ _ _ _ 1 p0.A) rfl (lb rfl) fun a S => ?_
    refine sMove (iv (w64 (1 - p0.A))) S (wN rfl) (.inr rfl) rfl rfl (lb rfl) fun a S => ?_
    refine leafL (leafT (hK17 _ _ ?_))
    obtain rfl := Option.some.inj h
    exact wp_ret (rBlock (rThen (sRet (iv (w64 (1 - p0.A))) S (rsl1 rfl (rvT (t := 2) (v := iv (w64 (1 - p0.A))) S rfl)) ⟨(), rfl, S.mem.sel [] [] (by decide) rfl rfl⟩)))
  refine sCondF S rfl hc16 ?_
  refine sSeq (fun K18 hK18 => ?_)
  refine sRegion ?_
  refine sBin (.bool (p0.Kind == 10)) S (wN rfl) rfl rfl rfl (bEq _ _ _ _ .u8 p0.Kind 10) rfl (lb rfl) fun a S => ?_
  refine sMove (.bool (p0.Kind == 10)) S (wN rfl) (.inr rfl) rfl rfl (lb rfl) fun a S => ?_
  refine leafL (leafT (hK18 _ _ ?_))
  rcases iteSome h with ⟨hc19, h⟩ | ⟨hc19, h⟩
  rotate_left
  · refine sCondF S rfl hc19 ?_
    refine wp_skip (leafB (leafT (hK3 _ _ ?_)))
    refine sSeq (fun K21 hK21 => ?_)
    refine sRegion ?_
    refine sMove (iv 0) S (wN rfl) (.inr rfl) rfl rfl (lb rfl) fun a S => ?_
    refine leafL (leafT (hK21 _ _ ?_))
    obtain rfl := Option.some.inj h
    exact wp_ret (sRet (iv 0) S (rsl1 rfl (rvT (t := 2) (v := iv 0) S rfl)) ⟨(), rfl, S.mem.sel [] [] (by decide) rfl rfl⟩)
  refine sCondT S rfl hc19 ?_
  refine sSeq (fun K20 hK20 => ?_)
  refine sRegion ?_
  refine sField (b := b2) (off := 0) 2 2 S (wN rfl) rfl rfl rfl rfl rfl (lb rfl) fun a S => ?_
  refine sLoad1 (p := b2) (off := 2) (T := 56) (vs := [.int .u8 p0.Kind, .bool p0.Purl, iv p0.A, iv p0.B]) 0 (iv p0.A) S (wN rfl) rfl rfl rfl rfl rfl rfl (lb rfl) fun a S => ?_
  refine sNeg (b := p0.A) S (wN rfl) rfl rfl rfl (lb rfl) fun a S => ?_
  refine sMove (iv (w64 (0 - p0.A))) S (wN rfl) (.inr rfl) rfl rfl (lb rfl) fun a S => ?_
  refine leafL (leafT (hK20 _ _ ?_))
  obtain rfl := Option.some.inj h
  exact wp_ret (rBlock (rThen (sRet (iv (w64 (0 - p0.A))) S (rsl1 rfl (rvT (t := 2) (v := iv (w64 (0 - p0.A))) S rfl)) ⟨(), rfl, S.mem.sel [] [] (by decide) rfl rfl⟩)))

end Go.Proofs.YtmedbnjhgkcndaaDoor
namespace Go.Proofs.YtmedbnjhgkcndaaDoor
open Go.RowKit
set_option linter.unusedVariables false

def anc_slices_Equal___api_Stitch_api_Stitch__0 : List (List Nat) := [[], [], [0, 1], [0, 1, 2], [], [], [4, 5], [4, 5, 6], [0, 1, 2, 3, 4, 5, 6, 7]]
noncomputable def slices_Equal___api_Stitch_api_Stitch__l1 (p0 : (List api_Stitch)) (p1 : (List api_Stitch)) : Int → Option (Int ⊕ (Bool ⊕ Unit)) := fun s0 => match s0 with
  | s13 =>
    if decide (s13 < (p0.length : Int)) then
      Option.bind (idxO p0 s13) fun x23 =>
      Option.bind (idxO p1 s13) fun x28 =>
      if !((x23.Kind == x28.Kind) && ((x23.Purl == x28.Purl) && ((x23.A == x28.A) && ((x23.B == x28.B) && true)))) then
        some (.inr (.inl false))
      else
        some (.inl (w64 (s13 + 1)))
    else
      some (.inr (.inr ()))
noncomputable def F_slices_Equal___api_Stitch_api_Stitch_ (p0 : (List api_Stitch)) (p1 : (List api_Stitch)) : Option Bool :=
  if (p0.length : Int) != (p1.length : Int) then
    some false
  else
    Option.bind (α := Unit ⊕ Bool) (
      Option.bind (whileO (slices_Equal___api_Stitch_api_Stitch__l1 p0 p1) 0) fun z0 => match z0 with
        | .inl z =>
          some (.inr z)
        | .inr _ =>
          some (.inl ())) fun z0 => match z0 with
      | .inl _ =>
        some true
      | .inr z =>
        some z
set_option maxHeartbeats 4000000 in
set_option maxRecDepth 100000 in
theorem c_slices_Equal___api_Stitch_api_Stitch_ (E : Nat → Prop) (w0 : World) (p0 : (List api_Stitch)) (v0 : Value) (p1 : (List api_Stitch)) (v1 : Value) (r : Bool) (h : F_slices_Equal___api_Stitch_api_Stitch_ p0 p1 = some r) (S : St0 E [] w0 w0 [] [fRep (rL r_api_Stitch) (v0) p0, fRep (rL r_api_Stitch) (v1) p1]) :
    Calls Tryd.prog 56 #[v0, v1] w0 (Ret (X := Unit) E [] w0 (fun _ => .bool r) (fun _ => []) (fun _ => [])) := by
  unfold F_slices_Equal___api_Stitch_api_Stitch_ at h
  obtain ⟨ad1, cp2, _, rfl, _⟩ := S.know (i := 0) (e := fRep (rL r_api_Stitch) (v0) p0) rfl
  obtain ⟨ad3, cp4, _, rfl, _⟩ := S.know (i := 1) (e := fRep (rL r_api_Stitch) (v1) p1) rfl
  refine sEnter (args := [.slice ad1 p0.length cp2, .slice ad3 p1.length cp4]) 26 Tryd.func56 rfl rfl (by simp) S (fun a S => ?_)
  refine sSeq (fun K5 hK5 => ?_)
  refine sRegion ?_
  refine sMove (.bool false) S (wN rfl) (.inr rfl) rfl rfl (lb rfl) fun a S => ?_
  refine leafL (leafT (hK5 _ _ ?_))
  refine sSeq (fun K6 hK6 => ?_)
  refine sSeq (fun K7 hK7 => ?_)
  refine sRegion ?_
  refine sMove (.slice ad1 p0.length cp2) S (wN rfl) (.inl rfl) rfl rfl (lb rfl) fun a S => ?_
  refine sLen (ad := ad1) (m := p0.length) (c := cp2) S (wN rfl) rfl Tryd.underlying52 rfl rfl (lb rfl) fun a S => ?_
  refine sMove (.slice ad3 p1.length cp4) S (wN rfl) (.inl rfl) rfl rfl (lb rfl) fun a S => ?_
  refine sLen (ad := ad3) (m := p1.length) (c := cp4) S (wN rfl) rfl Tryd.underlying52 rfl rfl (lb rfl) fun a S => ?_
  refine sBin (.bool ((p0.length : Int) != (p1.length : Int))) S (wN rfl) rfl rfl rfl (bNe _ _ _ _ .i64 (p0.length : Int) (p1.length : Int)) rfl (lb rfl) fun a S => ?_
  refine leafL (leafT (hK7 _ _ ?_))
  rcases iteSome h with ⟨hc8, h⟩ | ⟨hc8, h⟩
  · refine sCondT S rfl hc8 ?_
    refine sSeq (fun K9 hK9 => ?_)
    refine sRegion ?_
    refine sMove (.bool false) S (wN rfl) (.inr rfl) rfl rfl (lb rfl) fun a S => ?_
    refine leafL (leafT (hK9 _ _ ?_))
    obtain rfl := Option.some.inj h
    exact wp_ret (rThen (sRet (.bool false) S (rsl1 rfl (rvT (t := 4) (v := .bool false) S rfl)) ⟨(), rfl, S.mem.sel [] [] (by decide) rfl rfl⟩))
  refine sCondF S rfl hc8 ?_
  refine wp_skip (leafT (hK6 _ _ ?_))
  obtain ⟨t10, h, g11⟩ := bindSome h
  refine sCut (fun a w => .inl () = t10 ∧ St [] E [] w0 26 a w [] [] []) ?_ (fun a w hI => ?_)
  rotate_left
  · obtain ⟨rfl, S⟩ := hI
    have h := g11
    clear g11
    try dsimp only at h
    refine sSeq (fun K41 hK41 => ?_)
    refine sRegion ?_
    refine sMove (.bool true) S (wN rfl) (.inr rfl) rfl rfl (lb rfl) fun a S => ?_
    refine leafL (leafT (hK41 _ _ ?_))
    obtain rfl := Option.some.inj h
    exact wp_ret (sRet (.bool true) S (rsl1 rfl (rvT (t := 4) (v := .bool true) S rfl)) ⟨(), rfl, S.mem.sel [] [] (by decide) rfl rfl⟩)
  refine sSeq (fun K12 hK12 => ?_)
  refine sRegion ?_
  refine sMove (.slice ad1 p0.length cp2) S (wN rfl) (.inl rfl) rfl rfl (lb rfl) fun a S => ?_
  refine sLen (ad := ad1) (m := p0.length) (c := cp2) S (wN rfl) rfl Tryd.underlying52 rfl rfl (lb rfl) fun a S => ?_
  refine sMove (iv 0) S (wN rfl) (.inl rfl) rfl rfl (lb rfl) fun a S => ?_
  refine leafL (leafT (hK12 _ _ ?_))
  refine wp_block ?_
  obtain ⟨t16, hl, g15⟩ := bindSome h
  refine sLoop hl (fun s0 a w => match s0 with | s13 => St [] E [] w0 26 a w [(0, .slice ad1 p0.length cp2), (1, .slice ad3 p1.length cp4), (12, iv (p0.length : Int)), (13, iv s13)] [] [fRep (rL r_api_Stitch) (.slice ad1 p0.length cp2) p0, fRep (rL r_api_Stitch) (.slice ad3 p1.length cp4) p1]) (S.fix [] [0, 1] (by decide) rfl rfl rfl) ?_
  clear hl h
  intro s13 a w c0 hI h hu14
  unfold slices_Equal___api_Stitch_api_Stitch__l1 at h
  dsimp only at h hI
  have S := hI
  refine sSeq (fun K17 hK17 => ?_)
  refine sRegion ?_
  refine sBin (.bool (decide (s13 < (p0.length : Int)))) S (wN rfl) rfl rfl rfl (bLt _ _ _ _ .i64 s13 (p0.length : Int)) rfl (lb rfl) fun a S => ?_
  refine leafL (leafT (hK17 _ _ ?_))
  refine sSeq (fun K18 hK18 => ?_)
  rcases iteSome h with ⟨hc19, h⟩ | ⟨hc19, h⟩
  rotate_left
  · refine sCondF S rfl hc19 ?_
    obtain rfl := Option.some.inj h
    obtain rfl := hu14 _ rfl
    have h := g15
    clear g15
    try dsimp only at h
    exact wp_exit (xThen (xThen (xHit (leafT (⟨Option.some.inj h, S.fix [] [] (by decide) rfl rfl rfl⟩)))))
  refine sCondT S rfl hc19 ?_
  refine wp_skip (leafT (hK18 _ _ ?_))
  refine sSeq (fun K20 hK20 => ?_)
  refine wp_block ?_
  refine sSeq (fun K21 hK21 => ?_)
  refine sRegion ?_
  refine sMove (iv s13) S (wN rfl) (.inl rfl) rfl rfl (lb rfl) fun a S => ?_
  refine sMove (iv s13) S (wN rfl) (.inr rfl) rfl rfl (lb rfl) fun a S => ?_
  refine leafL (leafT (hK21 _ _ ?_))
  refine sSeq (fun K22 hK22 => ?_)
  obtain ⟨x23, hx24, h⟩ := bindSome h
  obtain ⟨x28, hx29, h⟩ := bindSome h
  obtain ⟨q33, hq34, S⟩ := pIdx (P := Tryd.prog) (r := r_api_Stitch) (v := .slice ad1 p0.length cp2) (xs := p0) (j := s13) 52 56 0 S Tryd.underlying52 rfl rfl hx24
  obtain ⟨u35, S⟩ := pLoad (r := r_api_Stitch) (q := q33) (x := x23) 0 S rfl
  obtain rfl : u35 = .agg #[.int .u8 x23.Kind, .bool x23.Purl, iv x23.A, iv x23.B] := S.mem.know (i := 1) (e := fRep r_api_Stitch (u35) x23) rfl
  obtain ⟨q36, hq37, S⟩ := pIdx (P := Tryd.prog) (r := r_api_Stitch) (v := .slice ad3 p1.length cp4) (xs := p1) (j := s13) 52 56 4 S Tryd.underlying52 rfl rfl hx29
  obtain ⟨u38, S⟩ := pLoad (r := r_api_Stitch) (q := q36) (x := x28) 0 S rfl
  obtain rfl : u38 = .agg #[.int .u8 x28.Kind, .bool x28.Purl, iv x28.A, iv x28.B] := S.mem.know (i := 1) (e := fRep r_api_Stitch (u38) x28) rfl
  refine sDraw (nf := []) (W := [(0, 16, .slice ad1 p0.length cp2), (1, 17, iv s13), (2, 18, q33), (3, 19, .agg #[.int .u8 x23.Kind, .bool x23.Purl, iv x23.A, iv x23.B]), (4, 20, .slice ad3 p1.length cp4), (5, 21, iv s13), (6, 22, q36), (7, 23, .agg #[.int .u8 x28.Kind, .bool x28.Purl, iv x28.A, iv x28.B]), (8, 24, .bool (!((x23.Kind == x28.Kind) && ((x23.Purl == x28.Purl) && ((x23.A == x28.A) && ((x23.B == x28.B) && true))))))]) rfl S ?_
  refine node_by (A := anc_slices_Equal___api_Stitch_api_Stitch__0) (nf := []) (Y := []) (W := [(0, 16, .slice ad1 p0.length cp2), (1, 17, iv s13), (2, 18, q33), (3, 19, .agg #[.int .u8 x23.Kind, .bool x23.Purl, iv x23.A, iv x23.B]), (4, 20, .slice ad3 p1.length cp4), (5, 21, iv s13), (6, 22, q36), (7, 23, .agg #[.int .u8 x28.Kind, .bool x28.Purl, iv x28.A, iv x28.B]), (8, 24, .bool (!((x23.Kind == x28.Kind) && ((x23.Purl == x28.Purl) && ((x23.A == x28.A) && ((x23.B == x28.B) && true))))))]) 9 (by kernel_rfl) (by kernel_rfl) (by kernel_rfl) (by kernel_rfl) (by kernel_rfl) [0, 1, 2, 3, 4, 5, 6, 7, 8] (by kernel_rfl) (by decide) (by decide) (aF 0 8 (by decide) ?_ (aF 1 7 (by decide) ?_ (aF 2 6 (by decide) ?_ (aF 3 5 (by decide) ?_ (aF 4 4 (by decide) ?_ (aF 5 3 (by decide) ?_ (aF 6 2 (by decide) ?_ (aF 7 1 (by decide) ?_ (aF 8 0 (by decide) ?_ (trivial)))))))))) [(0, .slice ad1 p0.length cp2), (1, .slice ad3 p1.length cp4), (12, iv (p0.length : Int)), (13, iv s13), (24, .bool (!((x23.Kind == x28.Kind) && ((x23.Purl == x28.Purl) && ((x23.A == x28.A) && ((x23.B == x28.B) && true))))))] (fin_of [none, none, none, none, some 8] rfl (by kernel_rfl) (by kernel_rfl)) (fun _ a w S => ?_)
  · refine fI 16 (.slice ad1 p0.length cp2) [(0, .slice ad1 p0.length cp2)] 0 [none] rfl rfl rfl rfl rfl rfl fun G a w S => ?_
    refine sMove (.slice ad1 p0.length cp2) S (wN rfl) (.inl rfl) rfl rfl (lb rfl) fun a S => ?_
    exact leafL ⟨rfl, S⟩
  · refine fI 17 (iv s13) [(5, iv s13)] 1 [none] rfl rfl rfl rfl rfl rfl fun G a w S => ?_
    refine sMove (iv s13) S (wN rfl) (.inl rfl) rfl rfl (lb rfl) fun a S => ?_
    exact leafL ⟨rfl, S⟩
  · refine fI 18 q33 [(16, .slice ad1 p0.length cp2), (17, iv s13)] 2 [some 0, some 1] rfl rfl rfl rfl rfl rfl fun G a w S => ?_
    refine sIdxV (v := .slice ad1 p0.length cp2) (k := .i64) (j := s13) S (wN rfl) rfl rfl rfl hq34 rfl (lb rfl) fun a S => ?_
    exact leafL ⟨rfl, S⟩
  · refine fI 19 (.agg #[.int .u8 x23.Kind, .bool x23.Purl, iv x23.A, iv x23.B]) [(18, q33)] 3 [some 2] rfl rfl rfl rfl rfl rfl fun G a w S => ?_
    refine sLoadVN (vq := q33) 3 [.int .u8 x23.Kind, .bool x23.Purl, iv x23.A, iv x23.B] S (wN rfl) rfl rfl rfl rfl rfl rfl (lb rfl) fun a S => ?_
    exact leafL ⟨rfl, S⟩
  · refine fI 20 (.slice ad3 p1.length cp4) [(1, .slice ad3 p1.length cp4)] 4 [none] rfl rfl rfl rfl rfl rfl fun G a w S => ?_
    refine sMove (.slice ad3 p1.length cp4) S (wN rfl) (.inl rfl) rfl rfl (lb rfl) fun a S => ?_
    exact leafL ⟨rfl, S⟩
  · refine fI 21 (iv s13) [(5, iv s13)] 5 [none] rfl rfl rfl rfl rfl rfl fun G a w S => ?_
    refine sMove (iv s13) S (wN rfl) (.inl rfl) rfl rfl (lb rfl) fun a S => ?_
    exact leafL ⟨rfl, S⟩
  · refine fI 22 q36 [(20, .slice ad3 p1.length cp4), (21, iv s13)] 6 [some 4, some 5] rfl rfl rfl rfl rfl rfl fun G a w S => ?_
    refine sIdxV (v := .slice ad3 p1.length cp4) (k := .i64) (j := s13) S (wN rfl) rfl rfl rfl hq37 rfl (lb rfl) fun a S => ?_
    exact leafL ⟨rfl, S⟩
  · refine fI 23 (.agg #[.int .u8 x28.Kind, .bool x28.Purl, iv x28.A, iv x28.B]) [(22, q36)] 7 [some 6] rfl rfl rfl rfl rfl rfl fun G a w S => ?_
    refine sLoadVN (vq := q36) 0 [.int .u8 x28.Kind, .bool x28.Purl, iv x28.A, iv x28.B] S (wN rfl) rfl rfl rfl rfl rfl rfl (lb rfl) fun a S => ?_
    exact leafL ⟨rfl, S⟩
  · refine fI 24 (.bool (!((x23.Kind == x28.Kind) && ((x23.Purl == x28.Purl) && ((x23.A == x28.A) && ((x23.B == x28.B) && true)))))) [(19, .agg #[.int .u8 x23.Kind, .bool x23.Purl, iv x23.A, iv x23.B]), (23, .agg #[.int .u8 x28.Kind, .bool x28.Purl, iv x28.A, iv x28.B])] 8 [some 3, some 7] rfl rfl rfl rfl rfl rfl fun G a w S => ?_
    refine sBin (.bool (!((x23.Kind == x28.Kind) && ((x23.Purl == x28.Purl) && ((x23.A == x28.A) && ((x23.B == x28.B) && true)))))) S (wN rfl) rfl rfl rfl (bNeV _ _ _ _ #[.int .u8 x23.Kind, .bool x23.Purl, iv x23.A, iv x23.B] #[.int .u8 x28.Kind, .bool x28.Purl, iv x28.A, iv x28.B] ((x23.Kind == x28.Kind) && ((x23.Purl == x28.Purl) && ((x23.A == x28.A) && ((x23.B == x28.B) && true)))) (by kernel_rfl) (eqlV_of (by kernel_rfl))) rfl (lb rfl) fun a S => ?_
    exact leafL ⟨rfl, S⟩
  refine leafT (hK22 _ _ ?_)
  rcases iteSome h with ⟨hc39, h⟩ | ⟨hc39, h⟩
  rotate_left
  · refine sCondF S rfl hc39 ?_
    refine wp_skip (leafB (leafT (hK20 _ _ ?_)))
    refine sRegion ?_
    refine sBin (iv (w64 (s13 + 1))) S (wN rfl) rfl rfl rfl (bAdd _ _ _ _ s13 1) rfl (lb rfl) fun a S => ?_
    refine sMove (iv (w64 (s13 + 1))) S (wN rfl) (.inl rfl) rfl rfl (lb rfl) fun a S => ?_
    exact leafL (leafT (⟨w64 (s13 + 1), (Option.some.inj h).symm, (S.fix [] [6, 7] (by decide) rfl rfl rfl)⟩))
  refine sCondT S rfl hc39 ?_
  refine sSeq (fun K40 hK40 => ?_)
  refine sRegion ?_
  refine sMove (.bool false) S (wN rfl) (.inr rfl) rfl rfl (lb rfl) fun a S => ?_
  refine leafL (leafT (hK40 _ _ ?_))
  obtain rfl := Option.some.inj h
  obtain rfl := hu14 _ rfl
  have h := g15
  clear g15
  try dsimp only at h
  obtain rfl := Option.some.inj h
  have h := g11
  clear g11
  try dsimp only at h
  obtain rfl := Option.some.inj h
  exact wp_ret (rBlock (rThen (rThen (rBlock (rThen (sRet (.bool false) S (rsl1 rfl (rvT (t := 4) (v := .bool false) S rfl)) ⟨(), rfl, S.mem.sel [] [] (by decide) rfl rfl⟩))))))

end Go.Proofs.YtmedbnjhgkcndaaDoor
namespace Go.Proofs.YtmedbnjhgkcndaaDoor
open Go.RowKit
set_option linter.unusedVariables false

noncomputable def F_stitch_Same (p0 : (List api_Stitch)) (p1 : (List api_Stitch)) : Option Bool :=
  Option.bind (F_slices_Equal___api_Stitch_api_Stitch_ p0 p1) fun r7 =>
  some r7
set_option maxHeartbeats 4000000 in
set_option maxRecDepth 100000 in
theorem c_stitch_Same (E : Nat → Prop) (w0 : World) (p0 : (List api_Stitch)) (v0 : Value) (p1 : (List api_Stitch)) (v1 : Value) (r : Bool) (h : F_stitch_Same p0 p1 = some r) (S : St0 E [] w0 w0 [] [fRep (rL r_api_Stitch) (v0) p0, fRep (rL r_api_Stitch) (v1) p1]) :
    Calls Tryd.prog 42 #[v0, v1] w0 (Ret (X := Unit) E [] w0 (fun _ => .bool r) (fun _ => []) (fun _ => [])) := by
  unfold F_stitch_Same at h
  obtain ⟨ad1, cp2, _, rfl, _⟩ := S.know (i := 0) (e := fRep (rL r_api_Stitch) (v0) p0) rfl
  obtain ⟨ad3, cp4, _, rfl, _⟩ := S.know (i := 1) (e := fRep (rL r_api_Stitch) (v1) p1) rfl
  refine sEnter (args := [.slice ad1 p0.length cp2, .slice ad3 p1.length cp4]) 8 Tryd.func42 rfl rfl (by simp) S (fun a S => ?_)
  refine sSeq (fun K5 hK5 => ?_)
  refine sRegion ?_
  refine sMove (.bool false) S (wN rfl) (.inr rfl) rfl rfl (lb rfl) fun a S => ?_
  refine leafL (leafT (hK5 _ _ ?_))
  refine sSeq (fun K6 hK6 => ?_)
  refine sRegion ?_
  refine sMove (.slice ad1 p0.length cp2) S (wN rfl) (.inl rfl) rfl rfl (lb rfl) fun a S => ?_
  refine sMove (.slice ad3 p1.length cp4) S (wN rfl) (.inl rfl) rfl rfl (lb rfl) fun a S => ?_
  obtain ⟨r7, hx8, h⟩ := bindSome h
  have S1 := S.mem
  refine sCallQ (X := Unit) (f := 56) (vs := [.slice ad1 p0.length cp2, .slice ad3 p1.length cp4]) (val := fun _ => .bool r7) S (wN rfl) rfl callee56 rfl (S1.quiet [0, 1] rfl) (fun E1 w1 S1 => c_slices_Equal___api_Stitch_api_Stitch_ E1 w1 p0 (.slice ad1 p0.length cp2) p1 (.slice ad3 p1.length cp4) r7 hx8 S1) rfl (lb rfl) fun _ a w S => ?_
  refine sMove (.bool r7) S (wN rfl) (.inr rfl) rfl rfl (lb rfl) fun a S => ?_
  refine leafL (leafT (hK6 _ _ ?_))
  obtain rfl := Option.some.inj h
  exact wp_ret (sRet (.bool r7) S (rsl1 rfl (rvT (t := 4) (v := .bool r7) S rfl)) ⟨(), rfl, S.mem.sel [] [] (by decide) rfl rfl⟩)

end Go.Proofs.YtmedbnjhgkcndaaDoor
namespace Go.Proofs.YtmedbnjhgkcndaaDoor
open Go.RowKit
set_option linter.unusedVariables false

def anc_piece_Read_0 : List (List Nat) := [[], [0], [0, 1], [0, 1, 2], [], [], [5], [5, 6], [4, 5, 6, 7], [4, 5, 6, 7, 8], [0, 1, 2, 3, 4, 5, 6, 7, 8, 9], [0, 1, 2, 3, 4, 5, 6, 7, 8, 9, 10], [0, 1, 2, 3, 4, 5, 6, 7, 8, 9, 10, 11]]
def anc_piece_Read_1 : List (List Nat) := [[], [0], [], [2], [], [2, 3, 4], [2, 3, 4, 5], [], [2, 3, 4, 5, 6, 7], [2, 3, 4, 5, 6, 7, 8], [0, 1, 2, 3, 4, 5, 6, 7, 8, 9], [0, 1, 2, 3, 4, 5, 6, 7, 8, 9, 10], [0, 1, 2, 3, 4, 5, 6, 7, 8, 9, 10, 11]]
def anc_piece_Read_2 : List (List Nat) := [[], [0], [], [2], [], [2, 3, 4], [2, 3, 4, 5], [2, 3, 4, 5, 6], [0, 1, 2, 3, 4, 5, 6, 7], [0, 1, 2, 3, 4, 5, 6, 7, 8], [0, 1, 2, 3, 4, 5, 6, 7, 8, 9], [0, 1, 2, 3, 4, 5, 6, 7, 8, 9, 10], [0, 1, 2, 3, 4, 5, 6, 7, 8, 9], [0, 1, 2, 3, 4, 5, 6, 7, 8, 9, 12], [0, 1, 2, 3, 4, 5, 6, 7, 8, 9], [0, 1, 2, 3, 4, 5, 6, 7, 8, 9, 12, 13, 14], [0, 1, 2, 3, 4, 5, 6, 7, 8, 9, 12, 13, 14, 15], [0, 1, 2, 3, 4, 5, 6, 7, 8, 9, 12, 13, 14, 15, 16], [0, 1, 2, 3, 4, 5, 6, 7, 8, 9, 10, 11, 12, 13, 14, 15, 16, 17], [0, 1, 2, 3, 4, 5, 6, 7, 8, 9, 10, 11, 12, 13, 14, 15, 16, 17, 18], [0, 1, 2, 3, 4, 5, 6, 7, 8, 9, 10, 11, 12, 13, 14, 15, 16, 17, 18, 19]]
noncomputable def piece_Read_l1 (p0 : api_Chart) : (Int × List Int × List Int) → Option ((Int × List Int × List Int) ⊕ ((api_Piece × Int) ⊕ (List Int × List Int))) := fun s0 => match s0 with
  | (s34, s35, s38) =>
    if decide (s34 < (p0.Rows.length : Int)) then
      Option.bind (idxO p0.Rows s34) fun x55 =>
      Option.bind (α := Bool) (
        if (x55.Cells.length : Int) == 0 then
          some true
        else
          Option.bind (F_stitch_All x55.Cells) fun r71 =>
          some (r71 != 0)) fun o67 =>
      if o67 then
        some (.inr (.inl ((api_Piece.mk ([] : (List Int)) ([] : (List Int))), 8)))
      else
        Option.bind (idxO x55.Cells 0) fun x76 =>
        Option.bind (F_piece_grows x76) fun r81 =>
        Option.bind (idxO x55.Cells (w64 ((x55.Cells.length : Int) - 1))) fun x83 =>
        Option.bind (F_piece_grows x83) fun r88 =>
        Option.bind (α := (Int × Int)) (
          if x55.Back then
            some (r88, r81)
          else
            some (r81, r88)) fun (o96, o97) =>
        Option.bind (idxO s35 s34) fun x103 =>
        Option.bind (appO s35 ([w64 (x103 - o97)] : List Int)) fun l110 =>
        Option.bind (idxO s38 s34) fun x121 =>
        Option.bind (appO s38 ([w64 (x121 + o96)] : List Int)) fun l128 =>
        some (.inl (w64 (s34 + 1), l110, l128))
    else
      some (.inr (.inr (s35, s38)))
noncomputable def piece_Read_l2 (p0 : api_Chart) (r140 : (api_Chart × Int)) : Int → Option (Int ⊕ ((api_Piece × Int) ⊕ Unit)) := fun s0 => match s0 with
  | s155 =>
    if decide (s155 < (p0.Rows.length : Int)) then
      Option.bind (idxO p0.Rows s155) fun x164 =>
      Option.bind (α := Bool) (
        Option.bind (idxO r140.1.Rows s155) fun x177 =>
        if x164.Back != x177.Back then
          some true
        else
          Option.bind (F_stitch_Same x164.Cells x177.Cells) fun r197 =>
          some (!r197)) fun o174 =>
      if o174 then
        some (.inr (.inl ((api_Piece.mk ([] : (List Int)) ([] : (List Int))), 8)))
      else
        some (.inl (w64 (s155 + 1)))
    else
      some (.inr (.inr ()))
noncomputable def F_piece_Read (p0 : api_Chart) (p1 : Int) : Option (api_Piece × Int) :=
  Option.bind (α := Bool) (
    Option.bind (F_piece_column p1) fun r12 =>
    if !r12 then
      some true
    else
      if decide (p0.Start < 1) then
        some true
      else
        if decide (200 < p0.Start) then
          some true
        else
          some (decide (100 ≤ (p0.Rows.length : Int)))) fun o9 =>
  if o9 then
    some ((api_Piece.mk ([] : (List Int)) ([] : (List Int))), 8)
  else
    Option.bind (α := (List Int × List Int) ⊕ (api_Piece × Int)) (
      Option.bind (whileO (piece_Read_l1 p0) (0, ([p1] : List Int), ([w64 (p1 + p0.Start)] : List Int))) fun z0 => match z0 with
        | .inl z =>
          some (.inr z)
        | .inr (e44, e47) =>
          some (.inl (e44, e47))) fun z0 => match z0 with
      | .inl (o25, o28) =>
        Option.bind (F_piece_Chart (api_Piece.mk o25 o28)) fun r140 =>
        if r140.2 != 0 then
          some ((api_Piece.mk ([] : (List Int)) ([] : (List Int))), 8)
        else
          Option.bind (α := Unit ⊕ (api_Piece × Int)) (
            Option.bind (whileO (piece_Read_l2 p0 r140) 0) fun z0 => match z0 with
              | .inl z =>
                some (.inr z)
              | .inr _ =>
                some (.inl ())) fun z0 => match z0 with
            | .inl _ =>
              some ((api_Piece.mk o25 o28), 0)
            | .inr z =>
              some z
      | .inr z =>
        some z
def c_piece_Read_val (r : (api_Piece × Int)) (x : Value) : Value := .tuple #[x, .int .i64 r.2]
def c_piece_Read_D (r : (api_Piece × Int)) (x : Value) : List Fact := [fRep r_api_Piece x r.1]
set_option maxHeartbeats 4000000 in
set_option maxRecDepth 100000 in
theorem c_piece_Read (E : Nat → Prop) (w0 : World) (p0 : api_Chart) (v0 : Value) (p1 : Int) (r : (api_Piece × Int)) (h : F_piece_Read p0 p1 = some r) (S : St0 E [] w0 w0 [] [fRep r_api_Chart (v0) p0]) :
    Calls Tryd.prog 18 #[v0, iv p1] w0 (Ret (X := Value) E [] w0 (c_piece_Read_val r) (fun _ => []) (c_piece_Read_D r)) := by
  unfold F_piece_Read at h
  obtain ⟨u1, rfl, hu2⟩ := S.know (i := 0) (e := fRep r_api_Chart (v0) p0) rfl
  have S := S.learn (fRep (rL r_api_Row) u1 p0.Rows) hu2
  obtain ⟨ad3, cp4, _, rfl, _⟩ := hu2
  refine sEnter (args := [.agg #[iv p0.Start, .slice ad3 p0.Rows.length cp4], iv p1]) 143 Tryd.func18 rfl rfl (by simp) S (fun a S => ?_)
  refine sSeq (fun K5 hK5 => ?_)
  refine sRegion ?_
  refine sBox (v := .agg #[iv p0.Start, .slice ad3 p0.Rows.length cp4]) S (wN rfl) rfl rfl [iv p0.Start, .slice ad3 p0.Rows.length cp4] rfl rfl (lb rfl) fun a b6 w S => ?_
  refine sAlloc (.agg #[.slice none 0 0, .slice none 0 0]) S (wN rfl) rfl rfl [.slice none 0 0, .slice none 0 0] rfl rfl (lb rfl) fun a b7 w S => ?_
  refine sMove (iv 0) S (wN rfl) (.inr rfl) rfl rfl (lb rfl) fun a S => ?_
  refine leafL (leafT (hK5 _ _ ?_))
  refine sSeq (fun K8 hK8 => ?_)
  obtain ⟨t10, h, g11⟩ := bindSome h
  refine sCut (fun a w => ∃ o9, o9 = t10 ∧ St [] E [] w0 143 a w [(1, iv p1), (2, .pointer (some ⟨b6, 0, none⟩)), (4, .pointer (some ⟨b7, 0, none⟩)), (34, .bool o9)] [eBox b6 40 [iv p0.Start, .slice ad3 p0.Rows.length cp4], eBox b7 30 [.slice none 0 0, .slice none 0 0]] [fRep (rL r_api_Row) (.slice ad3 p0.Rows.length cp4) p0.Rows]) ?_ (fun a w hI => ?_)
  · refine sRegion ?_
    refine sMove (iv p1) S (wN rfl) (.inl rfl) rfl rfl (lb rfl) fun a S => ?_
    obtain ⟨r12, hx13, h⟩ := bindSome h
    have S1 := S.mem
    refine sCallQ (X := Unit) (f := 37) (vs := [iv p1]) (val := fun _ => .bool r12) S (wN rfl) rfl callee37 rfl (S1.quiet [] rfl) (fun E1 w1 S1 => c_piece_column E1 w1 p1 r12 hx13 S1) rfl (lb rfl) fun _ a w S => ?_
    refine sNot (b := r12) S (wN rfl) rfl rfl rfl (lb rfl) fun a S => ?_
    refine sMove (.bool (!r12)) S (wN rfl) (.inl rfl) rfl rfl (lb rfl) fun a S => ?_
    rcases iteSome h with ⟨hc14, h⟩ | ⟨hc14, h⟩
    · refine sSkip 3 false 19 20 S rfl rfl rfl hc14 rfl (lb rfl) fun a S => ?_
      refine sSkip 3 false 19 21 S rfl rfl rfl hc14 rfl (lb rfl) fun a S => ?_
      refine sSkip 3 false 19 22 S rfl rfl rfl hc14 rfl (lb rfl) fun a S => ?_
      refine sPickT (.bool true) S (wN rfl) rfl rfl hc14 rfl rfl (lb rfl) fun a S => ?_
      refine sMove (.bool true) S (wN rfl) (.inl rfl) rfl rfl (lb rfl) fun a S => ?_
      refine sSkip 8 false 24 25 S rfl rfl rfl rfl rfl (lb rfl) fun a S => ?_
      refine sSkip 8 false 24 26 S rfl rfl rfl rfl rfl (lb rfl) fun a S => ?_
      refine sSkip 8 false 24 27 S rfl rfl rfl rfl rfl (lb rfl) fun a S => ?_
      refine sPickT (.bool true) S (wN rfl) rfl rfl rfl rfl rfl (lb rfl) fun a S => ?_
      refine sMove (.bool true) S (wN rfl) (.inl rfl) rfl rfl (lb rfl) fun a S => ?_
      refine sSkip 13 false 29 30 S rfl rfl rfl rfl rfl (lb rfl) fun a S => ?_
      refine sSkip 13 false 29 31 S rfl rfl rfl rfl rfl (lb rfl) fun a S => ?_
      refine sSkip 13 false 29 32 S rfl rfl rfl rfl rfl (lb rfl) fun a S => ?_
      refine sSkip 13 false 29 33 S rfl rfl rfl rfl rfl (lb rfl) fun a S => ?_
      refine sPickT (.bool true) S (wN rfl) rfl rfl rfl rfl rfl (lb rfl) fun a S => ?_
      exact leafL (leafT (⟨true, Option.some.inj h, S.fix [1, 0] [0] (by decide) rfl rfl rfl⟩))
    refine sField (b := b6) (off := 0) 0 0 S (wG 3 false 19 rfl rfl rfl hc14) rfl rfl rfl rfl rfl (lb rfl) fun a S => ?_
    refine sLoad1 (p := b6) (off := 0) (T := 40) (vs := [iv p0.Start, .slice ad3 p0.Rows.length cp4]) 1 (iv p0.Start) S (wG 3 false 19 rfl rfl rfl hc14) rfl rfl rfl rfl rfl rfl (lb rfl) fun a S => ?_
    refine sBin (.bool (decide (p0.Start < 1))) S (wG 3 false 19 rfl rfl rfl hc14) rfl rfl rfl (bLt _ _ _ _ .i64 p0.Start 1) rfl (lb rfl) fun a S => ?_
    refine sPickF (.bool (decide (p0.Start < 1))) S (wN rfl) rfl rfl hc14 rfl rfl (lb rfl) fun a S => ?_
    refine sMove (.bool (decide (p0.Start < 1))) S (wN rfl) (.inl rfl) rfl rfl (lb rfl) fun a S => ?_
    rcases iteSome h with ⟨hc15, h⟩ | ⟨hc15, h⟩
    · refine sSkip 8 false 24 25 S rfl rfl rfl hc15 rfl (lb rfl) fun a S => ?_
      refine sSkip 8 false 24 26 S rfl rfl rfl hc15 rfl (lb rfl) fun a S => ?_
      refine sSkip 8 false 24 27 S rfl rfl rfl hc15 rfl (lb rfl) fun a S => ?_
      refine sPickT (.bool true) S (wN rfl) rfl rfl hc15 rfl rfl (lb rfl) fun a S => ?_
      refine sMove (.bool true) S (wN rfl) (.inl rfl) rfl rfl (lb rfl) fun a S => ?_
      refine sSkip 13 false 29 30 S rfl rfl rfl rfl rfl (lb rfl) fun a S => ?_
      refine sSkip 13 false 29 31 S rfl rfl rfl rfl rfl (lb rfl) fun a S => ?_
      refine sSkip 13 false 29 32 S rfl rfl rfl rfl rfl (lb rfl) fun a S => ?_
      refine sSkip 13 false 29 33 S rfl rfl rfl rfl rfl (lb rfl) fun a S => ?_
      refine sPickT (.bool true) S (wN rfl) rfl rfl rfl rfl rfl (lb rfl) fun a S => ?_
      exact leafL (leafT (⟨true, Option.some.inj h, S.fix [1, 0] [0] (by decide) rfl rfl rfl⟩))
    refine sField (b := b6) (off := 0) 0 0 S (wG 8 false 24 rfl rfl rfl hc15) rfl rfl rfl rfl rfl (lb rfl) fun a S => ?_
    refine sLoad1 (p := b6) (off := 0) (T := 40) (vs := [iv p0.Start, .slice ad3 p0.Rows.length cp4]) 1 (iv p0.Start) S (wG 8 false 24 rfl rfl rfl hc15) rfl rfl rfl rfl rfl rfl (lb rfl) fun a S => ?_
    refine sBin (.bool (decide (200 < p0.Start))) S (wG 8 false 24 rfl rfl rfl hc15) rfl rfl rfl (bGt _ _ _ _ .i64 p0.Start 200) rfl (lb rfl) fun a S => ?_
    refine sPickF (.bool (decide (200 < p0.Start))) S (wN rfl) rfl rfl hc15 rfl rfl (lb rfl) fun a S => ?_
    refine sMove (.bool (decide (200 < p0.Start))) S (wN rfl) (.inl rfl) rfl rfl (lb rfl) fun a S => ?_
    rcases iteSome h with ⟨hc16, h⟩ | ⟨hc16, h⟩
    · refine sSkip 13 false 29 30 S rfl rfl rfl hc16 rfl (lb rfl) fun a S => ?_
      refine sSkip 13 false 29 31 S rfl rfl rfl hc16 rfl (lb rfl) fun a S => ?_
      refine sSkip 13 false 29 32 S rfl rfl rfl hc16 rfl (lb rfl) fun a S => ?_
      refine sSkip 13 false 29 33 S rfl rfl rfl hc16 rfl (lb rfl) fun a S => ?_
      refine sPickT (.bool true) S (wN rfl) rfl rfl hc16 rfl rfl (lb rfl) fun a S => ?_
      exact leafL (leafT (⟨true, Option.some.inj h, S.fix [1, 0] [0] (by decide) rfl rfl rfl⟩))
    refine sField (b := b6) (off := 0) 1 1 S (wG 13 false 29 rfl rfl rfl hc16) rfl rfl rfl rfl rfl (lb rfl) fun a S => ?_
    refine sLoad1 (p := b6) (off := 1) (T := 40) (vs := [iv p0.Start, .slice ad3 p0.Rows.length cp4]) 1 (.slice ad3 p0.Rows.length cp4) S (wG 13 false 29 rfl rfl rfl hc16) rfl rfl rfl rfl rfl rfl (lb rfl) fun a S => ?_
    refine sLen (ad := ad3) (m := p0.Rows.length) (c := cp4) S (wG 13 false 29 rfl rfl rfl hc16) rfl Tryd.underlying38 rfl rfl (lb rfl) fun a S => ?_
    refine sBin (.bool (decide (100 ≤ (p0.Rows.length : Int)))) S (wG 13 false 29 rfl rfl rfl hc16) rfl rfl rfl (bGe _ _ _ _ .i64 (p0.Rows.length : Int) 100) rfl (lb rfl) fun a S => ?_
    refine sPickF (.bool (decide (100 ≤ (p0.Rows.length : Int)))) S (wN rfl) rfl rfl hc16 rfl rfl (lb rfl) fun a S => ?_
    exact leafL (leafT (⟨decide (100 ≤ (p0.Rows.length : Int)), Option.some.inj h, S.fix [1, 0] [0] (by decide) rfl rfl rfl⟩))
  obtain ⟨o9, rfl, S⟩ := hI
  have h := g11
  clear g11
  try dsimp only at h
  rcases iteSome h with ⟨hc17, h⟩ | ⟨hc17, h⟩
  · refine sCondT S rfl hc17 ?_
    refine sSeq (fun K18 hK18 => ?_)
    refine sRegion ?_
    refine sBuild [] [.slice none 0 0, .slice none 0 0] S (wN rfl) rfl rfl rfl rfl (lb rfl) fun a S => ?_
    refine sStore (p := b7) (off := 0) (T := 30) (vs := [.slice none 0 0, .slice none 0 0]) (v := .agg #[.slice none 0 0, .slice none 0 0]) 1 [.slice none 0 0, .slice none 0 0] S (wN rfl) rfl rfl rfl rfl rfl rfl rfl (by simp) rfl fun a w S => ?_
    refine sMove (iv 8) S (wN rfl) (.inr rfl) rfl rfl (lb rfl) fun a S => ?_
    refine leafL (leafT (hK18 _ _ ?_))
    obtain rfl := Option.some.inj h
    have S := S.learn (fRep (rL (rI .i64)) (.slice none 0 0) ([] : (List Int))) (rL_nil _ _ _)
    have S := S.learn (fRep r_api_Piece (.agg #[.slice none 0 0, .slice none 0 0]) (api_Piece.mk ([] : (List Int)) ([] : (List Int)))) ⟨_, _, rfl, S.mem.know (i := 0) (e := fRep (rL (rI .i64)) (.slice none 0 0) ([] : (List Int))) rfl, S.mem.know (i := 0) (e := fRep (rL (rI .i64)) (.slice none 0 0) ([] : (List Int))) rfl⟩
    exact wp_ret (rThen (sRet (.tuple #[.agg #[.slice none 0 0, .slice none 0 0], iv 8]) S (rsl2 rfl (rvN (c := 4) (t := 30) (T := 30) (p := b7) 0 [.slice none 0 0, .slice none 0 0] S rfl rfl rfl rfl) (rvT (t := 5) (v := iv 8) S rfl)) ⟨(.agg #[.slice none 0 0, .slice none 0 0]), rfl, S.mem.sel [] [0] (by decide) rfl rfl⟩))
  refine sCondF S rfl hc17 ?_
  refine wp_skip (leafT (hK8 _ _ ?_))
  refine sSeq (fun K19 hK19 => ?_)
  refine sRegion ?_
  refine sMove (iv p1) S (wN rfl) (.inl rfl) rfl rfl (lb rfl) fun a S => ?_
  refine sLit (r := (rI .i64)) (T := 3) (xs := ([p1] : List Int)) [(0, iv p1)] 1 [iv p1] [iv p1] (iv 0) 8 S (wN rfl) rfl rfl Tryd.underlying28 rfl (by decide) (by decide) (by kernel_rfl) rfl (fun E1 w1 hE => All.cons rfl (All.nil _ _ _)) rfl rfl (lb rfl) fun a w ad20 cp21 S => ?_
  refine sMove (iv p1) S (wN rfl) (.inl rfl) rfl rfl (lb rfl) fun a S => ?_
  refine sField (b := b6) (off := 0) 0 0 S (wN rfl) rfl rfl rfl rfl rfl (lb rfl) fun a S => ?_
  refine sLoad1 (p := b6) (off := 0) (T := 40) (vs := [iv p0.Start, .slice ad3 p0.Rows.length cp4]) 1 (iv p0.Start) S (wN rfl) rfl rfl rfl rfl rfl rfl (lb rfl) fun a S => ?_
  refine sBin (iv (w64 (p1 + p0.Start))) S (wN rfl) rfl rfl rfl (bAdd _ _ _ _ p1 p0.Start) rfl (lb rfl) fun a S => ?_
  refine sLit (r := (rI .i64)) (T := 3) (xs := ([w64 (p1 + p0.Start)] : List Int)) [(0, iv (w64 (p1 + p0.Start)))] 1 [iv (w64 (p1 + p0.Start))] [iv (w64 (p1 + p0.Start))] (iv 0) 8 S (wN rfl) rfl rfl Tryd.underlying28 rfl (by decide) (by decide) (by kernel_rfl) rfl (fun E1 w1 hE => All.cons rfl (All.nil _ _ _)) rfl rfl (lb rfl) fun a w ad22 cp23 S => ?_
  refine sBuild [(0, .slice ad20 ([p1] : List Int).length cp21), (1, .slice ad22 ([w64 (p1 + p0.Start)] : List Int).length cp23)] [.slice ad20 ([p1] : List Int).length cp21, .slice ad22 ([w64 (p1 + p0.Start)] : List Int).length cp23] S (wN rfl) rfl rfl rfl rfl (lb rfl) fun a S => ?_
  refine sAlloc (.agg #[.slice none 0 0, .slice none 0 0]) S (wN rfl) rfl rfl [.slice none 0 0, .slice none 0 0] rfl rfl (lb rfl) fun a b24 w S => ?_
  refine sStore (p := b24) (off := 0) (T := 30) (vs := [.slice none 0 0, .slice none 0 0]) (v := .agg #[.slice ad20 ([p1] : List Int).length cp21, .slice ad22 ([w64 (p1 + p0.Start)] : List Int).length cp23]) 0 [.slice ad20 ([p1] : List Int).length cp21, .slice ad22 ([w64 (p1 + p0.Start)] : List Int).length cp23] S (wN rfl) rfl rfl rfl rfl rfl rfl rfl (by simp) rfl fun a w S => ?_
  refine leafL (leafT (hK19 _ _ ?_))
  obtain ⟨t31, h, g32⟩ := bindSome h
  refine sCut (fun a w => ∃ o25, ∃ o28, .inl (o25, o28) = t31 ∧ ∃ ad26, ∃ cp27, ∃ ad29, ∃ cp30, St [] E [] w0 143 a w [(2, .pointer (some ⟨b6, 0, none⟩)), (4, .pointer (some ⟨b7, 0, none⟩)), (6, .pointer (some ⟨b24, 0, none⟩))] [eBox b6 40 [iv p0.Start, .slice ad3 p0.Rows.length cp4], eBox b7 30 [.slice none 0 0, .slice none 0 0], eBox b24 30 [.slice ad26 o25.length cp27, .slice ad29 o28.length cp30], eRow (rI .i64) 3 (.slice ad26 o25.length cp27) o25, eRow (rI .i64) 3 (.slice ad29 o28.length cp30) o28] [fRep (rL r_api_Row) (.slice ad3 p0.Rows.length cp4) p0.Rows]) ?_ (fun a w hI => ?_)
  rotate_left
  · obtain ⟨o25, o28, rfl, ad26, cp27, ad29, cp30, S⟩ := hI
    have h := g32
    clear g32
    try dsimp only at h
    refine sSeq (fun K139 hK139 => ?_)
    refine sRegion ?_
    refine sLoadN (p := b24) (off := 0) (T := 30) (vs := [.slice ad26 o25.length cp27, .slice ad29 o28.length cp30]) 2 [.slice ad26 o25.length cp27, .slice ad29 o28.length cp30] S (wN rfl) rfl rfl rfl rfl rfl rfl rfl (lb rfl) fun a S => ?_
    obtain ⟨r140, hx141, h⟩ := bindSome h
    have S := S.shutR (r := (rI .i64)) (T := 3) (v := .slice ad26 o25.length cp27) (xs := o25) 3 rfl
    have S := S.shutR (r := (rI .i64)) (T := 3) (v := .slice ad29 o28.length cp30) (xs := o28) 3 rfl
    have S := S.learn (fRep r_api_Piece (.agg #[.slice ad26 o25.length cp27, .slice ad29 o28.length cp30]) (api_Piece.mk o25 o28)) ⟨_, _, rfl, S.mem.know (i := 1) (e := fRep (rL (rI .i64)) (.slice ad26 o25.length cp27) o25) rfl, S.mem.know (i := 0) (e := fRep (rL (rI .i64)) (.slice ad29 o28.length cp30) o28) rfl⟩
    refine sCall (X := Value) (f := 17) (vs := [.agg #[.slice ad26 o25.length cp27, .slice ad29 o28.length cp30]]) (val := c_piece_Chart_val r140) (B' := fun _ => []) (D' := c_piece_Chart_D r140) [] [eBox b6 40 [iv p0.Start, .slice ad3 p0.Rows.length cp4], eBox b7 30 [.slice none 0 0, .slice none 0 0], eBox b24 30 [.slice ad26 o25.length cp27, .slice ad29 o28.length cp30]] [fRep r_api_Piece (.agg #[.slice ad26 o25.length cp27, .slice ad29 o28.length cp30]) (api_Piece.mk o25 o28)] [0, 1, 2] [0] S (wN rfl) rfl callee17 rfl (by decide) rfl rfl (fun E1 w1 S1 => c_piece_Chart E1 w1 (api_Piece.mk o25 o28) (.agg #[.slice ad26 o25.length cp27, .slice ad29 o28.length cp30]) r140 hx141 S1) rfl (lb rfl) fun u142 a w S => ?_
    obtain ⟨u143, rfl, hu144⟩ := S.mem.know (i := 0) (e := fRep r_api_Chart (u142) r140.1) rfl
    have S := S.learn (fRep (rL r_api_Row) u143 r140.1.Rows) hu144
    obtain ⟨ad145, cp146, _, rfl, _⟩ := hu144
    refine sMove (.tuple #[.agg #[iv r140.1.Start, .slice ad145 r140.1.Rows.length cp146], iv r140.2]) S (wN rfl) (.inl rfl) rfl rfl (lb rfl) fun a S => ?_
    refine sExtract (vs := [.agg #[iv r140.1.Start, .slice ad145 r140.1.Rows.length cp146], iv r140.2]) (.agg #[iv r140.1.Start, .slice ad145 r140.1.Rows.length cp146]) S (wN rfl) rfl rfl rfl rfl (lb rfl) fun a S => ?_
    refine sExtract (vs := [.agg #[iv r140.1.Start, .slice ad145 r140.1.Rows.length cp146], iv r140.2]) (iv r140.2) S (wN rfl) rfl rfl rfl rfl (lb rfl) fun a S => ?_
    refine sAlloc (.agg #[iv 0, .slice none 0 0]) S (wN rfl) rfl rfl [iv 0, .slice none 0 0] rfl rfl (lb rfl) fun a b147 w S => ?_
    refine sStore (p := b147) (off := 0) (T := 40) (vs := [iv 0, .slice none 0 0]) (v := .agg #[iv r140.1.Start, .slice ad145 r140.1.Rows.length cp146]) 0 [iv r140.1.Start, .slice ad145 r140.1.Rows.length cp146] S (wN rfl) rfl rfl rfl rfl rfl rfl rfl (by simp) rfl fun a w S => ?_
    refine sMove (iv r140.2) S (wN rfl) (.inr rfl) rfl rfl (lb rfl) fun a S => ?_
    refine leafL (leafT (hK139 _ _ ?_))
    refine sSeq (fun K148 hK148 => ?_)
    refine sSeq (fun K149 hK149 => ?_)
    refine sRegion ?_
    refine sMove (iv r140.2) S (wN rfl) (.inl rfl) rfl rfl (lb rfl) fun a S => ?_
    refine sBin (.bool (r140.2 != 0)) S (wN rfl) rfl rfl rfl (bNe _ _ _ _ .i64 r140.2 0) rfl (lb rfl) fun a S => ?_
    refine leafL (leafT (hK149 _ _ ?_))
    rcases iteSome h with ⟨hc150, h⟩ | ⟨hc150, h⟩
    · refine sCondT S rfl hc150 ?_
      refine sSeq (fun K151 hK151 => ?_)
      refine sRegion ?_
      refine sBuild [] [.slice none 0 0, .slice none 0 0] S (wN rfl) rfl rfl rfl rfl (lb rfl) fun a S => ?_
      refine sStore (p := b7) (off := 0) (T := 30) (vs := [.slice none 0 0, .slice none 0 0]) (v := .agg #[.slice none 0 0, .slice none 0 0]) 2 [.slice none 0 0, .slice none 0 0] S (wN rfl) rfl rfl rfl rfl rfl rfl rfl (by simp) rfl fun a w S => ?_
      refine sMove (iv 8) S (wN rfl) (.inr rfl) rfl rfl (lb rfl) fun a S => ?_
      refine leafL (leafT (hK151 _ _ ?_))
      obtain rfl := Option.some.inj h
      have S := S.learn (fRep (rL (rI .i64)) (.slice none 0 0) ([] : (List Int))) (rL_nil _ _ _)
      have S := S.learn (fRep r_api_Piece (.agg #[.slice none 0 0, .slice none 0 0]) (api_Piece.mk ([] : (List Int)) ([] : (List Int)))) ⟨_, _, rfl, S.mem.know (i := 0) (e := fRep (rL (rI .i64)) (.slice none 0 0) ([] : (List Int))) rfl, S.mem.know (i := 0) (e := fRep (rL (rI .i64)) (.slice none 0 0) ([] : (List Int))) rfl⟩
      exact wp_ret (rThen (sRet (.tuple #[.agg #[.slice none 0 0, .slice none 0 0], iv 8]) S (rsl2 rfl (rvN (c := 4) (t := 30) (T := 30) (p := b7) 0 [.slice none 0 0, .slice none 0 0] S rfl rfl rfl rfl) (rvT (t := 5) (v := iv 8) S rfl)) ⟨(.agg #[.slice none 0 0, .slice none 0 0]), rfl, S.mem.sel [] [0] (by decide) rfl rfl⟩))
    refine sCondF S rfl hc150 ?_
    refine wp_skip (leafT (hK148 _ _ ?_))
    obtain ⟨t152, h, g153⟩ := bindSome h
    refine sCut (fun a w => .inl () = t152 ∧ St [] E [] w0 143 a w [(4, .pointer (some ⟨b7, 0, none⟩)), (6, .pointer (some ⟨b24, 0, none⟩))] [eBox b7 30 [.slice none 0 0, .slice none 0 0], eBox b24 30 [.slice ad26 o25.length cp27, .slice ad29 o28.length cp30]] [fRep (rL (rI .i64)) (.slice ad26 o25.length cp27) o25, fRep (rL (rI .i64)) (.slice ad29 o28.length cp30) o28]) ?_ (fun a w hI => ?_)
    rotate_left
    · obtain ⟨rfl, S⟩ := hI
      have h := g153
      clear g153
      try dsimp only at h
      refine sSeq (fun K213 hK213 => ?_)
      refine sRegion ?_
      refine sLoadN (p := b24) (off := 0) (T := 30) (vs := [.slice ad26 o25.length cp27, .slice ad29 o28.length cp30]) 1 [.slice ad26 o25.length cp27, .slice ad29 o28.length cp30] S (wN rfl) rfl rfl rfl rfl rfl rfl rfl (lb rfl) fun a S => ?_
      refine sStore (p := b7) (off := 0) (T := 30) (vs := [.slice none 0 0, .slice none 0 0]) (v := .agg #[.slice ad26 o25.length cp27, .slice ad29 o28.length cp30]) 0 [.slice ad26 o25.length cp27, .slice ad29 o28.length cp30] S (wN rfl) rfl rfl rfl rfl rfl rfl rfl (by simp) rfl fun a w S => ?_
      refine sMove (iv 0) S (wN rfl) (.inr rfl) rfl rfl (lb rfl) fun a S => ?_
      refine leafL (leafT (hK213 _ _ ?_))
      obtain rfl := Option.some.inj h
      have S := S.learn (fRep r_api_Piece (.agg #[.slice ad26 o25.length cp27, .slice ad29 o28.length cp30]) (api_Piece.mk o25 o28)) ⟨_, _, rfl, S.mem.know (i := 0) (e := fRep (rL (rI .i64)) (.slice ad26 o25.length cp27) o25) rfl, S.mem.know (i := 1) (e := fRep (rL (rI .i64)) (.slice ad29 o28.length cp30) o28) rfl⟩
      exact wp_ret (sRet (.tuple #[.agg #[.slice ad26 o25.length cp27, .slice ad29 o28.length cp30], iv 0]) S (rsl2 rfl (rvN (c := 4) (t := 30) (T := 30) (p := b7) 0 [.slice ad26 o25.length cp27, .slice ad29 o28.length cp30] S rfl rfl rfl rfl) (rvT (t := 5) (v := iv 0) S rfl)) ⟨(.agg #[.slice ad26 o25.length cp27, .slice ad29 o28.length cp30]), rfl, S.mem.sel [] [0] (by decide) rfl rfl⟩)
    refine sSeq (fun K154 hK154 => ?_)
    refine sRegion ?_
    refine sField (b := b6) (off := 0) 1 1 S (wN rfl) rfl rfl rfl rfl rfl (lb rfl) fun a S => ?_
    refine sLoad1 (p := b6) (off := 1) (T := 40) (vs := [iv p0.Start, .slice ad3 p0.Rows.length cp4]) 1 (.slice ad3 p0.Rows.length cp4) S (wN rfl) rfl rfl rfl rfl rfl rfl (lb rfl) fun a S => ?_
    refine sLen (ad := ad3) (m := p0.Rows.length) (c := cp4) S (wN rfl) rfl Tryd.underlying38 rfl rfl (lb rfl) fun a S => ?_
    refine sMove (iv 0) S (wN rfl) (.inl rfl) rfl rfl (lb rfl) fun a S => ?_
    refine leafL (leafT (hK154 _ _ ?_))
    refine wp_block ?_
    obtain ⟨t158, hl, g157⟩ := bindSome h
    refine sLoop hl (fun s0 a w => match s0 with | s155 => St [] E [] w0 143 a w [(4, .pointer (some ⟨b7, 0, none⟩)), (6, .pointer (some ⟨b24, 0, none⟩)), (12, .pointer (some ⟨b147, 0, none⟩)), (112, .slice ad3 p0.Rows.length cp4), (113, iv (p0.Rows.length : Int)), (114, iv s155)] [eBox b7 30 [.slice none 0 0, .slice none 0 0], eBox b24 30 [.slice ad26 o25.length cp27, .slice ad29 o28.length cp30], eBox b147 40 [iv r140.1.Start, .slice ad145 r140.1.Rows.length cp146]] [fRep (rL r_api_Row) (.slice ad3 p0.Rows.length cp4) p0.Rows, fRep (rL (rI .i64)) (.slice ad26 o25.length cp27) o25, fRep (rL (rI .i64)) (.slice ad29 o28.length cp30) o28, fRep (rL r_api_Row) (.slice ad145 r140.1.Rows.length cp146) r140.1.Rows]) (S.fix [2, 3, 0] [5, 4, 3, 0] (by decide) rfl rfl rfl) ?_
    clear hl h
    intro s155 a w c0 hI h hu156
    unfold piece_Read_l2 at h
    dsimp only at h hI
    have S := hI
    refine sSeq (fun K159 hK159 => ?_)
    refine sRegion ?_
    refine sBin (.bool (decide (s155 < (p0.Rows.length : Int)))) S (wN rfl) rfl rfl rfl (bLt _ _ _ _ .i64 s155 (p0.Rows.length : Int)) rfl (lb rfl) fun a S => ?_
    refine leafL (leafT (hK159 _ _ ?_))
    refine sSeq (fun K160 hK160 => ?_)
    rcases iteSome h with ⟨hc161, h⟩ | ⟨hc161, h⟩
    rotate_left
    · refine sCondF S rfl hc161 ?_
      obtain rfl := Option.some.inj h
      obtain rfl := hu156 _ rfl
      have h := g157
      clear g157
      try dsimp only at h
      exact wp_exit (xThen (xThen (xHit (leafT (⟨Option.some.inj h, S.fix [0, 1] [1, 2] (by decide) rfl rfl rfl⟩)))))
    refine sCondT S rfl hc161 ?_
    refine wp_skip (leafT (hK160 _ _ ?_))
    refine sSeq (fun K162 hK162 => ?_)
    refine wp_block ?_
    refine sSeq (fun K163 hK163 => ?_)
    refine sRegion ?_
    refine sMove (iv s155) S (wN rfl) (.inl rfl) rfl rfl (lb rfl) fun a S => ?_
    obtain ⟨x164, hx165, h⟩ := bindSome h
    obtain ⟨q166, hq167, S⟩ := pIdx (P := Tryd.prog) (r := r_api_Row) (v := .slice ad3 p0.Rows.length cp4) (xs := p0.Rows) (j := s155) 38 54 0 S Tryd.underlying38 rfl rfl hx165
    refine sIdxV (v := .slice ad3 p0.Rows.length cp4) (k := .i64) (j := s155) S (wN rfl) rfl rfl rfl hq167 rfl (lb rfl) fun a S => ?_
    obtain ⟨u168, S⟩ := pLoad (r := r_api_Row) (q := q166) (x := x164) 0 S rfl
    obtain ⟨u169, rfl, hu170⟩ := S.mem.know (i := 1) (e := fRep r_api_Row (u168) x164) rfl
    have S := S.learn (fRep (rL r_api_Stitch) u169 x164.Cells) hu170
    obtain ⟨ad171, cp172, _, rfl, _⟩ := hu170
    refine sLoadVN (vq := q166) 1 [.bool x164.Back, .slice ad171 x164.Cells.length cp172] S (wN rfl) rfl rfl rfl rfl rfl rfl (lb rfl) fun a S => ?_
    refine sAlloc (.agg #[.bool false, .slice none 0 0]) S (wN rfl) rfl rfl [.bool false, .slice none 0 0] rfl rfl (lb rfl) fun a b173 w S => ?_
    refine sMove (iv s155) S (wN rfl) (.inr rfl) rfl rfl (lb rfl) fun a S => ?_
    refine sStore (p := b173) (off := 0) (T := 54) (vs := [.bool false, .slice none 0 0]) (v := .agg #[.bool x164.Back, .slice ad171 x164.Cells.length cp172]) 0 [.bool x164.Back, .slice ad171 x164.Cells.length cp172] S (wN rfl) rfl rfl rfl rfl rfl rfl rfl (by simp) rfl fun a w S => ?_
    refine leafL (leafT (hK163 _ _ ?_))
    obtain ⟨t175, h, g176⟩ := bindSome h
    refine sCut (fun a w => ∃ o174, o174 = t175 ∧ St [] E [] w0 143 a w [(4, .pointer (some ⟨b7, 0, none⟩)), (6, .pointer (some ⟨b24, 0, none⟩)), (12, .pointer (some ⟨b147, 0, none⟩)), (112, .slice ad3 p0.Rows.length cp4), (113, iv (p0.Rows.length : Int)), (114, iv s155), (139, .bool o174)] [eBox b7 30 [.slice none 0 0, .slice none 0 0], eBox b24 30 [.slice ad26 o25.length cp27, .slice ad29 o28.length cp30], eBox b147 40 [iv r140.1.Start, .slice ad145 r140.1.Rows.length cp146]] [fRep (rL r_api_Row) (.slice ad3 p0.Rows.length cp4) p0.Rows, fRep (rL (rI .i64)) (.slice ad26 o25.length cp27) o25, fRep (rL (rI .i64)) (.slice ad29 o28.length cp30) o28, fRep (rL r_api_Row) (.slice ad145 r140.1.Rows.length cp146) r140.1.Rows]) ?_ (fun a w hI => ?_)
    rotate_left
    · obtain ⟨o174, rfl, S⟩ := hI
      have h := g176
      clear g176
      try dsimp only at h
      rcases iteSome h with ⟨hc211, h⟩ | ⟨hc211, h⟩
      rotate_left
      · refine sCondF S rfl hc211 ?_
        refine wp_skip (leafB (leafT (hK162 _ _ ?_)))
        refine sRegion ?_
        refine sBin (iv (w64 (s155 + 1))) S (wN rfl) rfl rfl rfl (bAdd _ _ _ _ s155 1) rfl (lb rfl) fun a S => ?_
        refine sMove (iv (w64 (s155 + 1))) S (wN rfl) (.inl rfl) rfl rfl (lb rfl) fun a S => ?_
        exact leafL (leafT (⟨w64 (s155 + 1), (Option.some.inj h).symm, (S.fix [0, 1, 2] [0, 1, 2, 3] (by decide) rfl rfl rfl)⟩))
      refine sCondT S rfl hc211 ?_
      refine sSeq (fun K212 hK212 => ?_)
      refine sRegion ?_
      refine sBuild [] [.slice none 0 0, .slice none 0 0] S (wN rfl) rfl rfl rfl rfl (lb rfl) fun a S => ?_
      refine sStore (p := b7) (off := 0) (T := 30) (vs := [.slice none 0 0, .slice none 0 0]) (v := .agg #[.slice none 0 0, .slice none 0 0]) 0 [.slice none 0 0, .slice none 0 0] S (wN rfl) rfl rfl rfl rfl rfl rfl rfl (by simp) rfl fun a w S => ?_
      refine sMove (iv 8) S (wN rfl) (.inr rfl) rfl rfl (lb rfl) fun a S => ?_
      refine leafL (leafT (hK212 _ _ ?_))
      obtain rfl := Option.some.inj h
      obtain rfl := hu156 _ rfl
      have h := g157
      clear g157
      try dsimp only at h
      obtain rfl := Option.some.inj h
      have h := g153
      clear g153
      try dsimp only at h
      obtain rfl := Option.some.inj h
      have S := S.learn (fRep (rL (rI .i64)) (.slice none 0 0) ([] : (List Int))) (rL_nil _ _ _)
      have S := S.learn (fRep r_api_Piece (.agg #[.slice none 0 0, .slice none 0 0]) (api_Piece.mk ([] : (List Int)) ([] : (List Int)))) ⟨_, _, rfl, S.mem.know (i := 0) (e := fRep (rL (rI .i64)) (.slice none 0 0) ([] : (List Int))) rfl, S.mem.know (i := 0) (e := fRep (rL (rI .i64)) (.slice none 0 0) ([] : (List Int))) rfl⟩
      exact wp_ret (rBlock (rThen (rThen (rBlock (rThen (sRet (.tuple #[.agg #[.slice none 0 0, .slice none 0 0], iv 8]) S (rsl2 rfl (rvN (c := 4) (t := 30) (T := 30) (p := b7) 0 [.slice none 0 0, .slice none 0 0] S rfl rfl rfl rfl) (rvT (t := 5) (v := iv 8) S rfl)) ⟨(.agg #[.slice none 0 0, .slice none 0 0]), rfl, S.mem.sel [] [0] (by decide) rfl rfl⟩))))))
    obtain ⟨x177, hx178, h⟩ := bindSome h
    rcases iteSome h with ⟨hc184, h⟩ | ⟨hc184, h⟩
    · obtain ⟨q185, hq186, S⟩ := pIdx (P := Tryd.prog) (r := r_api_Row) (v := .slice ad145 r140.1.Rows.length cp146) (xs := r140.1.Rows) (j := s155) 38 54 7 S Tryd.underlying38 rfl rfl hx178
      obtain ⟨q187, hq188, S⟩ := pFld (P := Tryd.prog) (r := r_api_Row) (s2 := rB) (g := (·.Back)) (q := q185) (z := x177) 54 0 0 0 S rfl rfl comp_api_Row_Back
      obtain ⟨u189, S⟩ := pLoad (r := rB) (q := q187) (x := x177.Back) 0 S rfl
      obtain rfl : u189 = .bool x177.Back := S.mem.know (i := 1) (e := fRep rB (u189) x177.Back) rfl
      refine sDraw (nf := []) (W := [(0, 119, .pointer (some ⟨b173, 0, none⟩)), (1, 120, .bool x164.Back), (2, 121, .pointer (some ⟨b147, 1, none⟩)), (3, 122, .slice ad145 r140.1.Rows.length cp146), (4, 123, iv s155), (5, 124, q185), (6, 125, q187), (7, 126, .bool x177.Back), (8, 127, .bool (x164.Back != x177.Back)), (9, 128, .bool (x164.Back != x177.Back)), (10, 129, undef), (11, 130, undef), (12, 131, undef), (13, 132, undef), (14, 133, undef), (15, 134, undef), (16, 135, undef), (17, 136, undef), (18, 137, undef), (19, 138, undef), (20, 139, .bool true)]) rfl S ?_
      refine node_by (A := anc_piece_Read_2) (nf := []) (Y := []) (W := [(0, 119, .pointer (some ⟨b173, 0, none⟩)), (1, 120, .bool x164.Back), (2, 121, .pointer (some ⟨b147, 1, none⟩)), (3, 122, .slice ad145 r140.1.Rows.length cp146), (4, 123, iv s155), (5, 124, q185), (6, 125, q187), (7, 126, .bool x177.Back), (8, 127, .bool (x164.Back != x177.Back)), (9, 128, .bool (x164.Back != x177.Back)), (10, 129, undef), (11, 130, undef), (12, 131, undef), (13, 132, undef), (14, 133, undef), (15, 134, undef), (16, 135, undef), (17, 136, undef), (18, 137, undef), (19, 138, undef), (20, 139, .bool true)]) 21 (by kernel_rfl) (by kernel_rfl) (by kernel_rfl) (by kernel_rfl) (by kernel_rfl) [0, 1, 2, 3, 4, 5, 6, 7, 8, 9, 10, 11, 12, 13, 14, 15, 16, 17, 18, 19, 20] (by kernel_rfl) (by decide) (by decide) (aF 0 20 (by decide) ?_ (aF 1 19 (by decide) ?_ (aF 2 18 (by decide) ?_ (aF 3 17 (by decide) ?_ (aF 4 16 (by decide) ?_ (aF 5 15 (by decide) ?_ (aF 6 14 (by decide) ?_ (aF 7 13 (by decide) ?_ (aF 8 12 (by decide) ?_ (aF 9 11 (by decide) ?_ (aF 10 10 (by decide) ?_ (aF 11 9 (by decide) ?_ (aF 12 8 (by decide) ?_ (aF 13 7 (by decide) ?_ (aF 14 6 (by decide) ?_ (aF 15 5 (by decide) ?_ (aF 16 4 (by decide) ?_ (aF 17 3 (by decide) ?_ (aF 18 2 (by decide) ?_ (aF 19 1 (by decide) ?_ (aF 20 0 (by decide) ?_ (trivial)))))))))))))))))))))) [(4, .pointer (some ⟨b7, 0, none⟩)), (6, .pointer (some ⟨b24, 0, none⟩)), (12, .pointer (some ⟨b147, 0, none⟩)), (112, .slice ad3 p0.Rows.length cp4), (113, iv (p0.Rows.length : Int)), (114, iv s155), (129, undef), (130, undef), (131, undef), (132, undef), (133, undef), (134, undef), (135, undef), (136, undef), (137, undef), (138, undef), (139, .bool true)] (fin_of [none, none, none, none, none, none, some 10, some 11, some 12, some 13, some 14, some 15, some 16, some 17, some 18, some 19, some 20] rfl (by kernel_rfl) (by kernel_rfl)) (fun _ a w S => ?_)
      · refine fI 119 (.pointer (some ⟨b173, 0, none⟩)) [(15, .pointer (some ⟨b173, 0, none⟩))] 0 [none] rfl rfl rfl rfl rfl rfl fun G a w S => ?_
        refine sField (b := b173) (off := 0) 0 0 S (wN rfl) rfl rfl rfl rfl rfl (lb rfl) fun a S => ?_
        exact leafL ⟨rfl, S⟩
      · refine fI 120 (.bool x164.Back) [(119, .pointer (some ⟨b173, 0, none⟩))] 1 [some 0] rfl rfl rfl rfl rfl rfl fun G a w S => ?_
        refine sLoad1 (p := b173) (off := 0) (T := 54) (vs := [.bool x164.Back, .slice ad171 x164.Cells.length cp172]) 0 (.bool x164.Back) S (wN rfl) rfl rfl rfl rfl rfl rfl (lb rfl) fun a S => ?_
        exact leafL ⟨rfl, S⟩
      · refine fI 121 (.pointer (some ⟨b147, 1, none⟩)) [(12, .pointer (some ⟨b147, 0, none⟩))] 2 [none] rfl rfl rfl rfl rfl rfl fun G a w S => ?_
        refine sField (b := b147) (off := 0) 1 1 S (wN rfl) rfl rfl rfl rfl rfl (lb rfl) fun a S => ?_
        exact leafL ⟨rfl, S⟩
      · refine fI 122 (.slice ad145 r140.1.Rows.length cp146) [(121, .pointer (some ⟨b147, 1, none⟩))] 3 [some 2] rfl rfl rfl rfl rfl rfl fun G a w S => ?_
        refine sLoad1 (p := b147) (off := 1) (T := 40) (vs := [iv r140.1.Start, .slice ad145 r140.1.Rows.length cp146]) 3 (.slice ad145 r140.1.Rows.length cp146) S (wN rfl) rfl rfl rfl rfl rfl rfl (lb rfl) fun a S => ?_
        exact leafL ⟨rfl, S⟩
      · refine fI 123 (iv s155) [(14, iv s155)] 4 [none] rfl rfl rfl rfl rfl rfl fun G a w S => ?_
        refine sMove (iv s155) S (wN rfl) (.inl rfl) rfl rfl (lb rfl) fun a S => ?_
        exact leafL ⟨rfl, S⟩
      · refine fI 124 q185 [(122, .slice ad145 r140.1.Rows.length cp146), (123, iv s155)] 5 [some 3, some 4] rfl rfl rfl rfl rfl rfl fun G a w S => ?_
        refine sIdxV (v := .slice ad145 r140.1.Rows.length cp146) (k := .i64) (j := s155) S (wN rfl) rfl rfl rfl hq186 rfl (lb rfl) fun a S => ?_
        exact leafL ⟨rfl, S⟩
      · refine fI 125 q187 [(124, q185)] 6 [some 5] rfl rfl rfl rfl rfl rfl fun G a w S => ?_
        refine sFldV (q := q185) S (wN rfl) rfl rfl hq188 rfl (lb rfl) fun a S => ?_
        exact leafL ⟨rfl, S⟩
      · refine fI 126 (.bool x177.Back) [(125, q187)] 7 [some 6] rfl rfl rfl rfl rfl rfl fun G a w S => ?_
        refine sLoadV1 (vq := q187) 0 (.bool x177.Back) S (wN rfl) rfl rfl rfl rfl rfl (lb rfl) fun a S => ?_
        exact leafL ⟨rfl, S⟩
      · refine fI 127 (.bool (x164.Back != x177.Back)) [(120, .bool x164.Back), (126, .bool x177.Back)] 8 [some 1, some 7] rfl rfl rfl rfl rfl rfl fun G a w S => ?_
        refine sBin (.bool (x164.Back != x177.Back)) S (wN rfl) rfl rfl rfl (bNeB _ _ _ _ Tryd.underlying4 x164.Back x177.Back) rfl (lb rfl) fun a S => ?_
        exact leafL ⟨rfl, S⟩
      · refine fI 128 (.bool (x164.Back != x177.Back)) [(127, .bool (x164.Back != x177.Back))] 9 [some 8] rfl rfl rfl rfl rfl rfl fun G a w S => ?_
        refine sMove (.bool (x164.Back != x177.Back)) S (wN rfl) (.inl rfl) rfl rfl (lb rfl) fun a S => ?_
        exact leafL ⟨rfl, S⟩
      · refine fI 129 undef [(15, .pointer (some ⟨b173, 0, none⟩)), (128, .bool (x164.Back != x177.Back))] 10 [none, some 9] rfl rfl rfl rfl rfl rfl fun G a w S => ?_
        refine sSkip 9 false 128 129 S rfl rfl rfl hc184 rfl (lb rfl) fun a S => ?_
        exact leafL ⟨rfl, S⟩
      · refine fI 130 undef [(129, undef), (128, .bool (x164.Back != x177.Back))] 11 [some 10, some 9] rfl rfl rfl rfl rfl rfl fun G a w S => ?_
        refine sSkip 9 false 128 130 S rfl rfl rfl hc184 rfl (lb rfl) fun a S => ?_
        exact leafL ⟨rfl, S⟩
      · refine fI 131 undef [(12, .pointer (some ⟨b147, 0, none⟩)), (128, .bool (x164.Back != x177.Back))] 12 [none, some 9] rfl rfl rfl rfl rfl rfl fun G a w S => ?_
        refine sSkip 9 false 128 131 S rfl rfl rfl hc184 rfl (lb rfl) fun a S => ?_
        exact leafL ⟨rfl, S⟩
      · refine fI 132 undef [(131, undef), (128, .bool (x164.Back != x177.Back))] 13 [some 12, some 9] rfl rfl rfl rfl rfl rfl fun G a w S => ?_
        refine sSkip 9 false 128 132 S rfl rfl rfl hc184 rfl (lb rfl) fun a S => ?_
        exact leafL ⟨rfl, S⟩
      · refine fI 133 undef [(14, iv s155), (128, .bool (x164.Back != x177.Back))] 14 [none, some 9] rfl rfl rfl rfl rfl rfl fun G a w S => ?_
        refine sSkip 9 false 128 133 S rfl rfl rfl hc184 rfl (lb rfl) fun a S => ?_
        exact leafL ⟨rfl, S⟩
      · refine fI 134 undef [(132, undef), (133, undef), (128, .bool (x164.Back != x177.Back))] 15 [some 13, some 14, some 9] rfl rfl rfl rfl rfl rfl fun G a w S => ?_
        refine sSkip 9 false 128 134 S rfl rfl rfl hc184 rfl (lb rfl) fun a S => ?_
        exact leafL ⟨rfl, S⟩
      · refine fI 135 undef [(134, undef), (128, .bool (x164.Back != x177.Back))] 16 [some 15, some 9] rfl rfl rfl rfl rfl rfl fun G a w S => ?_
        refine sSkip 9 false 128 135 S rfl rfl rfl hc184 rfl (lb rfl) fun a S => ?_
        exact leafL ⟨rfl, S⟩
      · refine fI 136 undef [(135, undef), (128, .bool (x164.Back != x177.Back))] 17 [some 16, some 9] rfl rfl rfl rfl rfl rfl fun G a w S => ?_
        refine sSkip 9 false 128 136 S rfl rfl rfl hc184 rfl (lb rfl) fun a S => ?_
        exact leafL ⟨rfl, S⟩
      · refine fI 137 undef [(130, undef), (136, undef), (128, .bool (x164.Back != x177.Back))] 18 [some 11, some 17, some 9] rfl rfl rfl rfl rfl rfl fun G a w S => ?_
        refine sSkip 9 false 128 137 S rfl rfl rfl hc184 rfl (lb rfl) fun a S => ?_
        exact leafL ⟨rfl, S⟩
      · refine fI 138 undef [(137, undef), (128, .bool (x164.Back != x177.Back))] 19 [some 18, some 9] rfl rfl rfl rfl rfl rfl fun G a w S => ?_
        refine sSkip 9 false 128 138 S rfl rfl rfl hc184 rfl (lb rfl) fun a S => ?_
        exact leafL ⟨rfl, S⟩
      · refine fI 139 (.bool true) [(128, .bool (x164.Back != x177.Back)), (138, undef)] 20 [some 9, some 19] rfl rfl rfl rfl rfl rfl fun G a w S => ?_
        refine sPickT (.bool true) S (wN rfl) rfl rfl hc184 rfl rfl (lb rfl) fun a S => ?_
        exact leafL ⟨rfl, S⟩
      exact leafT (⟨true, Option.some.inj h, S.fix [1, 2, 3] [8, 9, 10, 11] (by decide) rfl rfl rfl⟩)
    obtain ⟨r197, hx198, h⟩ := bindSome h
    obtain ⟨q199, hq200, S⟩ := pIdx (P := Tryd.prog) (r := r_api_Row) (v := .slice ad145 r140.1.Rows.length cp146) (xs := r140.1.Rows) (j := s155) 38 54 7 S Tryd.underlying38 rfl rfl hx178
    obtain ⟨q201, hq202, S⟩ := pFld (P := Tryd.prog) (r := r_api_Row) (s2 := rB) (g := (·.Back)) (q := q199) (z := x177) 54 0 0 0 S rfl rfl comp_api_Row_Back
    obtain ⟨u203, S⟩ := pLoad (r := rB) (q := q201) (x := x177.Back) 0 S rfl
    obtain rfl : u203 = .bool x177.Back := S.mem.know (i := 1) (e := fRep rB (u203) x177.Back) rfl
    obtain ⟨q204, hq205, S⟩ := pIdx (P := Tryd.prog) (r := r_api_Row) (v := .slice ad145 r140.1.Rows.length cp146) (xs := r140.1.Rows) (j := s155) 38 54 11 S Tryd.underlying38 rfl rfl hx178
    obtain ⟨q206, hq207, S⟩ := pFld (P := Tryd.prog) (r := r_api_Row) (s2 := (rL r_api_Stitch)) (g := (·.Cells)) (q := q204) (z := x177) 54 1 0 1 S rfl rfl comp_api_Row_Cells
    obtain ⟨u208, S⟩ := pLoad (r := (rL r_api_Stitch)) (q := q206) (x := x177.Cells) 0 S rfl
    obtain ⟨ad209, cp210, _, rfl, _⟩ := S.mem.know (i := 1) (e := fRep (rL r_api_Stitch) (u208) x177.Cells) rfl
    refine sDraw (nf := []) (W := [(0, 119, .pointer (some ⟨b173, 0, none⟩)), (1, 120, .bool x164.Back), (2, 121, .pointer (some ⟨b147, 1, none⟩)), (3, 122, .slice ad145 r140.1.Rows.length cp146), (4, 123, iv s155), (5, 124, q199), (6, 125, q201), (7, 126, .bool x177.Back), (8, 127, .bool (x164.Back != x177.Back)), (9, 128, .bool (x164.Back != x177.Back)), (10, 129, .pointer (some ⟨b173, 1, none⟩)), (11, 130, .slice ad171 x164.Cells.length cp172), (12, 131, .pointer (some ⟨b147, 1, none⟩)), (13, 132, .slice ad145 r140.1.Rows.length cp146), (14, 133, iv s155), (15, 134, q204), (16, 135, q206), (17, 136, .slice ad209 x177.Cells.length cp210), (18, 137, .bool r197), (19, 138, .bool (!r197)), (20, 139, .bool (!r197))]) rfl S ?_
    refine node_by (A := anc_piece_Read_2) (nf := []) (Y := []) (W := [(0, 119, .pointer (some ⟨b173, 0, none⟩)), (1, 120, .bool x164.Back), (2, 121, .pointer (some ⟨b147, 1, none⟩)), (3, 122, .slice ad145 r140.1.Rows.length cp146), (4, 123, iv s155), (5, 124, q199), (6, 125, q201), (7, 126, .bool x177.Back), (8, 127, .bool (x164.Back != x177.Back)), (9, 128, .bool (x164.Back != x177.Back)), (10, 129, .pointer (some ⟨b173, 1, none⟩)), (11, 130, .slice ad171 x164.Cells.length cp172), (12, 131, .pointer (some ⟨b147, 1, none⟩)), (13, 132, .slice ad145 r140.1.Rows.length cp146), (14, 133, iv s155), (15, 134, q204), (16, 135, q206), (17, 136, .slice ad209 x177.Cells.length cp210), (18, 137, .bool r197), (19, 138, .bool (!r197)), (20, 139, .bool (!r197))]) 21 (by kernel_rfl) (by kernel_rfl) (by kernel_rfl) (by kernel_rfl) (by kernel_rfl) [0, 1, 2, 3, 4, 5, 6, 7, 8, 9, 10, 11, 12, 13, 14, 15, 16, 17, 18, 19, 20] (by kernel_rfl) (by decide) (by decide) (aF 0 20 (by decide) ?_ (aF 1 19 (by decide) ?_ (aF 2 18 (by decide) ?_ (aF 3 17 (by decide) ?_ (aF 4 16 (by decide) ?_ (aF 5 15 (by decide) ?_ (aF 6 14 (by decide) ?_ (aF 7 13 (by decide) ?_ (aF 8 12 (by decide) ?_ (aF 9 11 (by decide) ?_ (aF 10 10 (by decide) ?_ (aF 11 9 (by decide) ?_ (aF 12 8 (by decide) ?_ (aF 13 7 (by decide) ?_ (aF 14 6 (by decide) ?_ (aF 15 5 (by decide) ?_ (aF 16 4 (by decide) ?_ (aF 17 3 (by decide) ?_ (aF 18 2 (by decide) ?_ (aF 19 1 (by decide) ?_ (aF 20 0 (by decide) ?_ (trivial)))))))))))))))))))))) [(4, .pointer (some ⟨b7, 0, none⟩)), (6, .pointer (some ⟨b24, 0, none⟩)), (12, .pointer (some ⟨b147, 0, none⟩)), (112, .slice ad3 p0.Rows.length cp4), (113, iv (p0.Rows.length : Int)), (114, iv s155), (129, .pointer (some ⟨b173, 1, none⟩)), (130, .slice ad171 x164.Cells.length cp172), (131, .pointer (some ⟨b147, 1, none⟩)), (132, .slice ad145 r140.1.Rows.length cp146), (133, iv s155), (134, q204), (135, q206), (136, .slice ad209 x177.Cells.length cp210), (137, .bool r197), (138, .bool (!r197)), (139, .bool (!r197))] (fin_of [none, none, none, none, none, none, some 10, some 11, some 12, some 13, some 14, some 15, some 16, some 17, some 18, some 19, some 20] rfl (by kernel_rfl) (by kernel_rfl)) (fun _ a w S => ?_)
    · refine fI 119 (.pointer (some ⟨b173, 0, none⟩)) [(15, .pointer (some ⟨b173, 0, none⟩))] 0 [none] rfl rfl rfl rfl rfl rfl fun G a w S => ?_
      refine sField (b := b173) (off := 0) 0 0 S (wN rfl) rfl rfl rfl rfl rfl (lb rfl) fun a S => ?_
      exact leafL ⟨rfl, S⟩
    · refine fI 120 (.bool x164.Back) [(119, .pointer (some ⟨b173, 0, none⟩))] 1 [some 0] rfl rfl rfl rfl rfl rfl fun G a w S => ?_
      refine sLoad1 (p := b173) (off := 0) (T := 54) (vs := [.bool x164.Back, .slice ad171 x164.Cells.length cp172]) 0 (.bool x164.Back) S (wN rfl) rfl rfl rfl rfl rfl rfl (lb rfl) fun a S => ?_
      exact leafL ⟨rfl, S⟩
    · refine fI 121 (.pointer (some ⟨b147, 1, none⟩)) [(12, .pointer (some ⟨b147, 0, none⟩))] 2 [none] rfl rfl rfl rfl rfl rfl fun G a w S => ?_
      refine sField (b := b147) (off := 0) 1 1 S (wN rfl) rfl rfl rfl rfl rfl (lb rfl) fun a S => ?_
      exact leafL ⟨rfl, S⟩
    · refine fI 122 (.slice ad145 r140.1.Rows.length cp146) [(121, .pointer (some ⟨b147, 1, none⟩))] 3 [some 2] rfl rfl rfl rfl rfl rfl fun G a w S => ?_
      refine sLoad1 (p := b147) (off := 1) (T := 40) (vs := [iv r140.1.Start, .slice ad145 r140.1.Rows.length cp146]) 3 (.slice ad145 r140.1.Rows.length cp146) S (wN rfl) rfl rfl rfl rfl rfl rfl (lb rfl) fun a S => ?_
      exact leafL ⟨rfl, S⟩
    · refine fI 123 (iv s155) [(14, iv s155)] 4 [none] rfl rfl rfl rfl rfl rfl fun G a w S => ?_
      refine sMove (iv s155) S (wN rfl) (.inl rfl) rfl rfl (lb rfl) fun a S => ?_
      exact leafL ⟨rfl, S⟩
    · refine fI 124 q199 [(122, .slice ad145 r140.1.Rows.length cp146), (123, iv s155)] 5 [some 3, some 4] rfl rfl rfl rfl rfl rfl fun G a w S => ?_
      refine sIdxV (v := .slice ad145 r140.1.Rows.length cp146) (k := .i64) (j := s155) S (wN rfl) rfl rfl rfl hq200 rfl (lb rfl) fun a S => ?_
      exact leafL ⟨rfl, S⟩
    · refine fI 125 q201 [(124, q199)] 6 [some 5] rfl rfl rfl rfl rfl rfl fun G a w S => ?_
      refine sFldV (q := q199) S (wN rfl) rfl rfl hq202 rfl (lb rfl) fun a S => ?_
      exact leafL ⟨rfl, S⟩
    · refine fI 126 (.bool x177.Back) [(125, q201)] 7 [some 6] rfl rfl rfl rfl rfl rfl fun G a w S => ?_
      refine sLoadV1 (vq := q201) 4 (.bool x177.Back) S (wN rfl) rfl rfl rfl rfl rfl (lb rfl) fun a S => ?_
      exact leafL ⟨rfl, S⟩
    · refine fI 127 (.bool (x164.Back != x177.Back)) [(120, .bool x164.Back), (126, .bool x177.Back)] 8 [some 1, some 7] rfl rfl rfl rfl rfl rfl fun G a w S => ?_
      refine sBin (.bool (x164.Back != x177.Back)) S (wN rfl) rfl rfl rfl (bNeB _ _ _ _ Tryd.underlying4 x164.Back x177.Back) rfl (lb rfl) fun a S => ?_
      exact leafL ⟨rfl, S⟩
    · refine fI 128 (.bool (x164.Back != x177.Back)) [(127, .bool (x164.Back != x177.Back))] 9 [some 8] rfl rfl rfl rfl rfl rfl fun G a w S => ?_
      refine sMove (.bool (x164.Back != x177.Back)) S (wN rfl) (.inl rfl) rfl rfl (lb rfl) fun a S => ?_
      exact leafL ⟨rfl, S⟩
    · refine fI 129 (.pointer (some ⟨b173, 1, none⟩)) [(15, .pointer (some ⟨b173, 0, none⟩)), (128, .bool (x164.Back != x177.Back))] 10 [none, some 9] rfl rfl rfl rfl rfl rfl fun G a w S => ?_
      refine sField (b := b173) (off := 0) 1 1 S (wG 9 false 128 rfl rfl rfl hc184) rfl rfl rfl rfl rfl (lb rfl) fun a S => ?_
      exact leafL ⟨rfl, S⟩
    · refine fI 130 (.slice ad171 x164.Cells.length cp172) [(129, .pointer (some ⟨b173, 1, none⟩)), (128, .bool (x164.Back != x177.Back))] 11 [some 10, some 9] rfl rfl rfl rfl rfl rfl fun G a w S => ?_
      refine sLoad1 (p := b173) (off := 1) (T := 54) (vs := [.bool x164.Back, .slice ad171 x164.Cells.length cp172]) 0 (.slice ad171 x164.Cells.length cp172) S (wG 9 false 128 rfl rfl rfl hc184) rfl rfl rfl rfl rfl rfl (lb rfl) fun a S => ?_
      exact leafL ⟨rfl, S⟩
    · refine fI 131 (.pointer (some ⟨b147, 1, none⟩)) [(12, .pointer (some ⟨b147, 0, none⟩)), (128, .bool (x164.Back != x177.Back))] 12 [none, some 9] rfl rfl rfl rfl rfl rfl fun G a w S => ?_
      refine sField (b := b147) (off := 0) 1 1 S (wG 9 false 128 rfl rfl rfl hc184) rfl rfl rfl rfl rfl (lb rfl) fun a S => ?_
      exact leafL ⟨rfl, S⟩
    · refine fI 132 (.slice ad145 r140.1.Rows.length cp146) [(131, .pointer (some ⟨b147, 1, none⟩)), (128, .bool (x164.Back != x177.Back))] 13 [some 12, some 9] rfl rfl rfl rfl rfl rfl fun G a w S => ?_
      refine sLoad1 (p := b147) (off := 1) (T := 40) (vs := [iv r140.1.Start, .slice ad145 r140.1.Rows.length cp146]) 3 (.slice ad145 r140.1.Rows.length cp146) S (wG 9 false 128 rfl rfl rfl hc184) rfl rfl rfl rfl rfl rfl (lb rfl) fun a S => ?_
      exact leafL ⟨rfl, S⟩
    · refine fI 133 (iv s155) [(14, iv s155), (128, .bool (x164.Back != x177.Back))] 14 [none, some 9] rfl rfl rfl rfl rfl rfl fun G a w S => ?_
      refine sMove (iv s155) S (wG 9 false 128 rfl rfl rfl hc184) (.inl rfl) rfl rfl (lb rfl) fun a S => ?_
      exact leafL ⟨rfl, S⟩
    · refine fI 134 q204 [(132, .slice ad145 r140.1.Rows.length cp146), (133, iv s155), (128, .bool (x164.Back != x177.Back))] 15 [some 13, some 14, some 9] rfl rfl rfl rfl rfl rfl fun G a w S => ?_
      refine sIdxV (v := .slice ad145 r140.1.Rows.length cp146) (k := .i64) (j := s155) S (wG 9 false 128 rfl rfl rfl hc184) rfl rfl rfl hq205 rfl (lb rfl) fun a S => ?_
      exact leafL ⟨rfl, S⟩
    · refine fI 135 q206 [(134, q204), (128, .bool (x164.Back != x177.Back))] 16 [some 15, some 9] rfl rfl rfl rfl rfl rfl fun G a w S => ?_
      refine sFldV (q := q204) S (wG 9 false 128 rfl rfl rfl hc184) rfl rfl hq207 rfl (lb rfl) fun a S => ?_
      exact leafL ⟨rfl, S⟩
    · refine fI 136 (.slice ad209 x177.Cells.length cp210) [(135, q206), (128, .bool (x164.Back != x177.Back))] 17 [some 16, some 9] rfl rfl rfl rfl rfl rfl fun G a w S => ?_
      refine sLoadV1 (vq := q206) 0 (.slice ad209 x177.Cells.length cp210) S (wG 9 false 128 rfl rfl rfl hc184) rfl rfl rfl rfl rfl (lb rfl) fun a S => ?_
      exact leafL ⟨rfl, S⟩
    · refine fI 137 (.bool r197) [(130, .slice ad171 x164.Cells.length cp172), (136, .slice ad209 x177.Cells.length cp210), (128, .bool (x164.Back != x177.Back))] 18 [some 11, some 17, some 9] rfl rfl rfl rfl rfl rfl fun G a w S => ?_
      have S1 := S.mem
      refine sCallQ (X := Unit) (f := 42) (vs := [.slice ad171 x164.Cells.length cp172, .slice ad209 x177.Cells.length cp210]) (val := fun _ => .bool r197) S (wG 9 false 128 rfl rfl rfl hc184) rfl callee42 rfl (S1.quiet [8, 1] rfl) (fun E1 w1 S1 => c_stitch_Same E1 w1 x164.Cells (.slice ad171 x164.Cells.length cp172) x177.Cells (.slice ad209 x177.Cells.length cp210) r197 hx198 S1) rfl (lb rfl) fun _ a w S => ?_
      exact leafL ⟨rfl, S⟩
    · refine fI 138 (.bool (!r197)) [(137, .bool r197), (128, .bool (x164.Back != x177.Back))] 19 [some 18, some 9] rfl rfl rfl rfl rfl rfl fun G a w S => ?_
      refine sNot (b := r197) S (wG 9 false 128 rfl rfl rfl hc184) rfl rfl rfl (lb rfl) fun a S => ?_
      exact leafL ⟨rfl, S⟩
    · refine fI 139 (.bool (!r197)) [(128, .bool (x164.Back != x177.Back)), (138, .bool (!r197))] 20 [some 9, some 19] rfl rfl rfl rfl rfl rfl fun G a w S => ?_
      refine sPickF (.bool (!r197)) S (wN rfl) rfl rfl hc184 rfl rfl (lb rfl) fun a S => ?_
      exact leafL ⟨rfl, S⟩
    exact leafT (⟨!r197, Option.some.inj h, S.fix [1, 2, 3] [12, 13, 14, 15] (by decide) rfl rfl rfl⟩)
  refine sSeq (fun K33 hK33 => ?_)
  refine sRegion ?_
  refine sField (b := b6) (off := 0) 1 1 S (wN rfl) rfl rfl rfl rfl rfl (lb rfl) fun a S => ?_
  refine sLoad1 (p := b6) (off := 1) (T := 40) (vs := [iv p0.Start, .slice ad3 p0.Rows.length cp4]) 3 (.slice ad3 p0.Rows.length cp4) S (wN rfl) rfl rfl rfl rfl rfl rfl (lb rfl) fun a S => ?_
  refine sLen (ad := ad3) (m := p0.Rows.length) (c := cp4) S (wN rfl) rfl Tryd.underlying38 rfl rfl (lb rfl) fun a S => ?_
  refine sMove (iv 0) S (wN rfl) (.inl rfl) rfl rfl (lb rfl) fun a S => ?_
  refine leafL (leafT (hK33 _ _ ?_))
  refine wp_block ?_
  obtain ⟨t43, hl, g42⟩ := bindSome h
  refine sLoop hl (fun s0 a w => match s0 with | (s34, s35, s38) => ∃ ad36, ∃ cp37, ∃ ad39, ∃ cp40, St [] E [] w0 143 a w [(2, .pointer (some ⟨b6, 0, none⟩)), (4, .pointer (some ⟨b7, 0, none⟩)), (6, .pointer (some ⟨b24, 0, none⟩)), (45, .slice ad3 p0.Rows.length cp4), (46, iv (p0.Rows.length : Int)), (47, iv s34)] [eBox b6 40 [iv p0.Start, .slice ad3 p0.Rows.length cp4], eBox b7 30 [.slice none 0 0, .slice none 0 0], eBox b24 30 [.slice ad36 s35.length cp37, .slice ad39 s38.length cp40], eRow (rI .i64) 3 (.slice ad36 s35.length cp37) s35, eRow (rI .i64) 3 (.slice ad39 s38.length cp40) s38] [fRep (rL r_api_Row) (.slice ad3 p0.Rows.length cp4) p0.Rows]) ⟨ad20, cp21, ad22, cp23, S.fix [3, 4, 0, 2, 1] [0] (by decide) rfl rfl rfl⟩ ?_
  clear hl h
  intro s0 a w c0 hI h hu41
  obtain ⟨s34, s35, s38⟩ := s0
  unfold piece_Read_l1 at h
  dsimp only at h hI
  obtain ⟨ad36, cp37, ad39, cp40, S⟩ := hI
  refine sSeq (fun K50 hK50 => ?_)
  refine sRegion ?_
  refine sBin (.bool (decide (s34 < (p0.Rows.length : Int)))) S (wN rfl) rfl rfl rfl (bLt _ _ _ _ .i64 s34 (p0.Rows.length : Int)) rfl (lb rfl) fun a S => ?_
  refine leafL (leafT (hK50 _ _ ?_))
  refine sSeq (fun K51 hK51 => ?_)
  rcases iteSome h with ⟨hc52, h⟩ | ⟨hc52, h⟩
  rotate_left
  · refine sCondF S rfl hc52 ?_
    obtain rfl := Option.some.inj h
    obtain rfl := hu41 _ rfl
    have h := g42
    clear g42
    try dsimp only at h
    exact wp_exit (xThen (xThen (xHit (leafT (⟨s35, s38, Option.some.inj h, ad36, cp37, ad39, cp40, S.fix [0, 1, 2, 3, 4] [0] (by decide) rfl rfl rfl⟩)))))
  refine sCondT S rfl hc52 ?_
  refine wp_skip (leafT (hK51 _ _ ?_))
  refine sSeq (fun K53 hK53 => ?_)
  refine wp_block ?_
  refine sSeq (fun K54 hK54 => ?_)
  refine sRegion ?_
  refine sMove (iv s34) S (wN rfl) (.inl rfl) rfl rfl (lb rfl) fun a S => ?_
  obtain ⟨x55, hx56, h⟩ := bindSome h
  obtain ⟨q57, hq58, S⟩ := pIdx (P := Tryd.prog) (r := r_api_Row) (v := .slice ad3 p0.Rows.length cp4) (xs := p0.Rows) (j := s34) 38 54 0 S Tryd.underlying38 rfl rfl hx56
  refine sIdxV (v := .slice ad3 p0.Rows.length cp4) (k := .i64) (j := s34) S (wN rfl) rfl rfl rfl hq58 rfl (lb rfl) fun a S => ?_
  obtain ⟨u59, S⟩ := pLoad (r := r_api_Row) (q := q57) (x := x55) 0 S rfl
  obtain ⟨u60, rfl, hu61⟩ := S.mem.know (i := 1) (e := fRep r_api_Row (u59) x55) rfl
  have S := S.learn (fRep (rL r_api_Stitch) u60 x55.Cells) hu61
  obtain ⟨ad62, cp63, _, rfl, _⟩ := hu61
  refine sLoadVN (vq := q57) 1 [.bool x55.Back, .slice ad62 x55.Cells.length cp63] S (wN rfl) rfl rfl rfl rfl rfl rfl (lb rfl) fun a S => ?_
  refine sAlloc (.agg #[.bool false, .slice none 0 0]) S (wN rfl) rfl rfl [.bool false, .slice none 0 0] rfl rfl (lb rfl) fun a b64 w S => ?_
  refine sMove (iv s34) S (wN rfl) (.inr rfl) rfl rfl (lb rfl) fun a S => ?_
  refine sStore (p := b64) (off := 0) (T := 54) (vs := [.bool false, .slice none 0 0]) (v := .agg #[.bool x55.Back, .slice ad62 x55.Cells.length cp63]) 0 [.bool x55.Back, .slice ad62 x55.Cells.length cp63] S (wN rfl) rfl rfl rfl rfl rfl rfl rfl (by simp) rfl fun a w S => ?_
  refine leafL (leafT (hK54 _ _ ?_))
  refine sSeq (fun K65 hK65 => ?_)
  refine sRegion ?_
  refine sField (b := b64) (off := 0) 1 1 S (wN rfl) rfl rfl rfl rfl rfl (lb rfl) fun a S => ?_
  refine sLoad1 (p := b64) (off := 1) (T := 54) (vs := [.bool x55.Back, .slice ad62 x55.Cells.length cp63]) 0 (.slice ad62 x55.Cells.length cp63) S (wN rfl) rfl rfl rfl rfl rfl rfl (lb rfl) fun a S => ?_
  refine sMove (.slice ad62 x55.Cells.length cp63) S (wN rfl) (.inr rfl) rfl rfl (lb rfl) fun a S => ?_
  refine leafL (leafT (hK65 _ _ ?_))
  refine sSeq (fun K66 hK66 => ?_)
  obtain ⟨t68, h, g69⟩ := bindSome h
  refine sCut (fun a w => ∃ o67, o67 = t68 ∧ St [] E [] w0 143 a w [(2, .pointer (some ⟨b6, 0, none⟩)), (4, .pointer (some ⟨b7, 0, none⟩)), (6, .pointer (some ⟨b24, 0, none⟩)), (7, iv s34), (8, .pointer (some ⟨b64, 0, none⟩)), (9, .slice ad62 x55.Cells.length cp63), (45, .slice ad3 p0.Rows.length cp4), (46, iv (p0.Rows.length : Int)), (47, iv s34), (61, .bool o67)] [eBox b6 40 [iv p0.Start, .slice ad3 p0.Rows.length cp4], eBox b7 30 [.slice none 0 0, .slice none 0 0], eBox b24 30 [.slice ad36 s35.length cp37, .slice ad39 s38.length cp40], eBox b64 54 [.bool x55.Back, .slice ad62 x55.Cells.length cp63], eRow (rI .i64) 3 (.slice ad36 s35.length cp37) s35, eRow (rI .i64) 3 (.slice ad39 s38.length cp40) s38] [fRep (rL r_api_Stitch) (.slice ad62 x55.Cells.length cp63) x55.Cells, fRep (rL r_api_Row) (.slice ad3 p0.Rows.length cp4) p0.Rows]) ?_ (fun a w hI => ?_)
  · refine sRegion ?_
    refine sMove (.slice ad62 x55.Cells.length cp63) S (wN rfl) (.inl rfl) rfl rfl (lb rfl) fun a S => ?_
    refine sLen (ad := ad62) (m := x55.Cells.length) (c := cp63) S (wN rfl) rfl Tryd.underlying52 rfl rfl (lb rfl) fun a S => ?_
    refine sBin (.bool ((x55.Cells.length : Int) == 0)) S (wN rfl) rfl rfl rfl (bEq _ _ _ _ .i64 (x55.Cells.length : Int) 0) rfl (lb rfl) fun a S => ?_
    refine sMove (.bool ((x55.Cells.length : Int) == 0)) S (wN rfl) (.inl rfl) rfl rfl (lb rfl) fun a S => ?_
    rcases iteSome h with ⟨hc70, h⟩ | ⟨hc70, h⟩
    · refine sSkip 3 false 57 58 S rfl rfl rfl hc70 rfl (lb rfl) fun a S => ?_
      refine sSkip 3 false 57 59 S rfl rfl rfl hc70 rfl (lb rfl) fun a S => ?_
      refine sSkip 3 false 57 60 S rfl rfl rfl hc70 rfl (lb rfl) fun a S => ?_
      refine sPickT (.bool true) S (wN rfl) rfl rfl hc70 rfl rfl (lb rfl) fun a S => ?_
      exact leafL (leafT (⟨true, Option.some.inj h, S.fix [1, 2, 3, 0, 4, 5] [0, 4] (by decide) rfl rfl rfl⟩))
    refine sMove (.slice ad62 x55.Cells.length cp63) S (wG 3 false 57 rfl rfl rfl hc70) (.inl rfl) rfl rfl (lb rfl) fun a S => ?_
    obtain ⟨r71, hx72, h⟩ := bindSome h
    have S1 := S.mem
    refine sCallQ (X := Unit) (f := 40) (vs := [.slice ad62 x55.Cells.length cp63]) (val := fun _ => iv r71) S (wG 3 false 57 rfl rfl rfl hc70) rfl callee40 rfl (S1.quiet [0] rfl) (fun E1 w1 S1 => c_stitch_All E1 w1 x55.Cells (.slice ad62 x55.Cells.length cp63) r71 hx72 S1) rfl (lb rfl) fun _ a w S => ?_
    refine sBin (.bool (r71 != 0)) S (wG 3 false 57 rfl rfl rfl hc70) rfl rfl rfl (bNe _ _ _ _ .i64 r71 0) rfl (lb rfl) fun a S => ?_
    refine sPickF (.bool (r71 != 0)) S (wN rfl) rfl rfl hc70 rfl rfl (lb rfl) fun a S => ?_
    exact leafL (leafT (⟨r71 != 0, Option.some.inj h, S.fix [1, 2, 3, 0, 4, 5] [0, 4] (by decide) rfl rfl rfl⟩))
  obtain ⟨o67, rfl, S⟩ := hI
  have h := g69
  clear g69
  try dsimp only at h
  rcases iteSome h with ⟨hc73, h⟩ | ⟨hc73, h⟩
  · refine sCondT S rfl hc73 ?_
    refine sSeq (fun K74 hK74 => ?_)
    refine sRegion ?_
    refine sBuild [] [.slice none 0 0, .slice none 0 0] S (wN rfl) rfl rfl rfl rfl (lb rfl) fun a S => ?_
    refine sStore (p := b7) (off := 0) (T := 30) (vs := [.slice none 0 0, .slice none 0 0]) (v := .agg #[.slice none 0 0, .slice none 0 0]) 1 [.slice none 0 0, .slice none 0 0] S (wN rfl) rfl rfl rfl rfl rfl rfl rfl (by simp) rfl fun a w S => ?_
    refine sMove (iv 8) S (wN rfl) (.inr rfl) rfl rfl (lb rfl) fun a S => ?_
    refine leafL (leafT (hK74 _ _ ?_))
    obtain rfl := Option.some.inj h
    obtain rfl := hu41 _ rfl
    have h := g42
    clear g42
    try dsimp only at h
    obtain rfl := Option.some.inj h
    have h := g32
    clear g32
    try dsimp only at h
    obtain rfl := Option.some.inj h
    have S := S.learn (fRep (rL (rI .i64)) (.slice none 0 0) ([] : (List Int))) (rL_nil _ _ _)
    have S := S.learn (fRep r_api_Piece (.agg #[.slice none 0 0, .slice none 0 0]) (api_Piece.mk ([] : (List Int)) ([] : (List Int)))) ⟨_, _, rfl, S.mem.know (i := 0) (e := fRep (rL (rI .i64)) (.slice none 0 0) ([] : (List Int))) rfl, S.mem.know (i := 0) (e := fRep (rL (rI .i64)) (.slice none 0 0) ([] : (List Int))) rfl⟩
    exact wp_ret (rThen (rBlock (rThen (rThen (rBlock (rThen (sRet (.tuple #[.agg #[.slice none 0 0, .slice none 0 0], iv 8]) S (rsl2 rfl (rvN (c := 4) (t := 30) (T := 30) (p := b7) 0 [.slice none 0 0, .slice none 0 0] S rfl rfl rfl rfl) (rvT (t := 5) (v := iv 8) S rfl)) ⟨(.agg #[.slice none 0 0, .slice none 0 0]), rfl, S.mem.sel [] [0] (by decide) rfl rfl⟩)))))))
  refine sCondF S rfl hc73 ?_
  refine wp_skip (leafT (hK66 _ _ ?_))
  refine sSeq (fun K75 hK75 => ?_)
  obtain ⟨x76, hx77, h⟩ := bindSome h
  obtain ⟨r81, hx82, h⟩ := bindSome h
  obtain ⟨x83, hx84, h⟩ := bindSome h
  obtain ⟨r88, hx89, h⟩ := bindSome h
  obtain ⟨q90, hq91, S⟩ := pIdx (P := Tryd.prog) (r := r_api_Stitch) (v := .slice ad62 x55.Cells.length cp63) (xs := x55.Cells) (j := 0) 52 56 0 S Tryd.underlying52 rfl rfl hx77
  obtain ⟨u92, S⟩ := pLoad (r := r_api_Stitch) (q := q90) (x := x76) 0 S rfl
  obtain rfl : u92 = .agg #[.int .u8 x76.Kind, .bool x76.Purl, iv x76.A, iv x76.B] := S.mem.know (i := 1) (e := fRep r_api_Stitch (u92) x76) rfl
  obtain ⟨q93, hq94, S⟩ := pIdx (P := Tryd.prog) (r := r_api_Stitch) (v := .slice ad62 x55.Cells.length cp63) (xs := x55.Cells) (j := w64 ((x55.Cells.length : Int) - 1)) 52 56 3 S Tryd.underlying52 rfl rfl hx84
  obtain ⟨u95, S⟩ := pLoad (r := r_api_Stitch) (q := q93) (x := x83) 0 S rfl
  obtain rfl : u95 = .agg #[.int .u8 x83.Kind, .bool x83.Purl, iv x83.A, iv x83.B] := S.mem.know (i := 1) (e := fRep r_api_Stitch (u95) x83) rfl
  refine sDraw (nf := []) (W := [(0, 63, .slice ad62 x55.Cells.length cp63), (1, 64, q90), (2, 65, .agg #[.int .u8 x76.Kind, .bool x76.Purl, iv x76.A, iv x76.B]), (3, 66, iv r81), (4, 67, .slice ad62 x55.Cells.length cp63), (5, 68, .slice ad62 x55.Cells.length cp63), (6, 69, iv (x55.Cells.length : Int)), (7, 70, iv (w64 ((x55.Cells.length : Int) - 1))), (8, 71, q93), (9, 72, .agg #[.int .u8 x83.Kind, .bool x83.Purl, iv x83.A, iv x83.B]), (10, 73, iv r88), (11, 10, iv r81), (12, 11, iv r88)]) rfl S ?_
  refine node_by (A := anc_piece_Read_0) (nf := []) (Y := []) (W := [(0, 63, .slice ad62 x55.Cells.length cp63), (1, 64, q90), (2, 65, .agg #[.int .u8 x76.Kind, .bool x76.Purl, iv x76.A, iv x76.B]), (3, 66, iv r81), (4, 67, .slice ad62 x55.Cells.length cp63), (5, 68, .slice ad62 x55.Cells.length cp63), (6, 69, iv (x55.Cells.length : Int)), (7, 70, iv (w64 ((x55.Cells.length : Int) - 1))), (8, 71, q93), (9, 72, .agg #[.int .u8 x83.Kind, .bool x83.Purl, iv x83.A, iv x83.B]), (10, 73, iv r88), (11, 10, iv r81), (12, 11, iv r88)]) 13 (by kernel_rfl) (by kernel_rfl) (by kernel_rfl) (by kernel_rfl) (by kernel_rfl) [0, 1, 2, 3, 4, 5, 6, 7, 8, 9, 10, 11, 12] (by kernel_rfl) (by decide) (by decide) (aF 0 12 (by decide) ?_ (aF 1 11 (by decide) ?_ (aF 2 10 (by decide) ?_ (aF 3 9 (by decide) ?_ (aF 4 8 (by decide) ?_ (aF 5 7 (by decide) ?_ (aF 6 6 (by decide) ?_ (aF 7 5 (by decide) ?_ (aF 8 4 (by decide) ?_ (aF 9 3 (by decide) ?_ (aF 10 2 (by decide) ?_ (aF 11 1 (by decide) ?_ (aF 12 0 (by decide) ?_ (trivial)))))))))))))) [(2, .pointer (some ⟨b6, 0, none⟩)), (4, .pointer (some ⟨b7, 0, none⟩)), (6, .pointer (some ⟨b24, 0, none⟩)), (7, iv s34), (8, .pointer (some ⟨b64, 0, none⟩)), (10, iv r81), (11, iv r88), (45, .slice ad3 p0.Rows.length cp4), (46, iv (p0.Rows.length : Int)), (47, iv s34)] (fin_of [none, none, none, none, none, some 11, some 12, none, none, none] rfl (by kernel_rfl) (by kernel_rfl)) (fun _ a w S => ?_)
  · refine fI 63 (.slice ad62 x55.Cells.length cp63) [(9, .slice ad62 x55.Cells.length cp63)] 0 [none] rfl rfl rfl rfl rfl rfl fun G a w S => ?_
    refine sMove (.slice ad62 x55.Cells.length cp63) S (wN rfl) (.inl rfl) rfl rfl (lb rfl) fun a S => ?_
    exact leafL ⟨rfl, S⟩
  · refine fI 64 q90 [(63, .slice ad62 x55.Cells.length cp63)] 1 [some 0] rfl rfl rfl rfl rfl rfl fun G a w S => ?_
    refine sIdxV (v := .slice ad62 x55.Cells.length cp63) (k := .i64) (j := 0) S (wN rfl) rfl rfl rfl hq91 rfl (lb rfl) fun a S => ?_
    exact leafL ⟨rfl, S⟩
  · refine fI 65 (.agg #[.int .u8 x76.Kind, .bool x76.Purl, iv x76.A, iv x76.B]) [(64, q90)] 2 [some 1] rfl rfl rfl rfl rfl rfl fun G a w S => ?_
    refine sLoadVN (vq := q90) 3 [.int .u8 x76.Kind, .bool x76.Purl, iv x76.A, iv x76.B] S (wN rfl) rfl rfl rfl rfl rfl rfl (lb rfl) fun a S => ?_
    exact leafL ⟨rfl, S⟩
  · refine fI 66 (iv r81) [(65, .agg #[.int .u8 x76.Kind, .bool x76.Purl, iv x76.A, iv x76.B])] 3 [some 2] rfl rfl rfl rfl rfl rfl fun G a w S => ?_
    have S1 := S.mem
    refine sCallQ (X := Unit) (f := 41) (vs := [.agg #[.int .u8 x76.Kind, .bool x76.Purl, iv x76.A, iv x76.B]]) (val := fun _ => iv r81) S (wN rfl) rfl callee41 rfl (S1.quiet [4] rfl) (fun E1 w1 S1 => c_piece_grows E1 w1 x76 (.agg #[.int .u8 x76.Kind, .bool x76.Purl, iv x76.A, iv x76.B]) r81 hx82 S1) rfl (lb rfl) fun _ a w S => ?_
    exact leafL ⟨rfl, S⟩
  · refine fI 67 (.slice ad62 x55.Cells.length cp63) [(9, .slice ad62 x55.Cells.length cp63)] 4 [none] rfl rfl rfl rfl rfl rfl fun G a w S => ?_
    refine sMove (.slice ad62 x55.Cells.length cp63) S (wN rfl) (.inl rfl) rfl rfl (lb rfl) fun a S => ?_
    exact leafL ⟨rfl, S⟩
  · refine fI 68 (.slice ad62 x55.Cells.length cp63) [(9, .slice ad62 x55.Cells.length cp63)] 5 [none] rfl rfl rfl rfl rfl rfl fun G a w S => ?_
    refine sMove (.slice ad62 x55.Cells.length cp63) S (wN rfl) (.inl rfl) rfl rfl (lb rfl) fun a S => ?_
    exact leafL ⟨rfl, S⟩
  · refine fI 69 (iv (x55.Cells.length : Int)) [(68, .slice ad62 x55.Cells.length cp63)] 6 [some 5] rfl rfl rfl rfl rfl rfl fun G a w S => ?_
    refine sLen (ad := ad62) (m := x55.Cells.length) (c := cp63) S (wN rfl) rfl Tryd.underlying52 rfl rfl (lb rfl) fun a S => ?_
    exact leafL ⟨rfl, S⟩
  · refine fI 70 (iv (w64 ((x55.Cells.length : Int) - 1))) [(69, iv (x55.Cells.length : Int))] 7 [some 6] rfl rfl rfl rfl rfl rfl fun G a w S => ?_
    refine sBin (iv (w64 ((x55.Cells.length : Int) - 1))) S (wN rfl) rfl rfl rfl (bSub _ _ _ _ (x55.Cells.length : Int) 1) rfl (lb rfl) fun a S => ?_
    exact leafL ⟨rfl, S⟩
  · refine fI 71 q93 [(67, .slice ad62 x55.Cells.length cp63), (70, iv (w64 ((x55.Cells.length : Int) - 1)))] 8 [some 4, some 7] rfl rfl rfl rfl rfl rfl fun G a w S => ?_
    refine sIdxV (v := .slice ad62 x55.Cells.length cp63) (k := .i64) (j := w64 ((x55.Cells.length : Int) - 1)) S (wN rfl) rfl rfl rfl hq94 rfl (lb rfl) fun a S => ?_
    exact leafL ⟨rfl, S⟩
  · refine fI 72 (.agg #[.int .u8 x83.Kind, .bool x83.Purl, iv x83.A, iv x83.B]) [(71, q93)] 9 [some 8] rfl rfl rfl rfl rfl rfl fun G a w S => ?_
    refine sLoadVN (vq := q93) 0 [.int .u8 x83.Kind, .bool x83.Purl, iv x83.A, iv x83.B] S (wN rfl) rfl rfl rfl rfl rfl rfl (lb rfl) fun a S => ?_
    exact leafL ⟨rfl, S⟩
  · refine fI 73 (iv r88) [(72, .agg #[.int .u8 x83.Kind, .bool x83.Purl, iv x83.A, iv x83.B])] 10 [some 9] rfl rfl rfl rfl rfl rfl fun G a w S => ?_
    have S1 := S.mem
    refine sCallQ (X := Unit) (f := 41) (vs := [.agg #[.int .u8 x83.Kind, .bool x83.Purl, iv x83.A, iv x83.B]]) (val := fun _ => iv r88) S (wN rfl) rfl callee41 rfl (S1.quiet [1] rfl) (fun E1 w1 S1 => c_piece_grows E1 w1 x83 (.agg #[.int .u8 x83.Kind, .bool x83.Purl, iv x83.A, iv x83.B]) r88 hx89 S1) rfl (lb rfl) fun _ a w S => ?_
    exact leafL ⟨rfl, S⟩
  · refine fI 10 (iv r81) [(66, iv r81)] 11 [some 3] rfl rfl rfl rfl rfl rfl fun G a w S => ?_
    refine sMove (iv r81) S (wN rfl) (.inr rfl) rfl rfl (lb rfl) fun a S => ?_
    exact leafL ⟨rfl, S⟩
  · refine fI 11 (iv r88) [(73, iv r88)] 12 [some 10] rfl rfl rfl rfl rfl rfl fun G a w S => ?_
    refine sMove (iv r88) S (wN rfl) (.inr rfl) rfl rfl (lb rfl) fun a S => ?_
    exact leafL ⟨rfl, S⟩
  refine leafT (hK75 _ _ ?_)
  obtain ⟨t98, h, g99⟩ := bindSome h
  refine sCut (fun a w => ∃ o96, ∃ o97, (o96, o97) = t98 ∧ St [] E [] w0 143 a w [(2, .pointer (some ⟨b6, 0, none⟩)), (4, .pointer (some ⟨b7, 0, none⟩)), (6, .pointer (some ⟨b24, 0, none⟩)), (7, iv s34), (10, iv o96), (11, iv o97), (45, .slice ad3 p0.Rows.length cp4), (46, iv (p0.Rows.length : Int)), (47, iv s34)] [eBox b6 40 [iv p0.Start, .slice ad3 p0.Rows.length cp4], eBox b7 30 [.slice none 0 0, .slice none 0 0], eBox b24 30 [.slice ad36 s35.length cp37, .slice ad39 s38.length cp40], eRow (rI .i64) 3 (.slice ad36 s35.length cp37) s35, eRow (rI .i64) 3 (.slice ad39 s38.length cp40) s38] [fRep (rL r_api_Row) (.slice ad3 p0.Rows.length cp4) p0.Rows]) ?_ (fun a w hI => ?_)
  · refine sSeq (fun K100 hK100 => ?_)
    refine sRegion ?_
    refine sField (b := b64) (off := 0) 0 0 S (wN rfl) rfl rfl rfl rfl rfl (lb rfl) fun a S => ?_
    refine sLoad1 (p := b64) (off := 0) (T := 54) (vs := [.bool x55.Back, .slice ad62 x55.Cells.length cp63]) 3 (.bool x55.Back) S (wN rfl) rfl rfl rfl rfl rfl rfl (lb rfl) fun a S => ?_
    refine leafL (leafT (hK100 _ _ ?_))
    rcases iteSome h with ⟨hc101, h⟩ | ⟨hc101, h⟩
    rotate_left
    · refine sCondF S rfl hc101 ?_
      exact wp_skip (leafT (⟨r81, r88, Option.some.inj h, S.fix [0, 1, 2, 4, 5] [7] (by decide) rfl rfl rfl⟩))
    refine sCondT S rfl hc101 ?_
    refine sRegion ?_
    refine sMove (iv r88) S (wN rfl) (.inl rfl) rfl rfl (lb rfl) fun a S => ?_
    refine sMove (iv r81) S (wN rfl) (.inl rfl) rfl rfl (lb rfl) fun a S => ?_
    refine sMove (iv r88) S (wN rfl) (.inr rfl) rfl rfl (lb rfl) fun a S => ?_
    refine sMove (iv r81) S (wN rfl) (.inr rfl) rfl rfl (lb rfl) fun a S => ?_
    exact leafL (leafT (⟨r88, r81, Option.some.inj h, S.fix [0, 1, 2, 4, 5] [7] (by decide) rfl rfl rfl⟩))
  obtain ⟨o96, o97, rfl, S⟩ := hI
  have h := g99
  clear g99
  try dsimp only at h
  refine sSeq (fun K102 hK102 => ?_)
  obtain ⟨x103, hx104, h⟩ := bindSome h
  obtain ⟨l110, hx111, h⟩ := bindSome h
  obtain ⟨q114, hq115, hp116⟩ := pIdxR (P := Tryd.prog) (r := (rI .i64)) (T := 3) (v := .slice ad36 s35.length cp37) (xs := s35) (j := s34) 28 3 3 S Tryd.underlying28 rfl rfl hx104
  refine sDraw (nf := [9, 10, 12]) (W := [(0, 78, .pointer (some ⟨b24, 0, none⟩)), (1, 79, .slice ad36 s35.length cp37), (2, 80, .pointer (some ⟨b24, 0, none⟩)), (3, 81, .slice ad36 s35.length cp37), (4, 82, iv s34), (5, 83, q114), (6, 84, iv x103), (7, 85, iv o97), (8, 86, iv (w64 (x103 - o97)))]) rfl S ?_
  refine node_by (A := anc_piece_Read_1) (nf := [9, 10, 12]) (Y := []) (W := [(0, 78, .pointer (some ⟨b24, 0, none⟩)), (1, 79, .slice ad36 s35.length cp37), (2, 80, .pointer (some ⟨b24, 0, none⟩)), (3, 81, .slice ad36 s35.length cp37), (4, 82, iv s34), (5, 83, q114), (6, 84, iv x103), (7, 85, iv o97), (8, 86, iv (w64 (x103 - o97)))]) 13 (by kernel_rfl) (by kernel_rfl) (by kernel_rfl) (by kernel_rfl) (by kernel_rfl) [0, 1, 2, 3, 4, 5, 6, 7, 8] (by kernel_rfl) (by decide) (by decide) (aF 0 12 (by decide) ?_ (aF 1 11 (by decide) ?_ (aF 2 10 (by decide) ?_ (aF 3 9 (by decide) ?_ (aF 4 8 (by decide) ?_ (aF 5 7 (by decide) ?_ (aF 6 6 (by decide) ?_ (aF 7 5 (by decide) ?_ (aF 8 4 (by decide) ?_ (aN 9 3 (by decide) ?_ (aB 10 2 9 (by decide) (aE 11 1 9 (by decide) (aB 12 0 9 (by decide) (trivial)))))))))))))) [] (fun q hq => by cases hq) (fun hY => absurd (hY 9 (by decide)) (by decide))
  · refine fI 78 (.pointer (some ⟨b24, 0, none⟩)) [(6, .pointer (some ⟨b24, 0, none⟩))] 0 [none] rfl rfl rfl rfl rfl rfl fun G a w S => ?_
    refine sField (b := b24) (off := 0) 0 0 S (wN rfl) rfl rfl rfl rfl rfl (lb rfl) fun a S => ?_
    exact leafL ⟨rfl, S⟩
  · refine fI 79 (.slice ad36 s35.length cp37) [(78, .pointer (some ⟨b24, 0, none⟩))] 1 [some 0] rfl rfl rfl rfl rfl rfl fun G a w S => ?_
    refine sLoad1 (p := b24) (off := 0) (T := 30) (vs := [.slice ad36 s35.length cp37, .slice ad39 s38.length cp40]) 2 (.slice ad36 s35.length cp37) S (wN rfl) rfl rfl rfl rfl rfl rfl (lb rfl) fun a S => ?_
    exact leafL ⟨rfl, S⟩
  · refine fI 80 (.pointer (some ⟨b24, 0, none⟩)) [(6, .pointer (some ⟨b24, 0, none⟩))] 2 [none] rfl rfl rfl rfl rfl rfl fun G a w S => ?_
    refine sField (b := b24) (off := 0) 0 0 S (wN rfl) rfl rfl rfl rfl rfl (lb rfl) fun a S => ?_
    exact leafL ⟨rfl, S⟩
  · refine fI 81 (.slice ad36 s35.length cp37) [(80, .pointer (some ⟨b24, 0, none⟩))] 3 [some 2] rfl rfl rfl rfl rfl rfl fun G a w S => ?_
    refine sLoad1 (p := b24) (off := 0) (T := 30) (vs := [.slice ad36 s35.length cp37, .slice ad39 s38.length cp40]) 2 (.slice ad36 s35.length cp37) S (wN rfl) rfl rfl rfl rfl rfl rfl (lb rfl) fun a S => ?_
    exact leafL ⟨rfl, S⟩
  · refine fI 82 (iv s34) [(7, iv s34)] 4 [none] rfl rfl rfl rfl rfl rfl fun G a w S => ?_
    refine sMove (iv s34) S (wN rfl) (.inl rfl) rfl rfl (lb rfl) fun a S => ?_
    exact leafL ⟨rfl, S⟩
  · refine fI 83 q114 [(81, .slice ad36 s35.length cp37), (82, iv s34)] 5 [some 3, some 4] rfl rfl rfl rfl rfl rfl fun G a w S => ?_
    refine sIdxV (v := .slice ad36 s35.length cp37) (k := .i64) (j := s34) S (wN rfl) rfl rfl rfl hq115 rfl (lb rfl) fun a S => ?_
    exact leafL ⟨rfl, S⟩
  · refine fI 84 (iv x103) [(83, q114)] 6 [some 5] rfl rfl rfl rfl rfl rfl fun G a w S => ?_
    refine sLoadR (r := (rI .i64)) (T := 3) (xs := s35) (x := x103) (v := .slice ad36 s35.length cp37) (vq := q114) (j := s34) 3 (iv x103) S hp116 (wN rfl) rfl rfl rfl hx104 (fun _ _ _ h => h) (scal_I _) rfl rfl (lb rfl) fun a S => ?_
    exact leafL ⟨rfl, S⟩
  · refine fI 85 (iv o97) [(11, iv o97)] 7 [none] rfl rfl rfl rfl rfl rfl fun G a w S => ?_
    refine sMove (iv o97) S (wN rfl) (.inl rfl) rfl rfl (lb rfl) fun a S => ?_
    exact leafL ⟨rfl, S⟩
  · refine fI 86 (iv (w64 (x103 - o97))) [(84, iv x103), (85, iv o97)] 8 [some 6, some 7] rfl rfl rfl rfl rfl rfl fun G a w S => ?_
    refine sBin (iv (w64 (x103 - o97))) S (wN rfl) rfl rfl rfl (bSub _ _ _ _ x103 o97) rfl (lb rfl) fun a S => ?_
    exact leafL ⟨rfl, S⟩
  refine ⟨_, [(86, iv (w64 (x103 - o97)))], rfl, (srcs_of [some 8] rfl rfl rfl), fun G a w S => ?_⟩
  refine sLit (r := (rI .i64)) (T := 3) (xs := ([w64 (x103 - o97)] : List Int)) [(0, iv (w64 (x103 - o97)))] 1 [iv (w64 (x103 - o97))] [iv (w64 (x103 - o97))] (iv 0) 8 S (wN rfl) rfl rfl Tryd.underlying28 rfl (by decide) (by decide) (by kernel_rfl) rfl (fun E1 w1 hE => All.cons rfl (All.nil _ _ _)) rfl rfl (lb rfl) fun a w ad117 cp118 S => ?_
  refine leafL ⟨rfl, _, _, .inl ⟨87, (.slice ad117 ([w64 (x103 - o97)] : List Int).length cp118), [], rfl, S, hz_of rfl, ?_⟩⟩
  refine node_by (A := anc_piece_Read_1) (nf := [9, 10, 12]) (Y := [9]) 13 (by kernel_rfl) (by kernel_rfl) (by kernel_rfl) (by kernel_rfl) (by kernel_rfl) [9, 0, 1, 2, 3, 4, 5, 6, 7, 8] (by kernel_rfl) (by decide) (by decide) (aF 0 12 (by decide) ?_ (aF 1 11 (by decide) ?_ (aD 2 10 9 (by decide) (aD 3 9 9 (by decide) (aD 4 8 9 (by decide) (aD 5 7 9 (by decide) (aD 6 6 9 (by decide) (aD 7 5 9 (by decide) (aD 8 4 9 (by decide) (aY 9 3 (by decide) (aN 10 2 (by decide) ?_ (aE 11 1 10 (by decide) (aB 12 0 10 (by decide) (trivial)))))))))))))) [] (fun q hq => by cases hq) (fun hY => absurd (hY 10 (by decide)) (by decide))
  · refine fI 78 (.pointer (some ⟨b24, 0, none⟩)) [(6, .pointer (some ⟨b24, 0, none⟩))] 1 [none] rfl rfl rfl rfl rfl rfl fun G a w S => ?_
    refine sField (b := b24) (off := 0) 0 0 S (wN rfl) rfl rfl rfl rfl rfl (lb rfl) fun a S => ?_
    exact leafL ⟨rfl, S⟩
  · refine fI 79 (.slice ad36 s35.length cp37) [(78, .pointer (some ⟨b24, 0, none⟩))] 2 [some 1] rfl rfl rfl rfl rfl rfl fun G a w S => ?_
    refine sLoad1 (p := b24) (off := 0) (T := 30) (vs := [.slice ad36 s35.length cp37, .slice ad39 s38.length cp40]) 3 (.slice ad36 s35.length cp37) S (wN rfl) rfl rfl rfl rfl rfl rfl (lb rfl) fun a S => ?_
    exact leafL ⟨rfl, S⟩
  refine ⟨_, [(79, .slice ad36 s35.length cp37), (87, .slice ad117 ([w64 (x103 - o97)] : List Int).length cp118)], rfl, (srcs_of [some 2, some 0] rfl rfl rfl), fun G a w S => ?_⟩
  refine sApp (r := (rI .i64)) (T := 3) (xs := s35) (ys := ([w64 (x103 - o97)] : List Int)) (v := .slice ad36 s35.length cp37) (u := .slice ad117 ([w64 (x103 - o97)] : List Int).length cp118) 4 (iv 0) 8 S (wN rfl) rfl Tryd.underlying28 rfl rfl (by decide) rfl rfl rfl (src_R (T := 3) 0 S.mem rfl) hx111 rfl (lb rfl) fun a w ad119 cp120 S => ?_
  refine leafL ⟨rfl, _, _, .inl ⟨88, (.slice ad119 l110.length cp120), [(11, 89, .pointer (some ⟨b24, 0, none⟩))], rfl, S, hz_of rfl, ?_⟩⟩
  refine node_by (A := anc_piece_Read_1) (nf := [9, 10, 12]) (Y := [10, 9]) 13 (by kernel_rfl) (by kernel_rfl) (by kernel_rfl) (by kernel_rfl) (by kernel_rfl) [11, 10, 9, 0, 1, 2, 3, 4, 5, 6, 7, 8] (by kernel_rfl) (by decide) (by decide) (aD 0 12 10 (by decide) (aD 1 11 10 (by decide) (aD 2 10 10 (by decide) (aD 3 9 10 (by decide) (aD 4 8 10 (by decide) (aD 5 7 10 (by decide) (aD 6 6 10 (by decide) (aD 7 5 10 (by decide) (aD 8 4 10 (by decide) (aY 9 3 (by decide) (aY 10 2 (by decide) (aF 11 1 (by decide) ?_ (aN 12 0 (by decide) ?_ (trivial)))))))))))))) [] (fun q hq => by cases hq) (fun hY => absurd (hY 12 (by decide)) (by decide))
  · refine fI 89 (.pointer (some ⟨b24, 0, none⟩)) [(6, .pointer (some ⟨b24, 0, none⟩))] 0 [none] rfl rfl rfl rfl rfl rfl fun G a w S => ?_
    refine sField (b := b24) (off := 0) 0 0 S (wN rfl) rfl rfl rfl rfl rfl (lb rfl) fun a S => ?_
    exact leafL ⟨rfl, S⟩
  refine ⟨_, [(88, .slice ad119 l110.length cp120), (89, .pointer (some ⟨b24, 0, none⟩))], rfl, (srcs_of [some 1, some 0] rfl rfl rfl), fun G a w S => ?_⟩
  refine sStore (p := b24) (off := 0) (T := 30) (vs := [.slice ad36 s35.length cp37, .slice ad39 s38.length cp40]) (v := .slice ad119 l110.length cp120) 4 [.slice ad119 l110.length cp120] S (wN rfl) rfl rfl rfl rfl rfl rfl rfl (by simp) rfl fun a w S => ?_
  refine leafL ⟨rfl, _, _, .inr ⟨[], rfl, S, hz_of rfl, ?_⟩⟩
  refine node_by (A := anc_piece_Read_1) (nf := [9, 10, 12]) (Y := [12, 10, 9]) 13 (by kernel_rfl) (by kernel_rfl) (by kernel_rfl) (by kernel_rfl) (by kernel_rfl) [11, 10, 9, 0, 1, 2, 3, 4, 5, 6, 7, 8] (by kernel_rfl) (by decide) (by decide) (aD 0 12 12 (by decide) (aD 1 11 12 (by decide) (aD 2 10 12 (by decide) (aD 3 9 12 (by decide) (aD 4 8 12 (by decide) (aD 5 7 12 (by decide) (aD 6 6 12 (by decide) (aD 7 5 12 (by decide) (aD 8 4 12 (by decide) (aY 9 3 (by decide) (aY 10 2 (by decide) (aD 11 1 12 (by decide) (aY 12 0 (by decide) (trivial)))))))))))))) [(2, .pointer (some ⟨b6, 0, none⟩)), (4, .pointer (some ⟨b7, 0, none⟩)), (6, .pointer (some ⟨b24, 0, none⟩)), (7, iv s34), (10, iv o96), (45, .slice ad3 p0.Rows.length cp4), (46, iv (p0.Rows.length : Int)), (47, iv s34)] (fin_of [none, none, none, none, none, none, none, none] rfl (by kernel_rfl) (by kernel_rfl)) (fun _ a w S => ?_)
  refine leafT (hK102 _ _ ?_)
  obtain ⟨x121, hx122, h⟩ := bindSome h
  obtain ⟨l128, hx129, h⟩ := bindSome h
  obtain ⟨q132, hq133, hp134⟩ := pIdxR (P := Tryd.prog) (r := (rI .i64)) (T := 3) (v := .slice ad39 s38.length cp40) (xs := s38) (j := s34) 28 3 5 S Tryd.underlying28 rfl rfl hx122
  refine sDraw (nf := [9, 10, 12]) (W := [(0, 90, .pointer (some ⟨b24, 1, none⟩)), (1, 91, .slice ad39 s38.length cp40), (2, 92, .pointer (some ⟨b24, 1, none⟩)), (3, 93, .slice ad39 s38.length cp40), (4, 94, iv s34), (5, 95, q132), (6, 96, iv x121), (7, 97, iv o96), (8, 98, iv (w64 (x121 + o96)))]) rfl S ?_
  refine node_by (A := anc_piece_Read_1) (nf := [9, 10, 12]) (Y := []) (W := [(0, 90, .pointer (some ⟨b24, 1, none⟩)), (1, 91, .slice ad39 s38.length cp40), (2, 92, .pointer (some ⟨b24, 1, none⟩)), (3, 93, .slice ad39 s38.length cp40), (4, 94, iv s34), (5, 95, q132), (6, 96, iv x121), (7, 97, iv o96), (8, 98, iv (w64 (x121 + o96)))]) 13 (by kernel_rfl) (by kernel_rfl) (by kernel_rfl) (by kernel_rfl) (by kernel_rfl) [0, 1, 2, 3, 4, 5, 6, 7, 8] (by kernel_rfl) (by decide) (by decide) (aF 0 12 (by decide) ?_ (aF 1 11 (by decide) ?_ (aF 2 10 (by decide) ?_ (aF 3 9 (by decide) ?_ (aF 4 8 (by decide) ?_ (aF 5 7 (by decide) ?_ (aF 6 6 (by decide) ?_ (aF 7 5 (by decide) ?_ (aF 8 4 (by decide) ?_ (aN 9 3 (by decide) ?_ (aB 10 2 9 (by decide) (aE 11 1 9 (by decide) (aB 12 0 9 (by decide) (trivial)))))))))))))) [] (fun q hq => by cases hq) (fun hY => absurd (hY 9 (by decide)) (by decide))
  · refine fI 90 (.pointer (some ⟨b24, 1, none⟩)) [(6, .pointer (some ⟨b24, 0, none⟩))] 0 [none] rfl rfl rfl rfl rfl rfl fun G a w S => ?_
    refine sField (b := b24) (off := 0) 1 1 S (wN rfl) rfl rfl rfl rfl rfl (lb rfl) fun a S => ?_
    exact leafL ⟨rfl, S⟩
  · refine fI 91 (.slice ad39 s38.length cp40) [(90, .pointer (some ⟨b24, 1, none⟩))] 1 [some 0] rfl rfl rfl rfl rfl rfl fun G a w S => ?_
    refine sLoad1 (p := b24) (off := 1) (T := 30) (vs := [.slice ad119 l110.length cp120, .slice ad39 s38.length cp40]) 0 (.slice ad39 s38.length cp40) S (wN rfl) rfl rfl rfl rfl rfl rfl (lb rfl) fun a S => ?_
    exact leafL ⟨rfl, S⟩
  · refine fI 92 (.pointer (some ⟨b24, 1, none⟩)) [(6, .pointer (some ⟨b24, 0, none⟩))] 2 [none] rfl rfl rfl rfl rfl rfl fun G a w S => ?_
    refine sField (b := b24) (off := 0) 1 1 S (wN rfl) rfl rfl rfl rfl rfl (lb rfl) fun a S => ?_
    exact leafL ⟨rfl, S⟩
  · refine fI 93 (.slice ad39 s38.length cp40) [(92, .pointer (some ⟨b24, 1, none⟩))] 3 [some 2] rfl rfl rfl rfl rfl rfl fun G a w S => ?_
    refine sLoad1 (p := b24) (off := 1) (T := 30) (vs := [.slice ad119 l110.length cp120, .slice ad39 s38.length cp40]) 0 (.slice ad39 s38.length cp40) S (wN rfl) rfl rfl rfl rfl rfl rfl (lb rfl) fun a S => ?_
    exact leafL ⟨rfl, S⟩
  · refine fI 94 (iv s34) [(7, iv s34)] 4 [none] rfl rfl rfl rfl rfl rfl fun G a w S => ?_
    refine sMove (iv s34) S (wN rfl) (.inl rfl) rfl rfl (lb rfl) fun a S => ?_
    exact leafL ⟨rfl, S⟩
  · refine fI 95 q132 [(93, .slice ad39 s38.length cp40), (94, iv s34)] 5 [some 3, some 4] rfl rfl rfl rfl rfl rfl fun G a w S => ?_
    refine sIdxV (v := .slice ad39 s38.length cp40) (k := .i64) (j := s34) S (wN rfl) rfl rfl rfl hq133 rfl (lb rfl) fun a S => ?_
    exact leafL ⟨rfl, S⟩
  · refine fI 96 (iv x121) [(95, q132)] 6 [some 5] rfl rfl rfl rfl rfl rfl fun G a w S => ?_
    refine sLoadR (r := (rI .i64)) (T := 3) (xs := s38) (x := x121) (v := .slice ad39 s38.length cp40) (vq := q132) (j := s34) 5 (iv x121) S hp134 (wN rfl) rfl rfl rfl hx122 (fun _ _ _ h => h) (scal_I _) rfl rfl (lb rfl) fun a S => ?_
    exact leafL ⟨rfl, S⟩
  · refine fI 97 (iv o96) [(10, iv o96)] 7 [none] rfl rfl rfl rfl rfl rfl fun G a w S => ?_
    refine sMove (iv o96) S (wN rfl) (.inl rfl) rfl rfl (lb rfl) fun a S => ?_
    exact leafL ⟨rfl, S⟩
  · refine fI 98 (iv (w64 (x121 + o96))) [(96, iv x121), (97, iv o96)] 8 [some 6, some 7] rfl rfl rfl rfl rfl rfl fun G a w S => ?_
    refine sBin (iv (w64 (x121 + o96))) S (wN rfl) rfl rfl rfl (bAdd _ _ _ _ x121 o96) rfl (lb rfl) fun a S => ?_
    exact leafL ⟨rfl, S⟩
  refine ⟨_, [(98, iv (w64 (x121 + o96)))], rfl, (srcs_of [some 8] rfl rfl rfl), fun G a w S => ?_⟩
  refine sLit (r := (rI .i64)) (T := 3) (xs := ([w64 (x121 + o96)] : List Int)) [(0, iv (w64 (x121 + o96)))] 1 [iv (w64 (x121 + o96))] [iv (w64 (x121 + o96))] (iv 0) 8 S (wN rfl) rfl rfl Tryd.underlying28 rfl (by decide) (by decide) (by kernel_rfl) rfl (fun E1 w1 hE => All.cons rfl (All.nil _ _ _)) rfl rfl (lb rfl) fun a w ad135 cp136 S => ?_
  refine leafL ⟨rfl, _, _, .inl ⟨99, (.slice ad135 ([w64 (x121 + o96)] : List Int).length cp136), [], rfl, S, hz_of rfl, ?_⟩⟩
  refine node_by (A := anc_piece_Read_1) (nf := [9, 10, 12]) (Y := [9]) 13 (by kernel_rfl) (by kernel_rfl) (by kernel_rfl) (by kernel_rfl) (by kernel_rfl) [9, 0, 1, 2, 3, 4, 5, 6, 7, 8] (by kernel_rfl) (by decide) (by decide) (aF 0 12 (by decide) ?_ (aF 1 11 (by decide) ?_ (aD 2 10 9 (by decide) (aD 3 9 9 (by decide) (aD 4 8 9 (by decide) (aD 5 7 9 (by decide) (aD 6 6 9 (by decide) (aD 7 5 9 (by decide) (aD 8 4 9 (by decide) (aY 9 3 (by decide) (aN 10 2 (by decide) ?_ (aE 11 1 10 (by decide) (aB 12 0 10 (by decide) (trivial)))))))))))))) [] (fun q hq => by cases hq) (fun hY => absurd (hY 10 (by decide)) (by decide))
  · refine fI 90 (.pointer (some ⟨b24, 1, none⟩)) [(6, .pointer (some ⟨b24, 0, none⟩))] 1 [none] rfl rfl rfl rfl rfl rfl fun G a w S => ?_
    refine sField (b := b24) (off := 0) 1 1 S (wN rfl) rfl rfl rfl rfl rfl (lb rfl) fun a S => ?_
    exact leafL ⟨rfl, S⟩
  · refine fI 91 (.slice ad39 s38.length cp40) [(90, .pointer (some ⟨b24, 1, none⟩))] 2 [some 1] rfl rfl rfl rfl rfl rfl fun G a w S => ?_
    refine sLoad1 (p := b24) (off := 1) (T := 30) (vs := [.slice ad119 l110.length cp120, .slice ad39 s38.length cp40]) 1 (.slice ad39 s38.length cp40) S (wN rfl) rfl rfl rfl rfl rfl rfl (lb rfl) fun a S => ?_
    exact leafL ⟨rfl, S⟩
  refine ⟨_, [(91, .slice ad39 s38.length cp40), (99, .slice ad135 ([w64 (x121 + o96)] : List Int).length cp136)], rfl, (srcs_of [some 2, some 0] rfl rfl rfl), fun G a w S => ?_⟩
  refine sApp (r := (rI .i64)) (T := 3) (xs := s38) (ys := ([w64 (x121 + o96)] : List Int)) (v := .slice ad39 s38.length cp40) (u := .slice ad135 ([w64 (x121 + o96)] : List Int).length cp136) 6 (iv 0) 8 S (wN rfl) rfl Tryd.underlying28 rfl rfl (by decide) rfl rfl rfl (src_R (T := 3) 0 S.mem rfl) hx129 rfl (lb rfl) fun a w ad137 cp138 S => ?_
  refine leafL ⟨rfl, _, _, .inl ⟨100, (.slice ad137 l128.length cp138), [(11, 101, .pointer (some ⟨b24, 1, none⟩))], rfl, S, hz_of rfl, ?_⟩⟩
  refine node_by (A := anc_piece_Read_1) (nf := [9, 10, 12]) (Y := [10, 9]) 13 (by kernel_rfl) (by kernel_rfl) (by kernel_rfl) (by kernel_rfl) (by kernel_rfl) [11, 10, 9, 0, 1, 2, 3, 4, 5, 6, 7, 8] (by kernel_rfl) (by decide) (by decide) (aD 0 12 10 (by decide) (aD 1 11 10 (by decide) (aD 2 10 10 (by decide) (aD 3 9 10 (by decide) (aD 4 8 10 (by decide) (aD 5 7 10 (by decide) (aD 6 6 10 (by decide) (aD 7 5 10 (by decide) (aD 8 4 10 (by decide) (aY 9 3 (by decide) (aY 10 2 (by decide) (aF 11 1 (by decide) ?_ (aN 12 0 (by decide) ?_ (trivial)))))))))))))) [] (fun q hq => by cases hq) (fun hY => absurd (hY 12 (by decide)) (by decide))
  · refine fI 101 (.pointer (some ⟨b24, 1, none⟩)) [(6, .pointer (some ⟨b24, 0, none⟩))] 0 [none] rfl rfl rfl rfl rfl rfl fun G a w S => ?_
    refine sField (b := b24) (off := 0) 1 1 S (wN rfl) rfl rfl rfl rfl rfl (lb rfl) fun a S => ?_
    exact leafL ⟨rfl, S⟩
  refine ⟨_, [(100, .slice ad137 l128.length cp138), (101, .pointer (some ⟨b24, 1, none⟩))], rfl, (srcs_of [some 1, some 0] rfl rfl rfl), fun G a w S => ?_⟩
  refine sStore (p := b24) (off := 1) (T := 30) (vs := [.slice ad119 l110.length cp120, .slice ad39 s38.length cp40]) (v := .slice ad137 l128.length cp138) 2 [.slice ad137 l128.length cp138] S (wN rfl) rfl rfl rfl rfl rfl rfl rfl (by simp) rfl fun a w S => ?_
  refine leafL ⟨rfl, _, _, .inr ⟨[], rfl, S, hz_of rfl, ?_⟩⟩
  refine node_by (A := anc_piece_Read_1) (nf := [9, 10, 12]) (Y := [12, 10, 9]) 13 (by kernel_rfl) (by kernel_rfl) (by kernel_rfl) (by kernel_rfl) (by kernel_rfl) [11, 10, 9, 0, 1, 2, 3, 4, 5, 6, 7, 8] (by kernel_rfl) (by decide) (by decide) (aD 0 12 12 (by decide) (aD 1 11 12 (by decide) (aD 2 10 12 (by decide) (aD 3 9 12 (by decide) (aD 4 8 12 (by decide) (aD 5 7 12 (by decide) (aD 6 6 12 (by decide) (aD 7 5 12 (by decide) (aD 8 4 12 (by decide) (aY 9 3 (by decide) (aY 10 2 (by decide) (aD 11 1 12 (by decide) (aY 12 0 (by decide) (trivial)))))))))))))) [(2, .pointer (some ⟨b6, 0, none⟩)), (4, .pointer (some ⟨b7, 0, none⟩)), (6, .pointer (some ⟨b24, 0, none⟩)), (45, .slice ad3 p0.Rows.length cp4), (46, iv (p0.Rows.length : Int)), (47, iv s34)] (fin_of [none, none, none, none, none, none] rfl (by kernel_rfl) (by kernel_rfl)) (fun _ a w S => ?_)
  refine leafB (leafT (hK53 _ _ ?_))
  refine sRegion ?_
  refine sBin (iv (w64 (s34 + 1))) S (wN rfl) rfl rfl rfl (bAdd _ _ _ _ s34 1) rfl (lb rfl) fun a S => ?_
  refine sMove (iv (w64 (s34 + 1))) S (wN rfl) (.inl rfl) rfl rfl (lb rfl) fun a S => ?_
  exact leafL (leafT (⟨(w64 (s34 + 1), l110, l128), (Option.some.inj h).symm, ⟨ad119, cp120, ad137, cp138, S.fix [5, 6, 0, 3, 1] [0] (by decide) rfl rfl rfl⟩⟩))

end Go.Proofs.YtmedbnjhgkcndaaDoor
