/- Several texts in one: G55 G51 G41 PlU PlUo G53 G54 G35 G36 PlSu G42 G52i0 G39 G21 PlT PlLp PlLm PlLn G56 G43 G57s3 G58s1 G59s0 G60s0 G59s1 -/
import Derived.WalkKit
import Derived.Maps.AppendAt
import Derived.Deep.AppendLies
import Derived.KernelRfl
import Derived.Laws.OwnMore
import Derived.Great.BuildSlice
import Derived.Orders
import Derived.Laws.StructEq
import Derived.ChangeKeysEq
import Derived.Defers
import Derived.Laws.BytesString
import Derived.RangeFuncNested
import Derived.RangeFuncBound
import Derived.RangeFuncCalls
import Derived.RangeFuncLeaves
import Derived.OrdersIn
import Derived.LoopNIn
import Derived.ArgAppend
import Derived.Lib.AppendZeros
import Derived.Test.YticjoiolfibmlaaProg
import Derived.ProofKit
import Derived.OpenShut
import Derived.ChangeOld
import Derived.Deep.Slices
import Derived.Lib.SmallJoins
import Derived.JoinedOf
import Derived.JoinedAt
import Derived.Below
import Derived.Test.YticjoiolfibmlaaRows
import Derived.Test.YticjoiolfibmlaaMLoopsAsk2
namespace Go.Proofs.Yticjoiolfibmlaa
open Go.RowKit
set_option linter.unusedVariables false

noncomputable def stitch_Turn_l2  : List api_Stitch → (Int × api_Stitch) → Option (List api_Stitch ⊕ Empty) := fun s0 x0 => match s0, x0 with
  | s22, (x25, x27) =>
    Option.bind (F_stitch_forms x27.Kind) fun r31 =>
    Option.bind (α := Bool) (
      if r31.1.sided then
        some (!x27.Purl)
      else
        some false) fun o35 =>
    Option.bind (α := (Int × Int)) (
      if decide (0 < r31.1.b.2) then
        some (x27.B, x27.A)
      else
        some (x27.A, x27.B)) fun (o39, o40) =>
    Option.bind (appO s22 [(api_Stitch.mk x27.Kind o35 o39 o40)]) fun l47 =>
    some (.inl l47)
noncomputable def F_stitch_Turn (p0 : (List api_Stitch)) : Option ((List api_Stitch) × Int) :=
  Option.bind (F_stitch_All p0) fun r6 =>
  if r6 != 0 then
    some (([] : (List api_Stitch)), r6)
  else
    Option.bind (capO (p0.length : Int)) fun z14 =>
    Option.bind (F_slices_Backward___api_Stitch_api_Stitch_ p0) fun r19 =>
    Option.bind (I_slices_Backward___api_Stitch_api_Stitch__1 r19 _ _ (stitch_Turn_l2) ([] : List api_Stitch)) fun z0 => match z0 with
      | .inl s22 =>
        some (s22, 0)
      | .inr z0 =>
        nomatch z0
def c_stitch_Turn_val (r : ((List api_Stitch) × Int)) (x : Value) : Value := .tuple #[x, .int .i64 r.2]
def c_stitch_Turn_D (r : ((List api_Stitch) × Int)) (x : Value) : List Fact := [fRep (rL r_api_Stitch) x r.1]
set_option maxHeartbeats 4000000 in
set_option maxRecDepth 100000 in
theorem c_stitch_Turn (E : Nat → Prop) (w0 : World) (p0 : (List api_Stitch)) (v0 : Value) (r : ((List api_Stitch) × Int)) (h : F_stitch_Turn p0 = some r) (S : St0 E [] w0 w0 [] [fRep (rL r_api_Stitch) (v0) p0]) :
    Calls Try.prog 55 #[v0] w0 (Ret (X := Value) E [] w0 (c_stitch_Turn_val r) (fun _ => []) (c_stitch_Turn_D r)) := by
  unfold F_stitch_Turn at h
  obtain ⟨ad1, cp2, _, rfl, _⟩ := S.know (i := 0) (e := fRep (rL r_api_Stitch) (v0) p0) rfl
  refine sEnterM (args := [.slice ad1 p0.length cp2]) 51 Try.func55 rfl rfl (by simp) S (fun a S => ?_)
  refine sSeq (fun K3 hK3 => ?_)
  refine sRegion ?_
  refine sMove (.slice none 0 0) S (wN rfl) (.inr rfl) rfl rfl (lb rfl) fun a S => ?_
  refine sMove (iv 0) S (wN rfl) (.inr rfl) rfl rfl (lb rfl) fun a S => ?_
  refine leafL (leafT (hK3 _ _ ?_))
  refine sSeq (fun K4 hK4 => ?_)
  refine sSeq (fun K5 hK5 => ?_)
  refine sRegion ?_
  refine sMove (.slice ad1 p0.length cp2) S (wN rfl) (.inl rfl) rfl rfl (lb rfl) fun a S => ?_
  obtain ⟨r6, hx7, h⟩ := bindSome h
  have S1 := S.mem
  refine sCallQ (X := Unit) (f := 64) (vs := [.slice ad1 p0.length cp2]) (val := fun _ => iv r6) S (wN rfl) rfl callee64 rfl (S1.quiet [0] rfl) (fun E1 w1 S1 => c_stitch_All E1 w1 p0 (.slice ad1 p0.length cp2) r6 hx7 S1) rfl (lb rfl) fun _ a w S => ?_
  refine sMove (iv r6) S (wN rfl) (.inr rfl) rfl rfl (lb rfl) fun a S => ?_
  refine leafL (leafT (hK5 _ _ ?_))
  refine sSeq (fun K8 hK8 => ?_)
  refine sRegion ?_
  refine sMove (iv r6) S (wN rfl) (.inl rfl) rfl rfl (lb rfl) fun a S => ?_
  refine sBin (.bool (r6 != 0)) S (wN rfl) rfl rfl rfl (bNe _ _ _ _ .i64 r6 0) rfl (lb rfl) fun a S => ?_
  refine leafL (leafT (hK8 _ _ ?_))
  rcases iteSome h with ⟨hc9, h⟩ | ⟨hc9, h⟩
  · refine sCondT S rfl hc9 ?_
    refine sSeq (fun K10 hK10 => ?_)
    refine sRegion ?_
    refine sMove (iv r6) S (wN rfl) (.inl rfl) rfl rfl (lb rfl) fun a S => ?_
    refine sMove (.slice none 0 0) S (wN rfl) (.inr rfl) rfl rfl (lb rfl) fun a S => ?_
    refine sMove (iv r6) S (wN rfl) (.inr rfl) rfl rfl (lb rfl) fun a S => ?_
    refine leafL (leafT (hK10 _ _ ?_))
    obtain rfl := Option.some.inj h
    have S := S.learn (fRep (rL r_api_Stitch) (.slice none 0 0) ([] : (List api_Stitch))) (rL_nil _ _ _)
    exact wp_ret (rThen (sRetM0 (.tuple #[.slice none 0 0, iv r6]) S (rsl2 rfl (rvT (t := 2) (v := .slice none 0 0) S rfl) (rvT (t := 3) (v := iv r6) S rfl)) ⟨(.slice none 0 0), rfl, S.mem.sel [] [0] (by decide) rfl rfl⟩))
  refine sCondF S rfl hc9 ?_
  refine wp_skip (leafT (hK4 _ _ ?_))
  refine sSeq (fun K11 hK11 => ?_)
  refine sRegion ?_
  refine sMove (.slice ad1 p0.length cp2) S (wN rfl) (.inl rfl) rfl rfl (lb rfl) fun a S => ?_
  refine sLen (ad := ad1) (m := p0.length) (c := cp2) S (wN rfl) rfl Try.underlying62 rfl rfl (lb rfl) fun a S => ?_
  obtain ⟨z14, hx15, h⟩ := bindSome h
  refine sMake0 r_api_Stitch (m := (p0.length : Int)) (u := z14) (.agg #[.int .u8 0, .bool false, iv 0, iv 0]) 24 S (wN rfl) rfl Try.underlying62 rfl (by decide) rfl rfl hx15 rfl (lb rfl) fun a w ad12 cp13 S => ?_
  refine sAlloc (.slice none 0 0) S (wN rfl) rfl rfl [.slice none 0 0] rfl rfl (lb rfl) fun a b16 w S => ?_
  refine sStore (p := b16) (off := 0) (T := 62) (vs := [.slice none 0 0]) (v := .slice ad12 ([] : List api_Stitch).length cp13) 0 [.slice ad12 ([] : List api_Stitch).length cp13] S (wN rfl) rfl rfl rfl rfl rfl rfl rfl (by simp) rfl fun a w S => ?_
  refine leafL (leafT (hK11 _ _ ?_))
  refine sSeq (fun K17 hK17 => ?_)
  refine sSeq (fun K18 hK18 => ?_)
  refine sRegion ?_
  refine sMove (.slice ad1 p0.length cp2) S (wN rfl) (.inl rfl) rfl rfl (lb rfl) fun a S => ?_
  obtain ⟨r19, hx20, h⟩ := bindSome h
  refine sCall (X := Value) (f := 66) (vs := [.slice ad1 p0.length cp2]) (val := c_slices_Backward___api_Stitch_api_Stitch__val r19) (B' := fun _ => []) (D' := c_slices_Backward___api_Stitch_api_Stitch__D r19) [] [eBox b16 62 [.slice ad12 ([] : List api_Stitch).length cp13], eRow r_api_Stitch 61 (.slice ad12 ([] : List api_Stitch).length cp13) ([] : List api_Stitch)] [fRep (rL r_api_Stitch) (.slice ad1 p0.length cp2) p0] [0, 1] [0] S (wN rfl) rfl callee66 rfl (by decide) rfl rfl (fun E1 w1 S1 => c_slices_Backward___api_Stitch_api_Stitch_ E1 w1 p0 (.slice ad1 p0.length cp2) r19 hx20 S1) rfl (lb rfl) fun u21 a w S => ?_
  refine leafL (leafT (hK18 _ _ ?_))
  refine wp_block ?_
  obtain ⟨t53, hl54, g52⟩ := bindSome h
  replace S : St [] E [] w0 51 a w [(5, .pointer (some ⟨b16, 0, none⟩)), (19, .func (.func 73) #[] #[u21])] [eBox b16 62 [.slice ad12 ([] : List api_Stitch).length cp13], eRow r_api_Stitch 61 (.slice ad12 ([] : List api_Stitch).length cp13) ([] : List api_Stitch)] [fPtr (rL r_api_Stitch) (u21) r19] := S.fix [0, 1] [0] (by decide) rfl rfl rfl
  refine sRange2 (B := stitch_Turn_l2) (fun s0 L D => match s0 with | s22 => ∃ ad23, ∃ cp24, L = [eBox b16 62 [.slice ad23 s22.length cp24], eRow r_api_Stitch 61 (.slice ad23 s22.length cp24) s22] ∧ D = [fPtr (rL r_api_Stitch) (u21) r19]) (fun _ _ _ _ => False) [0] S hl54 rfl callee73 (it_slices_Backward___api_Stitch_api_Stitch__1 r19 u21) rfl (by decide) (by decide) ⟨ad12, cp13, rfl, rfl⟩ ?_ ?_ ?_
  · intro E l0 s22 x25 x27 u26 u28 b L D K a w0 hK hIL hB S
    clear hl54 g52 h hK
    unfold stitch_Turn_l2 at hB
    dsimp only at hB hIL
    obtain ⟨ad23, cp24, rfl, rfl⟩ := hIL
    have h := hB
    clear hB
    obtain rfl : u26 = iv x25 := S.mem.know (i := 0) (e := fRep (rI .i64) (u26) x25) rfl
    obtain rfl : u28 = .agg #[.int .u8 x27.Kind, .bool x27.Purl, iv x27.A, iv x27.B] := S.mem.know (i := 1) (e := fRep r_api_Stitch (u28) x27) rfl
    refine sRegionR (by repeat (first | exact roundU_out | exact it_out | exact lo_false | refine lo_then ?_ | refine lo_block ?_)) rfl ?_
    refine sAlloc (.agg #[.int .u8 0, .bool false, iv 0, iv 0]) S (wN rfl) rfl rfl [.int .u8 0, .bool false, iv 0, iv 0] rfl rfl (lb rfl) fun a b29 w S => ?_
    refine sStore (p := b29) (off := 0) (T := 61) (vs := [.int .u8 0, .bool false, iv 0, iv 0]) (v := .agg #[.int .u8 x27.Kind, .bool x27.Purl, iv x27.A, iv x27.B]) 0 [.int .u8 x27.Kind, .bool x27.Purl, iv x27.A, iv x27.B] S (wN rfl) rfl rfl rfl rfl rfl rfl rfl (by simp) rfl fun a w S => ?_
    refine leafL (leafT (⟨_, _, _, S, fun K a w0 hK S => ?_⟩))
    refine wpIn_block ?_
    refine sSeqR (fun K30 hK30 => ?_)
    refine sRegionR (by repeat (first | exact roundU_out | exact it_out | exact lo_false | refine lo_then ?_ | refine lo_block ?_)) rfl ?_
    refine sField (b := b29) (off := 0) 0 0 S (wN rfl) rfl rfl rfl rfl rfl (lb rfl) fun a S => ?_
    refine sLoad1 (p := b29) (off := 0) (T := 61) (vs := [.int .u8 x27.Kind, .bool x27.Purl, iv x27.A, iv x27.B]) 0 (.int .u8 x27.Kind) S (wN rfl) rfl rfl rfl rfl rfl rfl (lb rfl) fun a S => ?_
    obtain ⟨r31, hx32, h⟩ := bindSome h
    refine sCall (X := Value) (f := 67) (vs := [.int .u8 x27.Kind]) (val := c_stitch_forms_val r31) (B' := fun _ => []) (D' := c_stitch_forms_D r31) [] [eBox b29 61 [.int .u8 x27.Kind, .bool x27.Purl, iv x27.A, iv x27.B], eBox b16 62 [.slice ad23 s22.length cp24], eRow r_api_Stitch 61 (.slice ad23 s22.length cp24) s22] [] [0, 1, 2] [] S (wN rfl) rfl callee67 rfl (by decide) rfl rfl (fun E1 w1 S1 => c_stitch_forms E1 w1 x27.Kind r31 hx32 S1) rfl (lb rfl) fun u33 a w S => ?_
    obtain rfl : u33 = gv_stitch_form r31.1 := S.mem.know (i := 0) (e := fRep r_stitch_form (u33) r31.1) rfl
    refine sMove (.tuple #[gv_stitch_form r31.1, .bool r31.2]) S (wN rfl) (.inl rfl) rfl rfl (lb rfl) fun a S => ?_
    refine sExtract (vs := [gv_stitch_form r31.1, .bool r31.2]) (gv_stitch_form r31.1) S (wN rfl) rfl rfl rfl rfl (lb rfl) fun a S => ?_
    refine sExtract (vs := [gv_stitch_form r31.1, .bool r31.2]) (.bool r31.2) S (wN rfl) rfl rfl rfl rfl (lb rfl) fun a S => ?_
    refine sAlloc (gv_stitch_form (stitch_form.mk (⟨#[]⟩ : ByteArray) (0, 0) (0, 0) false 0 0)) S (wN rfl) rfl rfl (gl_stitch_form (stitch_form.mk (⟨#[]⟩ : ByteArray) (0, 0) (0, 0) false 0 0)) rfl rfl (lb rfl) fun a b34 w S => ?_
    refine sStore (p := b34) (off := 0) (T := 115) (vs := [.string (⟨#[]⟩ : ByteArray), iv 0, iv 0, iv 0, iv 0, .bool false, iv 0, iv 0]) (v := gv_stitch_form r31.1) 0 [.string r31.1.letter, iv r31.1.a.1, iv r31.1.a.2, iv r31.1.b.1, iv r31.1.b.2, .bool r31.1.sided, iv r31.1.uses, iv r31.1.made] S (wN rfl) rfl rfl rfl rfl rfl rfl rfl (by simp) rfl fun a w S => ?_
    refine sMove (.bool r31.2) S (wN rfl) (.inr rfl) rfl rfl (lb rfl) fun a S => ?_
    refine leafL (leafT (hK30 _ _ ?_))
    obtain ⟨t36, h, g37⟩ := bindSome h
    refine sCutR (fun a w => ∃ o35, o35 = t36 ∧ St [] E K w0 51 a w [(5, .pointer (some ⟨b16, 0, none⟩)), (7, .pointer (some ⟨b29, 0, none⟩)), (8, .pointer (some ⟨b34, 0, none⟩)), (19, .func (.func 73) #[] #[u21]), (21, .agg #[.int .u8 x27.Kind, .bool x27.Purl, iv x27.A, iv x27.B])] [eBox b16 62 [.slice ad23 s22.length cp24], eBox b29 61 [.int .u8 x27.Kind, .bool o35, iv x27.A, iv x27.B], eBox b34 115 (gl_stitch_form r31.1), eRow r_api_Stitch 61 (.slice ad23 s22.length cp24) s22] [fPtr (rL r_api_Stitch) (u21) r19]) ?_ (fun a w hI => ?_)
    · refine sRegionR (by repeat (first | exact roundU_out | exact it_out | exact lo_false | refine lo_then ?_ | refine lo_block ?_)) rfl ?_
      refine sField (b := b34) (off := 0) 5 5 S (wN rfl) rfl rfl rfl rfl rfl (lb rfl) fun a S => ?_
      refine sLoad1 (p := b34) (off := 5) (T := 115) (vs := (gl_stitch_form r31.1)) 0 (.bool r31.1.sided) S (wN rfl) rfl rfl rfl rfl rfl rfl (lb rfl) fun a S => ?_
      refine sMove (.bool r31.1.sided) S (wN rfl) (.inl rfl) rfl rfl (lb rfl) fun a S => ?_
      rcases iteSome h with ⟨hc38, h⟩ | ⟨hc38, h⟩
      rotate_left
      · refine sSkip 2 true 30 31 S rfl rfl rfl hc38 rfl (lb rfl) fun a S => ?_
        refine sSkip 2 true 30 32 S rfl rfl rfl hc38 rfl (lb rfl) fun a S => ?_
        refine sSkip 2 true 30 33 S rfl rfl rfl hc38 rfl (lb rfl) fun a S => ?_
        refine sPickF (.bool false) S (wN rfl) rfl rfl hc38 rfl rfl (lb rfl) fun a S => ?_
        refine sField (b := b29) (off := 0) 1 1 S (wN rfl) rfl rfl rfl rfl rfl (lb rfl) fun a S => ?_
        refine sStore (p := b29) (off := 1) (T := 61) (vs := [.int .u8 x27.Kind, .bool x27.Purl, iv x27.A, iv x27.B]) (v := .bool false) 1 [.bool false] S (wN rfl) rfl rfl rfl rfl rfl rfl rfl (by simp) rfl fun a w S => ?_
        exact leafL (leafT (⟨false, Option.some.inj h, S.fix [2, 0, 1, 3] [3] (by decide) rfl rfl rfl⟩))
      refine sField (b := b29) (off := 0) 1 1 S (wG 2 true 30 rfl rfl rfl hc38) rfl rfl rfl rfl rfl (lb rfl) fun a S => ?_
      refine sLoad1 (p := b29) (off := 1) (T := 61) (vs := [.int .u8 x27.Kind, .bool x27.Purl, iv x27.A, iv x27.B]) 1 (.bool x27.Purl) S (wG 2 true 30 rfl rfl rfl hc38) rfl rfl rfl rfl rfl rfl (lb rfl) fun a S => ?_
      refine sNot (b := x27.Purl) S (wG 2 true 30 rfl rfl rfl hc38) rfl rfl rfl (lb rfl) fun a S => ?_
      refine sPickT (.bool (!x27.Purl)) S (wN rfl) rfl rfl hc38 rfl rfl (lb rfl) fun a S => ?_
      refine sField (b := b29) (off := 0) 1 1 S (wN rfl) rfl rfl rfl rfl rfl (lb rfl) fun a S => ?_
      refine sStore (p := b29) (off := 1) (T := 61) (vs := [.int .u8 x27.Kind, .bool x27.Purl, iv x27.A, iv x27.B]) (v := .bool (!x27.Purl)) 1 [.bool (!x27.Purl)] S (wN rfl) rfl rfl rfl rfl rfl rfl rfl (by simp) rfl fun a w S => ?_
      exact leafL (leafT (⟨!x27.Purl, Option.some.inj h, S.fix [2, 0, 1, 3] [3] (by decide) rfl rfl rfl⟩))
    obtain ⟨o35, rfl, S⟩ := hI
    have h := g37
    clear g37
    try dsimp only at h
    obtain ⟨t41, h, g42⟩ := bindSome h
    refine sCutR (fun a w => ∃ o39, ∃ o40, (o39, o40) = t41 ∧ St [] E K w0 51 a w [(5, .pointer (some ⟨b16, 0, none⟩)), (7, .pointer (some ⟨b29, 0, none⟩)), (19, .func (.func 73) #[] #[u21]), (21, .agg #[.int .u8 x27.Kind, .bool x27.Purl, iv x27.A, iv x27.B])] [eBox b16 62 [.slice ad23 s22.length cp24], eBox b29 61 [.int .u8 x27.Kind, .bool o35, iv o39, iv o40], eRow r_api_Stitch 61 (.slice ad23 s22.length cp24) s22] [fPtr (rL r_api_Stitch) (u21) r19]) ?_ (fun a w hI => ?_)
    rotate_left
    · obtain ⟨o39, o40, rfl, S⟩ := hI
      have h := g42
      clear g42
      try dsimp only at h
      refine sRegionR (by repeat (first | exact roundU_out | exact it_out | exact lo_false | refine lo_then ?_ | refine lo_block ?_)) rfl ?_
      refine sLoad1 (p := b16) (off := 0) (T := 62) (vs := [.slice ad23 s22.length cp24]) 0 (.slice ad23 s22.length cp24) S (wN rfl) rfl rfl rfl rfl rfl rfl (lb rfl) fun a S => ?_
      refine sLoadN (p := b29) (off := 0) (T := 61) (vs := [.int .u8 x27.Kind, .bool o35, iv o39, iv o40]) 1 [.int .u8 x27.Kind, .bool o35, iv o39, iv o40] S (wN rfl) rfl rfl rfl rfl rfl rfl rfl (lb rfl) fun a S => ?_
      have S := S.learn (fRep r_api_Stitch (.agg #[.int .u8 x27.Kind, .bool o35, iv o39, iv o40]) (api_Stitch.mk x27.Kind o35 o39 o40)) rfl
      refine sLit (r := r_api_Stitch) (T := 61) (xs := [(api_Stitch.mk x27.Kind o35 o39 o40)]) [(0, .agg #[.int .u8 x27.Kind, .bool o35, iv o39, iv o40])] 1 [.agg #[.int .u8 x27.Kind, .bool o35, iv o39, iv o40]] [.int .u8 x27.Kind, .bool o35, iv o39, iv o40] (.agg #[.int .u8 0, .bool false, iv 0, iv 0]) 24 S (wN rfl) rfl rfl Try.underlying62 rfl (by decide) (by decide) (by kernel_rfl) rfl (fun E1 w1 hE => All.cons (r_api_Stitch.mono hE (S.mem.know (i := 0) (e := fRep r_api_Stitch (.agg #[.int .u8 x27.Kind, .bool o35, iv o39, iv o40]) (api_Stitch.mk x27.Kind o35 o39 o40)) rfl)) (All.nil _ _ _)) rfl rfl (lb rfl) fun a w ad45 cp46 S => ?_
      obtain ⟨l47, hx48, h⟩ := bindSome h
      refine sApp (r := r_api_Stitch) (T := 61) (xs := s22) (ys := [(api_Stitch.mk x27.Kind o35 o39 o40)]) (v := .slice ad23 s22.length cp24) (u := .slice ad45 [(api_Stitch.mk x27.Kind o35 o39 o40)].length cp46) 3 (.agg #[.int .u8 0, .bool false, iv 0, iv 0]) 24 S (wN rfl) rfl Try.underlying62 rfl rfl (by decide) rfl rfl rfl (src_R (T := 61) 0 S.mem rfl) hx48 rfl (lb rfl) fun a w ad49 cp50 S => ?_
      refine sStore (p := b16) (off := 0) (T := 62) (vs := [.slice ad23 s22.length cp24]) (v := .slice ad49 l47.length cp50) 2 [.slice ad49 l47.length cp50] S (wN rfl) rfl rfl rfl rfl rfl rfl rfl (by simp) rfl fun a w S => ?_
      exact leafL (leafB (rnN l47 _ _ [] (Option.some.inj h) ⟨ad49, cp50, rfl, rfl⟩ (S.fix [0, 1] [1] (by decide) rfl rfl rfl)))
    refine sSeqR (fun K43 hK43 => ?_)
    refine sRegionR (by repeat (first | exact roundU_out | exact it_out | exact lo_false | refine lo_then ?_ | refine lo_block ?_)) rfl ?_
    refine sField (b := b34) (off := 0) 3 3 S (wN rfl) rfl rfl rfl rfl rfl (lb rfl) fun a S => ?_
    refine sIdxV (v := .pointer (some ⟨b34, 3, none⟩)) (k := .i64) (j := 1) (q := .pointer (some ⟨b34, 4, none⟩)) S (wN rfl) rfl rfl rfl (idxV_arr (m := 2) (sz := 1) Try.underlying49 rfl (by decide) (by decide) 3) rfl (lb rfl) fun a S => ?_
    refine sLoad1 (p := b34) (off := 4) (T := 115) (vs := (gl_stitch_form r31.1)) 2 (iv r31.1.b.2) S (wN rfl) rfl rfl rfl rfl rfl rfl (lb rfl) fun a S => ?_
    refine sBin (.bool (decide (0 < r31.1.b.2))) S (wN rfl) rfl rfl rfl (bGt _ _ _ _ .i64 r31.1.b.2 0) rfl (lb rfl) fun a S => ?_
    refine leafL (leafT (hK43 _ _ ?_))
    rcases iteSome h with ⟨hc44, h⟩ | ⟨hc44, h⟩
    rotate_left
    · refine sCondFR S rfl hc44 ?_
      exact wpIn_skip (leafT (⟨x27.A, x27.B, Option.some.inj h, S.fix [0, 1, 3] [0] (by decide) rfl rfl rfl⟩))
    refine sCondTR S rfl hc44 ?_
    refine sRegionR (by repeat (first | exact roundU_out | exact it_out | exact lo_false | refine lo_then ?_ | refine lo_block ?_)) rfl ?_
    refine sField (b := b29) (off := 0) 3 3 S (wN rfl) rfl rfl rfl rfl rfl (lb rfl) fun a S => ?_
    refine sLoad1 (p := b29) (off := 3) (T := 61) (vs := [.int .u8 x27.Kind, .bool o35, iv x27.A, iv x27.B]) 1 (iv x27.B) S (wN rfl) rfl rfl rfl rfl rfl rfl (lb rfl) fun a S => ?_
    refine sField (b := b29) (off := 0) 2 2 S (wN rfl) rfl rfl rfl rfl rfl (lb rfl) fun a S => ?_
    refine sLoad1 (p := b29) (off := 2) (T := 61) (vs := [.int .u8 x27.Kind, .bool o35, iv x27.A, iv x27.B]) 1 (iv x27.A) S (wN rfl) rfl rfl rfl rfl rfl rfl (lb rfl) fun a S => ?_
    refine sField (b := b29) (off := 0) 2 2 S (wN rfl) rfl rfl rfl rfl rfl (lb rfl) fun a S => ?_
    refine sStore (p := b29) (off := 2) (T := 61) (vs := [.int .u8 x27.Kind, .bool o35, iv x27.A, iv x27.B]) (v := iv x27.B) 1 [iv x27.B] S (wN rfl) rfl rfl rfl rfl rfl rfl rfl (by simp) rfl fun a w S => ?_
    refine sField (b := b29) (off := 0) 3 3 S (wN rfl) rfl rfl rfl rfl rfl (lb rfl) fun a S => ?_
    refine sStore (p := b29) (off := 3) (T := 61) (vs := [.int .u8 x27.Kind, .bool o35, iv x27.B, iv x27.B]) (v := iv x27.A) 0 [iv x27.A] S (wN rfl) rfl rfl rfl rfl rfl rfl rfl (by simp) rfl fun a w S => ?_
    exact leafL (leafT (⟨x27.B, x27.A, Option.some.inj h, S.fix [1, 0, 3] [0] (by decide) rfl rfl rfl⟩))
  · intro dk51 s22 L D a w hr hIL S
    clear h
    obtain rfl := hr
    dsimp only at g52 hIL
    obtain ⟨ad23, cp24, rfl, rfl⟩ := hIL
    have h := g52
    clear g52 hl54
    replace S : St [mark dk51] E [] w0 51 a w [(5, .pointer (some ⟨b16, 0, none⟩)), (19, .func (.func 73) #[] #[u21])] [eBox b16 62 [.slice ad23 s22.length cp24], eRow r_api_Stitch 61 (.slice ad23 s22.length cp24) s22, eDef dk51] [fPtr (rL r_api_Stitch) (u21) r19] := S
    refine leafB (leafT (hK17 _ _ ?_))
    refine sSeq (fun K55 hK55 => ?_)
    refine sRegion ?_
    refine sLoad1 (p := b16) (off := 0) (T := 62) (vs := [.slice ad23 s22.length cp24]) 0 (.slice ad23 s22.length cp24) S (wN rfl) rfl rfl rfl rfl rfl rfl (lb rfl) fun a S => ?_
    refine sMove (.slice ad23 s22.length cp24) S (wN rfl) (.inr rfl) rfl rfl (lb rfl) fun a S => ?_
    refine sMove (iv 0) S (wN rfl) (.inr rfl) rfl rfl (lb rfl) fun a S => ?_
    refine leafL (leafT (hK55 _ _ ?_))
    refine wp_ret (sRetM1 2 S rfl (fun a w S => ?_))
    obtain rfl := Option.some.inj h
    have S := S.shutR (r := r_api_Stitch) (T := 61) (v := .slice ad23 s22.length cp24) (xs := s22) 1 rfl
    exact sFin (.tuple #[.slice ad23 s22.length cp24, iv 0]) S (rsl2 rfl (rvT (t := 2) (v := .slice ad23 s22.length cp24) S rfl) (rvT (t := 3) (v := iv 0) S rfl)) ⟨(.slice ad23 s22.length cp24), rfl, S.mem.sel [] [0] (by decide) rfl rfl⟩
  · intro dk51 c0 t0 L D a w hr hIX S
    clear h
    exact hIX.elim

end Go.Proofs.Yticjoiolfibmlaa
namespace Go.Proofs.Yticjoiolfibmlaa
open Go.RowKit
set_option linter.unusedVariables false

noncomputable def F_raddleref25_Other (p0 : api_Stitch) : Option api_Stitch :=
  Option.bind (α := Bool) (
    Option.bind (α := Bool) (
      if p0.Kind != 2 then
        some (p0.Kind != 9)
      else
        some false) fun o7 =>
    if o7 then
      some (!p0.Purl)
    else
      some p0.Purl) fun o4 =>
  Option.bind (α := (Int × Int)) (
    Option.bind (α := Bool) (
      if p0.Kind == 6 then
        some true
      else
        some (p0.Kind == 7)) fun o16 =>
    if o16 then
      some (p0.B, p0.A)
    else
      some (p0.A, p0.B)) fun (o12, o13) =>
  some (api_Stitch.mk p0.Kind o4 o12 o13)
def c_raddleref25_Other_val (r : api_Stitch) (x : Value) : Value := x
def c_raddleref25_Other_D (r : api_Stitch) (x : Value) : List Fact := [fRep r_api_Stitch x r]
set_option maxHeartbeats 4000000 in
set_option maxRecDepth 100000 in
theorem c_raddleref25_Other (E : Nat → Prop) (w0 : World) (p0 : api_Stitch) (v0 : Value) (r : api_Stitch) (h : F_raddleref25_Other p0 = some r) (S : St0 E [] w0 w0 [] [fRep r_api_Stitch (v0) p0]) :
    Calls Try.prog 51 #[v0] w0 (Ret (X := Value) E [] w0 (c_raddleref25_Other_val r) (fun _ => []) (c_raddleref25_Other_D r)) := by
  unfold F_raddleref25_Other at h
  obtain rfl : v0 = .agg #[.int .u8 p0.Kind, .bool p0.Purl, iv p0.A, iv p0.B] := S.know (i := 0) (e := fRep r_api_Stitch (v0) p0) rfl
  refine sEnter (args := [.agg #[.int .u8 p0.Kind, .bool p0.Purl, iv p0.A, iv p0.B]]) 30 Try.func51 rfl rfl (by simp) S (fun a S => ?_)
  refine sSeq (fun K1 hK1 => ?_)
  refine sRegion ?_
  refine sBox (v := .agg #[.int .u8 p0.Kind, .bool p0.Purl, iv p0.A, iv p0.B]) S (wN rfl) rfl rfl [.int .u8 p0.Kind, .bool p0.Purl, iv p0.A, iv p0.B] rfl rfl (lb rfl) fun a b2 w S => ?_
  refine sAlloc (.agg #[.int .u8 0, .bool false, iv 0, iv 0]) S (wN rfl) rfl rfl [.int .u8 0, .bool false, iv 0, iv 0] rfl rfl (lb rfl) fun a b3 w S => ?_
  refine leafL (leafT (hK1 _ _ ?_))
  obtain ⟨t5, h, g6⟩ := bindSome h
  refine sCut (fun a w => ∃ o4, o4 = t5 ∧ St [] E [] w0 30 a w [(1, .pointer (some ⟨b2, 0, none⟩)), (2, .pointer (some ⟨b3, 0, none⟩))] [eBox b2 61 [.int .u8 p0.Kind, .bool o4, iv p0.A, iv p0.B], eBox b3 61 [.int .u8 0, .bool false, iv 0, iv 0]] []) ?_ (fun a w hI => ?_)
  · obtain ⟨t8, h, g9⟩ := bindSome h
    refine sCut (fun a w => ∃ o7, o7 = t8 ∧ St [] E [] w0 30 a w [(1, .pointer (some ⟨b2, 0, none⟩)), (2, .pointer (some ⟨b3, 0, none⟩)), (10, .bool o7)] [eBox b2 61 [.int .u8 p0.Kind, .bool p0.Purl, iv p0.A, iv p0.B], eBox b3 61 [.int .u8 0, .bool false, iv 0, iv 0]] []) ?_ (fun a w hI => ?_)
    rotate_left
    · obtain ⟨o7, rfl, S⟩ := hI
      have h := g9
      clear g9
      try dsimp only at h
      rcases iteSome h with ⟨hc11, h⟩ | ⟨hc11, h⟩
      rotate_left
      · refine sCondF S rfl hc11 ?_
        exact wp_skip (leafT (⟨p0.Purl, Option.some.inj h, S.fix [0, 1] [] (by decide) rfl rfl rfl⟩))
      refine sCondT S rfl hc11 ?_
      refine sRegion ?_
      refine sField (b := b2) (off := 0) 1 1 S (wN rfl) rfl rfl rfl rfl rfl (lb rfl) fun a S => ?_
      refine sLoad1 (p := b2) (off := 1) (T := 61) (vs := [.int .u8 p0.Kind, .bool p0.Purl, iv p0.A, iv p0.B]) 0 (.bool p0.Purl) S (wN rfl) rfl rfl rfl rfl rfl rfl (lb rfl) fun a S => ?_
      refine sNot (b := p0.Purl) S (wN rfl) rfl rfl rfl (lb rfl) fun a S => ?_
      refine sField (b := b2) (off := 0) 1 1 S (wN rfl) rfl rfl rfl rfl rfl (lb rfl) fun a S => ?_
      refine sStore (p := b2) (off := 1) (T := 61) (vs := [.int .u8 p0.Kind, .bool p0.Purl, iv p0.A, iv p0.B]) (v := .bool (!p0.Purl)) 0 [.bool (!p0.Purl)] S (wN rfl) rfl rfl rfl rfl rfl rfl rfl (by simp) rfl fun a w S => ?_
      exact leafL (leafT (⟨!p0.Purl, Option.some.inj h, S.fix [0, 1] [] (by decide) rfl rfl rfl⟩))
    refine sRegion ?_
    refine sField (b := b2) (off := 0) 0 0 S (wN rfl) rfl rfl rfl rfl rfl (lb rfl) fun a S => ?_
    refine sLoad1 (p := b2) (off := 0) (T := 61) (vs := [.int .u8 p0.Kind, .bool p0.Purl, iv p0.A, iv p0.B]) 1 (.int .u8 p0.Kind) S (wN rfl) rfl rfl rfl rfl rfl rfl (lb rfl) fun a S => ?_
    refine sBin (.bool (p0.Kind != 2)) S (wN rfl) rfl rfl rfl (bNe _ _ _ _ .u8 p0.Kind 2) rfl (lb rfl) fun a S => ?_
    refine sMove (.bool (p0.Kind != 2)) S (wN rfl) (.inl rfl) rfl rfl (lb rfl) fun a S => ?_
    rcases iteSome h with ⟨hc10, h⟩ | ⟨hc10, h⟩
    rotate_left
    · refine sSkip 3 true 6 7 S rfl rfl rfl hc10 rfl (lb rfl) fun a S => ?_
      refine sSkip 3 true 6 8 S rfl rfl rfl hc10 rfl (lb rfl) fun a S => ?_
      refine sSkip 3 true 6 9 S rfl rfl rfl hc10 rfl (lb rfl) fun a S => ?_
      refine sPickF (.bool false) S (wN rfl) rfl rfl hc10 rfl rfl (lb rfl) fun a S => ?_
      exact leafL (leafT (⟨false, Option.some.inj h, S.fix [1, 0] [] (by decide) rfl rfl rfl⟩))
    refine sField (b := b2) (off := 0) 0 0 S (wG 3 true 6 rfl rfl rfl hc10) rfl rfl rfl rfl rfl (lb rfl) fun a S => ?_
    refine sLoad1 (p := b2) (off := 0) (T := 61) (vs := [.int .u8 p0.Kind, .bool p0.Purl, iv p0.A, iv p0.B]) 1 (.int .u8 p0.Kind) S (wG 3 true 6 rfl rfl rfl hc10) rfl rfl rfl rfl rfl rfl (lb rfl) fun a S => ?_
    refine sBin (.bool (p0.Kind != 9)) S (wG 3 true 6 rfl rfl rfl hc10) rfl rfl rfl (bNe _ _ _ _ .u8 p0.Kind 9) rfl (lb rfl) fun a S => ?_
    refine sPickT (.bool (p0.Kind != 9)) S (wN rfl) rfl rfl hc10 rfl rfl (lb rfl) fun a S => ?_
    exact leafL (leafT (⟨p0.Kind != 9, Option.some.inj h, S.fix [1, 0] [] (by decide) rfl rfl rfl⟩))
  obtain ⟨o4, rfl, S⟩ := hI
  have h := g6
  clear g6
  try dsimp only at h
  obtain ⟨t14, h, g15⟩ := bindSome h
  refine sCut (fun a w => ∃ o12, ∃ o13, (o12, o13) = t14 ∧ St [] E [] w0 30 a w [(1, .pointer (some ⟨b2, 0, none⟩)), (2, .pointer (some ⟨b3, 0, none⟩))] [eBox b2 61 [.int .u8 p0.Kind, .bool o4, iv o12, iv o13], eBox b3 61 [.int .u8 0, .bool false, iv 0, iv 0]] []) ?_ (fun a w hI => ?_)
  rotate_left
  · obtain ⟨o12, o13, rfl, S⟩ := hI
    have h := g15
    clear g15
    try dsimp only at h
    refine sSeq (fun K21 hK21 => ?_)
    refine sRegion ?_
    refine sLoadN (p := b2) (off := 0) (T := 61) (vs := [.int .u8 p0.Kind, .bool o4, iv o12, iv o13]) 0 [.int .u8 p0.Kind, .bool o4, iv o12, iv o13] S (wN rfl) rfl rfl rfl rfl rfl rfl rfl (lb rfl) fun a S => ?_
    refine sStore (p := b3) (off := 0) (T := 61) (vs := [.int .u8 0, .bool false, iv 0, iv 0]) (v := .agg #[.int .u8 p0.Kind, .bool o4, iv o12, iv o13]) 1 [.int .u8 p0.Kind, .bool o4, iv o12, iv o13] S (wN rfl) rfl rfl rfl rfl rfl rfl rfl (by simp) rfl fun a w S => ?_
    refine leafL (leafT (hK21 _ _ ?_))
    obtain rfl := Option.some.inj h
    have S := S.learn (fRep r_api_Stitch (.agg #[.int .u8 p0.Kind, .bool o4, iv o12, iv o13]) (api_Stitch.mk p0.Kind o4 o12 o13)) rfl
    exact wp_ret (sRet (.agg #[.int .u8 p0.Kind, .bool o4, iv o12, iv o13]) S (rsl1 rfl (rvN (c := 2) (t := 61) (T := 61) (p := b3) 0 [.int .u8 p0.Kind, .bool o4, iv o12, iv o13] S rfl rfl rfl rfl)) ⟨(.agg #[.int .u8 p0.Kind, .bool o4, iv o12, iv o13]), rfl, S.mem.sel [] [0] (by decide) rfl rfl⟩)
  obtain ⟨t17, h, g18⟩ := bindSome h
  refine sCut (fun a w => ∃ o16, o16 = t17 ∧ St [] E [] w0 30 a w [(1, .pointer (some ⟨b2, 0, none⟩)), (2, .pointer (some ⟨b3, 0, none⟩)), (22, .bool o16)] [eBox b2 61 [.int .u8 p0.Kind, .bool o4, iv p0.A, iv p0.B], eBox b3 61 [.int .u8 0, .bool false, iv 0, iv 0]] []) ?_ (fun a w hI => ?_)
  rotate_left
  · obtain ⟨o16, rfl, S⟩ := hI
    have h := g18
    clear g18
    try dsimp only at h
    rcases iteSome h with ⟨hc20, h⟩ | ⟨hc20, h⟩
    rotate_left
    · refine sCondF S rfl hc20 ?_
      exact wp_skip (leafT (⟨p0.A, p0.B, Option.some.inj h, S.fix [0, 1] [] (by decide) rfl rfl rfl⟩))
    refine sCondT S rfl hc20 ?_
    refine sRegion ?_
    refine sField (b := b2) (off := 0) 3 3 S (wN rfl) rfl rfl rfl rfl rfl (lb rfl) fun a S => ?_
    refine sLoad1 (p := b2) (off := 3) (T := 61) (vs := [.int .u8 p0.Kind, .bool o4, iv p0.A, iv p0.B]) 0 (iv p0.B) S (wN rfl) rfl rfl rfl rfl rfl rfl (lb rfl) fun a S => ?_
    refine sField (b := b2) (off := 0) 2 2 S (wN rfl) rfl rfl rfl rfl rfl (lb rfl) fun a S => ?_
    refine sLoad1 (p := b2) (off := 2) (T := 61) (vs := [.int .u8 p0.Kind, .bool o4, iv p0.A, iv p0.B]) 0 (iv p0.A) S (wN rfl) rfl rfl rfl rfl rfl rfl (lb rfl) fun a S => ?_
    refine sField (b := b2) (off := 0) 2 2 S (wN rfl) rfl rfl rfl rfl rfl (lb rfl) fun a S => ?_
    refine sStore (p := b2) (off := 2) (T := 61) (vs := [.int .u8 p0.Kind, .bool o4, iv p0.A, iv p0.B]) (v := iv p0.B) 0 [iv p0.B] S (wN rfl) rfl rfl rfl rfl rfl rfl rfl (by simp) rfl fun a w S => ?_
    refine sField (b := b2) (off := 0) 3 3 S (wN rfl) rfl rfl rfl rfl rfl (lb rfl) fun a S => ?_
    refine sStore (p := b2) (off := 3) (T := 61) (vs := [.int .u8 p0.Kind, .bool o4, iv p0.B, iv p0.B]) (v := iv p0.A) 0 [iv p0.A] S (wN rfl) rfl rfl rfl rfl rfl rfl rfl (by simp) rfl fun a w S => ?_
    exact leafL (leafT (⟨p0.B, p0.A, Option.some.inj h, S.fix [0, 1] [] (by decide) rfl rfl rfl⟩))
  refine sRegion ?_
  refine sField (b := b2) (off := 0) 0 0 S (wN rfl) rfl rfl rfl rfl rfl (lb rfl) fun a S => ?_
  refine sLoad1 (p := b2) (off := 0) (T := 61) (vs := [.int .u8 p0.Kind, .bool o4, iv p0.A, iv p0.B]) 0 (.int .u8 p0.Kind) S (wN rfl) rfl rfl rfl rfl rfl rfl (lb rfl) fun a S => ?_
  refine sBin (.bool (p0.Kind == 6)) S (wN rfl) rfl rfl rfl (bEq _ _ _ _ .u8 p0.Kind 6) rfl (lb rfl) fun a S => ?_
  refine sMove (.bool (p0.Kind == 6)) S (wN rfl) (.inl rfl) rfl rfl (lb rfl) fun a S => ?_
  rcases iteSome h with ⟨hc19, h⟩ | ⟨hc19, h⟩
  · refine sSkip 3 false 18 19 S rfl rfl rfl hc19 rfl (lb rfl) fun a S => ?_
    refine sSkip 3 false 18 20 S rfl rfl rfl hc19 rfl (lb rfl) fun a S => ?_
    refine sSkip 3 false 18 21 S rfl rfl rfl hc19 rfl (lb rfl) fun a S => ?_
    refine sPickT (.bool true) S (wN rfl) rfl rfl hc19 rfl rfl (lb rfl) fun a S => ?_
    exact leafL (leafT (⟨true, Option.some.inj h, S.fix [0, 1] [] (by decide) rfl rfl rfl⟩))
  refine sField (b := b2) (off := 0) 0 0 S (wG 3 false 18 rfl rfl rfl hc19) rfl rfl rfl rfl rfl (lb rfl) fun a S => ?_
  refine sLoad1 (p := b2) (off := 0) (T := 61) (vs := [.int .u8 p0.Kind, .bool o4, iv p0.A, iv p0.B]) 0 (.int .u8 p0.Kind) S (wG 3 false 18 rfl rfl rfl hc19) rfl rfl rfl rfl rfl rfl (lb rfl) fun a S => ?_
  refine sBin (.bool (p0.Kind == 7)) S (wG 3 false 18 rfl rfl rfl hc19) rfl rfl rfl (bEq _ _ _ _ .u8 p0.Kind 7) rfl (lb rfl) fun a S => ?_
  refine sPickF (.bool (p0.Kind == 7)) S (wN rfl) rfl rfl hc19 rfl rfl (lb rfl) fun a S => ?_
  exact leafL (leafT (⟨p0.Kind == 7, Option.some.inj h, S.fix [0, 1] [] (by decide) rfl rfl rfl⟩))

end Go.Proofs.Yticjoiolfibmlaa
namespace Go.Proofs.Yticjoiolfibmlaa
open Go.RowKit
set_option linter.unusedVariables false

noncomputable def raddleref25_Turned_l1 (p0 : (List api_Stitch)) : (List api_Stitch × Int) → Option ((List api_Stitch × Int) ⊕ List api_Stitch) := fun s0 => match s0 with
  | (s11, s14) =>
    if decide (0 ≤ s14) then
      Option.bind (idxO p0 s14) fun x25 =>
      Option.bind (F_raddleref25_Other x25) fun r30 =>
      Option.bind (appO s11 [r30]) fun l35 =>
      some (.inl (l35, w64 (s14 - 1)))
    else
      some (.inr s11)
noncomputable def F_raddleref25_Turned (p0 : (List api_Stitch)) : Option (List api_Stitch) :=
  Option.bind (α := List api_Stitch) (
    Option.bind (whileO (raddleref25_Turned_l1 p0) (([] : List api_Stitch), w64 ((p0.length : Int) - 1))) fun e18 =>
      some e18) fun o5 =>
  some o5
def c_raddleref25_Turned_val (r : (List api_Stitch)) (x : Value) : Value := x
def c_raddleref25_Turned_D (r : (List api_Stitch)) (x : Value) : List Fact := [fRep (rL r_api_Stitch) x r]
set_option maxHeartbeats 4000000 in
set_option maxRecDepth 100000 in
theorem c_raddleref25_Turned (E : Nat → Prop) (w0 : World) (p0 : (List api_Stitch)) (v0 : Value) (r : (List api_Stitch)) (h : F_raddleref25_Turned p0 = some r) (S : St0 E [] w0 w0 [] [fRep (rL r_api_Stitch) (v0) p0]) :
    Calls Try.prog 41 #[v0] w0 (Ret (X := Value) E [] w0 (c_raddleref25_Turned_val r) (fun _ => []) (c_raddleref25_Turned_D r)) := by
  unfold F_raddleref25_Turned at h
  obtain ⟨ad1, cp2, _, rfl, _⟩ := S.know (i := 0) (e := fRep (rL r_api_Stitch) (v0) p0) rfl
  refine sEnter (args := [.slice ad1 p0.length cp2]) 21 Try.func41 rfl rfl (by simp) S (fun a S => ?_)
  refine sSeq (fun K3 hK3 => ?_)
  refine sRegion ?_
  refine sMove (.slice none 0 0) S (wN rfl) (.inr rfl) rfl rfl (lb rfl) fun a S => ?_
  refine leafL (leafT (hK3 _ _ ?_))
  refine sSeq (fun K4 hK4 => ?_)
  refine sRegion ?_
  refine sMove (.slice none 0 0) S (wN rfl) (.inr rfl) rfl rfl (lb rfl) fun a S => ?_
  refine leafL (leafT (hK4 _ _ ?_))
  obtain ⟨t8, h, g9⟩ := bindSome h
  refine sCut (fun a w => ∃ o5, o5 = t8 ∧ ∃ ad6, ∃ cp7, St [] E [] w0 21 a w [(3, .slice ad6 o5.length cp7)] [eRow r_api_Stitch 61 (.slice ad6 o5.length cp7) o5] []) ?_ (fun a w hI => ?_)
  rotate_left
  · obtain ⟨o5, rfl, ad6, cp7, S⟩ := hI
    have h := g9
    clear g9
    try dsimp only at h
    refine sSeq (fun K39 hK39 => ?_)
    refine sRegion ?_
    refine sMove (.slice ad6 o5.length cp7) S (wN rfl) (.inl rfl) rfl rfl (lb rfl) fun a S => ?_
    refine sMove (.slice ad6 o5.length cp7) S (wN rfl) (.inr rfl) rfl rfl (lb rfl) fun a S => ?_
    refine leafL (leafT (hK39 _ _ ?_))
    obtain rfl := Option.some.inj h
    have S := S.shutR (r := r_api_Stitch) (T := 61) (v := .slice ad6 o5.length cp7) (xs := o5) 0 rfl
    exact wp_ret (sRet (.slice ad6 o5.length cp7) S (rsl1 rfl (rvT (t := 2) (v := .slice ad6 o5.length cp7) S rfl)) ⟨(.slice ad6 o5.length cp7), rfl, S.mem.sel [] [0] (by decide) rfl rfl⟩)
  refine sSeq (fun K10 hK10 => ?_)
  refine sRegion ?_
  refine sMove (.slice ad1 p0.length cp2) S (wN rfl) (.inl rfl) rfl rfl (lb rfl) fun a S => ?_
  refine sLen (ad := ad1) (m := p0.length) (c := cp2) S (wN rfl) rfl Try.underlying62 rfl rfl (lb rfl) fun a S => ?_
  refine sBin (iv (w64 ((p0.length : Int) - 1))) S (wN rfl) rfl rfl rfl (bSub _ _ _ _ (p0.length : Int) 1) rfl (lb rfl) fun a S => ?_
  refine sMove (iv (w64 ((p0.length : Int) - 1))) S (wN rfl) (.inr rfl) rfl rfl (lb rfl) fun a S => ?_
  refine leafL (leafT (hK10 _ _ ?_))
  refine wp_block ?_
  have S := S.nilRow r_api_Stitch 61 (α := api_Stitch)
  obtain ⟨t17, hl, g16⟩ := bindSome h
  refine sLoop hl (fun s0 a w => match s0 with | (s11, s14) => ∃ ad12, ∃ cp13, St [] E [] w0 21 a w [(0, .slice ad1 p0.length cp2), (3, .slice ad12 s11.length cp13), (4, iv s14)] [eRow r_api_Stitch 61 (.slice ad12 s11.length cp13) s11] [fRep (rL r_api_Stitch) (.slice ad1 p0.length cp2) p0]) ⟨none, 0, S.fix [0] [0] (by decide) rfl rfl rfl⟩ ?_
  clear hl h
  intro s0 a w c0 hI h hu15
  obtain ⟨s11, s14⟩ := s0
  unfold raddleref25_Turned_l1 at h
  dsimp only at h hI
  obtain ⟨ad12, cp13, S⟩ := hI
  refine sSeq (fun K21 hK21 => ?_)
  refine sSeq (fun K22 hK22 => ?_)
  refine sRegion ?_
  refine sMove (iv s14) S (wN rfl) (.inl rfl) rfl rfl (lb rfl) fun a S => ?_
  refine sBin (.bool (decide (0 ≤ s14))) S (wN rfl) rfl rfl rfl (bGe _ _ _ _ .i64 s14 0) rfl (lb rfl) fun a S => ?_
  refine leafL (leafT (hK22 _ _ ?_))
  rcases iteSome h with ⟨hc23, h⟩ | ⟨hc23, h⟩
  rotate_left
  · refine sCondF S rfl hc23 ?_
    obtain rfl := Option.some.inj h
    obtain rfl := hu15 _ rfl
    have h := g16
    clear g16
    try dsimp only at h
    exact wp_exit (xThen (xThen (xHit (leafT (⟨s11, Option.some.inj h, ad12, cp13, S.fix [0] [] (by decide) rfl rfl rfl⟩)))))
  refine sCondT S rfl hc23 ?_
  refine wp_skip (leafT (hK21 _ _ ?_))
  refine sSeq (fun K24 hK24 => ?_)
  refine wp_block ?_
  refine sRegion ?_
  refine sMove (.slice ad12 s11.length cp13) S (wN rfl) (.inl rfl) rfl rfl (lb rfl) fun a S => ?_
  refine sMove (.slice ad1 p0.length cp2) S (wN rfl) (.inl rfl) rfl rfl (lb rfl) fun a S => ?_
  refine sMove (iv s14) S (wN rfl) (.inl rfl) rfl rfl (lb rfl) fun a S => ?_
  obtain ⟨x25, hx26, h⟩ := bindSome h
  obtain ⟨q27, hq28, S⟩ := pIdx (P := Try.prog) (r := r_api_Stitch) (v := .slice ad1 p0.length cp2) (xs := p0) (j := s14) 62 61 0 S Try.underlying62 rfl rfl hx26
  refine sIdxV (v := .slice ad1 p0.length cp2) (k := .i64) (j := s14) S (wN rfl) rfl rfl rfl hq28 rfl (lb rfl) fun a S => ?_
  obtain ⟨u29, S⟩ := pLoad (r := r_api_Stitch) (q := q27) (x := x25) 0 S rfl
  obtain rfl : u29 = .agg #[.int .u8 x25.Kind, .bool x25.Purl, iv x25.A, iv x25.B] := S.mem.know (i := 1) (e := fRep r_api_Stitch (u29) x25) rfl
  refine sLoadVN (vq := q27) 0 [.int .u8 x25.Kind, .bool x25.Purl, iv x25.A, iv x25.B] S (wN rfl) rfl rfl rfl rfl rfl rfl (lb rfl) fun a S => ?_
  obtain ⟨r30, hx31, h⟩ := bindSome h
  refine sCall (X := Value) (f := 51) (vs := [.agg #[.int .u8 x25.Kind, .bool x25.Purl, iv x25.A, iv x25.B]]) (val := c_raddleref25_Other_val r30) (B' := fun _ => []) (D' := c_raddleref25_Other_D r30) [] [eRow r_api_Stitch 61 (.slice ad12 s11.length cp13) s11] [fRep r_api_Stitch (.agg #[.int .u8 x25.Kind, .bool x25.Purl, iv x25.A, iv x25.B]) x25] [0] [1] S (wN rfl) rfl callee51 rfl (by decide) rfl rfl (fun E1 w1 S1 => c_raddleref25_Other E1 w1 x25 (.agg #[.int .u8 x25.Kind, .bool x25.Purl, iv x25.A, iv x25.B]) r30 hx31 S1) rfl (lb rfl) fun u32 a w S => ?_
  obtain rfl : u32 = .agg #[.int .u8 r30.Kind, .bool r30.Purl, iv r30.A, iv r30.B] := S.mem.know (i := 0) (e := fRep r_api_Stitch (u32) r30) rfl
  refine sLit (r := r_api_Stitch) (T := 61) (xs := [r30]) [(0, .agg #[.int .u8 r30.Kind, .bool r30.Purl, iv r30.A, iv r30.B])] 1 [.agg #[.int .u8 r30.Kind, .bool r30.Purl, iv r30.A, iv r30.B]] [.int .u8 r30.Kind, .bool r30.Purl, iv r30.A, iv r30.B] (.agg #[.int .u8 0, .bool false, iv 0, iv 0]) 24 S (wN rfl) rfl rfl Try.underlying62 rfl (by decide) (by decide) (by kernel_rfl) rfl (fun E1 w1 hE => All.cons (r_api_Stitch.mono hE (S.mem.know (i := 0) (e := fRep r_api_Stitch (.agg #[.int .u8 r30.Kind, .bool r30.Purl, iv r30.A, iv r30.B]) r30) rfl)) (All.nil _ _ _)) rfl rfl (lb rfl) fun a w ad33 cp34 S => ?_
  obtain ⟨l35, hx36, h⟩ := bindSome h
  refine sApp (r := r_api_Stitch) (T := 61) (xs := s11) (ys := [r30]) (v := .slice ad12 s11.length cp13) (u := .slice ad33 [r30].length cp34) 1 (.agg #[.int .u8 0, .bool false, iv 0, iv 0]) 24 S (wN rfl) rfl Try.underlying62 rfl rfl (by decide) rfl rfl rfl (src_R (T := 61) 0 S.mem rfl) hx36 rfl (lb rfl) fun a w ad37 cp38 S => ?_
  refine sMove (.slice ad37 l35.length cp38) S (wN rfl) (.inr rfl) rfl rfl (lb rfl) fun a S => ?_
  refine leafL (leafB (leafT (hK24 _ _ ?_)))
  refine sRegion ?_
  refine sMove (iv s14) S (wN rfl) (.inl rfl) rfl rfl (lb rfl) fun a S => ?_
  refine sBin (iv (w64 (s14 - 1))) S (wN rfl) rfl rfl rfl (bSub _ _ _ _ s14 1) rfl (lb rfl) fun a S => ?_
  refine sMove (iv (w64 (s14 - 1))) S (wN rfl) (.inr rfl) rfl rfl (lb rfl) fun a S => ?_
  exact leafL (leafT (⟨(l35, w64 (s14 - 1)), (Option.some.inj h).symm, ⟨ad37, cp38, S.fix [0] [4] (by decide) rfl rfl rfl⟩⟩))

end Go.Proofs.Yticjoiolfibmlaa
namespace Go.Proofs.Yticjoiolfibmlaa
open Go.RowKit
set_option linter.unusedVariables false

theorem take_one {α : Type} (l : List α) {k : Nat} (hk : k < l.length) : l.take (k + 1) = l.take k ++ [l[k]] := by
  rw [List.take_add_one, List.getElem?_eq_getElem hk]; rfl
def othS (p : api_Stitch) : api_Stitch := ⟨p.Kind, if p.Kind = 2 ∨ p.Kind = 9 then p.Purl else !p.Purl, if p.Kind = 6 ∨ p.Kind = 7 then p.B else p.A, if p.Kind = 6 ∨ p.Kind = 7 then p.A else p.B⟩
theorem purl_no {p : api_Stitch} (h : okS p) (k : p.Kind = 2 ∨ p.Kind = 9) : p.Purl = false := by
  rcases h with h | h | h | h | h | h
  · omega
  · exact h.2.2.2
  · omega
  · omega
  · exact h.2.2.2.2
  · omega
theorem turn_form {p : api_Stitch} (h : okS p) : ∃ f, F_stitch_forms p.Kind = some (f, true) ∧ (if f.sided = true then some (!p.Purl) else some false) = some (othS p).Purl ∧ (if decide (0 < f.b.2) = true then some (p.B, p.A) else some (p.A, p.B)) = some ((othS p).A, (othS p).B) := by
  have hb := okS_bd h
  unfold othS
  rcases kinds (x := p.Kind) (by omega) with k | k | k | k | k | k | k | k | k | k | k | k
  · omega
  · exact ⟨⟨⟨#[]⟩, (0, 0), (0, 0), true, 1, 1⟩, by rw [k]; rfl, by simp [k], by simp [k]⟩
  · exact ⟨⟨⟨#[]⟩, (0, 0), (0, 0), false, 0, 1⟩, by rw [k]; rfl, by simp [k, purl_no h (.inl k)], by simp [k]⟩
  · exact ⟨⟨⟨#[102]⟩, (2, 4), (0, 0), true, 2, 1⟩, by rw [k]; rfl, by simp [k], by simp [k]⟩
  · exact ⟨⟨⟨#[108]⟩, (2, 4), (0, 0), true, 2, 1⟩, by rw [k]; rfl, by simp [k], by simp [k]⟩
  · exact ⟨⟨⟨#[109]⟩, (2, 4), (0, 0), true, 1, 2⟩, by rw [k]; rfl, by simp [k], by simp [k]⟩
  · exact ⟨⟨⟨#[120]⟩, (1, 6), (1, 6), true, 3, 3⟩, by rw [k]; rfl, by simp [k], by simp [k]⟩
  · exact ⟨⟨⟨#[121]⟩, (1, 6), (1, 6), true, 3, 3⟩, by rw [k]; rfl, by simp [k], by simp [k]⟩
  · exact ⟨⟨⟨#[115]⟩, (0, 0), (0, 0), true, 1, 1⟩, by rw [k]; rfl, by simp [k], by simp [k]⟩
  · exact ⟨⟨⟨#[]⟩, (1, 200), (0, 0), false, 0, 2⟩, by rw [k]; rfl, by simp [k, purl_no h (.inr k)], by simp [k]⟩
  · exact ⟨⟨⟨#[111]⟩, (1, 200), (0, 0), true, 2, 0⟩, by rw [k]; rfl, by simp [k], by simp [k]⟩
  · omega
theorem turn_step {p : api_Stitch} (h : okS p) (s : List api_Stitch) (hs : s.length ≤ 1000000000) (i : Int) : stitch_Turn_l2 s (i, p) = some (.inl (s ++ [othS p])) := by
  obtain ⟨f, f1, f2, f3⟩ := turn_form h
  unfold stitch_Turn_l2
  simp only [f1, Option.bind_some, f2, f3]
  rw [appO_of (by simp; omega)]
  rfl
/-- a list from its end on -/
def bkw {α : Type} (l : List α) : Nat → List (Int × α)
  | 0 => []
  | k + 1 => match l[k]? with
    | some x => ((k : Int), x) :: bkw l k
    | none => bkw l k
theorem bkw_fold {α β τ : Type} {B : List β → (Int × α) → Option (List β ⊕ τ)} (l : List α) (g : α → β) (m : Nat) (hB : ∀ s x i, x ∈ l → s.length ≤ m → B s (i, x) = some (.inl (s ++ [g x]))) : ∀ (k : Nat) (s : List β), k ≤ l.length → s.length + k ≤ m → foldO B s (bkw l k) = some (.inl (s ++ ((l.take k).map g).reverse)) := by
  intro k
  induction k with
  | zero => intro s _ _; simp [bkw, foldO]
  | succ k ih =>
    intro s hk hs
    have hx : l[k]? = some (l[k]'(by omega)) := List.getElem?_eq_getElem (by omega)
    simp only [bkw, hx, foldO]
    rw [hB s _ _ (List.getElem_mem _) (by omega)]
    simp only [Option.bind_some]
    rw [ih _ (by omega) (by simp; omega), take_one l (by omega), List.map_append, List.reverse_append, List.append_assoc]
    rfl
theorem back_loop {σ τ : Type} (l : List api_Stitch) (hl : l.length ≤ 1000000000) (B : σ → (Int × api_Stitch) → Option (σ ⊕ τ)) : ∀ (k : Nat) (z : σ), k ≤ l.length → (whileO (slices_Backward___api_Stitch_api_Stitch__1_l1 l B) ((k : Int) - 1, z)).bind fin3 = foldO B z (bkw l k) := by
  intro k
  induction k with
  | zero =>
    intro z _
    have : slices_Backward___api_Stitch_api_Stitch__1_l1 l B (((0 : Nat) : Int) - 1, z) = some (.inr (.inr z)) := by
      unfold slices_Backward___api_Stitch_api_Stitch__1_l1
      simp only [dF (show ¬ (0 : Int) ≤ ((0 : Nat) : Int) - 1 by omega), Bool.false_eq_true, if_false]
    rw [whileO_done this]
    rfl
  | succ k ih =>
    intro z hk
    have e : ((k + 1 : Nat) : Int) - 1 = (k : Int) := by omega
    have hx : l[k]? = some (l[k]'(by omega)) := List.getElem?_eq_getElem (by omega)
    have e1 : slices_Backward___api_Stitch_api_Stitch__1_l1 l B ((k : Int), z) = (B z ((k : Int), l[k]'(by omega))).bind fun y => match y with | .inl z' => some (.inl ((k : Int) - 1, z')) | .inr t => some (.inr (.inl (.inr t))) := by
      unfold slices_Backward___api_Stitch_api_Stitch__1_l1
      simp only [dT (show (0 : Int) ≤ (k : Int) by omega), if_true, idxO_nat (show k < l.length by omega), Option.bind_some, w64_of (show (-9223372036854775808 : Int) ≤ (k : Int) - 1 by omega) (by omega)]
      try congr 1
    simp only [bkw, hx]
    rw [e, whileO_eq, e1, foldO]
    cases hb : B z ((k : Int), l[k]'(by omega)) with
    | none => rfl
    | some y =>
      cases y with
      | inl z' => exact ih z' (by omega)
      | inr t => rfl
theorem backI_eq {σ τ : Type} (l : List api_Stitch) (hl : l.length ≤ 1000000000) (B : σ → (Int × api_Stitch) → Option (σ ⊕ τ)) (z : σ) : I_slices_Backward___api_Stitch_api_Stitch__1 l σ τ B z = foldO B z (bkw l l.length) := by
  rw [← back_loop l hl B l.length z (Nat.le_refl _)]
  unfold I_slices_Backward___api_Stitch_api_Stitch__1
  rw [w64_of (show (-9223372036854775808 : Int) ≤ (l.length : Int) - 1 by omega) (by omega)]
  try congr 1
theorem turn_eq {l : List api_Stitch} (hw : ∀ p, p ∈ l → wfS p) : F_stitch_Turn l = some (if allS l = 0 then ((l.map othS).reverse, 0) else ([], allS l)) := by
  unfold F_stitch_Turn F_slices_Backward___api_Stitch_api_Stitch_
  rw [all_eq hw]
  by_cases h : allS l = 0
  case neg => simp only [Option.bind_some, nT h, if_true, if_neg h]
  have hk := allS_ok h
  simp only [Option.bind_some, nF h, Bool.false_eq_true, if_false, capO_of (n := (l.length : Int)) (k := l.length) rfl (by omega), if_pos h]
  rw [backI_eq l (by omega), bkw_fold l othS 1000000000 (fun s x i hx hs => turn_step (hk.2.1 x hx) s hs i) l.length [] (Nat.le_refl _) (by simp; omega), List.take_length]
  rfl
theorem rother_eq (p : api_Stitch) : F_raddleref25_Other p = some (othS p) := by
  unfold F_raddleref25_Other othS
  by_cases k2 : p.Kind = 2
  · simp [k2]
  by_cases k9 : p.Kind = 9
  · simp [k9]
  by_cases k6 : p.Kind = 6
  · simp [k6]
  by_cases k7 : p.Kind = 7
  · simp [k7]
  simp [k2, k9, k6, k7]
theorem rturned_eq {l : List api_Stitch} (hl : l.length ≤ 1000000000) : F_raddleref25_Turned l = some ((l.map othS).reverse) := by
  have key : ∀ (k : Nat) (s : List api_Stitch), k ≤ l.length → s.length + k ≤ 1000000000 → whileO (raddleref25_Turned_l1 l) (s, (k : Int) - 1) = some (s ++ ((l.take k).map othS).reverse) := by
    intro k
    induction k with
    | zero =>
      intro s _ _
      have : raddleref25_Turned_l1 l (s, ((0 : Nat) : Int) - 1) = some (.inr s) := by
        unfold raddleref25_Turned_l1
        simp only [dF (show ¬ (0 : Int) ≤ ((0 : Nat) : Int) - 1 by omega), Bool.false_eq_true, if_false]
      rw [whileO_done this]
      simp
    | succ k ih =>
      intro s hk hs
      have hx : l[k]? = some (l[k]'(by omega)) := List.getElem?_eq_getElem (by omega)
      have e : ((k + 1 : Nat) : Int) - 1 = (k : Int) := by omega
      have e1 : raddleref25_Turned_l1 l (s, (k : Int)) = some (.inl (s ++ [othS (l[k]'(by omega))], (k : Int) - 1)) := by
        unfold raddleref25_Turned_l1
        simp only [dT (show (0 : Int) ≤ (k : Int) by omega), if_true, idxO_nat (show k < l.length by omega), Option.bind_some, rother_eq, appO_of (show s.length + [othS (l[k]'(by omega))].length ≤ 68719476736 by simp; omega), w64_of (show (-9223372036854775808 : Int) ≤ (k : Int) - 1 by omega) (by omega)]
      rw [e, whileO_step e1, ih _ (by omega) (by simp; omega), take_one l (by omega), List.map_append, List.reverse_append, List.append_assoc]
      rfl
  have h0 := key l.length [] (Nat.le_refl _) (by simp; omega)
  unfold F_raddleref25_Turned
  rw [w64_of (show (-9223372036854775808 : Int) ≤ (l.length : Int) - 1 by omega) (by omega), h0, List.take_length]
  rfl

end Go.Proofs.Yticjoiolfibmlaa
namespace Go.Proofs.Yticjoiolfibmlaa
open Go.RowKit
set_option linter.unusedVariables false

theorem oth_ok {p : api_Stitch} (h : okS p) : okS (othS p) ∧ usedS (othS p) = usedS p ∧ madeS (othS p) = madeS p := by
  have hb := okS_bd h
  have hk : (othS p).Kind = p.Kind := rfl
  rcases kinds (x := p.Kind) (by omega) with k | k | k | k | k | k | k | k | k | k | k | k
  · omega
  · refine ⟨?_, ?_, ?_⟩ <;> simp [okS, usedS, madeS, othS, k] at h ⊢ <;> omega
  · refine ⟨?_, ?_, ?_⟩ <;> simp [okS, usedS, madeS, othS, k] at h ⊢ <;> exact h
  · refine ⟨?_, ?_, ?_⟩ <;> simp [okS, usedS, madeS, othS, k] at h ⊢ <;> omega
  · refine ⟨?_, ?_, ?_⟩ <;> simp [okS, usedS, madeS, othS, k] at h ⊢ <;> omega
  · refine ⟨?_, ?_, ?_⟩ <;> simp [okS, usedS, madeS, othS, k] at h ⊢ <;> omega
  · refine ⟨?_, ?_, ?_⟩ <;> simp [okS, usedS, madeS, othS, k] at h ⊢ <;> omega
  · refine ⟨?_, ?_, ?_⟩ <;> simp [okS, usedS, madeS, othS, k] at h ⊢ <;> omega
  · refine ⟨?_, ?_, ?_⟩ <;> simp [okS, usedS, madeS, othS, k] at h ⊢ <;> omega
  · refine ⟨?_, ?_, ?_⟩ <;> simp [okS, usedS, madeS, othS, k] at h ⊢ <;> first | exact h | omega
  · refine ⟨?_, ?_, ?_⟩ <;> simp [okS, usedS, madeS, othS, k] at h ⊢ <;> omega
  · omega
theorem sm_reverse {α : Type} (f : α → Int) (l : List α) : sm f l.reverse = sm f l := by
  induction l with
  | nil => rfl
  | cons x l ih => rw [List.reverse_cons, sm_append, ih]; simp only [sm]; omega
theorem sm_oth {l : List api_Stitch} (h : allOk l) : sm usedS (l.map othS) = sm usedS l ∧ sm madeS (l.map othS) = sm madeS l := by
  induction l with
  | nil => exact ⟨rfl, rfl⟩
  | cons x l ih =>
    have hx := oth_ok (h x (by simp))
    have ih := ih fun y hy => h y (by simp [hy])
    simp only [List.map_cons, sm, hx.2.1, hx.2.2, ih.1, ih.2, and_self]
theorem turned_ok {l : List api_Stitch} (h : allS l = 0) : allS ((l.map othS).reverse) = 0 ∧ sm usedS ((l.map othS).reverse) = sm usedS l ∧ sm madeS ((l.map othS).reverse) = sm madeS l := by
  obtain ⟨h1, h2, h3, h4⟩ := allS_ok h
  have hs := sm_oth h2
  have hok : allOk ((l.map othS).reverse) := by
    intro p hp
    rw [List.mem_reverse] at hp
    obtain ⟨q, hq, rfl⟩ := List.mem_map.1 hp
    exact (oth_ok (h2 q hq)).1
  rw [sm_reverse, sm_reverse, hs.1, hs.2]
  refine ⟨?_, rfl, rfl⟩
  unfold allS
  rw [sm_reverse, sm_reverse, hs.1, hs.2, if_neg (by simp; omega), if_pos hok, if_neg (by omega)]
end Go.Proofs.Yticjoiolfibmlaa
namespace Go.Proofs.Yticjoiolfibmlaa
open Go.RowKit
set_option linter.unusedVariables false

noncomputable def F_stitch_Uses (p0 : (List api_Stitch)) : Option (Int × Int) :=
  Option.bind (F_stitch_All p0) fun r6 =>
  if r6 != 0 then
    some (0, r6)
  else
    Option.bind (F_stitch_sum p0) fun r12 =>
    some (r12.1, 0)
set_option maxHeartbeats 4000000 in
set_option maxRecDepth 100000 in
theorem c_stitch_Uses (E : Nat → Prop) (w0 : World) (p0 : (List api_Stitch)) (v0 : Value) (r : (Int × Int)) (h : F_stitch_Uses p0 = some r) (S : St0 E [] w0 w0 [] [fRep (rL r_api_Stitch) (v0) p0]) :
    Calls Try.prog 53 #[v0] w0 (Ret (X := Unit) E [] w0 (fun _ => .tuple #[.int .i64 r.1, .int .i64 r.2]) (fun _ => []) (fun _ => [])) := by
  unfold F_stitch_Uses at h
  obtain ⟨ad1, cp2, _, rfl, _⟩ := S.know (i := 0) (e := fRep (rL r_api_Stitch) (v0) p0) rfl
  refine sEnter (args := [.slice ad1 p0.length cp2]) 18 Try.func53 rfl rfl (by simp) S (fun a S => ?_)
  refine sSeq (fun K3 hK3 => ?_)
  refine sRegion ?_
  refine sMove (iv 0) S (wN rfl) (.inr rfl) rfl rfl (lb rfl) fun a S => ?_
  refine sMove (iv 0) S (wN rfl) (.inr rfl) rfl rfl (lb rfl) fun a S => ?_
  refine leafL (leafT (hK3 _ _ ?_))
  refine sSeq (fun K4 hK4 => ?_)
  refine sSeq (fun K5 hK5 => ?_)
  refine sRegion ?_
  refine sMove (.slice ad1 p0.length cp2) S (wN rfl) (.inl rfl) rfl rfl (lb rfl) fun a S => ?_
  obtain ⟨r6, hx7, h⟩ := bindSome h
  have S1 := S.mem
  refine sCallQ (X := Unit) (f := 64) (vs := [.slice ad1 p0.length cp2]) (val := fun _ => iv r6) S (wN rfl) rfl callee64 rfl (S1.quiet [0] rfl) (fun E1 w1 S1 => c_stitch_All E1 w1 p0 (.slice ad1 p0.length cp2) r6 hx7 S1) rfl (lb rfl) fun _ a w S => ?_
  refine sMove (iv r6) S (wN rfl) (.inr rfl) rfl rfl (lb rfl) fun a S => ?_
  refine leafL (leafT (hK5 _ _ ?_))
  refine sSeq (fun K8 hK8 => ?_)
  refine sRegion ?_
  refine sMove (iv r6) S (wN rfl) (.inl rfl) rfl rfl (lb rfl) fun a S => ?_
  refine sBin (.bool (r6 != 0)) S (wN rfl) rfl rfl rfl (bNe _ _ _ _ .i64 r6 0) rfl (lb rfl) fun a S => ?_
  refine leafL (leafT (hK8 _ _ ?_))
  rcases iteSome h with ⟨hc9, h⟩ | ⟨hc9, h⟩
  · refine sCondT S rfl hc9 ?_
    refine sSeq (fun K10 hK10 => ?_)
    refine sRegion ?_
    refine sMove (iv r6) S (wN rfl) (.inl rfl) rfl rfl (lb rfl) fun a S => ?_
    refine sMove (iv 0) S (wN rfl) (.inr rfl) rfl rfl (lb rfl) fun a S => ?_
    refine sMove (iv r6) S (wN rfl) (.inr rfl) rfl rfl (lb rfl) fun a S => ?_
    refine leafL (leafT (hK10 _ _ ?_))
    obtain rfl := Option.some.inj h
    exact wp_ret (rThen (sRet (.tuple #[iv 0, iv r6]) S (rsl2 rfl (rvT (t := 2) (v := iv 0) S rfl) (rvT (t := 3) (v := iv r6) S rfl)) ⟨(), rfl, S.mem.sel [] [] (by decide) rfl rfl⟩))
  refine sCondF S rfl hc9 ?_
  refine wp_skip (leafT (hK4 _ _ ?_))
  refine sSeq (fun K11 hK11 => ?_)
  refine sRegion ?_
  refine sMove (.slice ad1 p0.length cp2) S (wN rfl) (.inl rfl) rfl rfl (lb rfl) fun a S => ?_
  obtain ⟨r12, hx13, h⟩ := bindSome h
  have S1 := S.mem
  refine sCallQ (X := Unit) (f := 65) (vs := [.slice ad1 p0.length cp2]) (val := fun _ => .tuple #[iv r12.1, iv r12.2]) S (wN rfl) rfl callee65 rfl (S1.quiet [0] rfl) (fun E1 w1 S1 => c_stitch_sum E1 w1 p0 (.slice ad1 p0.length cp2) r12 hx13 S1) rfl (lb rfl) fun _ a w S => ?_
  refine sMove (.tuple #[iv r12.1, iv r12.2]) S (wN rfl) (.inl rfl) rfl rfl (lb rfl) fun a S => ?_
  refine sExtract (vs := [iv r12.1, iv r12.2]) (iv r12.1) S (wN rfl) rfl rfl rfl rfl (lb rfl) fun a S => ?_
  refine sExtract (vs := [iv r12.1, iv r12.2]) (iv r12.2) S (wN rfl) rfl rfl rfl rfl (lb rfl) fun a S => ?_
  refine sMove (iv r12.1) S (wN rfl) (.inr rfl) rfl rfl (lb rfl) fun a S => ?_
  refine sMove (iv r12.2) S (wN rfl) (.inr rfl) rfl rfl (lb rfl) fun a S => ?_
  refine leafL (leafT (hK11 _ _ ?_))
  refine sSeq (fun K14 hK14 => ?_)
  refine sRegion ?_
  refine sMove (iv r12.1) S (wN rfl) (.inl rfl) rfl rfl (lb rfl) fun a S => ?_
  refine sMove (iv r12.1) S (wN rfl) (.inr rfl) rfl rfl (lb rfl) fun a S => ?_
  refine sMove (iv 0) S (wN rfl) (.inr rfl) rfl rfl (lb rfl) fun a S => ?_
  refine leafL (leafT (hK14 _ _ ?_))
  obtain rfl := Option.some.inj h
  exact wp_ret (sRet (.tuple #[iv r12.1, iv 0]) S (rsl2 rfl (rvT (t := 2) (v := iv r12.1) S rfl) (rvT (t := 3) (v := iv 0) S rfl)) ⟨(), rfl, S.mem.sel [] [] (by decide) rfl rfl⟩)

end Go.Proofs.Yticjoiolfibmlaa
namespace Go.Proofs.Yticjoiolfibmlaa
open Go.RowKit
set_option linter.unusedVariables false

noncomputable def F_stitch_Makes (p0 : (List api_Stitch)) : Option (Int × Int) :=
  Option.bind (F_stitch_All p0) fun r6 =>
  if r6 != 0 then
    some (0, r6)
  else
    Option.bind (F_stitch_sum p0) fun r12 =>
    some (r12.2, 0)
set_option maxHeartbeats 4000000 in
set_option maxRecDepth 100000 in
theorem c_stitch_Makes (E : Nat → Prop) (w0 : World) (p0 : (List api_Stitch)) (v0 : Value) (r : (Int × Int)) (h : F_stitch_Makes p0 = some r) (S : St0 E [] w0 w0 [] [fRep (rL r_api_Stitch) (v0) p0]) :
    Calls Try.prog 54 #[v0] w0 (Ret (X := Unit) E [] w0 (fun _ => .tuple #[.int .i64 r.1, .int .i64 r.2]) (fun _ => []) (fun _ => [])) := by
  unfold F_stitch_Makes at h
  obtain ⟨ad1, cp2, _, rfl, _⟩ := S.know (i := 0) (e := fRep (rL r_api_Stitch) (v0) p0) rfl
  refine sEnter (args := [.slice ad1 p0.length cp2]) 18 Try.func54 rfl rfl (by simp) S (fun a S => ?_)
  refine sSeq (fun K3 hK3 => ?_)
  refine sRegion ?_
  refine sMove (iv 0) S (wN rfl) (.inr rfl) rfl rfl (lb rfl) fun a S => ?_
  refine sMove (iv 0) S (wN rfl) (.inr rfl) rfl rfl (lb rfl) fun a S => ?_
  refine leafL (leafT (hK3 _ _ ?_))
  refine sSeq (fun K4 hK4 => ?_)
  refine sSeq (fun K5 hK5 => ?_)
  refine sRegion ?_
  refine sMove (.slice ad1 p0.length cp2) S (wN rfl) (.inl rfl) rfl rfl (lb rfl) fun a S => ?_
  obtain ⟨r6, hx7, h⟩ := bindSome h
  have S1 := S.mem
  refine sCallQ (X := Unit) (f := 64) (vs := [.slice ad1 p0.length cp2]) (val := fun _ => iv r6) S (wN rfl) rfl callee64 rfl (S1.quiet [0] rfl) (fun E1 w1 S1 => c_stitch_All E1 w1 p0 (.slice ad1 p0.length cp2) r6 hx7 S1) rfl (lb rfl) fun _ a w S => ?_
  refine sMove (iv r6) S (wN rfl) (.inr rfl) rfl rfl (lb rfl) fun a S => ?_
  refine leafL (leafT (hK5 _ _ ?_))
  refine sSeq (fun K8 hK8 => ?_)
  refine sRegion ?_
  refine sMove (iv r6) S (wN rfl) (.inl rfl) rfl rfl (lb rfl) fun a S => ?_
  refine sBin (.bool (r6 != 0)) S (wN rfl) rfl rfl rfl (bNe _ _ _ _ .i64 r6 0) rfl (lb rfl) fun a S => ?_
  refine leafL (leafT (hK8 _ _ ?_))
  rcases iteSome h with ⟨hc9, h⟩ | ⟨hc9, h⟩
  · refine sCondT S rfl hc9 ?_
    refine sSeq (fun K10 hK10 => ?_)
    refine sRegion ?_
    refine sMove (iv r6) S (wN rfl) (.inl rfl) rfl rfl (lb rfl) fun a S => ?_
    refine sMove (iv 0) S (wN rfl) (.inr rfl) rfl rfl (lb rfl) fun a S => ?_
    refine sMove (iv r6) S (wN rfl) (.inr rfl) rfl rfl (lb rfl) fun a S => ?_
    refine leafL (leafT (hK10 _ _ ?_))
    obtain rfl := Option.some.inj h
    exact wp_ret (rThen (sRet (.tuple #[iv 0, iv r6]) S (rsl2 rfl (rvT (t := 2) (v := iv 0) S rfl) (rvT (t := 3) (v := iv r6) S rfl)) ⟨(), rfl, S.mem.sel [] [] (by decide) rfl rfl⟩))
  refine sCondF S rfl hc9 ?_
  refine wp_skip (leafT (hK4 _ _ ?_))
  refine sSeq (fun K11 hK11 => ?_)
  refine sRegion ?_
  refine sMove (.slice ad1 p0.length cp2) S (wN rfl) (.inl rfl) rfl rfl (lb rfl) fun a S => ?_
  obtain ⟨r12, hx13, h⟩ := bindSome h
  have S1 := S.mem
  refine sCallQ (X := Unit) (f := 65) (vs := [.slice ad1 p0.length cp2]) (val := fun _ => .tuple #[iv r12.1, iv r12.2]) S (wN rfl) rfl callee65 rfl (S1.quiet [0] rfl) (fun E1 w1 S1 => c_stitch_sum E1 w1 p0 (.slice ad1 p0.length cp2) r12 hx13 S1) rfl (lb rfl) fun _ a w S => ?_
  refine sMove (.tuple #[iv r12.1, iv r12.2]) S (wN rfl) (.inl rfl) rfl rfl (lb rfl) fun a S => ?_
  refine sExtract (vs := [iv r12.1, iv r12.2]) (iv r12.1) S (wN rfl) rfl rfl rfl rfl (lb rfl) fun a S => ?_
  refine sExtract (vs := [iv r12.1, iv r12.2]) (iv r12.2) S (wN rfl) rfl rfl rfl rfl (lb rfl) fun a S => ?_
  refine sMove (iv r12.1) S (wN rfl) (.inr rfl) rfl rfl (lb rfl) fun a S => ?_
  refine sMove (iv r12.2) S (wN rfl) (.inr rfl) rfl rfl (lb rfl) fun a S => ?_
  refine leafL (leafT (hK11 _ _ ?_))
  refine sSeq (fun K14 hK14 => ?_)
  refine sRegion ?_
  refine sMove (iv r12.2) S (wN rfl) (.inl rfl) rfl rfl (lb rfl) fun a S => ?_
  refine sMove (iv r12.2) S (wN rfl) (.inr rfl) rfl rfl (lb rfl) fun a S => ?_
  refine sMove (iv 0) S (wN rfl) (.inr rfl) rfl rfl (lb rfl) fun a S => ?_
  refine leafL (leafT (hK14 _ _ ?_))
  obtain rfl := Option.some.inj h
  exact wp_ret (sRet (.tuple #[iv r12.2, iv 0]) S (rsl2 rfl (rvT (t := 2) (v := iv r12.2) S rfl) (rvT (t := 3) (v := iv 0) S rfl)) ⟨(), rfl, S.mem.sel [] [] (by decide) rfl rfl⟩)

end Go.Proofs.Yticjoiolfibmlaa
namespace Go.Proofs.Yticjoiolfibmlaa
open Go.RowKit
set_option linter.unusedVariables false

noncomputable def F_raddleref25_Uses (p0 : (List api_Stitch)) : Option (Int × Int) :=
  Option.bind (F_raddleref25_All p0) fun r6 =>
  if r6 != 0 then
    some (0, r6)
  else
    Option.bind (F_raddleref25_sums p0) fun r11 =>
    some (r11.1, 0)
set_option maxHeartbeats 4000000 in
set_option maxRecDepth 100000 in
theorem c_raddleref25_Uses (E : Nat → Prop) (w0 : World) (p0 : (List api_Stitch)) (v0 : Value) (r : (Int × Int)) (h : F_raddleref25_Uses p0 = some r) (S : St0 E [] w0 w0 [] [fRep (rL r_api_Stitch) (v0) p0]) :
    Calls Try.prog 35 #[v0] w0 (Ret (X := Unit) E [] w0 (fun _ => .tuple #[.int .i64 r.1, .int .i64 r.2]) (fun _ => []) (fun _ => [])) := by
  unfold F_raddleref25_Uses at h
  obtain ⟨ad1, cp2, _, rfl, _⟩ := S.know (i := 0) (e := fRep (rL r_api_Stitch) (v0) p0) rfl
  refine sEnter (args := [.slice ad1 p0.length cp2]) 17 Try.func35 rfl rfl (by simp) S (fun a S => ?_)
  refine sSeq (fun K3 hK3 => ?_)
  refine sRegion ?_
  refine sMove (iv 0) S (wN rfl) (.inr rfl) rfl rfl (lb rfl) fun a S => ?_
  refine sMove (iv 0) S (wN rfl) (.inr rfl) rfl rfl (lb rfl) fun a S => ?_
  refine leafL (leafT (hK3 _ _ ?_))
  refine sSeq (fun K4 hK4 => ?_)
  refine sSeq (fun K5 hK5 => ?_)
  refine sRegion ?_
  refine sMove (.slice ad1 p0.length cp2) S (wN rfl) (.inl rfl) rfl rfl (lb rfl) fun a S => ?_
  obtain ⟨r6, hx7, h⟩ := bindSome h
  have S1 := S.mem
  refine sCallQ (X := Unit) (f := 48) (vs := [.slice ad1 p0.length cp2]) (val := fun _ => iv r6) S (wN rfl) rfl callee48 rfl (S1.quiet [0] rfl) (fun E1 w1 S1 => c_raddleref25_All E1 w1 p0 (.slice ad1 p0.length cp2) r6 hx7 S1) rfl (lb rfl) fun _ a w S => ?_
  refine sBin (.bool (r6 != 0)) S (wN rfl) rfl rfl rfl (bNe _ _ _ _ .i64 r6 0) rfl (lb rfl) fun a S => ?_
  refine leafL (leafT (hK5 _ _ ?_))
  rcases iteSome h with ⟨hc8, h⟩ | ⟨hc8, h⟩
  · refine sCondT S rfl hc8 ?_
    refine sSeq (fun K9 hK9 => ?_)
    refine sRegion ?_
    refine sMove (.slice ad1 p0.length cp2) S (wN rfl) (.inl rfl) rfl rfl (lb rfl) fun a S => ?_
    have S1 := S.mem
    refine sCallQ (X := Unit) (f := 48) (vs := [.slice ad1 p0.length cp2]) (val := fun _ => iv r6) S (wN rfl) rfl callee48 rfl (S1.quiet [0] rfl) (fun E1 w1 S1 => c_raddleref25_All E1 w1 p0 (.slice ad1 p0.length cp2) r6 hx7 S1) rfl (lb rfl) fun _ a w S => ?_
    refine sMove (iv 0) S (wN rfl) (.inr rfl) rfl rfl (lb rfl) fun a S => ?_
    refine sMove (iv r6) S (wN rfl) (.inr rfl) rfl rfl (lb rfl) fun a S => ?_
    refine leafL (leafT (hK9 _ _ ?_))
    obtain rfl := Option.some.inj h
    exact wp_ret (rThen (sRet (.tuple #[iv 0, iv r6]) S (rsl2 rfl (rvT (t := 2) (v := iv 0) S rfl) (rvT (t := 3) (v := iv r6) S rfl)) ⟨(), rfl, S.mem.sel [] [] (by decide) rfl rfl⟩))
  refine sCondF S rfl hc8 ?_
  refine wp_skip (leafT (hK4 _ _ ?_))
  refine sSeq (fun K10 hK10 => ?_)
  refine sRegion ?_
  refine sMove (.slice ad1 p0.length cp2) S (wN rfl) (.inl rfl) rfl rfl (lb rfl) fun a S => ?_
  obtain ⟨r11, hx12, h⟩ := bindSome h
  have S1 := S.mem
  refine sCallQ (X := Unit) (f := 49) (vs := [.slice ad1 p0.length cp2]) (val := fun _ => .tuple #[iv r11.1, iv r11.2]) S (wN rfl) rfl callee49 rfl (S1.quiet [0] rfl) (fun E1 w1 S1 => c_raddleref25_sums E1 w1 p0 (.slice ad1 p0.length cp2) r11 hx12 S1) rfl (lb rfl) fun _ a w S => ?_
  refine sMove (.tuple #[iv r11.1, iv r11.2]) S (wN rfl) (.inl rfl) rfl rfl (lb rfl) fun a S => ?_
  refine sExtract (vs := [iv r11.1, iv r11.2]) (iv r11.1) S (wN rfl) rfl rfl rfl rfl (lb rfl) fun a S => ?_
  refine sExtract (vs := [iv r11.1, iv r11.2]) (iv r11.2) S (wN rfl) rfl rfl rfl rfl (lb rfl) fun a S => ?_
  refine sMove (iv r11.1) S (wN rfl) (.inr rfl) rfl rfl (lb rfl) fun a S => ?_
  refine sMove (iv r11.2) S (wN rfl) (.inr rfl) rfl rfl (lb rfl) fun a S => ?_
  refine leafL (leafT (hK10 _ _ ?_))
  refine sSeq (fun K13 hK13 => ?_)
  refine sRegion ?_
  refine sMove (iv r11.1) S (wN rfl) (.inl rfl) rfl rfl (lb rfl) fun a S => ?_
  refine sMove (iv r11.1) S (wN rfl) (.inr rfl) rfl rfl (lb rfl) fun a S => ?_
  refine sMove (iv 0) S (wN rfl) (.inr rfl) rfl rfl (lb rfl) fun a S => ?_
  refine leafL (leafT (hK13 _ _ ?_))
  obtain rfl := Option.some.inj h
  exact wp_ret (sRet (.tuple #[iv r11.1, iv 0]) S (rsl2 rfl (rvT (t := 2) (v := iv r11.1) S rfl) (rvT (t := 3) (v := iv 0) S rfl)) ⟨(), rfl, S.mem.sel [] [] (by decide) rfl rfl⟩)

end Go.Proofs.Yticjoiolfibmlaa
namespace Go.Proofs.Yticjoiolfibmlaa
open Go.RowKit
set_option linter.unusedVariables false

noncomputable def F_raddleref25_Makes (p0 : (List api_Stitch)) : Option (Int × Int) :=
  Option.bind (F_raddleref25_All p0) fun r6 =>
  if r6 != 0 then
    some (0, r6)
  else
    Option.bind (F_raddleref25_sums p0) fun r11 =>
    some (r11.2, 0)
set_option maxHeartbeats 4000000 in
set_option maxRecDepth 100000 in
theorem c_raddleref25_Makes (E : Nat → Prop) (w0 : World) (p0 : (List api_Stitch)) (v0 : Value) (r : (Int × Int)) (h : F_raddleref25_Makes p0 = some r) (S : St0 E [] w0 w0 [] [fRep (rL r_api_Stitch) (v0) p0]) :
    Calls Try.prog 36 #[v0] w0 (Ret (X := Unit) E [] w0 (fun _ => .tuple #[.int .i64 r.1, .int .i64 r.2]) (fun _ => []) (fun _ => [])) := by
  unfold F_raddleref25_Makes at h
  obtain ⟨ad1, cp2, _, rfl, _⟩ := S.know (i := 0) (e := fRep (rL r_api_Stitch) (v0) p0) rfl
  refine sEnter (args := [.slice ad1 p0.length cp2]) 17 Try.func36 rfl rfl (by simp) S (fun a S => ?_)
  refine sSeq (fun K3 hK3 => ?_)
  refine sRegion ?_
  refine sMove (iv 0) S (wN rfl) (.inr rfl) rfl rfl (lb rfl) fun a S => ?_
  refine sMove (iv 0) S (wN rfl) (.inr rfl) rfl rfl (lb rfl) fun a S => ?_
  refine leafL (leafT (hK3 _ _ ?_))
  refine sSeq (fun K4 hK4 => ?_)
  refine sSeq (fun K5 hK5 => ?_)
  refine sRegion ?_
  refine sMove (.slice ad1 p0.length cp2) S (wN rfl) (.inl rfl) rfl rfl (lb rfl) fun a S => ?_
  obtain ⟨r6, hx7, h⟩ := bindSome h
  have S1 := S.mem
  refine sCallQ (X := Unit) (f := 48) (vs := [.slice ad1 p0.length cp2]) (val := fun _ => iv r6) S (wN rfl) rfl callee48 rfl (S1.quiet [0] rfl) (fun E1 w1 S1 => c_raddleref25_All E1 w1 p0 (.slice ad1 p0.length cp2) r6 hx7 S1) rfl (lb rfl) fun _ a w S => ?_
  refine sBin (.bool (r6 != 0)) S (wN rfl) rfl rfl rfl (bNe _ _ _ _ .i64 r6 0) rfl (lb rfl) fun a S => ?_
  refine leafL (leafT (hK5 _ _ ?_))
  rcases iteSome h with ⟨hc8, h⟩ | ⟨hc8, h⟩
  · refine sCondT S rfl hc8 ?_
    refine sSeq (fun K9 hK9 => ?_)
    refine sRegion ?_
    refine sMove (.slice ad1 p0.length cp2) S (wN rfl) (.inl rfl) rfl rfl (lb rfl) fun a S => ?_
    have S1 := S.mem
    refine sCallQ (X := Unit) (f := 48) (vs := [.slice ad1 p0.length cp2]) (val := fun _ => iv r6) S (wN rfl) rfl callee48 rfl (S1.quiet [0] rfl) (fun E1 w1 S1 => c_raddleref25_All E1 w1 p0 (.slice ad1 p0.length cp2) r6 hx7 S1) rfl (lb rfl) fun _ a w S => ?_
    refine sMove (iv 0) S (wN rfl) (.inr rfl) rfl rfl (lb rfl) fun a S => ?_
    refine sMove (iv r6) S (wN rfl) (.inr rfl) rfl rfl (lb rfl) fun a S => ?_
    refine leafL (leafT (hK9 _ _ ?_))
    obtain rfl := Option.some.inj h
    exact wp_ret (rThen (sRet (.tuple #[iv 0, iv r6]) S (rsl2 rfl (rvT (t := 2) (v := iv 0) S rfl) (rvT (t := 3) (v := iv r6) S rfl)) ⟨(), rfl, S.mem.sel [] [] (by decide) rfl rfl⟩))
  refine sCondF S rfl hc8 ?_
  refine wp_skip (leafT (hK4 _ _ ?_))
  refine sSeq (fun K10 hK10 => ?_)
  refine sRegion ?_
  refine sMove (.slice ad1 p0.length cp2) S (wN rfl) (.inl rfl) rfl rfl (lb rfl) fun a S => ?_
  obtain ⟨r11, hx12, h⟩ := bindSome h
  have S1 := S.mem
  refine sCallQ (X := Unit) (f := 49) (vs := [.slice ad1 p0.length cp2]) (val := fun _ => .tuple #[iv r11.1, iv r11.2]) S (wN rfl) rfl callee49 rfl (S1.quiet [0] rfl) (fun E1 w1 S1 => c_raddleref25_sums E1 w1 p0 (.slice ad1 p0.length cp2) r11 hx12 S1) rfl (lb rfl) fun _ a w S => ?_
  refine sMove (.tuple #[iv r11.1, iv r11.2]) S (wN rfl) (.inl rfl) rfl rfl (lb rfl) fun a S => ?_
  refine sExtract (vs := [iv r11.1, iv r11.2]) (iv r11.1) S (wN rfl) rfl rfl rfl rfl (lb rfl) fun a S => ?_
  refine sExtract (vs := [iv r11.1, iv r11.2]) (iv r11.2) S (wN rfl) rfl rfl rfl rfl (lb rfl) fun a S => ?_
  refine sMove (iv r11.1) S (wN rfl) (.inr rfl) rfl rfl (lb rfl) fun a S => ?_
  refine sMove (iv r11.2) S (wN rfl) (.inr rfl) rfl rfl (lb rfl) fun a S => ?_
  refine leafL (leafT (hK10 _ _ ?_))
  refine sSeq (fun K13 hK13 => ?_)
  refine sRegion ?_
  refine sMove (iv r11.2) S (wN rfl) (.inl rfl) rfl rfl (lb rfl) fun a S => ?_
  refine sMove (iv r11.2) S (wN rfl) (.inr rfl) rfl rfl (lb rfl) fun a S => ?_
  refine sMove (iv 0) S (wN rfl) (.inr rfl) rfl rfl (lb rfl) fun a S => ?_
  refine leafL (leafT (hK13 _ _ ?_))
  obtain rfl := Option.some.inj h
  exact wp_ret (sRet (.tuple #[iv r11.2, iv 0]) S (rsl2 rfl (rvT (t := 2) (v := iv r11.2) S rfl) (rvT (t := 3) (v := iv 0) S rfl)) ⟨(), rfl, S.mem.sel [] [] (by decide) rfl rfl⟩)

end Go.Proofs.Yticjoiolfibmlaa
namespace Go.Proofs.Yticjoiolfibmlaa
open Go.RowKit
set_option linter.unusedVariables false

theorem uses_eq {l : List api_Stitch} (hw : ∀ p, p ∈ l → wfS p) : F_stitch_Uses l = some (if allS l = 0 then (sm usedS l, 0) else (0, allS l)) := by
  unfold F_stitch_Uses
  rw [all_eq hw, Option.bind_some]
  by_cases h : allS l = 0
  · simp only [nF h, Bool.false_eq_true, if_false, sum_eq (allS_ok h).2.1 (show l.length ≤ 100000 by have := (allS_ok h).1; omega), Option.bind_some, if_pos h]
  · simp only [nT h, if_true, if_neg h]
theorem makes_eq {l : List api_Stitch} (hw : ∀ p, p ∈ l → wfS p) : F_stitch_Makes l = some (if allS l = 0 then (sm madeS l, 0) else (0, allS l)) := by
  unfold F_stitch_Makes
  rw [all_eq hw, Option.bind_some]
  by_cases h : allS l = 0
  · simp only [nF h, Bool.false_eq_true, if_false, sum_eq (allS_ok h).2.1 (show l.length ≤ 100000 by have := (allS_ok h).1; omega), Option.bind_some, if_pos h]
  · simp only [nT h, if_true, if_neg h]
theorem ruses_eq (l : List api_Stitch) : F_raddleref25_Uses l = some (if allS l = 0 then (sm usedS l, 0) else (0, allS l)) := by
  unfold F_raddleref25_Uses
  rw [rall_eq, Option.bind_some]
  by_cases h : allS l = 0
  · simp only [nF h, Bool.false_eq_true, if_false, rsums_eq (allS_ok h).2.1 (show l.length ≤ 100000 by have := (allS_ok h).1; omega), Option.bind_some, if_pos h]
  · simp only [nT h, if_true, if_neg h]
theorem rmakes_eq (l : List api_Stitch) : F_raddleref25_Makes l = some (if allS l = 0 then (sm madeS l, 0) else (0, allS l)) := by
  unfold F_raddleref25_Makes
  rw [rall_eq, Option.bind_some]
  by_cases h : allS l = 0
  · simp only [nF h, Bool.false_eq_true, if_false, rsums_eq (allS_ok h).2.1 (show l.length ≤ 100000 by have := (allS_ok h).1; omega), Option.bind_some, if_pos h]
  · simp only [nT h, if_true, if_neg h]

end Go.Proofs.Yticjoiolfibmlaa
namespace Go.Proofs.Yticjoiolfibmlaa
open Go.RowKit
set_option linter.unusedVariables false

noncomputable def F_chart_counted (p0 : api_Chart) : Option api_Chart :=
  some p0
def c_chart_counted_val (r : api_Chart) (x : Value) : Value := .func (.func 52) #[] #[x]
def c_chart_counted_D (r : api_Chart) (x : Value) : List Fact := [fPtr r_api_Chart x r]
set_option maxHeartbeats 4000000 in
set_option maxRecDepth 100000 in
theorem c_chart_counted (E : Nat → Prop) (w0 : World) (p0 : api_Chart) (v0 : Value) (r : api_Chart) (h : F_chart_counted p0 = some r) (S : St0 E [] w0 w0 [] [fRep r_api_Chart (v0) p0]) :
    Calls Try.prog 42 #[v0] w0 (Ret (X := Value) E [] w0 (c_chart_counted_val r) (fun _ => []) (c_chart_counted_D r)) := by
  unfold F_chart_counted at h
  obtain ⟨u1, rfl, hu2⟩ := S.know (i := 0) (e := fRep r_api_Chart (v0) p0) rfl
  have S := S.learn (fRep (rL r_api_Row) u1 p0.Rows) hu2
  obtain ⟨ad3, cp4, _, rfl, _⟩ := hu2
  refine sEnter (args := [.agg #[iv p0.Start, .slice ad3 p0.Rows.length cp4]]) 4 Try.func42 rfl rfl (by simp) S (fun a S => ?_)
  refine sSeq (fun K5 hK5 => ?_)
  refine sRegion ?_
  refine sBox (v := .agg #[iv p0.Start, .slice ad3 p0.Rows.length cp4]) S (wN rfl) rfl rfl [iv p0.Start, .slice ad3 p0.Rows.length cp4] rfl rfl (lb rfl) fun a b6 w S => ?_
  refine sMove (.nilFunc) S (wN rfl) (.inr rfl) rfl rfl (lb rfl) fun a S => ?_
  refine leafL (leafT (hK5 _ _ ?_))
  refine sSeq (fun K7 hK7 => ?_)
  refine sRegion ?_
  refine sFunc (g := 52) (vs := [.pointer (some ⟨b6, 0, none⟩)]) S (wN rfl) rfl rfl rfl (lb rfl) fun a S => ?_
  refine sMove (.func (.func 52) #[] #[.pointer (some ⟨b6, 0, none⟩)]) S (wN rfl) (.inr rfl) rfl rfl (lb rfl) fun a S => ?_
  refine leafL (leafT (hK7 _ _ ?_))
  have S := S.shutB (r := r_api_Chart) (T := 24) (b := b6) (cs := [iv p0.Start, .slice ad3 p0.Rows.length cp4]) 0 (.agg #[iv p0.Start, .slice ad3 p0.Rows.length cp4]) p0 rfl rfl (S.mem.know (i := 1) (e := fRep r_api_Chart (.agg #[iv p0.Start, .slice ad3 p0.Rows.length cp4]) p0) rfl)
  obtain rfl := Option.some.inj h
  exact wp_ret (sRet (.func (.func 52) #[] #[.pointer (some ⟨b6, 0, none⟩)]) S (rsl1 rfl (rvT (t := 2) (v := .func (.func 52) #[] #[.pointer (some ⟨b6, 0, none⟩)]) S rfl)) ⟨(.pointer (some ⟨b6, 0, none⟩)), rfl, S.mem.sel [] [0] (by decide) rfl rfl⟩)

end Go.Proofs.Yticjoiolfibmlaa
namespace Go.Proofs.Yticjoiolfibmlaa
open Go.RowKit
set_option linter.unusedVariables false

noncomputable def chart_counted_1_l1 {σ τ : Type} (p0 : api_Chart) (B : σ → (Int × chart_count) → Option (σ ⊕ τ)) : (Int × Int × σ) → Option ((Int × Int × σ) ⊕ ((σ ⊕ τ) ⊕ (σ))) := fun s0 => match s0 with
  | (s11, s12, gz13) =>
    if decide (s12 < (p0.Rows.length : Int)) then
      Option.bind (idxO p0.Rows s12) fun x23 =>
      Option.bind (F_stitch_Uses x23.Cells) fun r36 =>
      Option.bind (α := (Int × Int)) (
        if r36.2 != 0 then
          some (0, r36.2)
        else
          if r36.1 != s11 then
            some (0, 26)
          else
            Option.bind (F_stitch_Makes x23.Cells) fun r46 =>
            some (r46.1, 0)) fun (o38, o39) =>
      Option.bind (B gz13 (s12, (chart_count.mk s11 o38 o39))) fun y51 =>
      match y51 with
      | .inl gz53 =>
        if ((chart_count.mk s11 o38 o39).e) != 0 then
          some (.inr (.inl (.inl gz53)))
        else
          some (.inl ((chart_count.mk s11 o38 o39).after, w64 (s12 + 1), gz53))
      | .inr tz54 =>
        some (.inr (.inl (.inr tz54)))
    else
      some (.inr (.inr gz13))
noncomputable def I_chart_counted_1 (p0 : api_Chart) (σ τ : Type) (B : σ → (Int × chart_count) → Option (σ ⊕ τ)) (gz0 : σ) : Option (σ ⊕ τ) :=
  Option.bind (whileO (chart_counted_1_l1 p0 B) (p0.Start, 0, gz0)) fun z0 => match z0 with
    | .inl z =>
      some z
    | .inr gz17 =>
      some (.inl gz17)
set_option maxHeartbeats 4000000 in
set_option maxRecDepth 100000 in
theorem it_chart_counted_1 (p0 : api_Chart) (v0 : Value) : SeqF Try.prog 52 #[v0] (fA2 (rI .i64) r_chart_count) (I_chart_counted_1 p0) [fPtr r_api_Chart (v0) p0] := by
  refine seqF_of (lb := [v0]) (fun σ τ B gz0 r h l J Jx E w0 hC S hJ => ?_)
  unfold I_chart_counted_1 at h
  refine sEnterI (args := [.func (.yield l) #[] #[], v0]) 57 Try.func52 rfl rfl (by simp) S (fun a S => ?_)
  refine sSeq (fun K1 hK1 => ?_)
  refine sRegion ?_
  obtain ⟨q2, hq3, S⟩ := pFld (P := Try.prog) (r := r_api_Chart) (s2 := (rI .i64)) (g := (·.Start)) (q := v0) (z := p0) 24 0 0 0 S rfl rfl comp_api_Chart_Start
  refine sFldV (q := v0) S (wN rfl) rfl rfl hq3 rfl (lb rfl) fun a S => ?_
  obtain ⟨u4, S⟩ := pLoad (r := (rI .i64)) (q := q2) (x := p0.Start) 0 S rfl
  obtain rfl : u4 = iv p0.Start := S.mem.know (i := 1) (e := fRep (rI .i64) (u4) p0.Start) rfl
  refine sLoadV1 (vq := q2) 0 (iv p0.Start) S (wN rfl) rfl rfl rfl rfl rfl (lb rfl) fun a S => ?_
  refine sMove (iv p0.Start) S (wN rfl) (.inr rfl) rfl rfl (lb rfl) fun a S => ?_
  refine leafL (leafT (hK1 _ _ ?_))
  refine sSeq (fun K5 hK5 => ?_)
  refine sRegion ?_
  obtain ⟨q6, hq7, S⟩ := pFld (P := Try.prog) (r := r_api_Chart) (s2 := (rL r_api_Row)) (g := (·.Rows)) (q := v0) (z := p0) 24 1 3 1 S rfl rfl comp_api_Chart_Rows
  refine sFldV (q := v0) S (wN rfl) rfl rfl hq7 rfl (lb rfl) fun a S => ?_
  obtain ⟨u8, S⟩ := pLoad (r := (rL r_api_Row)) (q := q6) (x := p0.Rows) 0 S rfl
  obtain ⟨ad9, cp10, _, rfl, _⟩ := S.mem.know (i := 1) (e := fRep (rL r_api_Row) (u8) p0.Rows) rfl
  refine sLoadV1 (vq := q6) 0 (.slice ad9 p0.Rows.length cp10) S (wN rfl) rfl rfl rfl rfl rfl (lb rfl) fun a S => ?_
  refine sLen (ad := ad9) (m := p0.Rows.length) (c := cp10) S (wN rfl) rfl Try.underlying22 rfl rfl (lb rfl) fun a S => ?_
  refine sMove (iv 0) S (wN rfl) (.inl rfl) rfl rfl (lb rfl) fun a S => ?_
  refine leafL (leafT (hK5 _ _ ?_))
  refine wp_block ?_
  obtain ⟨t16, hl, g15⟩ := bindSome h
  refine sLoop hl (fun s0 a w => match s0 with | (s11, s12, gz13) => ∃ E w0, J gz13 E w0 ∧ St [] E [] w0 57 a w [(0, .func (.yield l) #[] #[]), (3, iv s11), (12, .slice ad9 p0.Rows.length cp10), (13, iv (p0.Rows.length : Int)), (14, iv s12)] [] [fRep (rL r_api_Row) (.slice ad9 p0.Rows.length cp10) p0.Rows]) ⟨_, _, hJ, S.fix [] [1] (by decide) rfl rfl rfl⟩ ?_
  clear hl h
  intro s0 a w c0 hI h hu14
  obtain ⟨s11, s12, gz13⟩ := s0
  unfold chart_counted_1_l1 at h
  dsimp only at h hI
  obtain ⟨E, w0, hJ, S⟩ := hI
  refine sSeq (fun K18 hK18 => ?_)
  refine sRegion ?_
  refine sBin (.bool (decide (s12 < (p0.Rows.length : Int)))) S (wN rfl) rfl rfl rfl (bLt _ _ _ _ .i64 s12 (p0.Rows.length : Int)) rfl (lb rfl) fun a S => ?_
  refine leafL (leafT (hK18 _ _ ?_))
  refine sSeq (fun K19 hK19 => ?_)
  rcases iteSome h with ⟨hc20, h⟩ | ⟨hc20, h⟩
  rotate_left
  · refine sCondF S rfl hc20 ?_
    obtain rfl := Option.some.inj h
    obtain rfl := hu14 _ rfl
    have h := g15
    clear g15
    try dsimp only at h
    exact wp_exit (xThen (xThen (xHit (sEnd (.tuple #[]) S (res0 rfl) (sGoI S hC hJ (Option.some.inj h) _)))))
  refine sCondT S rfl hc20 ?_
  refine wp_skip (leafT (hK19 _ _ ?_))
  refine sSeq (fun K21 hK21 => ?_)
  refine wp_block ?_
  refine sSeq (fun K22 hK22 => ?_)
  refine sRegion ?_
  refine sMove (iv s12) S (wN rfl) (.inl rfl) rfl rfl (lb rfl) fun a S => ?_
  obtain ⟨x23, hx24, h⟩ := bindSome h
  obtain ⟨q25, hq26, S⟩ := pIdx (P := Try.prog) (r := r_api_Row) (v := .slice ad9 p0.Rows.length cp10) (xs := p0.Rows) (j := s12) 22 65 0 S Try.underlying22 rfl rfl hx24
  refine sIdxV (v := .slice ad9 p0.Rows.length cp10) (k := .i64) (j := s12) S (wN rfl) rfl rfl rfl hq26 rfl (lb rfl) fun a S => ?_
  obtain ⟨u27, S⟩ := pLoad (r := r_api_Row) (q := q25) (x := x23) 0 S rfl
  obtain ⟨u28, rfl, hu29⟩ := S.mem.know (i := 1) (e := fRep r_api_Row (u27) x23) rfl
  have S := S.learn (fRep (rL r_api_Stitch) u28 x23.Cells) hu29
  obtain ⟨ad30, cp31, _, rfl, _⟩ := hu29
  refine sLoadVN (vq := q25) 1 [.bool x23.Back, .slice ad30 x23.Cells.length cp31] S (wN rfl) rfl rfl rfl rfl rfl rfl (lb rfl) fun a S => ?_
  refine sAlloc (.agg #[.bool false, .slice none 0 0]) S (wN rfl) rfl rfl [.bool false, .slice none 0 0] rfl rfl (lb rfl) fun a b32 w S => ?_
  refine sMove (iv s12) S (wN rfl) (.inr rfl) rfl rfl (lb rfl) fun a S => ?_
  refine sStore (p := b32) (off := 0) (T := 65) (vs := [.bool false, .slice none 0 0]) (v := .agg #[.bool x23.Back, .slice ad30 x23.Cells.length cp31]) 0 [.bool x23.Back, .slice ad30 x23.Cells.length cp31] S (wN rfl) rfl rfl rfl rfl rfl rfl rfl (by simp) rfl fun a w S => ?_
  refine leafL (leafT (hK22 _ _ ?_))
  refine sSeq (fun K33 hK33 => ?_)
  refine sRegion ?_
  refine sMove (iv s11) S (wN rfl) (.inl rfl) rfl rfl (lb rfl) fun a S => ?_
  refine sBuild [(0, iv s11)] [iv s11, iv 0, iv 0] S (wN rfl) rfl rfl rfl rfl (lb rfl) fun a S => ?_
  refine sAlloc (.agg #[iv 0, iv 0, iv 0]) S (wN rfl) rfl rfl [iv 0, iv 0, iv 0] rfl rfl (lb rfl) fun a b34 w S => ?_
  refine sStore (p := b34) (off := 0) (T := 89) (vs := [iv 0, iv 0, iv 0]) (v := .agg #[iv s11, iv 0, iv 0]) 0 [iv s11, iv 0, iv 0] S (wN rfl) rfl rfl rfl rfl rfl rfl rfl (by simp) rfl fun a w S => ?_
  refine leafL (leafT (hK33 _ _ ?_))
  refine sSeq (fun K35 hK35 => ?_)
  refine sRegion ?_
  refine sField (b := b32) (off := 0) 1 1 S (wN rfl) rfl rfl rfl rfl rfl (lb rfl) fun a S => ?_
  refine sLoad1 (p := b32) (off := 1) (T := 65) (vs := [.bool x23.Back, .slice ad30 x23.Cells.length cp31]) 1 (.slice ad30 x23.Cells.length cp31) S (wN rfl) rfl rfl rfl rfl rfl rfl (lb rfl) fun a S => ?_
  obtain ⟨r36, hx37, h⟩ := bindSome h
  have S1 := S.mem
  refine sCallQ (X := Unit) (f := 53) (vs := [.slice ad30 x23.Cells.length cp31]) (val := fun _ => .tuple #[iv r36.1, iv r36.2]) S (wN rfl) rfl callee53 rfl (S1.quiet [0] rfl) (fun E1 w1 S1 => c_stitch_Uses E1 w1 x23.Cells (.slice ad30 x23.Cells.length cp31) r36 hx37 S1) rfl (lb rfl) fun _ a w S => ?_
  refine sMove (.tuple #[iv r36.1, iv r36.2]) S (wN rfl) (.inl rfl) rfl rfl (lb rfl) fun a S => ?_
  refine sExtract (vs := [iv r36.1, iv r36.2]) (iv r36.1) S (wN rfl) rfl rfl rfl rfl (lb rfl) fun a S => ?_
  refine sExtract (vs := [iv r36.1, iv r36.2]) (iv r36.2) S (wN rfl) rfl rfl rfl rfl (lb rfl) fun a S => ?_
  refine sMove (iv r36.1) S (wN rfl) (.inr rfl) rfl rfl (lb rfl) fun a S => ?_
  refine sMove (iv r36.2) S (wN rfl) (.inr rfl) rfl rfl (lb rfl) fun a S => ?_
  refine leafL (leafT (hK35 _ _ ?_))
  obtain ⟨t40, h, g41⟩ := bindSome h
  refine sCut (fun a w => ∃ o38, ∃ o39, (o38, o39) = t40 ∧ ∃ E w0, J gz13 E w0 ∧ St [] E [] w0 57 a w [(0, .func (.yield l) #[] #[]), (4, iv s12), (6, .pointer (some ⟨b34, 0, none⟩)), (12, .slice ad9 p0.Rows.length cp10), (13, iv (p0.Rows.length : Int)), (14, iv s12)] [eBox b34 89 [iv s11, iv o38, iv o39]] [fRep (rL r_api_Row) (.slice ad9 p0.Rows.length cp10) p0.Rows]) ?_ (fun a w hI => ?_)
  · refine wp_block ?_
    refine sSeq (fun K42 hK42 => ?_)
    refine sRegion ?_
    refine sMove (iv r36.2) S (wN rfl) (.inl rfl) rfl rfl (lb rfl) fun a S => ?_
    refine sBin (.bool (r36.2 != 0)) S (wN rfl) rfl rfl rfl (bNe _ _ _ _ .i64 r36.2 0) rfl (lb rfl) fun a S => ?_
    refine sMove (.bool (r36.2 != 0)) S (wN rfl) (.inr rfl) rfl rfl (lb rfl) fun a S => ?_
    refine leafL (leafT (hK42 _ _ ?_))
    rcases iteSome h with ⟨hc43, h⟩ | ⟨hc43, h⟩
    · refine sCondT S rfl hc43 ?_
      refine sRegion ?_
      refine sMove (iv r36.2) S (wN rfl) (.inl rfl) rfl rfl (lb rfl) fun a S => ?_
      refine sField (b := b34) (off := 0) 2 2 S (wN rfl) rfl rfl rfl rfl rfl (lb rfl) fun a S => ?_
      refine sStore (p := b34) (off := 2) (T := 89) (vs := [iv s11, iv 0, iv 0]) (v := iv r36.2) 0 [iv r36.2] S (wN rfl) rfl rfl rfl rfl rfl rfl rfl (by simp) rfl fun a w S => ?_
      exact leafL (leafB (leafT (⟨0, r36.2, Option.some.inj h, _, _, hJ, S.fix [0] [4] (by decide) rfl rfl rfl⟩)))
    refine sCondF S rfl hc43 ?_
    refine sSeq (fun K44 hK44 => ?_)
    refine sRegion ?_
    refine sMove (iv r36.1) S (wN rfl) (.inl rfl) rfl rfl (lb rfl) fun a S => ?_
    refine sMove (iv s11) S (wN rfl) (.inl rfl) rfl rfl (lb rfl) fun a S => ?_
    refine sBin (.bool (r36.1 != s11)) S (wN rfl) rfl rfl rfl (bNe _ _ _ _ .i64 r36.1 s11) rfl (lb rfl) fun a S => ?_
    refine sMove (.bool (r36.1 != s11)) S (wN rfl) (.inr rfl) rfl rfl (lb rfl) fun a S => ?_
    refine leafL (leafT (hK44 _ _ ?_))
    rcases iteSome h with ⟨hc45, h⟩ | ⟨hc45, h⟩
    · refine sCondT S rfl hc45 ?_
      refine sRegion ?_
      refine sField (b := b34) (off := 0) 2 2 S (wN rfl) rfl rfl rfl rfl rfl (lb rfl) fun a S => ?_
      refine sStore (p := b34) (off := 2) (T := 89) (vs := [iv s11, iv 0, iv 0]) (v := iv 26) 0 [iv 26] S (wN rfl) rfl rfl rfl rfl rfl rfl rfl (by simp) rfl fun a w S => ?_
      exact leafL (leafB (leafT (⟨0, 26, Option.some.inj h, _, _, hJ, S.fix [0] [4] (by decide) rfl rfl rfl⟩)))
    refine sCondF S rfl hc45 ?_
    refine sRegion ?_
    refine sField (b := b32) (off := 0) 1 1 S (wN rfl) rfl rfl rfl rfl rfl (lb rfl) fun a S => ?_
    refine sLoad1 (p := b32) (off := 1) (T := 65) (vs := [.bool x23.Back, .slice ad30 x23.Cells.length cp31]) 1 (.slice ad30 x23.Cells.length cp31) S (wN rfl) rfl rfl rfl rfl rfl rfl (lb rfl) fun a S => ?_
    obtain ⟨r46, hx47, h⟩ := bindSome h
    have S1 := S.mem
    refine sCallQ (X := Unit) (f := 54) (vs := [.slice ad30 x23.Cells.length cp31]) (val := fun _ => .tuple #[iv r46.1, iv r46.2]) S (wN rfl) rfl callee54 rfl (S1.quiet [0] rfl) (fun E1 w1 S1 => c_stitch_Makes E1 w1 x23.Cells (.slice ad30 x23.Cells.length cp31) r46 hx47 S1) rfl (lb rfl) fun _ a w S => ?_
    refine sMove (.tuple #[iv r46.1, iv r46.2]) S (wN rfl) (.inl rfl) rfl rfl (lb rfl) fun a S => ?_
    refine sExtract (vs := [iv r46.1, iv r46.2]) (iv r46.1) S (wN rfl) rfl rfl rfl rfl (lb rfl) fun a S => ?_
    refine sExtract (vs := [iv r46.1, iv r46.2]) (iv r46.2) S (wN rfl) rfl rfl rfl rfl (lb rfl) fun a S => ?_
    refine sField (b := b34) (off := 0) 1 1 S (wN rfl) rfl rfl rfl rfl rfl (lb rfl) fun a S => ?_
    refine sStore (p := b34) (off := 1) (T := 89) (vs := [iv s11, iv 0, iv 0]) (v := iv r46.1) 0 [iv r46.1] S (wN rfl) rfl rfl rfl rfl rfl rfl rfl (by simp) rfl fun a w S => ?_
    exact leafL (leafB (leafT (⟨r46.1, 0, Option.some.inj h, _, _, hJ, S.fix [0] [4] (by decide) rfl rfl rfl⟩)))
  obtain ⟨o38, o39, rfl, E, w0, hJ, S⟩ := hI
  have h := g41
  clear g41
  try dsimp only at h
  refine sSeq (fun K48 hK48 => ?_)
  refine sSeq (fun K49 hK49 => ?_)
  refine sRegionY ?_
  refine sSplitR (by repeat (first | exact roundU_out | exact it_out | exact lo_false | refine lo_then ?_ | refine lo_block ?_)) 3 rfl (fun K50 hK50 => ?_)
  refine sMove (.func (.yield l) #[] #[]) S (wN rfl) (.inl rfl) rfl rfl (lb rfl) fun a S => ?_
  refine sMove (iv s12) S (wN rfl) (.inl rfl) rfl rfl (lb rfl) fun a S => ?_
  refine sLoadN (p := b34) (off := 0) (T := 89) (vs := [iv s11, iv o38, iv o39]) 0 [iv s11, iv o38, iv o39] S (wN rfl) rfl rfl rfl rfl rfl rfl rfl (lb rfl) fun a S => ?_
  refine leafL ⟨rfl, hK50 _ _ ?_⟩
  have S := S.learn (fRep r_chart_count (.agg #[iv s11, iv o38, iv o39]) (chart_count.mk s11 o38 o39)) rfl
  have S := S.shutB (r := r_chart_count) (T := 89) (b := b34) (cs := [iv s11, iv o38, iv o39]) 0 (.agg #[iv s11, iv o38, iv o39]) (chart_count.mk s11 o38 o39) rfl rfl (S.mem.know (i := 0) (e := fRep r_chart_count (.agg #[iv s11, iv o38, iv o39]) (chart_count.mk s11 o38 o39)) rfl)
  obtain ⟨y51, hy52, h⟩ := bindSome h
  refine sYieldI (s12, (chart_count.mk s11 o38 o39)) [iv s12, .agg #[iv s11, iv o38, iv o39]] S hC hJ hy52 (fA2_mk (rfl) (S.mem.know (i := 1) (e := fRep r_chart_count (.agg #[iv s11, iv o38, iv o39]) (chart_count.mk s11 o38 o39)) rfl)) (wN rfl) rfl rfl rfl rfl (by decide) (fun gz53 E a w hb hJ S => ?_) (fun tz54 a w hb hJ S => ?_)
  · obtain rfl := hb
    dsimp only at h
    refine list_inR (by repeat (first | exact roundU_out | exact it_out | exact lo_false | refine lo_then ?_ | refine lo_block ?_)) _ rfl _ _ ?_
    refine sNot (b := true) S (wN rfl) rfl rfl rfl (lb rfl) fun a S => ?_
    refine sMove (.bool false) S (wN rfl) (.inl rfl) rfl rfl (lb rfl) fun a S => ?_
    obtain ⟨q55, hq56, S⟩ := pFld (P := Try.prog) (r := r_chart_count) (s2 := (rI .i64)) (g := (·.e)) (q := .pointer (some ⟨b34, 0, none⟩)) (z := (chart_count.mk s11 o38 o39)) 89 2 0 2 S rfl rfl comp_chart_count_e
    refine sFldV (q := .pointer (some ⟨b34, 0, none⟩)) S (wG 5 false 49 rfl rfl rfl rfl) rfl rfl hq56 rfl (lb rfl) fun a S => ?_
    obtain ⟨u57, S⟩ := pLoad (r := (rI .i64)) (q := q55) (x := (chart_count.mk s11 o38 o39).e) 0 S rfl
    obtain rfl : u57 = iv ((chart_count.mk s11 o38 o39).e) := S.mem.know (i := 1) (e := fRep (rI .i64) (u57) ((chart_count.mk s11 o38 o39).e)) rfl
    refine sLoadV1 (vq := q55) 0 (iv ((chart_count.mk s11 o38 o39).e)) S (wG 5 false 49 rfl rfl rfl rfl) rfl rfl rfl rfl rfl (lb rfl) fun a S => ?_
    refine sBin (.bool (((chart_count.mk s11 o38 o39).e) != 0)) S (wG 5 false 49 rfl rfl rfl rfl) rfl rfl rfl (bNe _ _ _ _ .i64 ((chart_count.mk s11 o38 o39).e) 0) rfl (lb rfl) fun a S => ?_
    refine sPickF (.bool (((chart_count.mk s11 o38 o39).e) != 0)) S (wN rfl) rfl rfl rfl rfl rfl (lb rfl) fun a S => ?_
    refine leafL (leafT (hK49 _ _ ?_))
    rcases iteSome h with ⟨hc58, h⟩ | ⟨hc58, h⟩
    · refine sCondT S rfl hc58 ?_
      obtain rfl := Option.some.inj h
      obtain rfl := hu14 _ rfl
      have h := g15
      clear g15
      try dsimp only at h
      exact wp_ret (rThen (rBlock (rThen (rThen (rBlock (sRet (.tuple #[]) S (res0 rfl) (sGoI S hC hJ (Option.some.inj h) _)))))))
    refine sCondF S rfl hc58 ?_
    refine wp_skip (leafT (hK48 _ _ ?_))
    refine sRegion ?_
    obtain ⟨q59, hq60, S⟩ := pFld (P := Try.prog) (r := r_chart_count) (s2 := (rI .i64)) (g := (·.after)) (q := .pointer (some ⟨b34, 0, none⟩)) (z := (chart_count.mk s11 o38 o39)) 89 1 3 1 S rfl rfl comp_chart_count_after
    refine sFldV (q := .pointer (some ⟨b34, 0, none⟩)) S (wN rfl) rfl rfl hq60 rfl (lb rfl) fun a S => ?_
    obtain ⟨u61, S⟩ := pLoad (r := (rI .i64)) (q := q59) (x := (chart_count.mk s11 o38 o39).after) 0 S rfl
    obtain rfl : u61 = iv ((chart_count.mk s11 o38 o39).after) := S.mem.know (i := 1) (e := fRep (rI .i64) (u61) ((chart_count.mk s11 o38 o39).after)) rfl
    refine sLoadV1 (vq := q59) 0 (iv ((chart_count.mk s11 o38 o39).after)) S (wN rfl) rfl rfl rfl rfl rfl (lb rfl) fun a S => ?_
    refine sMove (iv ((chart_count.mk s11 o38 o39).after)) S (wN rfl) (.inr rfl) rfl rfl (lb rfl) fun a S => ?_
    refine leafL (leafB (leafT (hK21 _ _ ?_)))
    refine sRegion ?_
    refine sBin (iv (w64 (s12 + 1))) S (wN rfl) rfl rfl rfl (bAdd _ _ _ _ s12 1) rfl (lb rfl) fun a S => ?_
    refine sMove (iv (w64 (s12 + 1))) S (wN rfl) (.inl rfl) rfl rfl (lb rfl) fun a S => ?_
    exact leafL (leafT (⟨((chart_count.mk s11 o38 o39).after, w64 (s12 + 1), gz53), (Option.some.inj h).symm, ⟨_, _, hJ, S.fix [] [8] (by decide) rfl rfl rfl⟩⟩))
  · obtain rfl := hb
    dsimp only at h
    refine list_inR (by repeat (first | exact roundU_out | exact it_out | exact lo_false | refine lo_then ?_ | refine lo_block ?_)) _ rfl _ _ ?_
    refine sNot (b := false) S (wN rfl) rfl rfl rfl (lb rfl) fun a S => ?_
    refine sMove (.bool true) S (wN rfl) (.inl rfl) rfl rfl (lb rfl) fun a S => ?_
    refine sSkip 5 false 49 50 S rfl rfl rfl rfl rfl (lb rfl) fun a S => ?_
    refine sSkip 5 false 49 51 S rfl rfl rfl rfl rfl (lb rfl) fun a S => ?_
    refine sSkip 5 false 49 52 S rfl rfl rfl rfl rfl (lb rfl) fun a S => ?_
    refine sPickT (.bool true) S (wN rfl) rfl rfl rfl rfl rfl (lb rfl) fun a S => ?_
    refine leafL (leafT (hK49 _ _ ?_))
    refine sCondT S rfl rfl ?_
    obtain rfl := Option.some.inj h
    obtain rfl := hu14 _ rfl
    have h := g15
    clear g15
    try dsimp only at h
    exact wp_ret (rThen (rBlock (rThen (rThen (rBlock (sRet (.tuple #[]) S (res0 rfl) (sStopI S hC hJ (Option.some.inj h) _)))))))

end Go.Proofs.Yticjoiolfibmlaa
namespace Go.Proofs.Yticjoiolfibmlaa
open Go.RowKit
set_option linter.unusedVariables false

noncomputable def chart_Check_l2  : Unit → (Int × chart_count) → Option (Unit ⊕ Int) := fun s0 x0 => match s0, x0 with
  | _, (x25, x27) =>
    if x27.e != 0 then
      some (.inr x27.e)
    else
      some (.inl ())
noncomputable def F_chart_Check (p0 : api_Chart) : Option Int :=
  if decide (100 < (p0.Rows.length : Int)) then
    some 4
  else
    Option.bind (α := Bool) (
      if decide (p0.Start < 0) then
        some true
      else
        some (decide (200 < p0.Start))) fun o13 =>
    if o13 then
      some 8
    else
      Option.bind (F_chart_counted p0) fun r21 =>
      Option.bind (I_chart_counted_1 r21 _ _ (chart_Check_l2) ()) fun z0 => match z0 with
        | .inl _ =>
          some 0
        | .inr e24 =>
          some e24
set_option maxHeartbeats 4000000 in
set_option maxRecDepth 100000 in
theorem c_chart_Check (E : Nat → Prop) (w0 : World) (p0 : api_Chart) (v0 : Value) (r : Int) (h : F_chart_Check p0 = some r) (S : St0 E [] w0 w0 [] [fRep r_api_Chart (v0) p0]) :
    Calls Try.prog 39 #[v0] w0 (Ret (X := Unit) E [] w0 (fun _ => .int .i64 r) (fun _ => []) (fun _ => [])) := by
  unfold F_chart_Check at h
  obtain ⟨u1, rfl, hu2⟩ := S.know (i := 0) (e := fRep r_api_Chart (v0) p0) rfl
  have S := S.learn (fRep (rL r_api_Row) u1 p0.Rows) hu2
  obtain ⟨ad3, cp4, _, rfl, _⟩ := hu2
  refine sEnterM (args := [.agg #[iv p0.Start, .slice ad3 p0.Rows.length cp4]]) 26 Try.func39 rfl rfl (by simp) S (fun a S => ?_)
  refine sSeq (fun K5 hK5 => ?_)
  refine sRegion ?_
  refine sBox (v := .agg #[iv p0.Start, .slice ad3 p0.Rows.length cp4]) S (wN rfl) rfl rfl [iv p0.Start, .slice ad3 p0.Rows.length cp4] rfl rfl (lb rfl) fun a b6 w S => ?_
  refine sAlloc (iv 0) S (wN rfl) rfl rfl [iv 0] rfl rfl (lb rfl) fun a b7 w S => ?_
  refine leafL (leafT (hK5 _ _ ?_))
  refine sSeq (fun K8 hK8 => ?_)
  refine sSeq (fun K9 hK9 => ?_)
  refine sRegion ?_
  refine sField (b := b6) (off := 0) 1 1 S (wN rfl) rfl rfl rfl rfl rfl (lb rfl) fun a S => ?_
  refine sLoad1 (p := b6) (off := 1) (T := 24) (vs := [iv p0.Start, .slice ad3 p0.Rows.length cp4]) 1 (.slice ad3 p0.Rows.length cp4) S (wN rfl) rfl rfl rfl rfl rfl rfl (lb rfl) fun a S => ?_
  refine sLen (ad := ad3) (m := p0.Rows.length) (c := cp4) S (wN rfl) rfl Try.underlying22 rfl rfl (lb rfl) fun a S => ?_
  refine sBin (.bool (decide (100 < (p0.Rows.length : Int)))) S (wN rfl) rfl rfl rfl (bGt _ _ _ _ .i64 (p0.Rows.length : Int) 100) rfl (lb rfl) fun a S => ?_
  refine leafL (leafT (hK9 _ _ ?_))
  rcases iteSome h with ⟨hc10, h⟩ | ⟨hc10, h⟩
  · refine sCondT S rfl hc10 ?_
    refine sSeq (fun K11 hK11 => ?_)
    refine sRegion ?_
    refine sStore (p := b7) (off := 0) (T := 27) (vs := [iv 0]) (v := iv 4) 0 [iv 4] S (wN rfl) rfl rfl rfl rfl rfl rfl rfl (by simp) rfl fun a w S => ?_
    refine leafL (leafT (hK11 _ _ ?_))
    obtain rfl := Option.some.inj h
    exact wp_ret (rThen (sRetM0 (iv 4) S (rsl1 rfl (rv1 (c := 2) (t := 27) (T := 27) (p := b7) 0 (iv 4) S rfl rfl rfl)) ⟨(), rfl, S.mem.sel [] [] (by decide) rfl rfl⟩))
  refine sCondF S rfl hc10 ?_
  refine wp_skip (leafT (hK8 _ _ ?_))
  refine sSeq (fun K12 hK12 => ?_)
  obtain ⟨t14, h, g15⟩ := bindSome h
  refine sCut (fun a w => ∃ o13, o13 = t14 ∧ St [] E [] w0 26 a w [(1, .pointer (some ⟨b6, 0, none⟩)), (2, .pointer (some ⟨b7, 0, none⟩)), (16, .bool o13)] [eBox b6 24 [iv p0.Start, .slice ad3 p0.Rows.length cp4], eBox b7 27 [iv 0]] [fRep (rL r_api_Row) (.slice ad3 p0.Rows.length cp4) p0.Rows]) ?_ (fun a w hI => ?_)
  · refine sRegion ?_
    refine sField (b := b6) (off := 0) 0 0 S (wN rfl) rfl rfl rfl rfl rfl (lb rfl) fun a S => ?_
    refine sLoad1 (p := b6) (off := 0) (T := 24) (vs := [iv p0.Start, .slice ad3 p0.Rows.length cp4]) 1 (iv p0.Start) S (wN rfl) rfl rfl rfl rfl rfl rfl (lb rfl) fun a S => ?_
    refine sBin (.bool (decide (p0.Start < 0))) S (wN rfl) rfl rfl rfl (bLt _ _ _ _ .i64 p0.Start 0) rfl (lb rfl) fun a S => ?_
    refine sMove (.bool (decide (p0.Start < 0))) S (wN rfl) (.inl rfl) rfl rfl (lb rfl) fun a S => ?_
    rcases iteSome h with ⟨hc16, h⟩ | ⟨hc16, h⟩
    · refine sSkip 3 false 12 13 S rfl rfl rfl hc16 rfl (lb rfl) fun a S => ?_
      refine sSkip 3 false 12 14 S rfl rfl rfl hc16 rfl (lb rfl) fun a S => ?_
      refine sSkip 3 false 12 15 S rfl rfl rfl hc16 rfl (lb rfl) fun a S => ?_
      refine sPickT (.bool true) S (wN rfl) rfl rfl hc16 rfl rfl (lb rfl) fun a S => ?_
      exact leafL (leafT (⟨true, Option.some.inj h, S.fix [1, 0] [0] (by decide) rfl rfl rfl⟩))
    refine sField (b := b6) (off := 0) 0 0 S (wG 3 false 12 rfl rfl rfl hc16) rfl rfl rfl rfl rfl (lb rfl) fun a S => ?_
    refine sLoad1 (p := b6) (off := 0) (T := 24) (vs := [iv p0.Start, .slice ad3 p0.Rows.length cp4]) 1 (iv p0.Start) S (wG 3 false 12 rfl rfl rfl hc16) rfl rfl rfl rfl rfl rfl (lb rfl) fun a S => ?_
    refine sBin (.bool (decide (200 < p0.Start))) S (wG 3 false 12 rfl rfl rfl hc16) rfl rfl rfl (bGt _ _ _ _ .i64 p0.Start 200) rfl (lb rfl) fun a S => ?_
    refine sPickF (.bool (decide (200 < p0.Start))) S (wN rfl) rfl rfl hc16 rfl rfl (lb rfl) fun a S => ?_
    exact leafL (leafT (⟨decide (200 < p0.Start), Option.some.inj h, S.fix [1, 0] [0] (by decide) rfl rfl rfl⟩))
  obtain ⟨o13, rfl, S⟩ := hI
  have h := g15
  clear g15
  try dsimp only at h
  rcases iteSome h with ⟨hc17, h⟩ | ⟨hc17, h⟩
  · refine sCondT S rfl hc17 ?_
    refine sSeq (fun K18 hK18 => ?_)
    refine sRegion ?_
    refine sStore (p := b7) (off := 0) (T := 27) (vs := [iv 0]) (v := iv 8) 1 [iv 8] S (wN rfl) rfl rfl rfl rfl rfl rfl rfl (by simp) rfl fun a w S => ?_
    refine leafL (leafT (hK18 _ _ ?_))
    obtain rfl := Option.some.inj h
    exact wp_ret (rThen (sRetM0 (iv 8) S (rsl1 rfl (rv1 (c := 2) (t := 27) (T := 27) (p := b7) 0 (iv 8) S rfl rfl rfl)) ⟨(), rfl, S.mem.sel [] [] (by decide) rfl rfl⟩))
  refine sCondF S rfl hc17 ?_
  refine wp_skip (leafT (hK12 _ _ ?_))
  refine sSeq (fun K19 hK19 => ?_)
  refine sSeq (fun K20 hK20 => ?_)
  refine sRegion ?_
  refine sLoadN (p := b6) (off := 0) (T := 24) (vs := [iv p0.Start, .slice ad3 p0.Rows.length cp4]) 0 [iv p0.Start, .slice ad3 p0.Rows.length cp4] S (wN rfl) rfl rfl rfl rfl rfl rfl rfl (lb rfl) fun a S => ?_
  obtain ⟨r21, hx22, h⟩ := bindSome h
  have S := S.learn (fRep r_api_Chart (.agg #[iv p0.Start, .slice ad3 p0.Rows.length cp4]) p0) ⟨_, rfl, S.mem.know (i := 0) (e := fRep (rL r_api_Row) (.slice ad3 p0.Rows.length cp4) p0.Rows) rfl⟩
  refine sCall (X := Value) (f := 42) (vs := [.agg #[iv p0.Start, .slice ad3 p0.Rows.length cp4]]) (val := c_chart_counted_val r21) (B' := fun _ => []) (D' := c_chart_counted_D r21) [] [eBox b6 24 [iv p0.Start, .slice ad3 p0.Rows.length cp4], eBox b7 27 [iv 0]] [fRep r_api_Chart (.agg #[iv p0.Start, .slice ad3 p0.Rows.length cp4]) p0] [0, 1] [0] S (wN rfl) rfl callee42 rfl (by decide) rfl rfl (fun E1 w1 S1 => c_chart_counted E1 w1 p0 (.agg #[iv p0.Start, .slice ad3 p0.Rows.length cp4]) r21 hx22 S1) rfl (lb rfl) fun u23 a w S => ?_
  refine leafL (leafT (hK20 _ _ ?_))
  refine wp_block ?_
  obtain ⟨t35, hl36, g34⟩ := bindSome h
  replace S : St [] E [] w0 26 a w [(2, .pointer (some ⟨b7, 0, none⟩)), (18, .func (.func 52) #[] #[u23])] [eBox b7 27 [iv 0]] [fPtr r_api_Chart (u23) r21] := S.fix [1] [0] (by decide) rfl rfl rfl
  refine sRange2 (B := chart_Check_l2) (fun s0 L D => match s0 with | _ => L = [eBox b7 27 [iv 0]] ∧ D = [fPtr r_api_Chart (u23) r21]) (fun t0 c L D => match t0 with | e24 => c = .ret ∧ L = [eBox b7 27 [iv e24]] ∧ D = []) [0] S hl36 rfl callee52 (it_chart_counted_1 r21 u23) rfl (by decide) (by decide) ⟨rfl, rfl⟩ ?_ ?_ ?_
  · intro E l0 s0 x25 x27 u26 u28 b L D K a w0 hK hIL hB S
    clear hl36 g34 h hK
    unfold chart_Check_l2 at hB
    dsimp only at hB hIL
    obtain ⟨rfl, rfl⟩ := hIL
    have h := hB
    clear hB
    obtain rfl : u26 = iv x25 := S.mem.know (i := 0) (e := fRep (rI .i64) (u26) x25) rfl
    obtain rfl : u28 = .agg #[iv x27.before, iv x27.after, iv x27.e] := S.mem.know (i := 1) (e := fRep r_chart_count (u28) x27) rfl
    refine sRegionR (by repeat (first | exact roundU_out | exact it_out | exact lo_false | refine lo_then ?_ | refine lo_block ?_)) rfl ?_
    refine sAlloc (.agg #[iv 0, iv 0, iv 0]) S (wN rfl) rfl rfl [iv 0, iv 0, iv 0] rfl rfl (lb rfl) fun a b29 w S => ?_
    refine sStore (p := b29) (off := 0) (T := 89) (vs := [iv 0, iv 0, iv 0]) (v := .agg #[iv x27.before, iv x27.after, iv x27.e]) 0 [iv x27.before, iv x27.after, iv x27.e] S (wN rfl) rfl rfl rfl rfl rfl rfl rfl (by simp) rfl fun a w S => ?_
    refine leafL (leafT (⟨_, _, _, S, fun K a w0 hK S => ?_⟩))
    refine wpIn_block ?_
    refine sSeqR (fun K30 hK30 => ?_)
    refine sRegionR (by repeat (first | exact roundU_out | exact it_out | exact lo_false | refine lo_then ?_ | refine lo_block ?_)) rfl ?_
    refine sField (b := b29) (off := 0) 2 2 S (wN rfl) rfl rfl rfl rfl rfl (lb rfl) fun a S => ?_
    refine sLoad1 (p := b29) (off := 2) (T := 89) (vs := [iv x27.before, iv x27.after, iv x27.e]) 0 (iv x27.e) S (wN rfl) rfl rfl rfl rfl rfl rfl (lb rfl) fun a S => ?_
    refine sBin (.bool (x27.e != 0)) S (wN rfl) rfl rfl rfl (bNe _ _ _ _ .i64 x27.e 0) rfl (lb rfl) fun a S => ?_
    refine leafL (leafT (hK30 _ _ ?_))
    rcases iteSome h with ⟨hc31, h⟩ | ⟨hc31, h⟩
    rotate_left
    · refine sCondFR S rfl hc31 ?_
      exact wpIn_skip (leafB (rnN () _ _ [] (Option.some.inj h) ⟨rfl, rfl⟩ (S.fix [1] [2] (by decide) rfl rfl rfl)))
    refine sCondTR S rfl hc31 ?_
    refine sSeqR (fun K32 hK32 => ?_)
    refine sRegionR (by repeat (first | exact roundU_out | exact it_out | exact lo_false | refine lo_then ?_ | refine lo_block ?_)) rfl ?_
    refine sField (b := b29) (off := 0) 2 2 S (wN rfl) rfl rfl rfl rfl rfl (lb rfl) fun a S => ?_
    refine sLoad1 (p := b29) (off := 2) (T := 89) (vs := [iv x27.before, iv x27.after, iv x27.e]) 0 (iv x27.e) S (wN rfl) rfl rfl rfl rfl rfl rfl (lb rfl) fun a S => ?_
    refine sStore (p := b7) (off := 0) (T := 27) (vs := [iv 0]) (v := iv x27.e) 1 [iv x27.e] S (wN rfl) rfl rfl rfl rfl rfl rfl rfl (by simp) rfl fun a w S => ?_
    refine leafL (leafT (hK32 _ _ ?_))
    exact wpIn_ret (rBlock (rnR x27.e _ _ [] (Option.some.inj h) ⟨rfl, rfl, rfl⟩ (S.fix [0] [] (by decide) rfl rfl rfl)))
  · intro dk33 s0 L D a w hr hIL S
    clear h
    obtain rfl := hr
    dsimp only at g34 hIL
    obtain ⟨rfl, rfl⟩ := hIL
    have h := g34
    clear g34 hl36
    replace S : St [mark dk33] E [] w0 26 a w [(2, .pointer (some ⟨b7, 0, none⟩)), (18, .func (.func 52) #[] #[u23])] [eBox b7 27 [iv 0], eDef dk33] [fPtr r_api_Chart (u23) r21] := S
    refine leafB (leafT (hK19 _ _ ?_))
    refine sSeq (fun K37 hK37 => ?_)
    refine sRegion ?_
    refine sStore (p := b7) (off := 0) (T := 27) (vs := [iv 0]) (v := iv 0) 0 [iv 0] S (wN rfl) rfl rfl rfl rfl rfl rfl rfl (by simp) rfl fun a w S => ?_
    refine leafL (leafT (hK37 _ _ ?_))
    refine wp_ret (sRetM1 1 S rfl (fun a w S => ?_))
    obtain rfl := Option.some.inj h
    exact sFin (iv 0) S (rsl1 rfl (rv1 (c := 2) (t := 27) (T := 27) (p := b7) 0 (iv 0) S rfl rfl rfl)) ⟨(), rfl, S.mem.sel [] [] (by decide) rfl rfl⟩
  · intro dk33 c0 e24 L D a w hr hIX S
    clear h
    obtain rfl := hr
    dsimp only at g34 hIX
    obtain ⟨rfl, rfl, rfl⟩ := hIX
    have h := g34
    clear g34 hl36
    replace S : St [mark dk33] E [] w0 26 a w [(2, .pointer (some ⟨b7, 0, none⟩)), (18, .func (.func 52) #[] #[u23])] [eBox b7 27 [iv e24], eDef dk33] [] := S
    refine wp_ret (rBlock (rThen (sRetM1 1 S rfl (fun a w S => ?_))))
    obtain rfl := Option.some.inj h
    exact sFin (iv e24) S (rsl1 rfl (rv1 (c := 2) (t := 27) (T := 27) (p := b7) 0 (iv e24) S rfl rfl rfl)) ⟨(), rfl, S.mem.sel [] [] (by decide) rfl rfl⟩

end Go.Proofs.Yticjoiolfibmlaa
namespace Go.Proofs.Yticjoiolfibmlaa
open Go.RowKit
set_option linter.unusedVariables false

noncomputable def raddleref26_Check_l1 (p0 : api_Chart) : (Int × Int) → Option ((Int × Int) ⊕ (Int ⊕ Unit)) := fun s0 => match s0 with
  | (s22, s23) =>
    if decide (s23 < (p0.Rows.length : Int)) then
      Option.bind (idxO p0.Rows s23) fun x32 =>
      Option.bind (F_raddleref25_Uses x32.Cells) fun r41 =>
      if r41.2 != 0 then
        some (.inr (.inl r41.2))
      else
        if r41.1 != s22 then
          some (.inr (.inl 26))
        else
          Option.bind (F_raddleref25_Makes x32.Cells) fun r58 =>
          some (.inl (r58.1, w64 (s23 + 1)))
    else
      some (.inr (.inr ()))
noncomputable def F_raddleref26_Check (p0 : api_Chart) : Option Int :=
  if decide (100 < (p0.Rows.length : Int)) then
    some 4
  else
    Option.bind (α := Bool) (
      if decide (p0.Start < 0) then
        some true
      else
        some (decide (200 < p0.Start))) fun o12 =>
    if o12 then
      some 8
    else
      Option.bind (α := Unit ⊕ Int) (
        Option.bind (whileO (raddleref26_Check_l1 p0) (p0.Start, 0)) fun z0 => match z0 with
          | .inl z =>
            some (.inr z)
          | .inr _ =>
            some (.inl ())) fun z0 => match z0 with
        | .inl _ =>
          some 0
        | .inr z =>
          some z
set_option maxHeartbeats 4000000 in
set_option maxRecDepth 100000 in
theorem c_raddleref26_Check (E : Nat → Prop) (w0 : World) (p0 : api_Chart) (v0 : Value) (r : Int) (h : F_raddleref26_Check p0 = some r) (S : St0 E [] w0 w0 [] [fRep r_api_Chart (v0) p0]) :
    Calls Try.prog 21 #[v0] w0 (Ret (X := Unit) E [] w0 (fun _ => .int .i64 r) (fun _ => []) (fun _ => [])) := by
  unfold F_raddleref26_Check at h
  obtain ⟨u1, rfl, hu2⟩ := S.know (i := 0) (e := fRep r_api_Chart (v0) p0) rfl
  have S := S.learn (fRep (rL r_api_Row) u1 p0.Rows) hu2
  obtain ⟨ad3, cp4, _, rfl, _⟩ := hu2
  refine sEnter (args := [.agg #[iv p0.Start, .slice ad3 p0.Rows.length cp4]]) 54 Try.func21 rfl rfl (by simp) S (fun a S => ?_)
  refine sSeq (fun K5 hK5 => ?_)
  refine sRegion ?_
  refine sBox (v := .agg #[iv p0.Start, .slice ad3 p0.Rows.length cp4]) S (wN rfl) rfl rfl [iv p0.Start, .slice ad3 p0.Rows.length cp4] rfl rfl (lb rfl) fun a b6 w S => ?_
  refine sMove (iv 0) S (wN rfl) (.inr rfl) rfl rfl (lb rfl) fun a S => ?_
  refine leafL (leafT (hK5 _ _ ?_))
  refine sSeq (fun K7 hK7 => ?_)
  refine sSeq (fun K8 hK8 => ?_)
  refine sRegion ?_
  refine sField (b := b6) (off := 0) 1 1 S (wN rfl) rfl rfl rfl rfl rfl (lb rfl) fun a S => ?_
  refine sLoad1 (p := b6) (off := 1) (T := 24) (vs := [iv p0.Start, .slice ad3 p0.Rows.length cp4]) 0 (.slice ad3 p0.Rows.length cp4) S (wN rfl) rfl rfl rfl rfl rfl rfl (lb rfl) fun a S => ?_
  refine sLen (ad := ad3) (m := p0.Rows.length) (c := cp4) S (wN rfl) rfl Try.underlying22 rfl rfl (lb rfl) fun a S => ?_
  refine sBin (.bool (decide (100 < (p0.Rows.length : Int)))) S (wN rfl) rfl rfl rfl (bGt _ _ _ _ .i64 (p0.Rows.length : Int) 100) rfl (lb rfl) fun a S => ?_
  refine leafL (leafT (hK8 _ _ ?_))
  rcases iteSome h with ⟨hc9, h⟩ | ⟨hc9, h⟩
  · refine sCondT S rfl hc9 ?_
    refine sSeq (fun K10 hK10 => ?_)
    refine sRegion ?_
    refine sMove (iv 4) S (wN rfl) (.inr rfl) rfl rfl (lb rfl) fun a S => ?_
    refine leafL (leafT (hK10 _ _ ?_))
    obtain rfl := Option.some.inj h
    exact wp_ret (rThen (sRet (iv 4) S (rsl1 rfl (rvT (t := 2) (v := iv 4) S rfl)) ⟨(), rfl, S.mem.sel [] [] (by decide) rfl rfl⟩))
  refine sCondF S rfl hc9 ?_
  refine wp_skip (leafT (hK7 _ _ ?_))
  refine sSeq (fun K11 hK11 => ?_)
  obtain ⟨t13, h, g14⟩ := bindSome h
  refine sCut (fun a w => ∃ o12, o12 = t13 ∧ St [] E [] w0 54 a w [(1, .pointer (some ⟨b6, 0, none⟩)), (18, .bool o12)] [eBox b6 24 [iv p0.Start, .slice ad3 p0.Rows.length cp4]] [fRep (rL r_api_Row) (.slice ad3 p0.Rows.length cp4) p0.Rows]) ?_ (fun a w hI => ?_)
  · refine sRegion ?_
    refine sField (b := b6) (off := 0) 0 0 S (wN rfl) rfl rfl rfl rfl rfl (lb rfl) fun a S => ?_
    refine sLoad1 (p := b6) (off := 0) (T := 24) (vs := [iv p0.Start, .slice ad3 p0.Rows.length cp4]) 0 (iv p0.Start) S (wN rfl) rfl rfl rfl rfl rfl rfl (lb rfl) fun a S => ?_
    refine sBin (.bool (decide (p0.Start < 0))) S (wN rfl) rfl rfl rfl (bLt _ _ _ _ .i64 p0.Start 0) rfl (lb rfl) fun a S => ?_
    refine sMove (.bool (decide (p0.Start < 0))) S (wN rfl) (.inl rfl) rfl rfl (lb rfl) fun a S => ?_
    rcases iteSome h with ⟨hc15, h⟩ | ⟨hc15, h⟩
    · refine sSkip 3 false 14 15 S rfl rfl rfl hc15 rfl (lb rfl) fun a S => ?_
      refine sSkip 3 false 14 16 S rfl rfl rfl hc15 rfl (lb rfl) fun a S => ?_
      refine sSkip 3 false 14 17 S rfl rfl rfl hc15 rfl (lb rfl) fun a S => ?_
      refine sPickT (.bool true) S (wN rfl) rfl rfl hc15 rfl rfl (lb rfl) fun a S => ?_
      exact leafL (leafT (⟨true, Option.some.inj h, S.fix [0] [0] (by decide) rfl rfl rfl⟩))
    refine sField (b := b6) (off := 0) 0 0 S (wG 3 false 14 rfl rfl rfl hc15) rfl rfl rfl rfl rfl (lb rfl) fun a S => ?_
    refine sLoad1 (p := b6) (off := 0) (T := 24) (vs := [iv p0.Start, .slice ad3 p0.Rows.length cp4]) 0 (iv p0.Start) S (wG 3 false 14 rfl rfl rfl hc15) rfl rfl rfl rfl rfl rfl (lb rfl) fun a S => ?_
    refine sBin (.bool (decide (200 < p0.Start))) S (wG 3 false 14 rfl rfl rfl hc15) rfl rfl rfl (bGt _ _ _ _ .i64 p0.Start 200) rfl (lb rfl) fun a S => ?_
    refine sPickF (.bool (decide (200 < p0.Start))) S (wN rfl) rfl rfl hc15 rfl rfl (lb rfl) fun a S => ?_
    exact leafL (leafT (⟨decide (200 < p0.Start), Option.some.inj h, S.fix [0] [0] (by decide) rfl rfl rfl⟩))
  obtain ⟨o12, rfl, S⟩ := hI
  have h := g14
  clear g14
  try dsimp only at h
  rcases iteSome h with ⟨hc16, h⟩ | ⟨hc16, h⟩
  · refine sCondT S rfl hc16 ?_
    refine sSeq (fun K17 hK17 => ?_)
    refine sRegion ?_
    refine sMove (iv 8) S (wN rfl) (.inr rfl) rfl rfl (lb rfl) fun a S => ?_
    refine leafL (leafT (hK17 _ _ ?_))
    obtain rfl := Option.some.inj h
    exact wp_ret (rThen (sRet (iv 8) S (rsl1 rfl (rvT (t := 2) (v := iv 8) S rfl)) ⟨(), rfl, S.mem.sel [] [] (by decide) rfl rfl⟩))
  refine sCondF S rfl hc16 ?_
  refine wp_skip (leafT (hK11 _ _ ?_))
  refine sSeq (fun K18 hK18 => ?_)
  refine sRegion ?_
  refine sField (b := b6) (off := 0) 0 0 S (wN rfl) rfl rfl rfl rfl rfl (lb rfl) fun a S => ?_
  refine sLoad1 (p := b6) (off := 0) (T := 24) (vs := [iv p0.Start, .slice ad3 p0.Rows.length cp4]) 0 (iv p0.Start) S (wN rfl) rfl rfl rfl rfl rfl rfl (lb rfl) fun a S => ?_
  refine sMove (iv p0.Start) S (wN rfl) (.inr rfl) rfl rfl (lb rfl) fun a S => ?_
  refine leafL (leafT (hK18 _ _ ?_))
  obtain ⟨t19, h, g20⟩ := bindSome h
  refine sCut (fun a w => .inl () = t19 ∧ St [] E [] w0 54 a w [] [] []) ?_ (fun a w hI => ?_)
  rotate_left
  · obtain ⟨rfl, S⟩ := hI
    have h := g20
    clear g20
    try dsimp only at h
    refine sSeq (fun K60 hK60 => ?_)
    refine sRegion ?_
    refine sMove (iv 0) S (wN rfl) (.inr rfl) rfl rfl (lb rfl) fun a S => ?_
    refine leafL (leafT (hK60 _ _ ?_))
    obtain rfl := Option.some.inj h
    exact wp_ret (sRet (iv 0) S (rsl1 rfl (rvT (t := 2) (v := iv 0) S rfl)) ⟨(), rfl, S.mem.sel [] [] (by decide) rfl rfl⟩)
  refine sSeq (fun K21 hK21 => ?_)
  refine sRegion ?_
  refine sMove (iv 0) S (wN rfl) (.inr rfl) rfl rfl (lb rfl) fun a S => ?_
  refine leafL (leafT (hK21 _ _ ?_))
  refine wp_block ?_
  obtain ⟨t26, hl, g25⟩ := bindSome h
  refine sLoop hl (fun s0 a w => match s0 with | (s22, s23) => St [] E [] w0 54 a w [(1, .pointer (some ⟨b6, 0, none⟩)), (3, iv s22), (4, iv s23)] [eBox b6 24 [iv p0.Start, .slice ad3 p0.Rows.length cp4]] [fRep (rL r_api_Row) (.slice ad3 p0.Rows.length cp4) p0.Rows]) (S.fix [0] [0] (by decide) rfl rfl rfl) ?_
  clear hl h
  intro s0 a w c0 hI h hu24
  obtain ⟨s22, s23⟩ := s0
  unfold raddleref26_Check_l1 at h
  dsimp only at h hI
  have S := hI
  refine sSeq (fun K27 hK27 => ?_)
  refine sSeq (fun K28 hK28 => ?_)
  refine sRegion ?_
  refine sMove (iv s23) S (wN rfl) (.inl rfl) rfl rfl (lb rfl) fun a S => ?_
  refine sField (b := b6) (off := 0) 1 1 S (wN rfl) rfl rfl rfl rfl rfl (lb rfl) fun a S => ?_
  refine sLoad1 (p := b6) (off := 1) (T := 24) (vs := [iv p0.Start, .slice ad3 p0.Rows.length cp4]) 0 (.slice ad3 p0.Rows.length cp4) S (wN rfl) rfl rfl rfl rfl rfl rfl (lb rfl) fun a S => ?_
  refine sLen (ad := ad3) (m := p0.Rows.length) (c := cp4) S (wN rfl) rfl Try.underlying22 rfl rfl (lb rfl) fun a S => ?_
  refine sBin (.bool (decide (s23 < (p0.Rows.length : Int)))) S (wN rfl) rfl rfl rfl (bLt _ _ _ _ .i64 s23 (p0.Rows.length : Int)) rfl (lb rfl) fun a S => ?_
  refine leafL (leafT (hK28 _ _ ?_))
  rcases iteSome h with ⟨hc29, h⟩ | ⟨hc29, h⟩
  rotate_left
  · refine sCondF S rfl hc29 ?_
    obtain rfl := Option.some.inj h
    obtain rfl := hu24 _ rfl
    have h := g25
    clear g25
    try dsimp only at h
    exact wp_exit (xThen (xThen (xHit (leafT (⟨Option.some.inj h, S.fix [] [] (by decide) rfl rfl rfl⟩)))))
  refine sCondT S rfl hc29 ?_
  refine wp_skip (leafT (hK27 _ _ ?_))
  refine sSeq (fun K30 hK30 => ?_)
  refine wp_block ?_
  refine sSeq (fun K31 hK31 => ?_)
  refine sRegion ?_
  refine sField (b := b6) (off := 0) 1 1 S (wN rfl) rfl rfl rfl rfl rfl (lb rfl) fun a S => ?_
  refine sLoad1 (p := b6) (off := 1) (T := 24) (vs := [iv p0.Start, .slice ad3 p0.Rows.length cp4]) 0 (.slice ad3 p0.Rows.length cp4) S (wN rfl) rfl rfl rfl rfl rfl rfl (lb rfl) fun a S => ?_
  refine sMove (iv s23) S (wN rfl) (.inl rfl) rfl rfl (lb rfl) fun a S => ?_
  obtain ⟨x32, hx33, h⟩ := bindSome h
  obtain ⟨q34, hq35, S⟩ := pIdx (P := Try.prog) (r := r_api_Row) (v := .slice ad3 p0.Rows.length cp4) (xs := p0.Rows) (j := s23) 22 65 0 S Try.underlying22 rfl rfl hx33
  refine sIdxV (v := .slice ad3 p0.Rows.length cp4) (k := .i64) (j := s23) S (wN rfl) rfl rfl rfl hq35 rfl (lb rfl) fun a S => ?_
  obtain ⟨q36, hq37, S⟩ := pFld (P := Try.prog) (r := r_api_Row) (s2 := (rL r_api_Stitch)) (g := (·.Cells)) (q := q34) (z := x32) 65 1 0 1 S rfl rfl comp_api_Row_Cells
  refine sFldV (q := q34) S (wN rfl) rfl rfl hq37 rfl (lb rfl) fun a S => ?_
  obtain ⟨u38, S⟩ := pLoad (r := (rL r_api_Stitch)) (q := q36) (x := x32.Cells) 0 S rfl
  obtain ⟨ad39, cp40, _, rfl, _⟩ := S.mem.know (i := 1) (e := fRep (rL r_api_Stitch) (u38) x32.Cells) rfl
  refine sLoadV1 (vq := q36) 0 (.slice ad39 x32.Cells.length cp40) S (wN rfl) rfl rfl rfl rfl rfl (lb rfl) fun a S => ?_
  obtain ⟨r41, hx42, h⟩ := bindSome h
  have S1 := S.mem
  refine sCallQ (X := Unit) (f := 35) (vs := [.slice ad39 x32.Cells.length cp40]) (val := fun _ => .tuple #[iv r41.1, iv r41.2]) S (wN rfl) rfl callee35 rfl (S1.quiet [1] rfl) (fun E1 w1 S1 => c_raddleref25_Uses E1 w1 x32.Cells (.slice ad39 x32.Cells.length cp40) r41 hx42 S1) rfl (lb rfl) fun _ a w S => ?_
  refine sMove (.tuple #[iv r41.1, iv r41.2]) S (wN rfl) (.inl rfl) rfl rfl (lb rfl) fun a S => ?_
  refine sExtract (vs := [iv r41.1, iv r41.2]) (iv r41.1) S (wN rfl) rfl rfl rfl rfl (lb rfl) fun a S => ?_
  refine sExtract (vs := [iv r41.1, iv r41.2]) (iv r41.2) S (wN rfl) rfl rfl rfl rfl (lb rfl) fun a S => ?_
  refine sMove (iv r41.1) S (wN rfl) (.inr rfl) rfl rfl (lb rfl) fun a S => ?_
  refine sMove (iv r41.2) S (wN rfl) (.inr rfl) rfl rfl (lb rfl) fun a S => ?_
  refine leafL (leafT (hK31 _ _ ?_))
  refine sSeq (fun K43 hK43 => ?_)
  refine sSeq (fun K44 hK44 => ?_)
  refine sRegion ?_
  refine sMove (iv r41.2) S (wN rfl) (.inl rfl) rfl rfl (lb rfl) fun a S => ?_
  refine sBin (.bool (r41.2 != 0)) S (wN rfl) rfl rfl rfl (bNe _ _ _ _ .i64 r41.2 0) rfl (lb rfl) fun a S => ?_
  refine leafL (leafT (hK44 _ _ ?_))
  rcases iteSome h with ⟨hc45, h⟩ | ⟨hc45, h⟩
  · refine sCondT S rfl hc45 ?_
    refine sSeq (fun K46 hK46 => ?_)
    refine sRegion ?_
    refine sMove (iv r41.2) S (wN rfl) (.inl rfl) rfl rfl (lb rfl) fun a S => ?_
    refine sMove (iv r41.2) S (wN rfl) (.inr rfl) rfl rfl (lb rfl) fun a S => ?_
    refine leafL (leafT (hK46 _ _ ?_))
    obtain rfl := Option.some.inj h
    obtain rfl := hu24 _ rfl
    have h := g25
    clear g25
    try dsimp only at h
    obtain rfl := Option.some.inj h
    have h := g20
    clear g20
    try dsimp only at h
    obtain rfl := Option.some.inj h
    exact wp_ret (rThen (rBlock (rThen (rThen (rBlock (rThen (sRet (iv r41.2) S (rsl1 rfl (rvT (t := 2) (v := iv r41.2) S rfl)) ⟨(), rfl, S.mem.sel [] [] (by decide) rfl rfl⟩)))))))
  refine sCondF S rfl hc45 ?_
  refine wp_skip (leafT (hK43 _ _ ?_))
  refine sSeq (fun K47 hK47 => ?_)
  refine sSeq (fun K48 hK48 => ?_)
  refine sRegion ?_
  refine sMove (iv r41.1) S (wN rfl) (.inl rfl) rfl rfl (lb rfl) fun a S => ?_
  refine sMove (iv s22) S (wN rfl) (.inl rfl) rfl rfl (lb rfl) fun a S => ?_
  refine sBin (.bool (r41.1 != s22)) S (wN rfl) rfl rfl rfl (bNe _ _ _ _ .i64 r41.1 s22) rfl (lb rfl) fun a S => ?_
  refine leafL (leafT (hK48 _ _ ?_))
  rcases iteSome h with ⟨hc49, h⟩ | ⟨hc49, h⟩
  · refine sCondT S rfl hc49 ?_
    refine sSeq (fun K50 hK50 => ?_)
    refine sRegion ?_
    refine sMove (iv 26) S (wN rfl) (.inr rfl) rfl rfl (lb rfl) fun a S => ?_
    refine leafL (leafT (hK50 _ _ ?_))
    obtain rfl := Option.some.inj h
    obtain rfl := hu24 _ rfl
    have h := g25
    clear g25
    try dsimp only at h
    obtain rfl := Option.some.inj h
    have h := g20
    clear g20
    try dsimp only at h
    obtain rfl := Option.some.inj h
    exact wp_ret (rThen (rBlock (rThen (rThen (rBlock (rThen (sRet (iv 26) S (rsl1 rfl (rvT (t := 2) (v := iv 26) S rfl)) ⟨(), rfl, S.mem.sel [] [] (by decide) rfl rfl⟩)))))))
  refine sCondF S rfl hc49 ?_
  refine wp_skip (leafT (hK47 _ _ ?_))
  refine sRegion ?_
  refine sField (b := b6) (off := 0) 1 1 S (wN rfl) rfl rfl rfl rfl rfl (lb rfl) fun a S => ?_
  refine sLoad1 (p := b6) (off := 1) (T := 24) (vs := [iv p0.Start, .slice ad3 p0.Rows.length cp4]) 0 (.slice ad3 p0.Rows.length cp4) S (wN rfl) rfl rfl rfl rfl rfl rfl (lb rfl) fun a S => ?_
  refine sMove (iv s23) S (wN rfl) (.inl rfl) rfl rfl (lb rfl) fun a S => ?_
  obtain ⟨q51, hq52, S⟩ := pIdx (P := Try.prog) (r := r_api_Row) (v := .slice ad3 p0.Rows.length cp4) (xs := p0.Rows) (j := s23) 22 65 4 S Try.underlying22 rfl rfl hx33
  refine sIdxV (v := .slice ad3 p0.Rows.length cp4) (k := .i64) (j := s23) S (wN rfl) rfl rfl rfl hq52 rfl (lb rfl) fun a S => ?_
  obtain ⟨q53, hq54, S⟩ := pFld (P := Try.prog) (r := r_api_Row) (s2 := (rL r_api_Stitch)) (g := (·.Cells)) (q := q51) (z := x32) 65 1 0 1 S rfl rfl comp_api_Row_Cells
  refine sFldV (q := q51) S (wN rfl) rfl rfl hq54 rfl (lb rfl) fun a S => ?_
  obtain ⟨u55, S⟩ := pLoad (r := (rL r_api_Stitch)) (q := q53) (x := x32.Cells) 0 S rfl
  obtain ⟨ad56, cp57, _, rfl, _⟩ := S.mem.know (i := 1) (e := fRep (rL r_api_Stitch) (u55) x32.Cells) rfl
  refine sLoadV1 (vq := q53) 0 (.slice ad56 x32.Cells.length cp57) S (wN rfl) rfl rfl rfl rfl rfl (lb rfl) fun a S => ?_
  obtain ⟨r58, hx59, h⟩ := bindSome h
  have S1 := S.mem
  refine sCallQ (X := Unit) (f := 36) (vs := [.slice ad56 x32.Cells.length cp57]) (val := fun _ => .tuple #[iv r58.1, iv r58.2]) S (wN rfl) rfl callee36 rfl (S1.quiet [1] rfl) (fun E1 w1 S1 => c_raddleref25_Makes E1 w1 x32.Cells (.slice ad56 x32.Cells.length cp57) r58 hx59 S1) rfl (lb rfl) fun _ a w S => ?_
  refine sMove (.tuple #[iv r58.1, iv r58.2]) S (wN rfl) (.inl rfl) rfl rfl (lb rfl) fun a S => ?_
  refine sExtract (vs := [iv r58.1, iv r58.2]) (iv r58.1) S (wN rfl) rfl rfl rfl rfl (lb rfl) fun a S => ?_
  refine sExtract (vs := [iv r58.1, iv r58.2]) (iv r58.2) S (wN rfl) rfl rfl rfl rfl (lb rfl) fun a S => ?_
  refine sMove (iv r58.1) S (wN rfl) (.inr rfl) rfl rfl (lb rfl) fun a S => ?_
  refine leafL (leafB (leafT (hK30 _ _ ?_)))
  refine sRegion ?_
  refine sMove (iv s23) S (wN rfl) (.inl rfl) rfl rfl (lb rfl) fun a S => ?_
  refine sBin (iv (w64 (s23 + 1))) S (wN rfl) rfl rfl rfl (bAdd _ _ _ _ s23 1) rfl (lb rfl) fun a S => ?_
  refine sMove (iv (w64 (s23 + 1))) S (wN rfl) (.inr rfl) rfl rfl (lb rfl) fun a S => ?_
  exact leafL (leafT (⟨(r58.1, w64 (s23 + 1)), (Option.some.inj h).symm, (S.fix [0] [8] (by decide) rfl rfl rfl)⟩))

end Go.Proofs.Yticjoiolfibmlaa
namespace Go.Proofs.Yticjoiolfibmlaa
open Go.RowKit
set_option linter.unusedVariables false

def wfR (rows : List api_Row) : Prop := ∀ r, r ∈ rows → ∀ p, p ∈ r.Cells → wfS p
/-- the error of rows behind n loops -/
def chkR : Int → List api_Row → Int
  | _, [] => 0
  | n, r :: rs => if allS r.Cells ≠ 0 then allS r.Cells else if sm usedS r.Cells ≠ n then 26 else chkR (sm madeS r.Cells) rs
/-- what the iterator goes over -/
def ctl : Nat → Int → List api_Row → List (Int × chart_count)
  | _, _, [] => []
  | i, n, r :: rs => if allS r.Cells ≠ 0 then [((i : Int), ⟨n, 0, allS r.Cells⟩)] else if sm usedS r.Cells ≠ n then [((i : Int), ⟨n, 0, 26⟩)] else ((i : Int), ⟨n, sm madeS r.Cells, 0⟩) :: ctl (i + 1) (sm madeS r.Cells) rs
theorem counted_loop {σ τ : Type} (c : api_Chart) (hw : wfR c.Rows) (hl : c.Rows.length ≤ 1000000000) (B : σ → (Int × chart_count) → Option (σ ⊕ τ)) : ∀ (rs : List api_Row) (i : Nat) (n : Int) (z : σ), c.Rows.drop i = rs → (whileO (chart_counted_1_l1 c B) (n, (i : Int), z)).bind fin3 = foldO B z (ctl i n rs) := by
  intro rs
  induction rs with
  | nil =>
    intro i n z hd
    have hi : c.Rows.length ≤ i := by
      have := congrArg List.length hd
      simp at this; omega
    have : chart_counted_1_l1 c B (n, (i : Int), z) = some (.inr (.inr z)) := by
      unfold chart_counted_1_l1
      simp only [dF (show ¬ (i : Int) < (c.Rows.length : Int) by omega), Bool.false_eq_true, if_false]
    rw [whileO_done this]
    rfl
  | cons r rs ih =>
    intro i n z hd
    have hi : i < c.Rows.length := by
      have := congrArg List.length hd
      simp at this; omega
    have hr : c.Rows[i] = r := by
      have := List.getElem_drop (xs := c.Rows) (i := i) (j := 0) (h := by rw [hd]; simp)
      simp only [hd, List.getElem_cons_zero, Nat.add_zero] at this
      exact this.symm
    have hrs : c.Rows.drop (i + 1) = rs := by
      rw [← List.drop_drop, hd]; rfl
    have hwr : ∀ p, p ∈ r.Cells → wfS p := hw r (hr ▸ List.getElem_mem hi)
    have hs : w64 ((i : Int) + 1) = ((i + 1 : Nat) : Int) := w64_succ (by omega)
    simp only [ctl]
    by_cases ha : allS r.Cells = 0
    · have eu : F_stitch_Uses r.Cells = some (sm usedS r.Cells, 0) := by rw [uses_eq hwr, if_pos ha]
      have em : F_stitch_Makes r.Cells = some (sm madeS r.Cells, 0) := by rw [makes_eq hwr, if_pos ha]
      rw [if_neg (by simp [ha])]
      by_cases hu : sm usedS r.Cells = n
      · have e1 : chart_counted_1_l1 c B (n, (i : Int), z) = (B z ((i : Int), ⟨n, sm madeS r.Cells, 0⟩)).bind fun y => match y with | .inl z' => some (.inl (sm madeS r.Cells, ((i + 1 : Nat) : Int), z')) | .inr t => some (.inr (.inl (.inr t))) := by
          unfold chart_counted_1_l1
          simp only [dT (show (i : Int) < (c.Rows.length : Int) by omega), if_true, idxO_nat hi, hr, Option.bind_some, eu, em, bne_self_eq_false, Bool.false_eq_true, if_false, nF hu, hs]
          try congr 1
        rw [if_neg (by simp [hu]), whileO_eq, e1, foldO]
        cases hb : B z ((i : Int), ⟨n, sm madeS r.Cells, 0⟩) with
        | none => rfl
        | some y =>
          cases y with
          | inl z' => exact ih (i + 1) (sm madeS r.Cells) z' hrs
          | inr t => rfl
      · have e1 : chart_counted_1_l1 c B (n, (i : Int), z) = (B z ((i : Int), ⟨n, 0, 26⟩)).bind fun y => match y with | .inl z' => some (.inr (.inl (.inl z'))) | .inr t => some (.inr (.inl (.inr t))) := by
          unfold chart_counted_1_l1
          simp only [dT (show (i : Int) < (c.Rows.length : Int) by omega), if_true, idxO_nat hi, hr, Option.bind_some, eu, em, bne_self_eq_false, Bool.false_eq_true, if_false, nT hu, nT (show ¬ (26 : Int) = 0 by omega)]
          try congr 1
        rw [if_pos (by simp [hu]), whileO_eq, e1, foldO]
        cases hb : B z ((i : Int), ⟨n, 0, 26⟩) with
        | none => rfl
        | some y => cases y <;> rfl
    · have eu : F_stitch_Uses r.Cells = some (0, allS r.Cells) := by rw [uses_eq hwr, if_neg ha]
      have e1 : chart_counted_1_l1 c B (n, (i : Int), z) = (B z ((i : Int), ⟨n, 0, allS r.Cells⟩)).bind fun y => match y with | .inl z' => some (.inr (.inl (.inl z'))) | .inr t => some (.inr (.inl (.inr t))) := by
        unfold chart_counted_1_l1
        simp only [dT (show (i : Int) < (c.Rows.length : Int) by omega), if_true, idxO_nat hi, hr, Option.bind_some, eu, nT ha]
        try congr 1
      rw [if_pos (by simp [ha]), whileO_eq, e1, foldO]
      cases hb : B z ((i : Int), ⟨n, 0, allS r.Cells⟩) with
      | none => rfl
      | some y => cases y <;> rfl
theorem chcount_eq {σ τ : Type} (c : api_Chart) (hw : wfR c.Rows) (hl : c.Rows.length ≤ 1000000000) (B : σ → (Int × chart_count) → Option (σ ⊕ τ)) (z : σ) : I_chart_counted_1 c σ τ B z = foldO B z (ctl 0 c.Start c.Rows) := by
  rw [← counted_loop c hw hl B c.Rows 0 c.Start z rfl]
  unfold I_chart_counted_1
  try congr 1
/-- the error of a chart -/
def chk (c : api_Chart) : Int := if 100 < c.Rows.length then 4 else if c.Start < 0 ∨ 200 < c.Start then 8 else chkR c.Start c.Rows
theorem check_fold : ∀ (rs : List api_Row) (i : Nat) (n : Int), foldO chart_Check_l2 () (ctl i n rs) = some (if chkR n rs = 0 then .inl () else .inr (chkR n rs)) := by
  intro rs
  induction rs with
  | nil => intro i n; rfl
  | cons r rs ih =>
    intro i n
    simp only [ctl, chkR]
    by_cases ha : allS r.Cells = 0
    · simp only [ha, ne_eq, not_true_eq_false, if_false]
      by_cases hu : sm usedS r.Cells = n
      · simp only [hu, not_true_eq_false, if_false, foldO, chart_Check_l2, bne_self_eq_false, Bool.false_eq_true, Option.bind_some]
        exact ih _ _
      · simp only [hu, not_false_eq_true, if_true, foldO, chart_Check_l2, nT (show ¬ (26 : Int) = 0 by omega), Option.bind_some]
        rfl
    · simp only [ha, ne_eq, not_false_eq_true, if_true, foldO, chart_Check_l2, nT ha, Option.bind_some, if_false]
theorem chart_check_eq (c : api_Chart) (hw : wfR c.Rows) : F_chart_Check c = some (chk c) := by
  unfold F_chart_Check chk F_chart_counted
  by_cases h1 : 100 < c.Rows.length
  · simp only [dT (show (100 : Int) < (c.Rows.length : Int) by omega), if_true, if_pos h1]
  simp only [dF (show ¬ (100 : Int) < (c.Rows.length : Int) by omega), Bool.false_eq_true, if_false, if_neg h1, Option.bind_some, chcount_eq c hw (show c.Rows.length ≤ 1000000000 by omega), check_fold]
  by_cases h2 : c.Start < 0
  · simp [h2]
  by_cases h3 : 200 < c.Start
  · simp [h2, h3]
  by_cases h4 : chkR c.Start c.Rows = 0 <;> simp [h2, h3, h4]
theorem rchart_loop (c : api_Chart) (hl : c.Rows.length ≤ 1000000000) : ∀ (rs : List api_Row) (i : Nat) (n : Int), c.Rows.drop i = rs → whileO (raddleref26_Check_l1 c) (n, (i : Int)) = some (if chkR n rs = 0 then .inr () else .inl (chkR n rs)) := by
  intro rs
  induction rs with
  | nil =>
    intro i n hd
    have hi : c.Rows.length ≤ i := by
      have := congrArg List.length hd
      simp at this; omega
    have : raddleref26_Check_l1 c (n, (i : Int)) = some (.inr (.inr ())) := by
      unfold raddleref26_Check_l1
      simp only [dF (show ¬ (i : Int) < (c.Rows.length : Int) by omega), Bool.false_eq_true, if_false]
    rw [whileO_done this]
    rfl
  | cons r rs ih =>
    intro i n hd
    have hi : i < c.Rows.length := by
      have := congrArg List.length hd
      simp at this; omega
    have hr : c.Rows[i] = r := by
      have := List.getElem_drop (xs := c.Rows) (i := i) (j := 0) (h := by rw [hd]; simp)
      simp only [hd, List.getElem_cons_zero, Nat.add_zero] at this
      exact this.symm
    have hrs : c.Rows.drop (i + 1) = rs := by
      rw [← List.drop_drop, hd]; rfl
    have hs : w64 ((i : Int) + 1) = ((i + 1 : Nat) : Int) := w64_succ (by omega)
    by_cases ha : allS r.Cells = 0
    · have eu : F_raddleref25_Uses r.Cells = some (sm usedS r.Cells, 0) := by rw [ruses_eq, if_pos ha]
      have em : F_raddleref25_Makes r.Cells = some (sm madeS r.Cells, 0) := by rw [rmakes_eq, if_pos ha]
      by_cases hu : sm usedS r.Cells = n
      · have e1 : raddleref26_Check_l1 c (n, (i : Int)) = some (.inl (sm madeS r.Cells, ((i + 1 : Nat) : Int))) := by
          unfold raddleref26_Check_l1
          simp only [dT (show (i : Int) < (c.Rows.length : Int) by omega), if_true, idxO_nat hi, hr, Option.bind_some, eu, em, bne_self_eq_false, Bool.false_eq_true, if_false, nF hu, hs]
        have hc : chkR n (r :: rs) = chkR (sm madeS r.Cells) rs := by simp [chkR, ha, hu]
        rw [whileO_step e1, ih (i + 1) (sm madeS r.Cells) hrs, hc]
      · have e1 : raddleref26_Check_l1 c (n, (i : Int)) = some (.inr (.inl 26)) := by
          unfold raddleref26_Check_l1
          simp only [dT (show (i : Int) < (c.Rows.length : Int) by omega), if_true, idxO_nat hi, hr, Option.bind_some, eu, em, bne_self_eq_false, Bool.false_eq_true, if_false, nT hu]
        have hc : chkR n (r :: rs) = 26 := by simp [chkR, ha, hu]
        rw [whileO_done e1, hc]
        rfl
    · have eu : F_raddleref25_Uses r.Cells = some (0, allS r.Cells) := by rw [ruses_eq, if_neg ha]
      have e1 : raddleref26_Check_l1 c (n, (i : Int)) = some (.inr (.inl (allS r.Cells))) := by
        unfold raddleref26_Check_l1
        simp only [dT (show (i : Int) < (c.Rows.length : Int) by omega), if_true, idxO_nat hi, hr, Option.bind_some, eu, nT ha]
      have hc : chkR n (r :: rs) = allS r.Cells := by simp [chkR, ha]
      rw [whileO_done e1, hc, if_neg ha]
theorem rchart_check_eq (c : api_Chart) : F_raddleref26_Check c = some (chk c) := by
  unfold F_raddleref26_Check chk
  by_cases h1 : 100 < c.Rows.length
  · simp only [dT (show (100 : Int) < (c.Rows.length : Int) by omega), if_true, if_pos h1]
  simp only [dF (show ¬ (100 : Int) < (c.Rows.length : Int) by omega), Bool.false_eq_true, if_false, if_neg h1]
  have hloop := rchart_loop c (by omega) c.Rows 0 c.Start rfl
  have h0 : ((0 : Nat) : Int) = 0 := rfl
  rw [h0] at hloop
  rw [hloop]
  by_cases h2 : c.Start < 0
  · simp [h2]
  by_cases h3 : 200 < c.Start
  · simp [h2, h3]
  by_cases h4 : chkR c.Start c.Rows = 0 <;> simp [h2, h3, h4]
/-- a chart without an error: every row is one, uses what the row before made -/
theorem chk_ok {c : api_Chart} (h : chk c = 0) : c.Rows.length ≤ 100 ∧ 0 ≤ c.Start ∧ c.Start ≤ 200 ∧ chkR c.Start c.Rows = 0 := by
  unfold chk at h
  split at h
  · omega
  · split at h
    · omega
    · rename_i h1 h2
      exact ⟨by omega, by omega, by omega, h⟩
theorem chkR_cons {n : Int} {r : api_Row} {rs : List api_Row} : chkR n (r :: rs) = 0 ↔ allS r.Cells = 0 ∧ sm usedS r.Cells = n ∧ chkR (sm madeS r.Cells) rs = 0 := by
  simp only [chkR]
  by_cases ha : allS r.Cells = 0
  · by_cases hu : sm usedS r.Cells = n
    · simp [ha, hu]
    · simp [ha, hu]
  · simp [ha]
theorem chkR_mem : ∀ {rs : List api_Row} {n : Int}, chkR n rs = 0 → ∀ r, r ∈ rs → allS r.Cells = 0 := by
  intro rs
  induction rs with
  | nil => intro n _ r hr; cases hr
  | cons x rs ih =>
    intro n h r hr
    obtain ⟨h1, h2, h3⟩ := chkR_cons.1 h
    rcases List.mem_cons.1 hr with rfl | hr
    · exact h1
    · exact ih h3 r hr
theorem wfR_of {c : api_Chart} (h : wf_api_Chart c) : wfR c.Rows := fun r hr p hp => inK_u8 ((((h.2.2 r hr).2).2 p hp).1)

end Go.Proofs.Yticjoiolfibmlaa
namespace Go.Proofs.Yticjoiolfibmlaa
open Go.RowKit
set_option linter.unusedVariables false

/-- a loop whose states are known -/
theorem loop_seq {S τ : Type} {B : S → Option (S ⊕ τ)} (c : Nat → S) (n : Nat) {t : τ} (h : ∀ k, k < n → B (c k) = some (.inl (c (k + 1)))) (hn : B (c n) = some (.inr t)) : whileO B (c 0) = some t := by
  have key : ∀ j k, j + k = n → whileO B (c k) = some t := by
    intro j
    induction j with
    | zero =>
      intro k hk
      obtain rfl : k = n := by omega
      exact whileO_done hn
    | succ j ih =>
      intro k hk
      rw [whileO_step (h k (by omega))]
      exact ih _ (by omega)
  exact key n 0 (by omega)
/-- a loop over a list that looks for the first element with p -/
theorem loop_idx {α τ : Type} {B : Int → Option (Int ⊕ τ)} (l : List α) (p : α → Bool) (hit : Nat → τ) (good : τ)
    (h : ∀ k (hk : k < l.length), B (k : Int) = some (if p l[k] = true then .inr (hit k) else .inl ((k + 1 : Nat) : Int))) (hn : B (l.length : Int) = some (.inr good)) : whileO B 0 = some (if l.findIdx p < l.length then hit (l.findIdx p) else good) := by
  have key : ∀ j k, j + k = l.length → k ≤ l.findIdx p → whileO B (k : Int) = some (if l.findIdx p < l.length then hit (l.findIdx p) else good) := by
    intro j
    induction j with
    | zero =>
      intro k hk hI
      obtain rfl : k = l.length := by omega
      rw [whileO_done hn, if_neg (by omega)]
    | succ j ih =>
      intro k hk hI
      have hk2 : k < l.length := by omega
      have hb := h k hk2
      cases hp : p l[k] with
      | true =>
        rw [hp, if_pos rfl] at hb
        have e : l.findIdx p = k := by
          rcases Nat.lt_or_ge k (l.findIdx p) with h1 | h1
          · have := List.not_of_lt_findIdx h1
            rw [hp] at this; cases this
          · omega
        rw [whileO_done hb, e, if_pos hk2]
      | false =>
        rw [hp, if_neg (by decide)] at hb
        rw [whileO_step hb]
        refine ih _ (by omega) ?_
        rcases Nat.eq_or_lt_of_le hI with h1 | h1
        · have h2 : l.findIdx p < l.length := by omega
          have h3 : p (l[l.findIdx p]'h2) = true := List.findIdx_getElem
          have h4 : l[l.findIdx p]'h2 = l[k] := by congr 1; exact h1.symm
          rw [h4, hp] at h3; cases h3
        · exact h1
  exact key l.length 0 (by omega) (Nat.zero_le _)
theorem rem_nat {a b : Nat} (h : 0 < b) : remI (a : Int) (b : Int) = some ((a % b : Nat) : Int) := by
  unfold remI; rw [if_neg (by omega)]; rfl
theorem loop_same {τ : Type} {B : Int → Option (Int ⊕ τ)} (n : Nat) (good : τ) (h : ∀ k, k < n → B (k : Int) = some (.inl ((k + 1 : Nat) : Int))) (hn : B (n : Int) = some (.inr good)) : whileO B 0 = some good :=
  loop_seq (fun k => (k : Int)) n h hn

end Go.Proofs.Yticjoiolfibmlaa
namespace Go.Proofs.Yticjoiolfibmlaa
open Go.RowKit
set_option linter.unusedVariables false

def ups (u k : Nat) : List Int := (List.range k).map fun i => ((u + i : Nat) : Int)
theorem ups_len (u k : Nat) : (ups u k).length = k := by simp [ups]
theorem ups_mem {u k : Nat} {x : Int} : x ∈ ups u k ↔ (u : Int) ≤ x ∧ x < ((u + k : Nat) : Int) := by
  simp only [ups, List.mem_map, List.mem_range]
  constructor
  · rintro ⟨i, hi, rfl⟩; omega
  · intro h; exact ⟨(x - u).toNat, by omega, by omega⟩
theorem ups_get {u k j : Nat} (h : j < (ups u k).length) : (ups u k)[j] = ((u + j : Nat) : Int) := by simp [ups]
theorem ups_succ (u k : Nat) : ups u (k + 1) = ups u k ++ [((u + k : Nat) : Int)] := by simp [ups, List.range_succ]
theorem ups_nodup (u k : Nat) : (ups u k).Nodup := by
  rw [List.nodup_iff_pairwise_ne]
  refine List.pairwise_map.2 (List.Pairwise.imp ?_ (List.pairwise_lt_range (n := k)))
  intro a b h; omega
theorem knd {p : api_Stitch} (h : okS p) : (∃ b, p = ⟨1, b, 0, 0⟩) ∨ (∃ b, p = ⟨8, b, 0, 0⟩) ∨ p = ⟨2, false, 0, 0⟩ ∨ (∃ b, ∃ a : Nat, 2 ≤ a ∧ a ≤ 4 ∧ p = ⟨3, b, a, 0⟩) ∨ (∃ b, ∃ a : Nat, 2 ≤ a ∧ a ≤ 4 ∧ p = ⟨4, b, a, 0⟩) ∨
    (∃ b, ∃ a : Nat, 2 ≤ a ∧ a ≤ 4 ∧ p = ⟨5, b, a, 0⟩) ∨ (∃ k b, ∃ a c : Nat, (k = 6 ∨ k = 7) ∧ 1 ≤ a ∧ a ≤ 6 ∧ 1 ≤ c ∧ c ≤ 6 ∧ p = ⟨k, b, a, c⟩) ∨ (∃ a : Nat, 1 ≤ a ∧ a ≤ 200 ∧ p = ⟨9, false, a, 0⟩) ∨ (∃ b, ∃ a : Nat, 1 ≤ a ∧ a ≤ 200 ∧ p = ⟨10, b, a, 0⟩) := by
  obtain ⟨k, b, A, B⟩ := p
  unfold okS at h
  simp only at h
  rcases h with ⟨h | h, rfl, rfl⟩ | ⟨rfl, rfl, rfl, rfl⟩ | ⟨h | h | h, h1, h2, rfl⟩ | ⟨h, h1, h2, h3, h4⟩ | ⟨rfl, h1, h2, rfl, rfl⟩ | ⟨rfl, h1, h2, rfl⟩
  · exact .inl ⟨b, by rw [h]⟩
  · exact .inr (.inl ⟨b, by rw [h]⟩)
  · exact .inr (.inr (.inl rfl))
  · exact .inr (.inr (.inr (.inl ⟨b, A.toNat, by omega, by omega, by rw [h, Int.toNat_of_nonneg (by omega)]⟩)))
  · exact .inr (.inr (.inr (.inr (.inl ⟨b, A.toNat, by omega, by omega, by rw [h, Int.toNat_of_nonneg (by omega)]⟩))))
  · exact .inr (.inr (.inr (.inr (.inr (.inl ⟨b, A.toNat, by omega, by omega, by rw [h, Int.toNat_of_nonneg (by omega)]⟩)))))
  · exact .inr (.inr (.inr (.inr (.inr (.inr (.inl ⟨k, b, A.toNat, B.toNat, h, by omega, by omega, by omega, by omega, by rw [Int.toNat_of_nonneg (by omega), Int.toNat_of_nonneg (by omega)]⟩))))))
  · exact .inr (.inr (.inr (.inr (.inr (.inr (.inr (.inl ⟨A.toNat, by omega, by omega, by rw [Int.toNat_of_nonneg (by omega)]⟩)))))))
  · exact .inr (.inr (.inr (.inr (.inr (.inr (.inr (.inr ⟨b, A.toNat, by omega, by omega, by rw [Int.toNat_of_nonneg (by omega)]⟩)))))))
def uN (s : api_Stitch) : Nat := (usedS s).toNat
def mN (s : api_Stitch) : Nat := (madeS s).toNat
/-- the parents of the loops that a cell makes, where the loops that it uses begin at u -/
def pars (s : api_Stitch) (u : Nat) : List (List Int) :=
  if s.Kind = 2 then [[]] else if s.Kind = 9 then List.replicate s.A.toNat []
  else if s.Kind = 3 then [ups u s.A.toNat] else if s.Kind = 4 then [(ups u s.A.toNat).reverse]
  else if s.Kind = 5 then List.replicate s.A.toNat [(u : Int)]
  else if s.Kind = 6 ∨ s.Kind = 7 then ((ups u (s.A.toNat + s.B.toNat)).drop s.A.toNat ++ (ups u (s.A.toNat + s.B.toNat)).take s.A.toNat).map fun x => [x]
  else if s.Kind = 10 then [] else [[(u : Int)]]
theorem pars_len {s : api_Stitch} (h : okS s) (u : Nat) : (pars s u).length = mN s := by
  rcases knd h with ⟨b, rfl⟩ | ⟨b, rfl⟩ | rfl | ⟨b, a, h1, h2, rfl⟩ | ⟨b, a, h1, h2, rfl⟩ | ⟨b, a, h1, h2, rfl⟩ | ⟨k, b, a, c, hk, h1, h2, h3, h4, rfl⟩ | ⟨a, h1, h2, rfl⟩ | ⟨b, a, h1, h2, rfl⟩
  · rfl
  · rfl
  · rfl
  · simp [pars, mN, madeS]
  · simp [pars, mN, madeS]
  · simp [pars, mN, madeS]
  · rcases hk with rfl | rfl <;> simp [pars, mN, madeS, ups_len] <;> omega
  · simp [pars, mN, madeS]
  · simp [pars, mN, madeS]
theorem pars_bd {s : api_Stitch} (h : okS s) (u : Nat) : ∀ ps, ps ∈ pars s u → ps.Nodup ∧ ∀ p, p ∈ ps → (u : Int) ≤ p ∧ p < ((u + uN s : Nat) : Int) := by
  intro ps hps
  rcases knd h with ⟨b, rfl⟩ | ⟨b, rfl⟩ | rfl | ⟨b, a, h1, h2, rfl⟩ | ⟨b, a, h1, h2, rfl⟩ | ⟨b, a, h1, h2, rfl⟩ | ⟨k, b, a, c, hk, h1, h2, h3, h4, rfl⟩ | ⟨a, h1, h2, rfl⟩ | ⟨b, a, h1, h2, rfl⟩
  · simp [pars] at hps; subst hps; simp [uN, usedS]; omega
  · simp [pars] at hps; subst hps; simp [uN, usedS]; omega
  · simp [pars] at hps; subst hps; simp
  · simp [pars] at hps; subst hps; refine ⟨ups_nodup _ _, fun p hp => ?_⟩; have := ups_mem.1 hp; simpa [uN, usedS] using this
  · simp [pars] at hps; subst hps; refine ⟨(List.reverse_perm _).nodup_iff.2 (ups_nodup _ _), fun p hp => ?_⟩; have := ups_mem.1 (List.mem_reverse.1 hp); simpa [uN, usedS] using this
  · simp [pars] at hps; obtain ⟨_, rfl⟩ := hps; simp [uN, usedS]; omega
  · have e : pars ⟨k, b, (a : Int), (c : Int)⟩ u = ((ups u (a + c)).drop a ++ (ups u (a + c)).take a).map fun x => [x] := by rcases hk with rfl | rfl <;> simp [pars]
    have e2 : uN ⟨k, b, (a : Int), (c : Int)⟩ = a + c := by rcases hk with rfl | rfl <;> simp [uN, usedS] <;> omega
    rw [e] at hps
    obtain ⟨x, hx, rfl⟩ := List.mem_map.1 hps
    have hx : x ∈ ups u (a + c) := by
      rcases List.mem_append.1 hx with hx | hx
      · exact List.mem_of_mem_drop hx
      · exact List.mem_of_mem_take hx
    rw [e2]
    refine ⟨by simp, fun p hp => ?_⟩
    simp at hp; subst hp
    exact ups_mem.1 hx
  · simp [pars] at hps; obtain ⟨_, rfl⟩ := hps; simp
  · simp [pars] at hps
def offB (s : api_Stitch) (u : Nat) : List Int := if s.Kind = 10 then ups u s.A.toNat else []
def crs (s : api_Stitch) (n : Nat) : List (Int × Int) :=
  if s.Kind = 6 ∨ s.Kind = 7 then ((List.range s.A.toNat).map fun a => (List.range s.B.toNat).map fun b => if s.Kind = 7 then (((n + b : Nat) : Int), ((n + s.B.toNat + a : Nat) : Int)) else (((n + s.B.toNat + a : Nat) : Int), ((n + b : Nat) : Int))).flatten else []
def mkL (R K : Nat) (pl : Bool) (ps : List (List Int)) : List api_Loop := ps.map fun p => ⟨(R : Int), (K : Int), p, pl⟩
def side (L : List api_Loop) (s : api_Stitch) (u : Nat) : Bool := if s.Kind = 8 then (L[u]?.map fun l => l.Purl).getD false else s.Purl
structure Wk where
  L : List api_Loop
  B : List Int
  C : List (Int × Int)
  u : Nat
def stepW (R K : Nat) (s : api_Stitch) (z : Wk) : Wk := ⟨z.L ++ mkL R K (side z.L s z.u) (pars s z.u), z.B ++ offB s z.u, z.C ++ crs s z.L.length, z.u + uN s⟩
def cellsW (R : Nat) : Nat → List api_Stitch → Wk → Wk
  | _, [], z => z
  | k, s :: l, z => cellsW R (k + 1) l (stepW R k s z)
def rowsW : Nat → List (List api_Stitch) → Wk × List Int → Wk × List Int
  | _, [], z => z
  | i, f :: fs, z => rowsW (i + 1) fs (cellsW (i + 1) 0 f z.1, z.2 ++ [((cellsW (i + 1) 0 f z.1).L.length : Int)])
def faceR (r : api_Row) : List api_Stitch := if r.Back = true then (r.Cells.map othS).reverse else r.Cells
def zeroL (n : Nat) : List api_Loop := (List.range n).map fun i : Nat => (⟨0, (i : Int), [], false⟩ : api_Loop)
def workC (c : api_Chart) : Wk × List Int := rowsW 0 (c.Rows.map faceR) (⟨zeroL c.Start.toNat, [], [], 0⟩, [0, c.Start])
def smN (f : api_Stitch → Nat) : List api_Stitch → Nat
  | [] => 0
  | s :: l => f s + smN f l
theorem smN_used {l : List api_Stitch} (h : allOk l) : (smN uN l : Int) = sm usedS l := by
  induction l with
  | nil => rfl
  | cons s l ih =>
    have h1 := (usedS_bd (h s (by simp))).1
    have h2 := ih fun p hp => h p (by simp [hp])
    simp only [smN, sm, uN] at h2 ⊢
    omega
theorem smN_made {l : List api_Stitch} (h : allOk l) : (smN mN l : Int) = sm madeS l := by
  induction l with
  | nil => rfl
  | cons s l ih =>
    have h1 := (madeS_bd (h s (by simp))).1
    have h2 := ih fun p hp => h p (by simp [hp])
    simp only [smN, sm, mN] at h2 ⊢
    omega
theorem mkL_len (R K : Nat) (pl : Bool) (ps : List (List Int)) : (mkL R K pl ps).length = ps.length := by simp [mkL]
end Go.Proofs.Yticjoiolfibmlaa
namespace Go.Proofs.Yticjoiolfibmlaa
open Go.RowKit
set_option linter.unusedVariables false

theorem cellsW_snoc (R : Nat) : ∀ (l : List api_Stitch) (k : Nat) (z : Wk) (s : api_Stitch), cellsW R k (l ++ [s]) z = stepW R (k + l.length) s (cellsW R k l z)
  | [], k, z, s => rfl
  | t :: l, k, z, s => by
    simp only [List.cons_append, cellsW, List.length_cons]
    rw [cellsW_snoc R l (k + 1) _ s]
    congr 1; omega
theorem rowsW_snoc : ∀ (fs : List (List api_Stitch)) (i : Nat) (z : Wk × List Int) (f : List api_Stitch), rowsW i (fs ++ [f]) z = (cellsW (i + fs.length + 1) 0 f (rowsW i fs z).1, (rowsW i fs z).2 ++ [((cellsW (i + fs.length + 1) 0 f (rowsW i fs z).1).L.length : Int)])
  | [], i, z, f => rfl
  | g :: fs, i, z, f => by
    simp only [List.cons_append, rowsW, List.length_cons]
    rw [rowsW_snoc fs (i + 1) _ f]
    have e : i + 1 + fs.length + 1 = i + (fs.length + 1) + 1 := by omega
    rw [e]
theorem cells_ind {R : Nat} {l : List api_Stitch} {z : Wk} (P : Nat → Wk → Prop) (h0 : P 0 z) (step : ∀ (j : Nat) (hj : j < l.length) (y : Wk), P j y → P (j + 1) (stepW R j l[j] y)) : P l.length (cellsW R 0 l z) := by
  have key : ∀ k, k ≤ l.length → P k (cellsW R 0 (l.take k) z) := by
    intro k
    induction k with
    | zero => intro _; exact h0
    | succ k ih =>
      intro hk
      rw [List.take_succ_eq_append_getElem (by omega), cellsW_snoc]
      have := step k (by omega) _ (ih (by omega))
      rwa [Nat.zero_add, List.length_take, Nat.min_eq_left (by omega)]
  have := key l.length (Nat.le_refl _)
  rwa [List.take_length] at this
theorem smN_append (g : api_Stitch → Nat) (l k : List api_Stitch) : smN g (l ++ k) = smN g l + smN g k := by
  induction l with
  | nil => simp [smN]
  | cons s l ih => simp only [List.cons_append, smN, ih]; omega
theorem smN_take (g : api_Stitch → Nat) (l : List api_Stitch) {k : Nat} (h : k < l.length) : smN g (l.take (k + 1)) = smN g (l.take k) + g l[k] := by
  rw [List.take_succ_eq_append_getElem h, smN_append]; simp [smN]
theorem smN_take_le (g : api_Stitch → Nat) (l : List api_Stitch) (k : Nat) : smN g (l.take k) ≤ smN g l := by
  have h := smN_append g (l.take k) (l.drop k)
  rw [List.take_append_drop] at h
  omega
/-- how many loops row i has; where row r begins -/
def nR (S : Nat) (fs : List (List api_Stitch)) (i : Nat) : Nat := if i = 0 then S else smN mN (fs.getD (i - 1) [])
def off (S : Nat) (fs : List (List api_Stitch)) : Nat → Nat
  | 0 => 0
  | r + 1 => off S fs r + nR S fs r
def okF (S : Nat) (fs : List (List api_Stitch)) : Prop := S ≤ 200 ∧ ∀ (i : Nat) (h : i < fs.length), allOk fs[i] ∧ fs[i].length ≤ 200 ∧ smN mN fs[i] ≤ 200 ∧ smN uN fs[i] = nR S fs i
theorem off_mono {S : Nat} {fs : List (List api_Stitch)} {a b : Nat} (h : a ≤ b) : off S fs a ≤ off S fs b := by
  induction b with
  | zero => rw [show a = 0 by omega]; exact Nat.le_refl _
  | succ b ih =>
    by_cases e : a = b + 1
    · rw [e]; exact Nat.le_refl _
    · have := ih (by omega); simp only [off]; omega
theorem nR_le {S : Nat} {fs : List (List api_Stitch)} (h : okF S fs) {i : Nat} (hi : i ≤ fs.length) : nR S fs i ≤ 200 := by
  unfold nR
  split
  · exact h.1
  · have hl : i - 1 < fs.length := by omega
    have := (h.2 (i - 1) hl).2.2.1
    simpa [List.getD_eq_getElem?_getD, List.getElem?_eq_getElem hl] using this
theorem off_le {S : Nat} {fs : List (List api_Stitch)} (h : okF S fs) {r : Nat} (hr : r ≤ fs.length + 1) : off S fs r ≤ 200 * r := by
  induction r with
  | zero => exact Nat.le_refl _
  | succ r ih => have := ih (by omega); have := nR_le h (i := r) (by omega); simp only [off]; omega
theorem nR_succ {S : Nat} {fs : List (List api_Stitch)} {i : Nat} (hi : i < fs.length) : nR S fs (i + 1) = smN mN fs[i] := by
  simp [nR, List.getD_eq_getElem?_getD, List.getElem?_eq_getElem hi]
/-- where the loops of cell j of row r + 1 are, and where those are that it uses -/
def pm (S : Nat) (fs : List (List api_Stitch)) (r j : Nat) : Nat := off S fs (r + 1) + smN mN ((fs.getD r []).take j)
def pu (S : Nat) (fs : List (List api_Stitch)) (r j : Nat) : Nat := off S fs r + smN uN ((fs.getD r []).take j)
/-- the loop x of a cell -/
def isL (l : Option api_Loop) (R K : Nat) (s : api_Stitch) (u x : Nat) : Prop := ∃ pl ps, (s.Kind ≠ 8 → pl = s.Purl) ∧ (pars s u)[x]? = some ps ∧ l = some ⟨(R : Int), (K : Int), ps, pl⟩
structure LInv (S : Nat) (fs : List (List api_Stitch)) (k j : Nat) (z : Wk) : Prop where
  len : z.L.length = pm S fs k j
  u : z.u = pu S fs k j
  zero : ∀ i, i < S → z.L[i]? = some ⟨0, (i : Int), [], false⟩
  old : ∀ (r t x : Nat) (h : r < fs.length) (ht : t < fs[r].length), r < k ∨ r = k ∧ t < j → x < mN (fs[r][t]) → isL z.L[pm S fs r t + x]? (r + 1) t (fs[r][t]) (pu S fs r t) x
theorem isL_left {l : List api_Loop} {m : List api_Loop} {i R K u x : Nat} {s : api_Stitch} (h : isL l[i]? R K s u x) : isL (l ++ m)[i]? R K s u x := by
  obtain ⟨pl, ps, h1, h2, h3⟩ := h
  refine ⟨pl, ps, h1, h2, ?_⟩
  rw [List.getElem?_append_left (List.getElem?_eq_some_iff.1 h3).1]; exact h3
theorem LInv.step {S : Nat} {fs : List (List api_Stitch)} {k j : Nat} {z : Wk} (hf : okF S fs) (hk : k < fs.length) (hj : j < fs[k].length) (h : LInv S fs k j z) : LInv S fs k (j + 1) (stepW (k + 1) j (fs[k][j]) z) := by
  have hg : fs.getD k [] = fs[k] := by simp [List.getD_eq_getElem?_getD, List.getElem?_eq_getElem hk]
  have hok : okS (fs[k][j]) := (hf.2 k hk).1 _ (List.getElem_mem _)
  have hlen := pars_len hok z.u
  refine ⟨?_, ?_, ?_, ?_⟩
  · simp only [stepW, List.length_append, mkL_len, hlen, h.len, pm, hg]
    rw [smN_take mN _ hj]; omega
  · simp only [stepW, h.u, pu, hg]
    rw [smN_take uN _ hj]; omega
  · intro i hi
    have := h.zero i hi
    simp only [stepW]
    rw [List.getElem?_append_left (List.getElem?_eq_some_iff.1 this).1]; exact this
  · intro r t x hr ht hlt hx
    by_cases e : r < k ∨ r = k ∧ t < j
    · exact isL_left (h.old r t x hr ht e hx)
    · obtain ⟨rfl, rfl⟩ : r = k ∧ t = j := by omega
      simp only [stepW]
      rw [← h.len, List.getElem?_append_right (by omega), Nat.add_sub_cancel_left, ← h.u]
      have hx' : x < (pars (fs[r][t]) z.u).length := by rw [hlen]; exact hx
      refine ⟨side z.L (fs[r][t]) z.u, (pars (fs[r][t]) z.u)[x], fun hn => by simp [side, hn], List.getElem?_eq_getElem hx', ?_⟩
      simp only [mkL, List.getElem?_map, List.getElem?_eq_getElem hx', Option.map_some]
theorem LInv.row {S : Nat} {fs : List (List api_Stitch)} {k : Nat} {z : Wk} (hf : okF S fs) (hk : k < fs.length) (h : LInv S fs k fs[k].length z) : LInv S fs (k + 1) 0 z := by
  have hg : fs.getD k [] = fs[k] := by simp [List.getD_eq_getElem?_getD, List.getElem?_eq_getElem hk]
  refine ⟨?_, ?_, h.zero, ?_⟩
  · have e := nR_succ (S := S) hk
    rw [h.len]; simp only [pm, hg, List.take_length, off, e, List.take_zero, smN]; omega
  · have e := (hf.2 k hk).2.2.2
    rw [h.u]; simp only [pu, hg, List.take_length, off, e, List.take_zero, smN]; omega
  · intro r t x hr ht hlt hx
    refine h.old r t x hr ht ?_ hx
    rcases hlt with h1 | ⟨_, h1⟩
    · by_cases e : r < k
      · exact .inl e
      · obtain rfl : r = k := by omega
        exact .inr ⟨rfl, ht⟩
    · omega
theorem LInv.start (S : Nat) (fs : List (List api_Stitch)) : LInv S fs 0 0 ⟨zeroL S, [], [], 0⟩ := by
  refine ⟨?_, ?_, ?_, ?_⟩
  · simp [zeroL, pm, off, smN, nR]
  · simp [pu, off, smN]
  · intro i hi; simp [zeroL, hi]
  · intro r t x hr ht hlt; omega
end Go.Proofs.Yticjoiolfibmlaa
namespace Go.Proofs.Yticjoiolfibmlaa
open Go.RowKit
set_option linter.unusedVariables false

noncomputable def F_slices_Clone___api_Stitch_api_Stitch_ (p0 : (List api_Stitch)) : Option (List api_Stitch) :=
  Option.bind (appO ([] : List api_Stitch) p0) fun l12 =>
  some l12
def c_slices_Clone___api_Stitch_api_Stitch__val (r : (List api_Stitch)) (x : Value) : Value := x
def c_slices_Clone___api_Stitch_api_Stitch__D (r : (List api_Stitch)) (x : Value) : List Fact := [fRep (rL r_api_Stitch) x r]
set_option maxHeartbeats 4000000 in
set_option maxRecDepth 100000 in
theorem c_slices_Clone___api_Stitch_api_Stitch_ (E : Nat → Prop) (w0 : World) (p0 : (List api_Stitch)) (v0 : Value) (r : (List api_Stitch)) (h : F_slices_Clone___api_Stitch_api_Stitch_ p0 = some r) (S : St0 E [] w0 w0 [] [fRep (rL r_api_Stitch) (v0) p0]) :
    Calls Try.prog 56 #[v0] w0 (Ret (X := Value) E [] w0 (c_slices_Clone___api_Stitch_api_Stitch__val r) (fun _ => []) (c_slices_Clone___api_Stitch_api_Stitch__D r)) := by
  unfold F_slices_Clone___api_Stitch_api_Stitch_ at h
  obtain ⟨ad1, cp2, _, rfl, _⟩ := S.know (i := 0) (e := fRep (rL r_api_Stitch) (v0) p0) rfl
  refine sEnter (args := [.slice ad1 p0.length cp2]) 8 Try.func56 rfl rfl (by simp) S (fun a S => ?_)
  refine sSeq (fun K3 hK3 => ?_)
  refine sRegion ?_
  refine sMove (.slice none 0 0) S (wN rfl) (.inr rfl) rfl rfl (lb rfl) fun a S => ?_
  refine leafL (leafT (hK3 _ _ ?_))
  refine sSeq (fun K4 hK4 => ?_)
  refine sSeq (fun K5 hK5 => ?_)
  refine sRegion ?_
  refine sMove (.slice ad1 p0.length cp2) S (wN rfl) (.inl rfl) rfl rfl (lb rfl) fun a S => ?_
  refine sBin (.bool ad1.isNone) S (wN rfl) rfl rfl rfl (bEqNil _ _ _ _ Try.underlying62 ad1 (p0.length) (cp2)) rfl (lb rfl) fun a S => ?_
  refine leafL (leafT (hK5 _ _ ?_))
  rcases nil_cases ad1 with hc6 | hc6
  · have hz7 := rL_isNil (S.mem.know (i := 0) (e := fRep (rL r_api_Stitch) (.slice ad1 p0.length cp2) p0) rfl) hc6
    rw [hz7] at h
    have h : some ([] : (List api_Stitch)) = some r := h
    refine sCondT S rfl hc6 ?_
    refine sSeq (fun K8 hK8 => ?_)
    refine sRegion ?_
    refine sMove (.slice none 0 0) S (wN rfl) (.inr rfl) rfl rfl (lb rfl) fun a S => ?_
    refine leafL (leafT (hK8 _ _ ?_))
    obtain rfl := Option.some.inj h
    have S := S.learn (fRep (rL r_api_Stitch) (.slice none 0 0) ([] : (List api_Stitch))) (rL_nil _ _ _)
    exact wp_ret (rThen (sRet (.slice none 0 0) S (rsl1 rfl (rvT (t := 2) (v := .slice none 0 0) S rfl)) ⟨(.slice none 0 0), rfl, S.mem.sel [] [0] (by decide) rfl rfl⟩))
  refine sCondF S rfl hc6 ?_
  refine wp_skip (leafT (hK4 _ _ ?_))
  refine sSeq (fun K9 hK9 => ?_)
  refine sRegion ?_
  refine sLit0 (α := api_Stitch) r_api_Stitch (T := 61) S (wN rfl) rfl Try.underlying62 rfl rfl (lb rfl) fun a w ad10 cp11 S => ?_
  refine sMove (.slice ad1 p0.length cp2) S (wN rfl) (.inl rfl) rfl rfl (lb rfl) fun a S => ?_
  obtain ⟨l12, hx13, h⟩ := bindSome h
  refine sApp (r := r_api_Stitch) (T := 61) (xs := ([] : List api_Stitch)) (ys := p0) (v := .slice ad10 ([] : List api_Stitch).length cp11) (u := .slice ad1 p0.length cp2) 0 (.agg #[.int .u8 0, .bool false, iv 0, iv 0]) 24 S (wN rfl) rfl Try.underlying62 rfl rfl (by decide) rfl rfl rfl (src_D 0 S.mem rfl) hx13 rfl (lb rfl) fun a w ad14 cp15 S => ?_
  refine sMove (.slice ad14 l12.length cp15) S (wN rfl) (.inr rfl) rfl rfl (lb rfl) fun a S => ?_
  refine leafL (leafT (hK9 _ _ ?_))
  obtain rfl := Option.some.inj h
  have S := S.shutR (r := r_api_Stitch) (T := 61) (v := .slice ad14 l12.length cp15) (xs := l12) 0 rfl
  exact wp_ret (sRet (.slice ad14 l12.length cp15) S (rsl1 rfl (rvT (t := 2) (v := .slice ad14 l12.length cp15) S rfl)) ⟨(.slice ad14 l12.length cp15), rfl, S.mem.sel [] [0] (by decide) rfl rfl⟩)

end Go.Proofs.Yticjoiolfibmlaa
namespace Go.Proofs.Yticjoiolfibmlaa
open Go.RowKit
set_option linter.unusedVariables false

noncomputable def F_chart_Face (p0 : api_Chart) (p1 : Int) : Option ((List api_Stitch) × Int) :=
  Option.bind (F_chart_Check p0) fun r9 =>
  if r9 != 0 then
    some (([] : (List api_Stitch)), r9)
  else
    Option.bind (α := Bool) (
      if decide (p1 < 0) then
        some true
      else
        some (decide ((p0.Rows.length : Int) ≤ p1))) fun o15 =>
    if o15 then
      some (([] : (List api_Stitch)), 2)
    else
      Option.bind (idxO p0.Rows p1) fun x23 =>
      if x23.Back then
        Option.bind (F_stitch_Turn x23.Cells) fun r39 =>
        some (r39.1, r39.2)
      else
        Option.bind (F_slices_Clone___api_Stitch_api_Stitch_ x23.Cells) fun r52 =>
        some (r52, 0)
def c_chart_Face_val (r : ((List api_Stitch) × Int)) (x : Value) : Value := .tuple #[x, .int .i64 r.2]
def c_chart_Face_D (r : ((List api_Stitch) × Int)) (x : Value) : List Fact := [fRep (rL r_api_Stitch) x r.1]
set_option maxHeartbeats 4000000 in
set_option maxRecDepth 100000 in
theorem c_chart_Face (E : Nat → Prop) (w0 : World) (p0 : api_Chart) (v0 : Value) (p1 : Int) (r : ((List api_Stitch) × Int)) (h : F_chart_Face p0 p1 = some r) (S : St0 E [] w0 w0 [] [fRep r_api_Chart (v0) p0]) :
    Calls Try.prog 43 #[v0, iv p1] w0 (Ret (X := Value) E [] w0 (c_chart_Face_val r) (fun _ => []) (c_chart_Face_D r)) := by
  unfold F_chart_Face at h
  obtain ⟨u1, rfl, hu2⟩ := S.know (i := 0) (e := fRep r_api_Chart (v0) p0) rfl
  have S := S.learn (fRep (rL r_api_Row) u1 p0.Rows) hu2
  obtain ⟨ad3, cp4, _, rfl, _⟩ := hu2
  refine sEnter (args := [.agg #[iv p0.Start, .slice ad3 p0.Rows.length cp4], iv p1]) 43 Try.func43 rfl rfl (by simp) S (fun a S => ?_)
  refine sSeq (fun K5 hK5 => ?_)
  refine sRegion ?_
  refine sBox (v := .agg #[iv p0.Start, .slice ad3 p0.Rows.length cp4]) S (wN rfl) rfl rfl [iv p0.Start, .slice ad3 p0.Rows.length cp4] rfl rfl (lb rfl) fun a b6 w S => ?_
  refine sMove (.slice none 0 0) S (wN rfl) (.inr rfl) rfl rfl (lb rfl) fun a S => ?_
  refine sMove (iv 0) S (wN rfl) (.inr rfl) rfl rfl (lb rfl) fun a S => ?_
  refine leafL (leafT (hK5 _ _ ?_))
  refine sSeq (fun K7 hK7 => ?_)
  refine sSeq (fun K8 hK8 => ?_)
  refine sRegion ?_
  refine sLoadN (p := b6) (off := 0) (T := 24) (vs := [iv p0.Start, .slice ad3 p0.Rows.length cp4]) 0 [iv p0.Start, .slice ad3 p0.Rows.length cp4] S (wN rfl) rfl rfl rfl rfl rfl rfl rfl (lb rfl) fun a S => ?_
  obtain ⟨r9, hx10, h⟩ := bindSome h
  have S1 := S.mem
  refine sCallQ (X := Unit) (f := 39) (vs := [.agg #[iv p0.Start, .slice ad3 p0.Rows.length cp4]]) (val := fun _ => iv r9) S (wN rfl) rfl callee39 rfl (S1.quiet [1] rfl) (fun E1 w1 S1 => c_chart_Check E1 w1 p0 (.agg #[iv p0.Start, .slice ad3 p0.Rows.length cp4]) r9 hx10 S1) rfl (lb rfl) fun _ a w S => ?_
  refine sMove (iv r9) S (wN rfl) (.inr rfl) rfl rfl (lb rfl) fun a S => ?_
  refine leafL (leafT (hK8 _ _ ?_))
  refine sSeq (fun K11 hK11 => ?_)
  refine sRegion ?_
  refine sMove (iv r9) S (wN rfl) (.inl rfl) rfl rfl (lb rfl) fun a S => ?_
  refine sBin (.bool (r9 != 0)) S (wN rfl) rfl rfl rfl (bNe _ _ _ _ .i64 r9 0) rfl (lb rfl) fun a S => ?_
  refine leafL (leafT (hK11 _ _ ?_))
  rcases iteSome h with ⟨hc12, h⟩ | ⟨hc12, h⟩
  · refine sCondT S rfl hc12 ?_
    refine sSeq (fun K13 hK13 => ?_)
    refine sRegion ?_
    refine sMove (iv r9) S (wN rfl) (.inl rfl) rfl rfl (lb rfl) fun a S => ?_
    refine sMove (.slice none 0 0) S (wN rfl) (.inr rfl) rfl rfl (lb rfl) fun a S => ?_
    refine sMove (iv r9) S (wN rfl) (.inr rfl) rfl rfl (lb rfl) fun a S => ?_
    refine leafL (leafT (hK13 _ _ ?_))
    obtain rfl := Option.some.inj h
    have S := S.learn (fRep (rL r_api_Stitch) (.slice none 0 0) ([] : (List api_Stitch))) (rL_nil _ _ _)
    exact wp_ret (rThen (sRet (.tuple #[.slice none 0 0, iv r9]) S (rsl2 rfl (rvT (t := 4) (v := .slice none 0 0) S rfl) (rvT (t := 5) (v := iv r9) S rfl)) ⟨(.slice none 0 0), rfl, S.mem.sel [] [0] (by decide) rfl rfl⟩))
  refine sCondF S rfl hc12 ?_
  refine wp_skip (leafT (hK7 _ _ ?_))
  refine sSeq (fun K14 hK14 => ?_)
  obtain ⟨t16, h, g17⟩ := bindSome h
  refine sCut (fun a w => ∃ o15, o15 = t16 ∧ St [] E [] w0 43 a w [(1, iv p1), (2, .pointer (some ⟨b6, 0, none⟩)), (20, .bool o15)] [eBox b6 24 [iv p0.Start, .slice ad3 p0.Rows.length cp4]] [fRep (rL r_api_Row) (.slice ad3 p0.Rows.length cp4) p0.Rows]) ?_ (fun a w hI => ?_)
  · refine sRegion ?_
    refine sMove (iv p1) S (wN rfl) (.inl rfl) rfl rfl (lb rfl) fun a S => ?_
    refine sBin (.bool (decide (p1 < 0))) S (wN rfl) rfl rfl rfl (bLt _ _ _ _ .i64 p1 0) rfl (lb rfl) fun a S => ?_
    refine sMove (.bool (decide (p1 < 0))) S (wN rfl) (.inl rfl) rfl rfl (lb rfl) fun a S => ?_
    rcases iteSome h with ⟨hc18, h⟩ | ⟨hc18, h⟩
    · refine sSkip 2 false 14 15 S rfl rfl rfl hc18 rfl (lb rfl) fun a S => ?_
      refine sSkip 2 false 14 16 S rfl rfl rfl hc18 rfl (lb rfl) fun a S => ?_
      refine sSkip 2 false 14 17 S rfl rfl rfl hc18 rfl (lb rfl) fun a S => ?_
      refine sSkip 2 false 14 18 S rfl rfl rfl hc18 rfl (lb rfl) fun a S => ?_
      refine sSkip 2 false 14 19 S rfl rfl rfl hc18 rfl (lb rfl) fun a S => ?_
      refine sPickT (.bool true) S (wN rfl) rfl rfl hc18 rfl rfl (lb rfl) fun a S => ?_
      exact leafL (leafT (⟨true, Option.some.inj h, S.fix [0] [0] (by decide) rfl rfl rfl⟩))
    refine sMove (iv p1) S (wG 2 false 14 rfl rfl rfl hc18) (.inl rfl) rfl rfl (lb rfl) fun a S => ?_
    refine sField (b := b6) (off := 0) 1 1 S (wG 2 false 14 rfl rfl rfl hc18) rfl rfl rfl rfl rfl (lb rfl) fun a S => ?_
    refine sLoad1 (p := b6) (off := 1) (T := 24) (vs := [iv p0.Start, .slice ad3 p0.Rows.length cp4]) 0 (.slice ad3 p0.Rows.length cp4) S (wG 2 false 14 rfl rfl rfl hc18) rfl rfl rfl rfl rfl rfl (lb rfl) fun a S => ?_
    refine sLen (ad := ad3) (m := p0.Rows.length) (c := cp4) S (wG 2 false 14 rfl rfl rfl hc18) rfl Try.underlying22 rfl rfl (lb rfl) fun a S => ?_
    refine sBin (.bool (decide ((p0.Rows.length : Int) ≤ p1))) S (wG 2 false 14 rfl rfl rfl hc18) rfl rfl rfl (bGe _ _ _ _ .i64 p1 (p0.Rows.length : Int)) rfl (lb rfl) fun a S => ?_
    refine sPickF (.bool (decide ((p0.Rows.length : Int) ≤ p1))) S (wN rfl) rfl rfl hc18 rfl rfl (lb rfl) fun a S => ?_
    exact leafL (leafT (⟨decide ((p0.Rows.length : Int) ≤ p1), Option.some.inj h, S.fix [0] [0] (by decide) rfl rfl rfl⟩))
  obtain ⟨o15, rfl, S⟩ := hI
  have h := g17
  clear g17
  try dsimp only at h
  rcases iteSome h with ⟨hc19, h⟩ | ⟨hc19, h⟩
  · refine sCondT S rfl hc19 ?_
    refine sSeq (fun K20 hK20 => ?_)
    refine sRegion ?_
    refine sMove (.slice none 0 0) S (wN rfl) (.inr rfl) rfl rfl (lb rfl) fun a S => ?_
    refine sMove (iv 2) S (wN rfl) (.inr rfl) rfl rfl (lb rfl) fun a S => ?_
    refine leafL (leafT (hK20 _ _ ?_))
    obtain rfl := Option.some.inj h
    have S := S.learn (fRep (rL r_api_Stitch) (.slice none 0 0) ([] : (List api_Stitch))) (rL_nil _ _ _)
    exact wp_ret (rThen (sRet (.tuple #[.slice none 0 0, iv 2]) S (rsl2 rfl (rvT (t := 4) (v := .slice none 0 0) S rfl) (rvT (t := 5) (v := iv 2) S rfl)) ⟨(.slice none 0 0), rfl, S.mem.sel [] [0] (by decide) rfl rfl⟩))
  refine sCondF S rfl hc19 ?_
  refine wp_skip (leafT (hK14 _ _ ?_))
  refine sSeq (fun K21 hK21 => ?_)
  refine sSeq (fun K22 hK22 => ?_)
  refine sRegion ?_
  refine sField (b := b6) (off := 0) 1 1 S (wN rfl) rfl rfl rfl rfl rfl (lb rfl) fun a S => ?_
  refine sLoad1 (p := b6) (off := 1) (T := 24) (vs := [iv p0.Start, .slice ad3 p0.Rows.length cp4]) 0 (.slice ad3 p0.Rows.length cp4) S (wN rfl) rfl rfl rfl rfl rfl rfl (lb rfl) fun a S => ?_
  refine sMove (iv p1) S (wN rfl) (.inl rfl) rfl rfl (lb rfl) fun a S => ?_
  obtain ⟨x23, hx24, h⟩ := bindSome h
  obtain ⟨q25, hq26, S⟩ := pIdx (P := Try.prog) (r := r_api_Row) (v := .slice ad3 p0.Rows.length cp4) (xs := p0.Rows) (j := p1) 22 65 0 S Try.underlying22 rfl rfl hx24
  refine sIdxV (v := .slice ad3 p0.Rows.length cp4) (k := .i64) (j := p1) S (wN rfl) rfl rfl rfl hq26 rfl (lb rfl) fun a S => ?_
  obtain ⟨q27, hq28, S⟩ := pFld (P := Try.prog) (r := r_api_Row) (s2 := rB) (g := (·.Back)) (q := q25) (z := x23) 65 0 0 0 S rfl rfl comp_api_Row_Back
  refine sFldV (q := q25) S (wN rfl) rfl rfl hq28 rfl (lb rfl) fun a S => ?_
  obtain ⟨u29, S⟩ := pLoad (r := rB) (q := q27) (x := x23.Back) 0 S rfl
  obtain rfl : u29 = .bool x23.Back := S.mem.know (i := 1) (e := fRep rB (u29) x23.Back) rfl
  refine sLoadV1 (vq := q27) 0 (.bool x23.Back) S (wN rfl) rfl rfl rfl rfl rfl (lb rfl) fun a S => ?_
  refine leafL (leafT (hK22 _ _ ?_))
  rcases iteSome h with ⟨hc30, h⟩ | ⟨hc30, h⟩
  rotate_left
  · refine sCondF S rfl hc30 ?_
    refine wp_skip (leafT (hK21 _ _ ?_))
    refine sSeq (fun K44 hK44 => ?_)
    refine sRegion ?_
    refine sField (b := b6) (off := 0) 1 1 S (wN rfl) rfl rfl rfl rfl rfl (lb rfl) fun a S => ?_
    refine sLoad1 (p := b6) (off := 1) (T := 24) (vs := [iv p0.Start, .slice ad3 p0.Rows.length cp4]) 0 (.slice ad3 p0.Rows.length cp4) S (wN rfl) rfl rfl rfl rfl rfl rfl (lb rfl) fun a S => ?_
    refine sMove (iv p1) S (wN rfl) (.inl rfl) rfl rfl (lb rfl) fun a S => ?_
    obtain ⟨q45, hq46, S⟩ := pIdx (P := Try.prog) (r := r_api_Row) (v := .slice ad3 p0.Rows.length cp4) (xs := p0.Rows) (j := p1) 22 65 4 S Try.underlying22 rfl rfl hx24
    refine sIdxV (v := .slice ad3 p0.Rows.length cp4) (k := .i64) (j := p1) S (wN rfl) rfl rfl rfl hq46 rfl (lb rfl) fun a S => ?_
    obtain ⟨q47, hq48, S⟩ := pFld (P := Try.prog) (r := r_api_Row) (s2 := (rL r_api_Stitch)) (g := (·.Cells)) (q := q45) (z := x23) 65 1 0 1 S rfl rfl comp_api_Row_Cells
    refine sFldV (q := q45) S (wN rfl) rfl rfl hq48 rfl (lb rfl) fun a S => ?_
    obtain ⟨u49, S⟩ := pLoad (r := (rL r_api_Stitch)) (q := q47) (x := x23.Cells) 0 S rfl
    obtain ⟨ad50, cp51, _, rfl, _⟩ := S.mem.know (i := 1) (e := fRep (rL r_api_Stitch) (u49) x23.Cells) rfl
    refine sLoadV1 (vq := q47) 0 (.slice ad50 x23.Cells.length cp51) S (wN rfl) rfl rfl rfl rfl rfl (lb rfl) fun a S => ?_
    obtain ⟨r52, hx53, h⟩ := bindSome h
    refine sCall (X := Value) (f := 56) (vs := [.slice ad50 x23.Cells.length cp51]) (val := c_slices_Clone___api_Stitch_api_Stitch__val r52) (B' := fun _ => []) (D' := c_slices_Clone___api_Stitch_api_Stitch__D r52) [] [eBox b6 24 [iv p0.Start, .slice ad3 p0.Rows.length cp4]] [fRep (rL r_api_Stitch) (.slice ad50 x23.Cells.length cp51) x23.Cells] [0] [1] S (wN rfl) rfl callee56 rfl (by decide) rfl rfl (fun E1 w1 S1 => c_slices_Clone___api_Stitch_api_Stitch_ E1 w1 x23.Cells (.slice ad50 x23.Cells.length cp51) r52 hx53 S1) rfl (lb rfl) fun u54 a w S => ?_
    obtain ⟨ad55, cp56, _, rfl, _⟩ := S.mem.know (i := 0) (e := fRep (rL r_api_Stitch) (u54) r52) rfl
    refine sMove (.slice ad55 r52.length cp56) S (wN rfl) (.inr rfl) rfl rfl (lb rfl) fun a S => ?_
    refine sMove (iv 0) S (wN rfl) (.inr rfl) rfl rfl (lb rfl) fun a S => ?_
    refine leafL (leafT (hK44 _ _ ?_))
    obtain rfl := Option.some.inj h
    exact wp_ret (sRet (.tuple #[.slice ad55 r52.length cp56, iv 0]) S (rsl2 rfl (rvT (t := 4) (v := .slice ad55 r52.length cp56) S rfl) (rvT (t := 5) (v := iv 0) S rfl)) ⟨(.slice ad55 r52.length cp56), rfl, S.mem.sel [] [0] (by decide) rfl rfl⟩)
  refine sCondT S rfl hc30 ?_
  refine sSeq (fun K31 hK31 => ?_)
  refine sRegion ?_
  refine sField (b := b6) (off := 0) 1 1 S (wN rfl) rfl rfl rfl rfl rfl (lb rfl) fun a S => ?_
  refine sLoad1 (p := b6) (off := 1) (T := 24) (vs := [iv p0.Start, .slice ad3 p0.Rows.length cp4]) 0 (.slice ad3 p0.Rows.length cp4) S (wN rfl) rfl rfl rfl rfl rfl rfl (lb rfl) fun a S => ?_
  refine sMove (iv p1) S (wN rfl) (.inl rfl) rfl rfl (lb rfl) fun a S => ?_
  obtain ⟨q32, hq33, S⟩ := pIdx (P := Try.prog) (r := r_api_Row) (v := .slice ad3 p0.Rows.length cp4) (xs := p0.Rows) (j := p1) 22 65 4 S Try.underlying22 rfl rfl hx24
  refine sIdxV (v := .slice ad3 p0.Rows.length cp4) (k := .i64) (j := p1) S (wN rfl) rfl rfl rfl hq33 rfl (lb rfl) fun a S => ?_
  obtain ⟨q34, hq35, S⟩ := pFld (P := Try.prog) (r := r_api_Row) (s2 := (rL r_api_Stitch)) (g := (·.Cells)) (q := q32) (z := x23) 65 1 0 1 S rfl rfl comp_api_Row_Cells
  refine sFldV (q := q32) S (wN rfl) rfl rfl hq35 rfl (lb rfl) fun a S => ?_
  obtain ⟨u36, S⟩ := pLoad (r := (rL r_api_Stitch)) (q := q34) (x := x23.Cells) 0 S rfl
  obtain ⟨ad37, cp38, _, rfl, _⟩ := S.mem.know (i := 1) (e := fRep (rL r_api_Stitch) (u36) x23.Cells) rfl
  refine sLoadV1 (vq := q34) 0 (.slice ad37 x23.Cells.length cp38) S (wN rfl) rfl rfl rfl rfl rfl (lb rfl) fun a S => ?_
  obtain ⟨r39, hx40, h⟩ := bindSome h
  refine sCall (X := Value) (f := 55) (vs := [.slice ad37 x23.Cells.length cp38]) (val := c_stitch_Turn_val r39) (B' := fun _ => []) (D' := c_stitch_Turn_D r39) [] [eBox b6 24 [iv p0.Start, .slice ad3 p0.Rows.length cp4]] [fRep (rL r_api_Stitch) (.slice ad37 x23.Cells.length cp38) x23.Cells] [0] [1] S (wN rfl) rfl callee55 rfl (by decide) rfl rfl (fun E1 w1 S1 => c_stitch_Turn E1 w1 x23.Cells (.slice ad37 x23.Cells.length cp38) r39 hx40 S1) rfl (lb rfl) fun u41 a w S => ?_
  obtain ⟨ad42, cp43, _, rfl, _⟩ := S.mem.know (i := 0) (e := fRep (rL r_api_Stitch) (u41) r39.1) rfl
  refine sExtract (vs := [.slice ad42 r39.1.length cp43, iv r39.2]) (.slice ad42 r39.1.length cp43) S (wN rfl) rfl rfl rfl rfl (lb rfl) fun a S => ?_
  refine sExtract (vs := [.slice ad42 r39.1.length cp43, iv r39.2]) (iv r39.2) S (wN rfl) rfl rfl rfl rfl (lb rfl) fun a S => ?_
  refine sMove (.slice ad42 r39.1.length cp43) S (wN rfl) (.inr rfl) rfl rfl (lb rfl) fun a S => ?_
  refine sMove (iv r39.2) S (wN rfl) (.inr rfl) rfl rfl (lb rfl) fun a S => ?_
  refine leafL (leafT (hK31 _ _ ?_))
  obtain rfl := Option.some.inj h
  exact wp_ret (rThen (sRet (.tuple #[.slice ad42 r39.1.length cp43, iv r39.2]) S (rsl2 rfl (rvT (t := 4) (v := .slice ad42 r39.1.length cp43) S rfl) (rvT (t := 5) (v := iv r39.2) S rfl)) ⟨(.slice ad42 r39.1.length cp43), rfl, S.mem.sel [] [0] (by decide) rfl rfl⟩))

end Go.Proofs.Yticjoiolfibmlaa
namespace Go.Proofs.Yticjoiolfibmlaa
open Go.RowKit
set_option linter.unusedVariables false

noncomputable def loops_piece_take_s3_l1 (m5 : List Int) (p0 : loops_piece) : (List Int × Int) → Option ((List Int × Int) ⊕ List Int) := fun s0 => match s0 with
  | (s19, s20) =>
    if decide (s20 < (m5.length : Int)) then
      Option.bind (idxO s19 s20) fun x46 =>
      Option.bind (setO s19 s20 (w64 (p0.next + s20))) fun l51 =>
      some (.inl (l51, w64 (s20 + 1)))
    else
      some (.inr s19)
noncomputable def F_loops_piece_take_s3 (p0 : loops_piece) (p1 : Int) : Option ((List Int) × loops_piece) :=
  Option.bind (makeO p1 (0 : Int)) fun m5 =>
  Option.bind (α := List Int) (
    Option.bind (whileO (loops_piece_take_s3_l1 m5 p0) (m5, 0)) fun e32 =>
      some e32) fun o7 =>
  some (o7, (loops_piece.mk p0.loops p0.rows p0.bound p0.cross (w64 (p0.next + p1))))
set_option maxHeartbeats 4000000 in
set_option maxRecDepth 100000 in
theorem c_loops_piece_take_s3 (E : Nat → Prop) (w0 : World) (p0 : loops_piece) (bb0 : Nat) (ad_0_0 : Option Addr) (cp_0_0 : Nat) (ad_0_1 : Option Addr) (cp_0_1 : Nat) (ad_0_2 : Option Addr) (cp_0_2 : Nat) (ad_0_3 : Option Addr) (cp_0_3 : Nat) (p1 : Int) (r : ((List Int) × loops_piece)) (h : F_loops_piece_take_s3 p0 p1 = some r) (S : St0 E (keysL [eBox bb0 73 [.slice ad_0_0 p0.loops.length cp_0_0, .slice ad_0_1 p0.rows.length cp_0_1, .slice ad_0_2 p0.bound.length cp_0_2, .slice ad_0_3 p0.cross.length cp_0_3, iv p0.next], eRow r_api_Loop 48 (.slice ad_0_0 p0.loops.length cp_0_0) p0.loops, eRow (rI .i64) 3 (.slice ad_0_1 p0.rows.length cp_0_1) p0.rows, eRow (rI .i64) 3 (.slice ad_0_2 p0.bound.length cp_0_2) p0.bound, eRow r_A2_Int 49 (.slice ad_0_3 p0.cross.length cp_0_3) p0.cross]) w0 w0 [eBox bb0 73 [.slice ad_0_0 p0.loops.length cp_0_0, .slice ad_0_1 p0.rows.length cp_0_1, .slice ad_0_2 p0.bound.length cp_0_2, .slice ad_0_3 p0.cross.length cp_0_3, iv p0.next], eRow r_api_Loop 48 (.slice ad_0_0 p0.loops.length cp_0_0) p0.loops, eRow (rI .i64) 3 (.slice ad_0_1 p0.rows.length cp_0_1) p0.rows, eRow (rI .i64) 3 (.slice ad_0_2 p0.bound.length cp_0_2) p0.bound, eRow r_A2_Int 49 (.slice ad_0_3 p0.cross.length cp_0_3) p0.cross] []) :
    Calls Try.prog 57 #[.pointer (some ⟨bb0, 0, none⟩), iv p1] w0 (Ret (X := Option Addr × Nat × Option Addr × Nat × Option Addr × Nat × Option Addr × Nat × Option Addr × Nat) E (keysL [eBox bb0 73 [.slice ad_0_0 p0.loops.length cp_0_0, .slice ad_0_1 p0.rows.length cp_0_1, .slice ad_0_2 p0.bound.length cp_0_2, .slice ad_0_3 p0.cross.length cp_0_3, iv p0.next], eRow r_api_Loop 48 (.slice ad_0_0 p0.loops.length cp_0_0) p0.loops, eRow (rI .i64) 3 (.slice ad_0_1 p0.rows.length cp_0_1) p0.rows, eRow (rI .i64) 3 (.slice ad_0_2 p0.bound.length cp_0_2) p0.bound, eRow r_A2_Int 49 (.slice ad_0_3 p0.cross.length cp_0_3) p0.cross]) w0 (fun x => .slice x.1 r.1.length x.2.1) (fun x => [eRow (rI .i64) 3 (.slice x.1 r.1.length x.2.1) r.1, eBox bb0 73 [.slice x.2.2.1 r.2.loops.length x.2.2.2.1, .slice x.2.2.2.2.1 r.2.rows.length x.2.2.2.2.2.1, .slice x.2.2.2.2.2.2.1 r.2.bound.length x.2.2.2.2.2.2.2.1, .slice x.2.2.2.2.2.2.2.2.1 r.2.cross.length x.2.2.2.2.2.2.2.2.2, iv r.2.next], eRow r_api_Loop 48 (.slice x.2.2.1 r.2.loops.length x.2.2.2.1) r.2.loops, eRow (rI .i64) 3 (.slice x.2.2.2.2.1 r.2.rows.length x.2.2.2.2.2.1) r.2.rows, eRow (rI .i64) 3 (.slice x.2.2.2.2.2.2.1 r.2.bound.length x.2.2.2.2.2.2.2.1) r.2.bound, eRow r_A2_Int 49 (.slice x.2.2.2.2.2.2.2.2.1 r.2.cross.length x.2.2.2.2.2.2.2.2.2) r.2.cross]) (fun _ => [])) := by
  unfold F_loops_piece_take_s3 at h
  refine sEnter (args := [.pointer (some ⟨bb0, 0, none⟩), iv p1]) 33 Try.func57 rfl rfl (by simp) S (fun a S => ?_)
  refine sSeq (fun K1 hK1 => ?_)
  refine sRegion ?_
  refine sMove (.slice none 0 0) S (wN rfl) (.inr rfl) rfl rfl (lb rfl) fun a S => ?_
  refine leafL (leafT (hK1 _ _ ?_))
  refine sSeq (fun K2 hK2 => ?_)
  refine sRegion ?_
  refine sMove (iv p1) S (wN rfl) (.inl rfl) rfl rfl (lb rfl) fun a S => ?_
  obtain ⟨m5, hx6, h⟩ := bindSome h
  refine sMake (r := (rI .i64)) (m := p1) (xs := m5) (iv 0) (0 : Int) 8 S (wN rfl) rfl Try.underlying32 rfl rfl (by decide) (fun _ _ => rfl) rfl rfl hx6 rfl (lb rfl) fun a w ad3 cp4 S => ?_
  refine sMove (.slice ad3 m5.length cp4) S (wN rfl) (.inr rfl) rfl rfl (lb rfl) fun a S => ?_
  refine leafL (leafT (hK2 _ _ ?_))
  obtain ⟨t16, h, g17⟩ := bindSome h
  refine sCut (fun a w => ∃ o7, o7 = t16 ∧ ∃ ad8, ∃ cp9, ∃ ad10, ∃ cp11, ∃ ad12, ∃ cp13, ∃ ad14, ∃ cp15, St [] E (keysL [eBox bb0 73 [.slice ad_0_0 p0.loops.length cp_0_0, .slice ad_0_1 p0.rows.length cp_0_1, .slice ad_0_2 p0.bound.length cp_0_2, .slice ad_0_3 p0.cross.length cp_0_3, iv p0.next], eRow r_api_Loop 48 (.slice ad_0_0 p0.loops.length cp_0_0) p0.loops, eRow (rI .i64) 3 (.slice ad_0_1 p0.rows.length cp_0_1) p0.rows, eRow (rI .i64) 3 (.slice ad_0_2 p0.bound.length cp_0_2) p0.bound, eRow r_A2_Int 49 (.slice ad_0_3 p0.cross.length cp_0_3) p0.cross]) w0 33 a w [(0, .pointer (some ⟨bb0, 0, none⟩)), (1, iv p1), (5, .slice ad3 o7.length cp4)] [eBox bb0 73 [.slice ad8 p0.loops.length cp9, .slice ad10 p0.rows.length cp11, .slice ad12 p0.bound.length cp13, .slice ad14 p0.cross.length cp15, iv p0.next], eRow (rI .i64) 3 (.slice ad3 o7.length cp4) o7, eRow r_api_Loop 48 (.slice ad8 p0.loops.length cp9) p0.loops, eRow (rI .i64) 3 (.slice ad10 p0.rows.length cp11) p0.rows, eRow (rI .i64) 3 (.slice ad12 p0.bound.length cp13) p0.bound, eRow r_A2_Int 49 (.slice ad14 p0.cross.length cp15) p0.cross] []) ?_ (fun a w hI => ?_)
  rotate_left
  · obtain ⟨o7, rfl, ad8, cp9, ad10, cp11, ad12, cp13, ad14, cp15, S⟩ := hI
    have h := g17
    clear g17
    try dsimp only at h
    refine sSeq (fun K53 hK53 => ?_)
    refine sRegion ?_
    refine sMove (.pointer (some ⟨bb0, 0, none⟩)) S (wN rfl) (.inl rfl) rfl rfl (lb rfl) fun a S => ?_
    refine nilCheck_ok (q := ⟨bb0, 0, none⟩) S (wN rfl) rfl rfl rfl (lb rfl) fun a S => ?_
    refine sField (b := bb0) (off := 0) 4 4 S (wN rfl) rfl rfl rfl rfl rfl (lb rfl) fun a S => ?_
    refine sLoad1 (p := bb0) (off := 4) (T := 73) (vs := [.slice ad8 p0.loops.length cp9, .slice ad10 p0.rows.length cp11, .slice ad12 p0.bound.length cp13, .slice ad14 p0.cross.length cp15, iv p0.next]) 0 (iv p0.next) S (wN rfl) rfl rfl rfl rfl rfl rfl (lb rfl) fun a S => ?_
    refine sMove (iv p1) S (wN rfl) (.inl rfl) rfl rfl (lb rfl) fun a S => ?_
    refine sBin (iv (w64 (p0.next + p1))) S (wN rfl) rfl rfl rfl (bAdd _ _ _ _ p0.next p1) rfl (lb rfl) fun a S => ?_
    refine nilCheck_ok (q := ⟨bb0, 0, none⟩) S (wN rfl) rfl rfl rfl (lb rfl) fun a S => ?_
    refine sField (b := bb0) (off := 0) 4 4 S (wN rfl) rfl rfl rfl rfl rfl (lb rfl) fun a S => ?_
    refine sStore (p := bb0) (off := 4) (T := 73) (vs := [.slice ad8 p0.loops.length cp9, .slice ad10 p0.rows.length cp11, .slice ad12 p0.bound.length cp13, .slice ad14 p0.cross.length cp15, iv p0.next]) (v := iv (w64 (p0.next + p1))) 0 [iv (w64 (p0.next + p1))] S (wN rfl) rfl rfl rfl rfl rfl rfl rfl (by simp) rfl fun a w S => ?_
    refine leafL (leafT (hK53 _ _ ?_))
    refine sSeq (fun K54 hK54 => ?_)
    refine sRegion ?_
    refine sMove (.slice ad3 o7.length cp4) S (wN rfl) (.inl rfl) rfl rfl (lb rfl) fun a S => ?_
    refine sMove (.slice ad3 o7.length cp4) S (wN rfl) (.inr rfl) rfl rfl (lb rfl) fun a S => ?_
    refine leafL (leafT (hK54 _ _ ?_))
    obtain rfl := Option.some.inj h
    exact wp_ret (sRet (.slice ad3 o7.length cp4) S (rsl1 rfl (rvT (t := 4) (v := .slice ad3 o7.length cp4) S rfl)) ⟨(ad3, cp4, ad8, cp9, ad10, cp11, ad12, cp13, ad14, cp15), rfl, S.mem.sel [1, 0, 2, 3, 4, 5] [] (by decide) rfl rfl⟩)
  refine sSeq (fun K18 hK18 => ?_)
  refine sRegion ?_
  refine sMove (.slice ad3 m5.length cp4) S (wN rfl) (.inl rfl) rfl rfl (lb rfl) fun a S => ?_
  refine sLen (ad := ad3) (m := m5.length) (c := cp4) S (wN rfl) rfl Try.underlying32 rfl rfl (lb rfl) fun a S => ?_
  refine sMove (iv 0) S (wN rfl) (.inl rfl) rfl rfl (lb rfl) fun a S => ?_
  refine leafL (leafT (hK18 _ _ ?_))
  refine wp_block ?_
  obtain ⟨t31, hl, g30⟩ := bindSome h
  refine sLoop hl (fun s0 a w => match s0 with | (s19, s20) => ∃ ad21, ∃ cp22, ∃ ad23, ∃ cp24, ∃ ad25, ∃ cp26, ∃ ad27, ∃ cp28, St [] E (keysL [eBox bb0 73 [.slice ad_0_0 p0.loops.length cp_0_0, .slice ad_0_1 p0.rows.length cp_0_1, .slice ad_0_2 p0.bound.length cp_0_2, .slice ad_0_3 p0.cross.length cp_0_3, iv p0.next], eRow r_api_Loop 48 (.slice ad_0_0 p0.loops.length cp_0_0) p0.loops, eRow (rI .i64) 3 (.slice ad_0_1 p0.rows.length cp_0_1) p0.rows, eRow (rI .i64) 3 (.slice ad_0_2 p0.bound.length cp_0_2) p0.bound, eRow r_A2_Int 49 (.slice ad_0_3 p0.cross.length cp_0_3) p0.cross]) w0 33 a w [(0, .pointer (some ⟨bb0, 0, none⟩)), (1, iv p1), (5, .slice ad3 s19.length cp4), (10, iv (m5.length : Int)), (11, iv s20)] [eBox bb0 73 [.slice ad21 p0.loops.length cp22, .slice ad23 p0.rows.length cp24, .slice ad25 p0.bound.length cp26, .slice ad27 p0.cross.length cp28, iv p0.next], eRow (rI .i64) 3 (.slice ad3 s19.length cp4) s19, eRow r_api_Loop 48 (.slice ad21 p0.loops.length cp22) p0.loops, eRow (rI .i64) 3 (.slice ad23 p0.rows.length cp24) p0.rows, eRow (rI .i64) 3 (.slice ad25 p0.bound.length cp26) p0.bound, eRow r_A2_Int 49 (.slice ad27 p0.cross.length cp28) p0.cross] []) ⟨ad_0_0, cp_0_0, ad_0_1, cp_0_1, ad_0_2, cp_0_2, ad_0_3, cp_0_3, S.fix [1, 0, 2, 3, 4, 5] [] (by decide) rfl rfl rfl⟩ ?_
  clear hl h
  intro s0 a w c0 hI h hu29
  obtain ⟨s19, s20⟩ := s0
  unfold loops_piece_take_s3_l1 at h
  dsimp only at h hI
  obtain ⟨ad21, cp22, ad23, cp24, ad25, cp26, ad27, cp28, S⟩ := hI
  refine sSeq (fun K41 hK41 => ?_)
  refine sRegion ?_
  refine sBin (.bool (decide (s20 < (m5.length : Int)))) S (wN rfl) rfl rfl rfl (bLt _ _ _ _ .i64 s20 (m5.length : Int)) rfl (lb rfl) fun a S => ?_
  refine leafL (leafT (hK41 _ _ ?_))
  refine sSeq (fun K42 hK42 => ?_)
  rcases iteSome h with ⟨hc43, h⟩ | ⟨hc43, h⟩
  rotate_left
  · refine sCondF S rfl hc43 ?_
    obtain rfl := Option.some.inj h
    obtain rfl := hu29 _ rfl
    have h := g30
    clear g30
    try dsimp only at h
    exact wp_exit (xThen (xThen (xHit (leafT (⟨s19, Option.some.inj h, ad21, cp22, ad23, cp24, ad25, cp26, ad27, cp28, S.fix [0, 1, 2, 3, 4, 5] [] (by decide) rfl rfl rfl⟩)))))
  refine sCondT S rfl hc43 ?_
  refine wp_skip (leafT (hK42 _ _ ?_))
  refine sSeq (fun K44 hK44 => ?_)
  refine wp_block ?_
  refine sSeq (fun K45 hK45 => ?_)
  refine sRegion ?_
  refine sMove (iv s20) S (wN rfl) (.inl rfl) rfl rfl (lb rfl) fun a S => ?_
  refine sMove (iv s20) S (wN rfl) (.inr rfl) rfl rfl (lb rfl) fun a S => ?_
  refine leafL (leafT (hK45 _ _ ?_))
  refine sRegion ?_
  refine sMove (.slice ad3 s19.length cp4) S (wN rfl) (.inl rfl) rfl rfl (lb rfl) fun a S => ?_
  refine sMove (iv s20) S (wN rfl) (.inl rfl) rfl rfl (lb rfl) fun a S => ?_
  refine sMove (.pointer (some ⟨bb0, 0, none⟩)) S (wN rfl) (.inl rfl) rfl rfl (lb rfl) fun a S => ?_
  refine nilCheck_ok (q := ⟨bb0, 0, none⟩) S (wN rfl) rfl rfl rfl (lb rfl) fun a S => ?_
  refine sField (b := bb0) (off := 0) 4 4 S (wN rfl) rfl rfl rfl rfl rfl (lb rfl) fun a S => ?_
  refine sLoad1 (p := bb0) (off := 4) (T := 73) (vs := [.slice ad21 p0.loops.length cp22, .slice ad23 p0.rows.length cp24, .slice ad25 p0.bound.length cp26, .slice ad27 p0.cross.length cp28, iv p0.next]) 0 (iv p0.next) S (wN rfl) rfl rfl rfl rfl rfl rfl (lb rfl) fun a S => ?_
  refine sMove (iv s20) S (wN rfl) (.inl rfl) rfl rfl (lb rfl) fun a S => ?_
  refine sBin (iv (w64 (p0.next + s20))) S (wN rfl) rfl rfl rfl (bAdd _ _ _ _ p0.next s20) rfl (lb rfl) fun a S => ?_
  obtain ⟨x46, hx47, h⟩ := bindSome h
  obtain ⟨q48, hq49, hp50⟩ := pIdxR (P := Try.prog) (r := (rI .i64)) (T := 3) (v := .slice ad3 s19.length cp4) (xs := s19) (j := s20) 32 3 1 S Try.underlying32 rfl rfl hx47
  refine sIdxV (v := .slice ad3 s19.length cp4) (k := .i64) (j := s20) S (wN rfl) rfl rfl rfl hq49 rfl (lb rfl) fun a S => ?_
  obtain ⟨l51, hx52, h⟩ := bindSome h
  refine sStoreR (r := (rI .i64)) (T := 3) (xs := s19) (ys := l51) (y := (w64 (p0.next + s20))) (v := .slice ad3 s19.length cp4) (vq := q48) (u := iv (w64 (p0.next + s20))) (j := s20) 1 S hp50 (wN rfl) rfl rfl rfl rfl rfl hx52 rfl rfl fun a w S => ?_
  rw [setO_v hx52 ad3 cp4] at S
  refine leafL (leafB (leafT (hK44 _ _ ?_)))
  refine sRegion ?_
  refine sBin (iv (w64 (s20 + 1))) S (wN rfl) rfl rfl rfl (bAdd _ _ _ _ s20 1) rfl (lb rfl) fun a S => ?_
  refine sMove (iv (w64 (s20 + 1))) S (wN rfl) (.inl rfl) rfl rfl (lb rfl) fun a S => ?_
  exact leafL (leafT (⟨(l51, w64 (s20 + 1)), (Option.some.inj h).symm, ⟨ad21, cp22, ad23, cp24, ad25, cp26, ad27, cp28, S.fix [1, 0, 2, 3, 4, 5] [] (by decide) rfl rfl rfl⟩⟩))

end Go.Proofs.Yticjoiolfibmlaa
namespace Go.Proofs.Yticjoiolfibmlaa
open Go.RowKit
set_option linter.unusedVariables false

def anc_loops_piece_add_s1_0 : List (List Nat) := [[], [], [1], [1, 2], [1, 2, 3], [], [5], [1, 2, 3, 4, 5, 6], [0, 1, 2, 3, 4, 5, 6, 7], [0, 1, 2, 3, 4, 5, 6, 7, 8], [0, 1, 2, 3, 4, 5, 6, 7, 8, 9]]
noncomputable def loops_piece_add_s1_l1 (p2 : (List (List Int))) (p1 : api_Loop) : (Int × List api_Loop × List Int) → Option ((Int × List api_Loop × List Int) ⊕ List api_Loop) := fun s0 => match s0 with
  | (s10, s11, s20) =>
    if decide (s10 < (p2.length : Int)) then
      Option.bind (idxO p2 s10) fun x40 =>
      Option.bind (appO s11 [(api_Loop.mk p1.Row p1.Cell x40 p1.Purl)]) fun l50 =>
      some (.inl (w64 (s10 + 1), l50, x40))
    else
      some (.inr s11)
noncomputable def F_loops_piece_add_s1 (p0 : loops_piece) (p1 : api_Loop) (p2 : (List (List Int))) : Option loops_piece :=
  Option.bind (whileO (loops_piece_add_s1_l1 p2 p1) (0, p0.loops, p1.Parents)) fun e26 =>
    some (loops_piece.mk e26 p0.rows p0.bound p0.cross p0.next)
set_option maxHeartbeats 4000000 in
set_option maxRecDepth 100000 in
theorem c_loops_piece_add_s1 (E : Nat → Prop) (w0 : World) (p0 : loops_piece) (bb0 : Nat) (ad_0_0 : Option Addr) (cp_0_0 : Nat) (ad_0_1 : Option Addr) (cp_0_1 : Nat) (ad_0_2 : Option Addr) (cp_0_2 : Nat) (ad_0_3 : Option Addr) (cp_0_3 : Nat) (p1 : api_Loop) (v1 : Value) (p2 : (List (List Int))) (v2 : Value) (r : loops_piece) (h : F_loops_piece_add_s1 p0 p1 p2 = some r) (S : St0 E (keysL [eBox bb0 73 [.slice ad_0_0 p0.loops.length cp_0_0, .slice ad_0_1 p0.rows.length cp_0_1, .slice ad_0_2 p0.bound.length cp_0_2, .slice ad_0_3 p0.cross.length cp_0_3, iv p0.next], eRow r_api_Loop 48 (.slice ad_0_0 p0.loops.length cp_0_0) p0.loops, eRow (rI .i64) 3 (.slice ad_0_1 p0.rows.length cp_0_1) p0.rows, eRow (rI .i64) 3 (.slice ad_0_2 p0.bound.length cp_0_2) p0.bound, eRow r_A2_Int 49 (.slice ad_0_3 p0.cross.length cp_0_3) p0.cross]) w0 w0 [eBox bb0 73 [.slice ad_0_0 p0.loops.length cp_0_0, .slice ad_0_1 p0.rows.length cp_0_1, .slice ad_0_2 p0.bound.length cp_0_2, .slice ad_0_3 p0.cross.length cp_0_3, iv p0.next], eRow r_api_Loop 48 (.slice ad_0_0 p0.loops.length cp_0_0) p0.loops, eRow (rI .i64) 3 (.slice ad_0_1 p0.rows.length cp_0_1) p0.rows, eRow (rI .i64) 3 (.slice ad_0_2 p0.bound.length cp_0_2) p0.bound, eRow r_A2_Int 49 (.slice ad_0_3 p0.cross.length cp_0_3) p0.cross] [fRep r_api_Loop (v1) p1, fRep (rL (rL (rI .i64))) (v2) p2]) :
    Calls Try.prog 58 #[.pointer (some ⟨bb0, 0, none⟩), v1, v2] w0 (Ret (X := Option Addr × Nat × Option Addr × Nat × Option Addr × Nat × Option Addr × Nat) E (keysL [eBox bb0 73 [.slice ad_0_0 p0.loops.length cp_0_0, .slice ad_0_1 p0.rows.length cp_0_1, .slice ad_0_2 p0.bound.length cp_0_2, .slice ad_0_3 p0.cross.length cp_0_3, iv p0.next], eRow r_api_Loop 48 (.slice ad_0_0 p0.loops.length cp_0_0) p0.loops, eRow (rI .i64) 3 (.slice ad_0_1 p0.rows.length cp_0_1) p0.rows, eRow (rI .i64) 3 (.slice ad_0_2 p0.bound.length cp_0_2) p0.bound, eRow r_A2_Int 49 (.slice ad_0_3 p0.cross.length cp_0_3) p0.cross]) w0 (fun _ => .tuple #[]) (fun x => [eBox bb0 73 [.slice x.1 r.loops.length x.2.1, .slice x.2.2.1 r.rows.length x.2.2.2.1, .slice x.2.2.2.2.1 r.bound.length x.2.2.2.2.2.1, .slice x.2.2.2.2.2.2.1 r.cross.length x.2.2.2.2.2.2.2, iv r.next], eRow r_api_Loop 48 (.slice x.1 r.loops.length x.2.1) r.loops, eRow (rI .i64) 3 (.slice x.2.2.1 r.rows.length x.2.2.2.1) r.rows, eRow (rI .i64) 3 (.slice x.2.2.2.2.1 r.bound.length x.2.2.2.2.2.1) r.bound, eRow r_A2_Int 49 (.slice x.2.2.2.2.2.2.1 r.cross.length x.2.2.2.2.2.2.2) r.cross]) (fun _ => [])) := by
  unfold F_loops_piece_add_s1 at h
  obtain ⟨u1, rfl, hu2⟩ := S.know (i := 0) (e := fRep r_api_Loop (v1) p1) rfl
  have S := S.learn (fRep (rL (rI .i64)) u1 p1.Parents) hu2
  obtain ⟨ad3, cp4, _, rfl, _⟩ := hu2
  obtain ⟨ad5, cp6, _, rfl, _⟩ := S.know (i := 2) (e := fRep (rL (rL (rI .i64))) (v2) p2) rfl
  refine sEnter (args := [.pointer (some ⟨bb0, 0, none⟩), .agg #[iv p1.Row, iv p1.Cell, .slice ad3 p1.Parents.length cp4, .bool p1.Purl], .slice ad5 p2.length cp6]) 27 Try.func58 rfl rfl (by simp) S (fun a S => ?_)
  refine sSeq (fun K7 hK7 => ?_)
  refine sRegion ?_
  refine sBox (v := .agg #[iv p1.Row, iv p1.Cell, .slice ad3 p1.Parents.length cp4, .bool p1.Purl]) S (wN rfl) rfl rfl [iv p1.Row, iv p1.Cell, .slice ad3 p1.Parents.length cp4, .bool p1.Purl] rfl rfl (lb rfl) fun a b8 w S => ?_
  refine leafL (leafT (hK7 _ _ ?_))
  refine sSeq (fun K9 hK9 => ?_)
  refine sRegion ?_
  refine sMove (.slice ad5 p2.length cp6) S (wN rfl) (.inl rfl) rfl rfl (lb rfl) fun a S => ?_
  refine sLen (ad := ad5) (m := p2.length) (c := cp6) S (wN rfl) rfl Try.underlying69 rfl rfl (lb rfl) fun a S => ?_
  refine sMove (iv 0) S (wN rfl) (.inl rfl) rfl rfl (lb rfl) fun a S => ?_
  refine leafL (leafT (hK9 _ _ ?_))
  refine wp_block ?_
  obtain ⟨t25, hl, g24⟩ := bindSome h
  refine sLoop hl (fun s0 a w => match s0 with | (s10, s11, s20) => ∃ ad12, ∃ cp13, ∃ ad14, ∃ cp15, ∃ ad16, ∃ cp17, ∃ ad18, ∃ cp19, ∃ ad21, ∃ cp22, St [] E (keysL [eBox bb0 73 [.slice ad_0_0 p0.loops.length cp_0_0, .slice ad_0_1 p0.rows.length cp_0_1, .slice ad_0_2 p0.bound.length cp_0_2, .slice ad_0_3 p0.cross.length cp_0_3, iv p0.next], eRow r_api_Loop 48 (.slice ad_0_0 p0.loops.length cp_0_0) p0.loops, eRow (rI .i64) 3 (.slice ad_0_1 p0.rows.length cp_0_1) p0.rows, eRow (rI .i64) 3 (.slice ad_0_2 p0.bound.length cp_0_2) p0.bound, eRow r_A2_Int 49 (.slice ad_0_3 p0.cross.length cp_0_3) p0.cross]) w0 27 a w [(0, .pointer (some ⟨bb0, 0, none⟩)), (4, .pointer (some ⟨b8, 0, none⟩)), (8, .slice ad5 p2.length cp6), (9, iv (p2.length : Int)), (10, iv s10)] [eBox bb0 73 [.slice ad12 s11.length cp13, .slice ad14 p0.rows.length cp15, .slice ad16 p0.bound.length cp17, .slice ad18 p0.cross.length cp19, iv p0.next], eBox b8 48 [iv p1.Row, iv p1.Cell, .slice ad21 s20.length cp22, .bool p1.Purl], eRow r_api_Loop 48 (.slice ad12 s11.length cp13) s11, eRow (rI .i64) 3 (.slice ad14 p0.rows.length cp15) p0.rows, eRow (rI .i64) 3 (.slice ad16 p0.bound.length cp17) p0.bound, eRow r_A2_Int 49 (.slice ad18 p0.cross.length cp19) p0.cross] [fRep (rL (rL (rI .i64))) (.slice ad5 p2.length cp6) p2, fRep (rL (rI .i64)) (.slice ad21 s20.length cp22) s20]) ⟨ad_0_0, cp_0_0, ad_0_1, cp_0_1, ad_0_2, cp_0_2, ad_0_3, cp_0_3, ad3, cp4, S.fix [1, 0, 2, 3, 4, 5] [2, 0] (by decide) rfl rfl rfl⟩ ?_
  clear hl h
  intro s0 a w c0 hI h hu23
  obtain ⟨s10, s11, s20⟩ := s0
  unfold loops_piece_add_s1_l1 at h
  dsimp only at h hI
  obtain ⟨ad12, cp13, ad14, cp15, ad16, cp17, ad18, cp19, ad21, cp22, S⟩ := hI
  refine sSeq (fun K35 hK35 => ?_)
  refine sRegion ?_
  refine sBin (.bool (decide (s10 < (p2.length : Int)))) S (wN rfl) rfl rfl rfl (bLt _ _ _ _ .i64 s10 (p2.length : Int)) rfl (lb rfl) fun a S => ?_
  refine leafL (leafT (hK35 _ _ ?_))
  refine sSeq (fun K36 hK36 => ?_)
  rcases iteSome h with ⟨hc37, h⟩ | ⟨hc37, h⟩
  rotate_left
  · refine sCondF S rfl hc37 ?_
    obtain rfl := Option.some.inj h
    obtain rfl := hu23 _ rfl
    have h := g24
    clear g24
    try dsimp only at h
    obtain rfl := Option.some.inj h
    exact wp_exit (xThen (xThen (xHit (sEnd (.tuple #[]) S (rsl0 rfl ) ⟨(ad12, cp13, ad14, cp15, ad16, cp17, ad18, cp19), rfl, S.mem.sel [0, 2, 3, 4, 5] [] (by decide) rfl rfl⟩))))
  refine sCondT S rfl hc37 ?_
  refine wp_skip (leafT (hK36 _ _ ?_))
  refine sSeq (fun K38 hK38 => ?_)
  refine wp_block ?_
  refine sSeq (fun K39 hK39 => ?_)
  refine sRegion ?_
  obtain ⟨x40, hx41, h⟩ := bindSome h
  obtain ⟨q42, hq43, S⟩ := pIdx (P := Try.prog) (r := (rL (rI .i64))) (v := .slice ad5 p2.length cp6) (xs := p2) (j := s10) 69 32 0 S Try.underlying69 rfl rfl hx41
  refine sIdxV (v := .slice ad5 p2.length cp6) (k := .i64) (j := s10) S (wN rfl) rfl rfl rfl hq43 rfl (lb rfl) fun a S => ?_
  obtain ⟨u44, S⟩ := pLoad (r := (rL (rI .i64))) (q := q42) (x := x40) 0 S rfl
  obtain ⟨ad45, cp46, _, rfl, _⟩ := S.mem.know (i := 1) (e := fRep (rL (rI .i64)) (u44) x40) rfl
  refine sLoadV1 (vq := q42) 0 (.slice ad45 x40.length cp46) S (wN rfl) rfl rfl rfl rfl rfl (lb rfl) fun a S => ?_
  refine sMove (.slice ad45 x40.length cp46) S (wN rfl) (.inr rfl) rfl rfl (lb rfl) fun a S => ?_
  refine leafL (leafT (hK39 _ _ ?_))
  refine sSeq (fun K47 hK47 => ?_)
  refine sRegion ?_
  refine sMove (.slice ad45 x40.length cp46) S (wN rfl) (.inl rfl) rfl rfl (lb rfl) fun a S => ?_
  refine sField (b := b8) (off := 0) 2 2 S (wN rfl) rfl rfl rfl rfl rfl (lb rfl) fun a S => ?_
  refine sStore (p := b8) (off := 2) (T := 48) (vs := [iv p1.Row, iv p1.Cell, .slice ad21 s20.length cp22, .bool p1.Purl]) (v := .slice ad45 x40.length cp46) 1 [.slice ad45 x40.length cp46] S (wN rfl) rfl rfl rfl rfl rfl rfl rfl (by simp) rfl fun a w S => ?_
  refine leafL (leafT (hK47 _ _ ?_))
  obtain ⟨l50, hx51, h⟩ := bindSome h
  refine sDraw (nf := [6, 7, 10]) (W := [(0, 16, .pointer (some ⟨bb0, 0, none⟩)), (1, 17, .pointer (some ⟨bb0, 0, none⟩)), (2, 18, .pointer (some ⟨bb0, 0, none⟩)), (3, 19, .pointer (some ⟨bb0, 0, none⟩)), (4, 20, .slice ad12 s11.length cp13), (5, 21, .agg #[iv p1.Row, iv p1.Cell, .slice ad45 x40.length cp46, .bool p1.Purl])]) rfl S ?_
  refine node_by (A := anc_loops_piece_add_s1_0) (nf := [6, 7, 10]) (Y := []) (W := [(0, 16, .pointer (some ⟨bb0, 0, none⟩)), (1, 17, .pointer (some ⟨bb0, 0, none⟩)), (2, 18, .pointer (some ⟨bb0, 0, none⟩)), (3, 19, .pointer (some ⟨bb0, 0, none⟩)), (4, 20, .slice ad12 s11.length cp13), (5, 21, .agg #[iv p1.Row, iv p1.Cell, .slice ad45 x40.length cp46, .bool p1.Purl])]) 11 (by kernel_rfl) (by kernel_rfl) (by kernel_rfl) (by kernel_rfl) (by kernel_rfl) [0, 1, 2, 3, 4, 5] (by kernel_rfl) (by decide) (by decide) (aF 0 10 (by decide) ?_ (aF 1 9 (by decide) ?_ (aF 2 8 (by decide) ?_ (aF 3 7 (by decide) ?_ (aF 4 6 (by decide) ?_ (aF 5 5 (by decide) ?_ (aN 6 4 (by decide) ?_ (aB 7 3 6 (by decide) (aE 8 2 6 (by decide) (aE 9 1 6 (by decide) (aB 10 0 6 (by decide) (trivial)))))))))))) [] (fun q hq => by cases hq) (fun hY => absurd (hY 6 (by decide)) (by decide))
  · refine fI 16 (.pointer (some ⟨bb0, 0, none⟩)) [(0, .pointer (some ⟨bb0, 0, none⟩))] 0 [none] rfl rfl rfl rfl rfl rfl fun G a w S => ?_
    refine sMove (.pointer (some ⟨bb0, 0, none⟩)) S (wN rfl) (.inl rfl) rfl rfl (lb rfl) fun a S => ?_
    exact leafL ⟨rfl, S⟩
  · refine fI 17 (.pointer (some ⟨bb0, 0, none⟩)) [(0, .pointer (some ⟨bb0, 0, none⟩))] 1 [none] rfl rfl rfl rfl rfl rfl fun G a w S => ?_
    refine sMove (.pointer (some ⟨bb0, 0, none⟩)) S (wN rfl) (.inl rfl) rfl rfl (lb rfl) fun a S => ?_
    exact leafL ⟨rfl, S⟩
  · refine fI 18 (.pointer (some ⟨bb0, 0, none⟩)) [(17, .pointer (some ⟨bb0, 0, none⟩))] 2 [some 1] rfl rfl rfl rfl rfl rfl fun G a w S => ?_
    refine nilCheck_ok (q := ⟨bb0, 0, none⟩) S (wN rfl) rfl rfl rfl (lb rfl) fun a S => ?_
    exact leafL ⟨rfl, S⟩
  · refine fI 19 (.pointer (some ⟨bb0, 0, none⟩)) [(18, .pointer (some ⟨bb0, 0, none⟩))] 3 [some 2] rfl rfl rfl rfl rfl rfl fun G a w S => ?_
    refine sField (b := bb0) (off := 0) 0 0 S (wN rfl) rfl rfl rfl rfl rfl (lb rfl) fun a S => ?_
    exact leafL ⟨rfl, S⟩
  · refine fI 20 (.slice ad12 s11.length cp13) [(19, .pointer (some ⟨bb0, 0, none⟩))] 4 [some 3] rfl rfl rfl rfl rfl rfl fun G a w S => ?_
    refine sLoad1 (p := bb0) (off := 0) (T := 73) (vs := [.slice ad12 s11.length cp13, .slice ad14 p0.rows.length cp15, .slice ad16 p0.bound.length cp17, .slice ad18 p0.cross.length cp19, iv p0.next]) 1 (.slice ad12 s11.length cp13) S (wN rfl) rfl rfl rfl rfl rfl rfl (lb rfl) fun a S => ?_
    exact leafL ⟨rfl, S⟩
  · refine fI 21 (.agg #[iv p1.Row, iv p1.Cell, .slice ad45 x40.length cp46, .bool p1.Purl]) [(4, .pointer (some ⟨b8, 0, none⟩))] 5 [none] rfl rfl rfl rfl rfl rfl fun G a w S => ?_
    refine sLoadN (p := b8) (off := 0) (T := 48) (vs := [iv p1.Row, iv p1.Cell, .slice ad45 x40.length cp46, .bool p1.Purl]) 0 [iv p1.Row, iv p1.Cell, .slice ad45 x40.length cp46, .bool p1.Purl] S (wN rfl) rfl rfl rfl rfl rfl rfl rfl (lb rfl) fun a S => ?_
    exact leafL ⟨rfl, S⟩
  refine ⟨_, [(21, .agg #[iv p1.Row, iv p1.Cell, .slice ad45 x40.length cp46, .bool p1.Purl])], rfl, (srcs_of [some 5] rfl rfl rfl), fun G a w S => ?_⟩
  have S := S.learn (fRep r_api_Loop (.agg #[iv p1.Row, iv p1.Cell, .slice ad45 x40.length cp46, .bool p1.Purl]) (api_Loop.mk p1.Row p1.Cell x40 p1.Purl)) ⟨_, rfl, S.mem.know (i := 1) (e := fRep (rL (rI .i64)) (.slice ad45 x40.length cp46) x40) rfl⟩
  refine sLit (r := r_api_Loop) (T := 48) (xs := [(api_Loop.mk p1.Row p1.Cell x40 p1.Purl)]) [(0, .agg #[iv p1.Row, iv p1.Cell, .slice ad45 x40.length cp46, .bool p1.Purl])] 1 [.agg #[iv p1.Row, iv p1.Cell, .slice ad45 x40.length cp46, .bool p1.Purl]] [iv p1.Row, iv p1.Cell, .slice ad45 x40.length cp46, .bool p1.Purl] (.agg #[iv 0, iv 0, .slice none 0 0, .bool false]) 48 S (wN rfl) rfl rfl Try.underlying26 rfl (by decide) (by decide) (by kernel_rfl) rfl (fun E1 w1 hE => All.cons (r_api_Loop.mono hE (S.mem.know (i := 0) (e := fRep r_api_Loop (.agg #[iv p1.Row, iv p1.Cell, .slice ad45 x40.length cp46, .bool p1.Purl]) (api_Loop.mk p1.Row p1.Cell x40 p1.Purl)) rfl)) (All.nil _ _ _)) rfl rfl (lb rfl) fun a w ad54 cp55 S => ?_
  refine leafL ⟨rfl, _, _, .inl ⟨22, (.slice ad54 [(api_Loop.mk p1.Row p1.Cell x40 p1.Purl)].length cp55), [], rfl, S, hz_of rfl, ?_⟩⟩
  refine node_by (A := anc_loops_piece_add_s1_0) (nf := [6, 7, 10]) (Y := [6]) 11 (by kernel_rfl) (by kernel_rfl) (by kernel_rfl) (by kernel_rfl) (by kernel_rfl) [6, 0, 1, 2, 3, 4, 5] (by kernel_rfl) (by decide) (by decide) (aF 0 10 (by decide) ?_ (aF 1 9 (by decide) ?_ (aF 2 8 (by decide) ?_ (aF 3 7 (by decide) ?_ (aF 4 6 (by decide) ?_ (aD 5 5 6 (by decide) (aY 6 4 (by decide) (aN 7 3 (by decide) ?_ (aE 8 2 7 (by decide) (aE 9 1 7 (by decide) (aB 10 0 7 (by decide) (trivial)))))))))))) [] (fun q hq => by cases hq) (fun hY => absurd (hY 7 (by decide)) (by decide))
  · refine fI 16 (.pointer (some ⟨bb0, 0, none⟩)) [(0, .pointer (some ⟨bb0, 0, none⟩))] 1 [none] rfl rfl rfl rfl rfl rfl fun G a w S => ?_
    refine sMove (.pointer (some ⟨bb0, 0, none⟩)) S (wN rfl) (.inl rfl) rfl rfl (lb rfl) fun a S => ?_
    exact leafL ⟨rfl, S⟩
  · refine fI 17 (.pointer (some ⟨bb0, 0, none⟩)) [(0, .pointer (some ⟨bb0, 0, none⟩))] 2 [none] rfl rfl rfl rfl rfl rfl fun G a w S => ?_
    refine sMove (.pointer (some ⟨bb0, 0, none⟩)) S (wN rfl) (.inl rfl) rfl rfl (lb rfl) fun a S => ?_
    exact leafL ⟨rfl, S⟩
  · refine fI 18 (.pointer (some ⟨bb0, 0, none⟩)) [(17, .pointer (some ⟨bb0, 0, none⟩))] 3 [some 2] rfl rfl rfl rfl rfl rfl fun G a w S => ?_
    refine nilCheck_ok (q := ⟨bb0, 0, none⟩) S (wN rfl) rfl rfl rfl (lb rfl) fun a S => ?_
    exact leafL ⟨rfl, S⟩
  · refine fI 19 (.pointer (some ⟨bb0, 0, none⟩)) [(18, .pointer (some ⟨bb0, 0, none⟩))] 4 [some 3] rfl rfl rfl rfl rfl rfl fun G a w S => ?_
    refine sField (b := bb0) (off := 0) 0 0 S (wN rfl) rfl rfl rfl rfl rfl (lb rfl) fun a S => ?_
    exact leafL ⟨rfl, S⟩
  · refine fI 20 (.slice ad12 s11.length cp13) [(19, .pointer (some ⟨bb0, 0, none⟩))] 5 [some 4] rfl rfl rfl rfl rfl rfl fun G a w S => ?_
    refine sLoad1 (p := bb0) (off := 0) (T := 73) (vs := [.slice ad12 s11.length cp13, .slice ad14 p0.rows.length cp15, .slice ad16 p0.bound.length cp17, .slice ad18 p0.cross.length cp19, iv p0.next]) 2 (.slice ad12 s11.length cp13) S (wN rfl) rfl rfl rfl rfl rfl rfl (lb rfl) fun a S => ?_
    exact leafL ⟨rfl, S⟩
  refine ⟨_, [(20, .slice ad12 s11.length cp13), (22, .slice ad54 [(api_Loop.mk p1.Row p1.Cell x40 p1.Purl)].length cp55)], rfl, (srcs_of [some 5, some 0] rfl rfl rfl), fun G a w S => ?_⟩
  refine sApp (r := r_api_Loop) (T := 48) (xs := s11) (ys := [(api_Loop.mk p1.Row p1.Cell x40 p1.Purl)]) (v := .slice ad12 s11.length cp13) (u := .slice ad54 [(api_Loop.mk p1.Row p1.Cell x40 p1.Purl)].length cp55) 3 (.agg #[iv 0, iv 0, .slice none 0 0, .bool false]) 48 S (wN rfl) rfl Try.underlying26 rfl rfl (by decide) rfl rfl rfl (src_R (T := 48) 0 S.mem rfl) hx51 rfl (lb rfl) fun a w ad56 cp57 S => ?_
  refine leafL ⟨rfl, _, _, .inl ⟨23, (.slice ad56 l50.length cp57), [(8, 24, .pointer (some ⟨bb0, 0, none⟩)), (9, 25, .pointer (some ⟨bb0, 0, none⟩))], rfl, S, hz_of rfl, ?_⟩⟩
  refine node_by (A := anc_loops_piece_add_s1_0) (nf := [6, 7, 10]) (Y := [7, 6]) 11 (by kernel_rfl) (by kernel_rfl) (by kernel_rfl) (by kernel_rfl) (by kernel_rfl) [8, 9, 7, 6, 0, 1, 2, 3, 4, 5] (by kernel_rfl) (by decide) (by decide) (aF 0 10 (by decide) ?_ (aD 1 9 7 (by decide) (aD 2 8 7 (by decide) (aD 3 7 7 (by decide) (aD 4 6 7 (by decide) (aD 5 5 7 (by decide) (aY 6 4 (by decide) (aY 7 3 (by decide) (aF 8 2 (by decide) ?_ (aF 9 1 (by decide) ?_ (aN 10 0 (by decide) ?_ (trivial)))))))))))) [] (fun q hq => by cases hq) (fun hY => absurd (hY 10 (by decide)) (by decide))
  · refine fI 16 (.pointer (some ⟨bb0, 0, none⟩)) [(0, .pointer (some ⟨bb0, 0, none⟩))] 4 [none] rfl rfl rfl rfl rfl rfl fun G a w S => ?_
    refine sMove (.pointer (some ⟨bb0, 0, none⟩)) S (wN rfl) (.inl rfl) rfl rfl (lb rfl) fun a S => ?_
    exact leafL ⟨rfl, S⟩
  · refine fI 24 (.pointer (some ⟨bb0, 0, none⟩)) [(16, .pointer (some ⟨bb0, 0, none⟩))] 0 [some 4] rfl rfl rfl rfl rfl rfl fun G a w S => ?_
    refine nilCheck_ok (q := ⟨bb0, 0, none⟩) S (wN rfl) rfl rfl rfl (lb rfl) fun a S => ?_
    exact leafL ⟨rfl, S⟩
  · refine fI 25 (.pointer (some ⟨bb0, 0, none⟩)) [(24, .pointer (some ⟨bb0, 0, none⟩))] 1 [some 0] rfl rfl rfl rfl rfl rfl fun G a w S => ?_
    refine sField (b := bb0) (off := 0) 0 0 S (wN rfl) rfl rfl rfl rfl rfl (lb rfl) fun a S => ?_
    exact leafL ⟨rfl, S⟩
  refine ⟨_, [(23, .slice ad56 l50.length cp57), (25, .pointer (some ⟨bb0, 0, none⟩))], rfl, (srcs_of [some 2, some 1] rfl rfl rfl), fun G a w S => ?_⟩
  refine sStore (p := bb0) (off := 0) (T := 73) (vs := [.slice ad12 s11.length cp13, .slice ad14 p0.rows.length cp15, .slice ad16 p0.bound.length cp17, .slice ad18 p0.cross.length cp19, iv p0.next]) (v := .slice ad56 l50.length cp57) 3 [.slice ad56 l50.length cp57] S (wN rfl) rfl rfl rfl rfl rfl rfl rfl (by simp) rfl fun a w S => ?_
  refine leafL ⟨rfl, _, _, .inr ⟨[], rfl, S, hz_of rfl, ?_⟩⟩
  refine node_by (A := anc_loops_piece_add_s1_0) (nf := [6, 7, 10]) (Y := [10, 7, 6]) 11 (by kernel_rfl) (by kernel_rfl) (by kernel_rfl) (by kernel_rfl) (by kernel_rfl) [8, 9, 7, 6, 0, 1, 2, 3, 4, 5] (by kernel_rfl) (by decide) (by decide) (aD 0 10 10 (by decide) (aD 1 9 10 (by decide) (aD 2 8 10 (by decide) (aD 3 7 10 (by decide) (aD 4 6 10 (by decide) (aD 5 5 10 (by decide) (aY 6 4 (by decide) (aY 7 3 (by decide) (aD 8 2 10 (by decide) (aD 9 1 10 (by decide) (aY 10 0 (by decide) (trivial)))))))))))) [(0, .pointer (some ⟨bb0, 0, none⟩)), (4, .pointer (some ⟨b8, 0, none⟩)), (8, .slice ad5 p2.length cp6), (9, iv (p2.length : Int)), (10, iv s10)] (fin_of [none, none, none, none, none] rfl (by kernel_rfl) (by kernel_rfl)) (fun _ a w S => ?_)
  refine leafB (leafT (hK38 _ _ ?_))
  refine sRegion ?_
  refine sBin (iv (w64 (s10 + 1))) S (wN rfl) rfl rfl rfl (bAdd _ _ _ _ s10 1) rfl (lb rfl) fun a S => ?_
  refine sMove (iv (w64 (s10 + 1))) S (wN rfl) (.inl rfl) rfl rfl (lb rfl) fun a S => ?_
  exact leafL (leafT (⟨(w64 (s10 + 1), l50, x40), (Option.some.inj h).symm, ⟨ad56, cp57, ad14, cp15, ad16, cp17, ad18, cp19, ad45, cp46, S.fix [0, 3, 1, 4, 5, 6] [4, 2] (by decide) rfl rfl rfl⟩⟩))

end Go.Proofs.Yticjoiolfibmlaa
namespace Go.Proofs.Yticjoiolfibmlaa
open Go.RowKit
set_option linter.unusedVariables false

def anc_slices_Reverse___int_int__s0_0 : List (List Nat) := [[], [], [], [], [], [], [4, 5], [4, 5, 6], [], [], [8, 9], [8, 9, 10], [0, 1, 4, 5, 6, 7, 8, 9, 10, 11], [0, 1, 4, 5, 6, 7, 8, 9, 10, 11, 12], [0, 1, 2, 3, 4, 5, 6, 7, 8, 9, 10, 11, 12, 13], [0, 1, 2, 3, 4, 5, 6, 7, 8, 9, 10, 11, 12, 13, 14]]
noncomputable def slices_Reverse___int_int__s0_l1  : (List Int × Int × Int) → Option ((List Int × Int × Int) ⊕ List Int) := fun s0 => match s0 with
  | (s2, s3, s4) =>
    if decide (s3 < s4) then
      Option.bind (idxO s2 s4) fun x13 =>
      Option.bind (idxO s2 s3) fun x18 =>
      Option.bind (setO s2 s3 x13) fun l26 =>
      Option.bind (idxO l26 s4) fun x28 =>
      Option.bind (setO l26 s4 x18) fun l33 =>
      some (.inl (l33, w64 (s3 + 1), w64 (s4 - 1)))
    else
      some (.inr s2)
noncomputable def F_slices_Reverse___int_int__s0 (p0 : (List Int)) : Option (List Int) :=
  Option.bind (whileO (slices_Reverse___int_int__s0_l1) (p0, 0, w64 ((p0.length : Int) - 1))) fun e8 =>
    (keepO p0 e8).bind fun _ =>
    some e8
set_option maxHeartbeats 4000000 in
set_option maxRecDepth 100000 in
theorem c_slices_Reverse___int_int__s0 (E : Nat → Prop) (w0 : World) (p0 : (List Int)) (ad_0 : Option Addr) (cp_0 : Nat) (r : (List Int)) (h : F_slices_Reverse___int_int__s0 p0 = some r) (S : St0 E (keysL [eRow (rI .i64) 3 (.slice ad_0 p0.length cp_0) p0]) w0 w0 [eRow (rI .i64) 3 (.slice ad_0 p0.length cp_0) p0] []) :
    Calls Try.prog 59 #[.slice ad_0 p0.length cp_0] w0 (Ret (X := Unit) E (keysL [eRow (rI .i64) 3 (.slice ad_0 p0.length cp_0) p0]) w0 (fun _ => .tuple #[]) (fun _ => [eRow (rI .i64) 3 (.slice ad_0 p0.length cp_0) r]) (fun _ => [])) := by
  unfold F_slices_Reverse___int_int__s0 at h
  refine sEnter (args := [.slice ad_0 p0.length cp_0]) 28 Try.func59 rfl rfl (by simp) S (fun a S => ?_)
  refine sSeq (fun K1 hK1 => ?_)
  refine sRegion ?_
  refine sMove (.slice ad_0 p0.length cp_0) S (wN rfl) (.inl rfl) rfl rfl (lb rfl) fun a S => ?_
  refine sLen (ad := ad_0) (m := p0.length) (c := cp_0) S (wN rfl) rfl Try.underlying32 rfl rfl (lb rfl) fun a S => ?_
  refine sBin (iv (w64 ((p0.length : Int) - 1))) S (wN rfl) rfl rfl rfl (bSub _ _ _ _ (p0.length : Int) 1) rfl (lb rfl) fun a S => ?_
  refine sMove (iv 0) S (wN rfl) (.inr rfl) rfl rfl (lb rfl) fun a S => ?_
  refine sMove (iv (w64 ((p0.length : Int) - 1))) S (wN rfl) (.inr rfl) rfl rfl (lb rfl) fun a S => ?_
  refine leafL (leafT (hK1 _ _ ?_))
  refine wp_block ?_
  obtain ⟨t7, hl, g6⟩ := bindSome h
  refine sLoop hl (fun s0 a w => match s0 with | (s2, s3, s4) => St [] E (keysL [eRow (rI .i64) 3 (.slice ad_0 p0.length cp_0) p0]) w0 28 a w [(0, .slice ad_0 s2.length cp_0), (2, iv s3), (3, iv s4)] [eRow (rI .i64) 3 (.slice ad_0 s2.length cp_0) s2] []) (S.fix [0] [] (by decide) rfl rfl rfl) ?_
  clear hl h
  intro s0 a w c0 hI h hu5
  obtain ⟨s2, s3, s4⟩ := s0
  unfold slices_Reverse___int_int__s0_l1 at h
  dsimp only at h hI
  have S := hI
  refine sSeq (fun K9 hK9 => ?_)
  refine sSeq (fun K10 hK10 => ?_)
  refine sRegion ?_
  refine sMove (iv s3) S (wN rfl) (.inl rfl) rfl rfl (lb rfl) fun a S => ?_
  refine sMove (iv s4) S (wN rfl) (.inl rfl) rfl rfl (lb rfl) fun a S => ?_
  refine sBin (.bool (decide (s3 < s4))) S (wN rfl) rfl rfl rfl (bLt _ _ _ _ .i64 s3 s4) rfl (lb rfl) fun a S => ?_
  refine leafL (leafT (hK10 _ _ ?_))
  rcases iteSome h with ⟨hc11, h⟩ | ⟨hc11, h⟩
  rotate_left
  · refine sCondF S rfl hc11 ?_
    obtain rfl := Option.some.inj h
    obtain rfl := hu5 _ rfl
    have h := g6
    clear g6
    try dsimp only at h
    obtain ⟨_, hk47, h⟩ := bindSome h
    rw [keepO_v hk47 ad_0 cp_0] at S
    obtain rfl := Option.some.inj h
    exact wp_exit (xThen (xThen (xHit (sEnd (.tuple #[]) S (rsl0 rfl ) ⟨(), rfl, S.mem.sel [0] [] (by decide) rfl rfl⟩))))
  refine sCondT S rfl hc11 ?_
  refine wp_skip (leafT (hK9 _ _ ?_))
  refine sSeq (fun K12 hK12 => ?_)
  refine wp_block ?_
  obtain ⟨x13, hx14, h⟩ := bindSome h
  obtain ⟨x18, hx19, h⟩ := bindSome h
  obtain ⟨l26, hx27, h⟩ := bindSome h
  obtain ⟨x28, hx29, h⟩ := bindSome h
  obtain ⟨l33, hx34, h⟩ := bindSome h
  obtain ⟨q35, hq36, hp37⟩ := pIdxR (P := Try.prog) (r := (rI .i64)) (T := 3) (v := .slice ad_0 s2.length cp_0) (xs := s2) (j := s4) 32 3 0 S Try.underlying32 rfl rfl hx14
  obtain ⟨q38, hq39, hp40⟩ := pIdxR (P := Try.prog) (r := (rI .i64)) (T := 3) (v := .slice ad_0 s2.length cp_0) (xs := s2) (j := s3) 32 3 0 S Try.underlying32 rfl rfl hx19
  obtain ⟨q41, hq42, hp43⟩ := pIdxR (P := Try.prog) (r := (rI .i64)) (T := 3) (v := .slice ad_0 s2.length cp_0) (xs := s2) (j := s3) 32 3 0 S Try.underlying32 rfl rfl hx19
  refine sDraw (nf := [13, 15]) (W := [(0, 14, .slice ad_0 s2.length cp_0), (1, 15, iv s3), (2, 16, .slice ad_0 s2.length cp_0), (3, 17, iv s4), (4, 18, .slice ad_0 s2.length cp_0), (5, 19, iv s4), (6, 20, q35), (7, 21, iv x13), (8, 22, .slice ad_0 s2.length cp_0), (9, 23, iv s3), (10, 24, q38), (11, 25, iv x18), (12, 26, q41)]) rfl S ?_
  refine node_by (A := anc_slices_Reverse___int_int__s0_0) (nf := [13, 15]) (Y := []) (W := [(0, 14, .slice ad_0 s2.length cp_0), (1, 15, iv s3), (2, 16, .slice ad_0 s2.length cp_0), (3, 17, iv s4), (4, 18, .slice ad_0 s2.length cp_0), (5, 19, iv s4), (6, 20, q35), (7, 21, iv x13), (8, 22, .slice ad_0 s2.length cp_0), (9, 23, iv s3), (10, 24, q38), (11, 25, iv x18), (12, 26, q41)]) 16 (by kernel_rfl) (by kernel_rfl) (by kernel_rfl) (by kernel_rfl) (by kernel_rfl) [0, 1, 2, 3, 4, 5, 6, 7, 8, 9, 10, 11, 12] (by kernel_rfl) (by decide) (by decide) (aF 0 15 (by decide) ?_ (aF 1 14 (by decide) ?_ (aF 2 13 (by decide) ?_ (aF 3 12 (by decide) ?_ (aF 4 11 (by decide) ?_ (aF 5 10 (by decide) ?_ (aF 6 9 (by decide) ?_ (aF 7 8 (by decide) ?_ (aF 8 7 (by decide) ?_ (aF 9 6 (by decide) ?_ (aF 10 5 (by decide) ?_ (aF 11 4 (by decide) ?_ (aF 12 3 (by decide) ?_ (aN 13 2 (by decide) ?_ (aE 14 1 13 (by decide) (aB 15 0 13 (by decide) (trivial))))))))))))))))) [] (fun q hq => by cases hq) (fun hY => absurd (hY 13 (by decide)) (by decide))
  · refine fI 14 (.slice ad_0 s2.length cp_0) [(0, .slice ad_0 s2.length cp_0)] 0 [none] rfl rfl rfl rfl rfl rfl fun G a w S => ?_
    refine sMove (.slice ad_0 s2.length cp_0) S (wN rfl) (.inl rfl) rfl rfl (lb rfl) fun a S => ?_
    exact leafL ⟨rfl, S⟩
  · refine fI 15 (iv s3) [(2, iv s3)] 1 [none] rfl rfl rfl rfl rfl rfl fun G a w S => ?_
    refine sMove (iv s3) S (wN rfl) (.inl rfl) rfl rfl (lb rfl) fun a S => ?_
    exact leafL ⟨rfl, S⟩
  · refine fI 16 (.slice ad_0 s2.length cp_0) [(0, .slice ad_0 s2.length cp_0)] 2 [none] rfl rfl rfl rfl rfl rfl fun G a w S => ?_
    refine sMove (.slice ad_0 s2.length cp_0) S (wN rfl) (.inl rfl) rfl rfl (lb rfl) fun a S => ?_
    exact leafL ⟨rfl, S⟩
  · refine fI 17 (iv s4) [(3, iv s4)] 3 [none] rfl rfl rfl rfl rfl rfl fun G a w S => ?_
    refine sMove (iv s4) S (wN rfl) (.inl rfl) rfl rfl (lb rfl) fun a S => ?_
    exact leafL ⟨rfl, S⟩
  · refine fI 18 (.slice ad_0 s2.length cp_0) [(0, .slice ad_0 s2.length cp_0)] 4 [none] rfl rfl rfl rfl rfl rfl fun G a w S => ?_
    refine sMove (.slice ad_0 s2.length cp_0) S (wN rfl) (.inl rfl) rfl rfl (lb rfl) fun a S => ?_
    exact leafL ⟨rfl, S⟩
  · refine fI 19 (iv s4) [(3, iv s4)] 5 [none] rfl rfl rfl rfl rfl rfl fun G a w S => ?_
    refine sMove (iv s4) S (wN rfl) (.inl rfl) rfl rfl (lb rfl) fun a S => ?_
    exact leafL ⟨rfl, S⟩
  · refine fI 20 q35 [(18, .slice ad_0 s2.length cp_0), (19, iv s4)] 6 [some 4, some 5] rfl rfl rfl rfl rfl rfl fun G a w S => ?_
    refine sIdxV (v := .slice ad_0 s2.length cp_0) (k := .i64) (j := s4) S (wN rfl) rfl rfl rfl hq36 rfl (lb rfl) fun a S => ?_
    exact leafL ⟨rfl, S⟩
  · refine fI 21 (iv x13) [(20, q35)] 7 [some 6] rfl rfl rfl rfl rfl rfl fun G a w S => ?_
    refine sLoadR (r := (rI .i64)) (T := 3) (xs := s2) (x := x13) (v := .slice ad_0 s2.length cp_0) (vq := q35) (j := s4) 0 (iv x13) S hp37 (wN rfl) rfl rfl rfl hx14 (fun _ _ _ h => h) (scal_I _) rfl rfl (lb rfl) fun a S => ?_
    exact leafL ⟨rfl, S⟩
  · refine fI 22 (.slice ad_0 s2.length cp_0) [(0, .slice ad_0 s2.length cp_0)] 8 [none] rfl rfl rfl rfl rfl rfl fun G a w S => ?_
    refine sMove (.slice ad_0 s2.length cp_0) S (wN rfl) (.inl rfl) rfl rfl (lb rfl) fun a S => ?_
    exact leafL ⟨rfl, S⟩
  · refine fI 23 (iv s3) [(2, iv s3)] 9 [none] rfl rfl rfl rfl rfl rfl fun G a w S => ?_
    refine sMove (iv s3) S (wN rfl) (.inl rfl) rfl rfl (lb rfl) fun a S => ?_
    exact leafL ⟨rfl, S⟩
  · refine fI 24 q38 [(22, .slice ad_0 s2.length cp_0), (23, iv s3)] 10 [some 8, some 9] rfl rfl rfl rfl rfl rfl fun G a w S => ?_
    refine sIdxV (v := .slice ad_0 s2.length cp_0) (k := .i64) (j := s3) S (wN rfl) rfl rfl rfl hq39 rfl (lb rfl) fun a S => ?_
    exact leafL ⟨rfl, S⟩
  · refine fI 25 (iv x18) [(24, q38)] 11 [some 10] rfl rfl rfl rfl rfl rfl fun G a w S => ?_
    refine sLoadR (r := (rI .i64)) (T := 3) (xs := s2) (x := x18) (v := .slice ad_0 s2.length cp_0) (vq := q38) (j := s3) 0 (iv x18) S hp40 (wN rfl) rfl rfl rfl hx19 (fun _ _ _ h => h) (scal_I _) rfl rfl (lb rfl) fun a S => ?_
    exact leafL ⟨rfl, S⟩
  · refine fI 26 q41 [(14, .slice ad_0 s2.length cp_0), (15, iv s3)] 12 [some 0, some 1] rfl rfl rfl rfl rfl rfl fun G a w S => ?_
    refine sIdxV (v := .slice ad_0 s2.length cp_0) (k := .i64) (j := s3) S (wN rfl) rfl rfl rfl hq42 rfl (lb rfl) fun a S => ?_
    exact leafL ⟨rfl, S⟩
  refine ⟨_, [(21, iv x13), (26, q41)], rfl, (srcs_of [some 7, some 12] rfl rfl rfl), fun G a w S => ?_⟩
  refine sStoreR (r := (rI .i64)) (T := 3) (xs := s2) (ys := l26) (y := x13) (v := .slice ad_0 s2.length cp_0) (vq := q41) (u := iv x13) (j := s3) 0 S hp43 (wN rfl) rfl rfl rfl rfl rfl hx27 rfl rfl fun a w S => ?_
  obtain ⟨q44, hq45, hp46⟩ := pIdxR (P := Try.prog) (r := (rI .i64)) (T := 3) (v := .slice ad_0 s2.length cp_0) (xs := l26) (j := s4) 32 3 0 S Try.underlying32 rfl rfl hx29
  refine leafL ⟨rfl, _, _, .inr ⟨[(14, 27, q44)], rfl, S, hz_of rfl, ?_⟩⟩
  refine node_by (A := anc_slices_Reverse___int_int__s0_0) (nf := [13, 15]) (Y := [13]) 16 (by kernel_rfl) (by kernel_rfl) (by kernel_rfl) (by kernel_rfl) (by kernel_rfl) [14, 0, 1, 2, 3, 4, 5, 6, 7, 8, 9, 10, 11, 12] (by kernel_rfl) (by decide) (by decide) (aD 0 15 13 (by decide) (aD 1 14 13 (by decide) (aF 2 13 (by decide) ?_ (aF 3 12 (by decide) ?_ (aD 4 11 13 (by decide) (aD 5 10 13 (by decide) (aD 6 9 13 (by decide) (aD 7 8 13 (by decide) (aD 8 7 13 (by decide) (aD 9 6 13 (by decide) (aD 10 5 13 (by decide) (aD 11 4 13 (by decide) (aD 12 3 13 (by decide) (aY 13 2 (by decide) (aF 14 1 (by decide) ?_ (aN 15 0 (by decide) ?_ (trivial))))))))))))))))) [] (fun q hq => by cases hq) (fun hY => absurd (hY 15 (by decide)) (by decide))
  · refine fI 16 (.slice ad_0 s2.length cp_0) [(0, .slice ad_0 s2.length cp_0)] 3 [none] rfl rfl rfl rfl rfl rfl fun G a w S => ?_
    refine sMove (.slice ad_0 s2.length cp_0) S (wN rfl) (.inl rfl) rfl rfl (lb rfl) fun a S => ?_
    exact leafL ⟨rfl, S⟩
  · refine fI 17 (iv s4) [(3, iv s4)] 4 [none] rfl rfl rfl rfl rfl rfl fun G a w S => ?_
    refine sMove (iv s4) S (wN rfl) (.inl rfl) rfl rfl (lb rfl) fun a S => ?_
    exact leafL ⟨rfl, S⟩
  · refine fI 27 q44 [(16, .slice ad_0 s2.length cp_0), (17, iv s4)] 0 [some 3, some 4] rfl rfl rfl rfl rfl rfl fun G a w S => ?_
    refine sIdxV (v := .slice ad_0 s2.length cp_0) (k := .i64) (j := s4) S (wN rfl) rfl rfl rfl hq45 rfl (lb rfl) fun a S => ?_
    exact leafL ⟨rfl, S⟩
  refine ⟨_, [(25, iv x18), (27, q44)], rfl, (srcs_of [some 12, some 0] rfl rfl rfl), fun G a w S => ?_⟩
  refine sStoreR (r := (rI .i64)) (T := 3) (xs := l26) (ys := l33) (y := x18) (v := .slice ad_0 s2.length cp_0) (vq := q44) (u := iv x18) (j := s4) 0 S hp46 (wN rfl) rfl rfl rfl rfl rfl hx34 rfl rfl fun a w S => ?_
  refine leafL ⟨rfl, _, _, .inr ⟨[], rfl, S, hz_of rfl, ?_⟩⟩
  refine node_by (A := anc_slices_Reverse___int_int__s0_0) (nf := [13, 15]) (Y := [15, 13]) 16 (by kernel_rfl) (by kernel_rfl) (by kernel_rfl) (by kernel_rfl) (by kernel_rfl) [14, 0, 1, 2, 3, 4, 5, 6, 7, 8, 9, 10, 11, 12] (by kernel_rfl) (by decide) (by decide) (aD 0 15 15 (by decide) (aD 1 14 15 (by decide) (aD 2 13 15 (by decide) (aD 3 12 15 (by decide) (aD 4 11 15 (by decide) (aD 5 10 15 (by decide) (aD 6 9 15 (by decide) (aD 7 8 15 (by decide) (aD 8 7 15 (by decide) (aD 9 6 15 (by decide) (aD 10 5 15 (by decide) (aD 11 4 15 (by decide) (aD 12 3 15 (by decide) (aY 13 2 (by decide) (aD 14 1 15 (by decide) (aY 15 0 (by decide) (trivial))))))))))))))))) [(0, .slice ad_0 s2.length cp_0), (2, iv s3), (3, iv s4)] (fin_of [none, none, none] rfl (by kernel_rfl) (by kernel_rfl)) (fun _ a w S => ?_)
  rw [setO_v hx27 ad_0 cp_0] at S
  rw [setO_v hx34 ad_0 cp_0] at S
  refine leafB (leafT (hK12 _ _ ?_))
  refine sRegion ?_
  refine sMove (iv s3) S (wN rfl) (.inl rfl) rfl rfl (lb rfl) fun a S => ?_
  refine sBin (iv (w64 (s3 + 1))) S (wN rfl) rfl rfl rfl (bAdd _ _ _ _ s3 1) rfl (lb rfl) fun a S => ?_
  refine sMove (iv s4) S (wN rfl) (.inl rfl) rfl rfl (lb rfl) fun a S => ?_
  refine sBin (iv (w64 (s4 - 1))) S (wN rfl) rfl rfl rfl (bSub _ _ _ _ s4 1) rfl (lb rfl) fun a S => ?_
  refine sMove (iv (w64 (s3 + 1))) S (wN rfl) (.inr rfl) rfl rfl (lb rfl) fun a S => ?_
  refine sMove (iv (w64 (s4 - 1))) S (wN rfl) (.inr rfl) rfl rfl (lb rfl) fun a S => ?_
  exact leafL (leafT (⟨(l33, w64 (s3 + 1), w64 (s4 - 1)), (Option.some.inj h).symm, (S.fix [0] [] (by decide) rfl rfl rfl)⟩))

end Go.Proofs.Yticjoiolfibmlaa
namespace Go.Proofs.Yticjoiolfibmlaa
open Go.RowKit
set_option linter.unusedVariables false

noncomputable def F_slices_Clone___int_int__s0 (p0 : (List Int)) : Option (List Int) :=
  Option.bind (appO ([] : List Int) p0) fun l12 =>
  some l12
set_option maxHeartbeats 4000000 in
set_option maxRecDepth 100000 in
theorem c_slices_Clone___int_int__s0 (E : Nat → Prop) (w0 : World) (p0 : (List Int)) (v0 : Value) (r : (List Int)) (h : F_slices_Clone___int_int__s0 p0 = some r) (S : St0 E [] w0 w0 [] [fRep (rL (rI .i64)) (v0) p0]) :
    Calls Try.prog 60 #[v0] w0 (Ret (X := Option Addr × Nat) E [] w0 (fun x => .slice x.1 r.length x.2) (fun x => [eRow (rI .i64) 3 (.slice x.1 r.length x.2) r]) (fun _ => [])) := by
  unfold F_slices_Clone___int_int__s0 at h
  obtain ⟨ad1, cp2, _, rfl, _⟩ := S.know (i := 0) (e := fRep (rL (rI .i64)) (v0) p0) rfl
  refine sEnter (args := [.slice ad1 p0.length cp2]) 8 Try.func60 rfl rfl (by simp) S (fun a S => ?_)
  refine sSeq (fun K3 hK3 => ?_)
  refine sRegion ?_
  refine sMove (.slice none 0 0) S (wN rfl) (.inr rfl) rfl rfl (lb rfl) fun a S => ?_
  refine leafL (leafT (hK3 _ _ ?_))
  refine sSeq (fun K4 hK4 => ?_)
  refine sSeq (fun K5 hK5 => ?_)
  refine sRegion ?_
  refine sMove (.slice ad1 p0.length cp2) S (wN rfl) (.inl rfl) rfl rfl (lb rfl) fun a S => ?_
  refine sBin (.bool ad1.isNone) S (wN rfl) rfl rfl rfl (bEqNil _ _ _ _ Try.underlying32 ad1 (p0.length) (cp2)) rfl (lb rfl) fun a S => ?_
  refine leafL (leafT (hK5 _ _ ?_))
  rcases nil_cases ad1 with hc6 | hc6
  · have hz7 := rL_isNil (S.mem.know (i := 0) (e := fRep (rL (rI .i64)) (.slice ad1 p0.length cp2) p0) rfl) hc6
    rw [hz7] at h
    have h : some ([] : (List Int)) = some r := h
    refine sCondT S rfl hc6 ?_
    refine sSeq (fun K8 hK8 => ?_)
    refine sRegion ?_
    refine sMove (.slice none 0 0) S (wN rfl) (.inr rfl) rfl rfl (lb rfl) fun a S => ?_
    refine leafL (leafT (hK8 _ _ ?_))
    obtain rfl := Option.some.inj h
    have S := S.nilRow (rI .i64) 3 (α := Int)
    exact wp_ret (rThen (sRet (.slice none 0 0) S (rsl1 rfl (rvT (t := 2) (v := .slice none 0 0) S rfl)) ⟨(none, 0), rfl, S.mem.sel [0] [] (by decide) rfl rfl⟩))
  refine sCondF S rfl hc6 ?_
  refine wp_skip (leafT (hK4 _ _ ?_))
  refine sSeq (fun K9 hK9 => ?_)
  refine sRegion ?_
  refine sLit0 (α := Int) (rI .i64) (T := 3) S (wN rfl) rfl Try.underlying32 rfl rfl (lb rfl) fun a w ad10 cp11 S => ?_
  refine sMove (.slice ad1 p0.length cp2) S (wN rfl) (.inl rfl) rfl rfl (lb rfl) fun a S => ?_
  obtain ⟨l12, hx13, h⟩ := bindSome h
  refine sApp (r := (rI .i64)) (T := 3) (xs := ([] : List Int)) (ys := p0) (v := .slice ad10 ([] : List Int).length cp11) (u := .slice ad1 p0.length cp2) 0 (iv 0) 8 S (wN rfl) rfl Try.underlying32 rfl rfl (by decide) rfl rfl rfl (src_D 0 S.mem rfl) hx13 rfl (lb rfl) fun a w ad14 cp15 S => ?_
  refine sMove (.slice ad14 l12.length cp15) S (wN rfl) (.inr rfl) rfl rfl (lb rfl) fun a S => ?_
  refine leafL (leafT (hK9 _ _ ?_))
  obtain rfl := Option.some.inj h
  exact wp_ret (sRet (.slice ad14 l12.length cp15) S (rsl1 rfl (rvT (t := 2) (v := .slice ad14 l12.length cp15) S rfl)) ⟨(ad14, cp15), rfl, S.mem.sel [0] [] (by decide) rfl rfl⟩)

end Go.Proofs.Yticjoiolfibmlaa
namespace Go.Proofs.Yticjoiolfibmlaa
open Go.RowKit
set_option linter.unusedVariables false

def anc_slices_Reverse___int_int__s1_0 : List (List Nat) := [[], [], [], [], [], [], [4, 5], [4, 5, 6], [], [], [8, 9], [8, 9, 10], [0, 1, 4, 5, 6, 7, 8, 9, 10, 11], [0, 1, 4, 5, 6, 7, 8, 9, 10, 11, 12], [0, 1, 2, 3, 4, 5, 6, 7, 8, 9, 10, 11, 12, 13], [0, 1, 2, 3, 4, 5, 6, 7, 8, 9, 10, 11, 12, 13, 14]]
noncomputable def slices_Reverse___int_int__s1_l1  : (Int × Int × Int × Int) → Option ((Int × Int × Int × Int) ⊕ (Int × Int)) := fun s0 => match s0 with
  | (s2, s3, s4, s5) =>
    if decide (s2 < s3) then
      Option.bind (idxO ([s4, s5] : List Int) s3) fun x15 =>
      Option.bind (idxO ([s4, s5] : List Int) s2) fun x17 =>
      Option.bind (idxO ([(if s2 = 0 then x15 else s4), (if s2 = 1 then x15 else s5)] : List Int) s3) fun x20 =>
      some (.inl (w64 (s2 + 1), w64 (s3 - 1), (if s3 = 0 then x17 else (if s2 = 0 then x15 else s4)), (if s3 = 1 then x17 else (if s2 = 1 then x15 else s5))))
    else
      some (.inr (s4, s5))
noncomputable def F_slices_Reverse___int_int__s1 (p0 : (Int × Int)) : Option (Int × Int) :=
  Option.bind (whileO (slices_Reverse___int_int__s1_l1) (0, w64 (((2 : Nat) : Int) - 1), p0.1, p0.2)) fun (e9, e10) =>
    some (e9, e10)
set_option maxHeartbeats 4000000 in
set_option maxRecDepth 100000 in
theorem c_slices_Reverse___int_int__s1 (E : Nat → Prop) (w0 : World) (p0 : (Int × Int)) (bb0 : Nat) (r : (Int × Int)) (h : F_slices_Reverse___int_int__s1 p0 = some r) (S : St0 E (keysL [eBox bb0 49 [iv p0.1, iv p0.2]]) w0 w0 [eBox bb0 49 [iv p0.1, iv p0.2]] []) :
    Calls Try.prog 59 #[.slice (some ⟨bb0, 0, none⟩) 2 2] w0 (Ret (X := Unit) E (keysL [eBox bb0 49 [iv p0.1, iv p0.2]]) w0 (fun _ => .tuple #[]) (fun _ => [eBox bb0 49 [iv r.1, iv r.2]]) (fun _ => [])) := by
  unfold F_slices_Reverse___int_int__s1 at h
  refine sEnter (args := [.slice (some ⟨bb0, 0, none⟩) 2 2]) 28 Try.func59 rfl rfl (by simp) S (fun a S => ?_)
  refine sSeq (fun K1 hK1 => ?_)
  refine sRegion ?_
  refine sMove (.slice (some ⟨bb0, 0, none⟩) 2 2) S (wN rfl) (.inl rfl) rfl rfl (lb rfl) fun a S => ?_
  refine sLen (ad := some ⟨bb0, 0, none⟩) (m := 2) (c := 2) S (wN rfl) rfl Try.underlying32 rfl rfl (lb rfl) fun a S => ?_
  refine sBin (iv (w64 (((2 : Nat) : Int) - 1))) S (wN rfl) rfl rfl rfl (bSub _ _ _ _ ((2 : Nat) : Int) 1) rfl (lb rfl) fun a S => ?_
  refine sMove (iv 0) S (wN rfl) (.inr rfl) rfl rfl (lb rfl) fun a S => ?_
  refine sMove (iv (w64 (((2 : Nat) : Int) - 1))) S (wN rfl) (.inr rfl) rfl rfl (lb rfl) fun a S => ?_
  refine leafL (leafT (hK1 _ _ ?_))
  refine wp_block ?_
  obtain ⟨t8, hl, g7⟩ := bindSome h
  refine sLoop hl (fun s0 a w => match s0 with | (s2, s3, s4, s5) => St [] E (keysL [eBox bb0 49 [iv p0.1, iv p0.2]]) w0 28 a w [(0, .slice (some ⟨bb0, 0, none⟩) 2 2), (2, iv s2), (3, iv s3)] [eBox bb0 49 [iv s4, iv s5]] []) (S.fix [0] [] (by decide) rfl rfl rfl) ?_
  clear hl h
  intro s0 a w c0 hI h hu6
  obtain ⟨s2, s3, s4, s5⟩ := s0
  unfold slices_Reverse___int_int__s1_l1 at h
  dsimp only at h hI
  have S := hI
  refine sSeq (fun K11 hK11 => ?_)
  refine sSeq (fun K12 hK12 => ?_)
  refine sRegion ?_
  refine sMove (iv s2) S (wN rfl) (.inl rfl) rfl rfl (lb rfl) fun a S => ?_
  refine sMove (iv s3) S (wN rfl) (.inl rfl) rfl rfl (lb rfl) fun a S => ?_
  refine sBin (.bool (decide (s2 < s3))) S (wN rfl) rfl rfl rfl (bLt _ _ _ _ .i64 s2 s3) rfl (lb rfl) fun a S => ?_
  refine leafL (leafT (hK12 _ _ ?_))
  rcases iteSome h with ⟨hc13, h⟩ | ⟨hc13, h⟩
  rotate_left
  · refine sCondF S rfl hc13 ?_
    obtain rfl := Option.some.inj h
    obtain rfl := hu6 _ rfl
    have h := g7
    clear g7
    try dsimp only at h
    obtain rfl := Option.some.inj h
    exact wp_exit (xThen (xThen (xHit (sEnd (.tuple #[]) S (rsl0 rfl ) ⟨(), rfl, S.mem.sel [0] [] (by decide) rfl rfl⟩))))
  refine sCondT S rfl hc13 ?_
  refine wp_skip (leafT (hK11 _ _ ?_))
  refine sSeq (fun K14 hK14 => ?_)
  refine wp_block ?_
  obtain ⟨x15, hx16, h⟩ := bindSome h
  obtain ⟨x17, hx18, h⟩ := bindSome h
  obtain ⟨x20, hx21, h⟩ := bindSome h
  refine sDraw (nf := [13, 15]) (W := [(0, 14, .slice (some ⟨bb0, 0, none⟩) 2 2), (1, 15, iv s2), (2, 16, .slice (some ⟨bb0, 0, none⟩) 2 2), (3, 17, iv s3), (4, 18, .slice (some ⟨bb0, 0, none⟩) 2 2), (5, 19, iv s3), (6, 20, .pointer (some ⟨bb0, 0 + (s3).toNat * 1, none⟩)), (7, 21, iv x15), (8, 22, .slice (some ⟨bb0, 0, none⟩) 2 2), (9, 23, iv s2), (10, 24, .pointer (some ⟨bb0, 0 + (s2).toNat * 1, none⟩)), (11, 25, iv x17), (12, 26, .pointer (some ⟨bb0, 0 + (s2).toNat * 1, none⟩))]) rfl S ?_
  refine node_by (A := anc_slices_Reverse___int_int__s1_0) (nf := [13, 15]) (Y := []) (W := [(0, 14, .slice (some ⟨bb0, 0, none⟩) 2 2), (1, 15, iv s2), (2, 16, .slice (some ⟨bb0, 0, none⟩) 2 2), (3, 17, iv s3), (4, 18, .slice (some ⟨bb0, 0, none⟩) 2 2), (5, 19, iv s3), (6, 20, .pointer (some ⟨bb0, 0 + (s3).toNat * 1, none⟩)), (7, 21, iv x15), (8, 22, .slice (some ⟨bb0, 0, none⟩) 2 2), (9, 23, iv s2), (10, 24, .pointer (some ⟨bb0, 0 + (s2).toNat * 1, none⟩)), (11, 25, iv x17), (12, 26, .pointer (some ⟨bb0, 0 + (s2).toNat * 1, none⟩))]) 16 (by kernel_rfl) (by kernel_rfl) (by kernel_rfl) (by kernel_rfl) (by kernel_rfl) [0, 1, 2, 3, 4, 5, 6, 7, 8, 9, 10, 11, 12] (by kernel_rfl) (by decide) (by decide) (aF 0 15 (by decide) ?_ (aF 1 14 (by decide) ?_ (aF 2 13 (by decide) ?_ (aF 3 12 (by decide) ?_ (aF 4 11 (by decide) ?_ (aF 5 10 (by decide) ?_ (aF 6 9 (by decide) ?_ (aF 7 8 (by decide) ?_ (aF 8 7 (by decide) ?_ (aF 9 6 (by decide) ?_ (aF 10 5 (by decide) ?_ (aF 11 4 (by decide) ?_ (aF 12 3 (by decide) ?_ (aN 13 2 (by decide) ?_ (aE 14 1 13 (by decide) (aB 15 0 13 (by decide) (trivial))))))))))))))))) [] (fun q hq => by cases hq) (fun hY => absurd (hY 13 (by decide)) (by decide))
  · refine fI 14 (.slice (some ⟨bb0, 0, none⟩) 2 2) [(0, .slice (some ⟨bb0, 0, none⟩) 2 2)] 0 [none] rfl rfl rfl rfl rfl rfl fun G a w S => ?_
    refine sMove (.slice (some ⟨bb0, 0, none⟩) 2 2) S (wN rfl) (.inl rfl) rfl rfl (lb rfl) fun a S => ?_
    exact leafL ⟨rfl, S⟩
  · refine fI 15 (iv s2) [(2, iv s2)] 1 [none] rfl rfl rfl rfl rfl rfl fun G a w S => ?_
    refine sMove (iv s2) S (wN rfl) (.inl rfl) rfl rfl (lb rfl) fun a S => ?_
    exact leafL ⟨rfl, S⟩
  · refine fI 16 (.slice (some ⟨bb0, 0, none⟩) 2 2) [(0, .slice (some ⟨bb0, 0, none⟩) 2 2)] 2 [none] rfl rfl rfl rfl rfl rfl fun G a w S => ?_
    refine sMove (.slice (some ⟨bb0, 0, none⟩) 2 2) S (wN rfl) (.inl rfl) rfl rfl (lb rfl) fun a S => ?_
    exact leafL ⟨rfl, S⟩
  · refine fI 17 (iv s3) [(3, iv s3)] 3 [none] rfl rfl rfl rfl rfl rfl fun G a w S => ?_
    refine sMove (iv s3) S (wN rfl) (.inl rfl) rfl rfl (lb rfl) fun a S => ?_
    exact leafL ⟨rfl, S⟩
  · refine fI 18 (.slice (some ⟨bb0, 0, none⟩) 2 2) [(0, .slice (some ⟨bb0, 0, none⟩) 2 2)] 4 [none] rfl rfl rfl rfl rfl rfl fun G a w S => ?_
    refine sMove (.slice (some ⟨bb0, 0, none⟩) 2 2) S (wN rfl) (.inl rfl) rfl rfl (lb rfl) fun a S => ?_
    exact leafL ⟨rfl, S⟩
  · refine fI 19 (iv s3) [(3, iv s3)] 5 [none] rfl rfl rfl rfl rfl rfl fun G a w S => ?_
    refine sMove (iv s3) S (wN rfl) (.inl rfl) rfl rfl (lb rfl) fun a S => ?_
    exact leafL ⟨rfl, S⟩
  · refine fI 20 (.pointer (some ⟨bb0, 0 + (s3).toNat * 1, none⟩)) [(18, .slice (some ⟨bb0, 0, none⟩) 2 2), (19, iv s3)] 6 [some 4, some 5] rfl rfl rfl rfl rfl rfl fun G a w S => ?_
    refine sIdxV (v := .slice (some ⟨bb0, 0, none⟩) 2 2) (k := .i64) (j := s3) (q := .pointer (some ⟨bb0, 0 + (s3).toNat * 1, none⟩)) S (wN rfl) rfl rfl rfl (idxV_bsl (m := 2) (c := 2) (sz := 1) Try.underlying32 rfl (idxO_rng (m := 2) hx16 rfl).1 (idxO_rng (m := 2) hx16 rfl).2 0) rfl (lb rfl) fun a S => ?_
    exact leafL ⟨rfl, S⟩
  · refine fI 21 (iv x15) [(20, .pointer (some ⟨bb0, 0 + (s3).toNat * 1, none⟩))] 7 [some 6] rfl rfl rfl rfl rfl rfl fun G a w S => ?_
    refine sLoad1 (p := bb0) (off := 0 + (s3).toNat * 1) (T := 49) (vs := [iv s4, iv s5]) 0 (iv x15) S (wN rfl) rfl rfl rfl rfl (box_at (g := (fun z => .int .i64 z)) [] [] 0 hx16 rfl rfl) rfl (lb rfl) fun a S => ?_
    exact leafL ⟨rfl, S⟩
  · refine fI 22 (.slice (some ⟨bb0, 0, none⟩) 2 2) [(0, .slice (some ⟨bb0, 0, none⟩) 2 2)] 8 [none] rfl rfl rfl rfl rfl rfl fun G a w S => ?_
    refine sMove (.slice (some ⟨bb0, 0, none⟩) 2 2) S (wN rfl) (.inl rfl) rfl rfl (lb rfl) fun a S => ?_
    exact leafL ⟨rfl, S⟩
  · refine fI 23 (iv s2) [(2, iv s2)] 9 [none] rfl rfl rfl rfl rfl rfl fun G a w S => ?_
    refine sMove (iv s2) S (wN rfl) (.inl rfl) rfl rfl (lb rfl) fun a S => ?_
    exact leafL ⟨rfl, S⟩
  · refine fI 24 (.pointer (some ⟨bb0, 0 + (s2).toNat * 1, none⟩)) [(22, .slice (some ⟨bb0, 0, none⟩) 2 2), (23, iv s2)] 10 [some 8, some 9] rfl rfl rfl rfl rfl rfl fun G a w S => ?_
    refine sIdxV (v := .slice (some ⟨bb0, 0, none⟩) 2 2) (k := .i64) (j := s2) (q := .pointer (some ⟨bb0, 0 + (s2).toNat * 1, none⟩)) S (wN rfl) rfl rfl rfl (idxV_bsl (m := 2) (c := 2) (sz := 1) Try.underlying32 rfl (idxO_rng (m := 2) hx18 rfl).1 (idxO_rng (m := 2) hx18 rfl).2 0) rfl (lb rfl) fun a S => ?_
    exact leafL ⟨rfl, S⟩
  · refine fI 25 (iv x17) [(24, .pointer (some ⟨bb0, 0 + (s2).toNat * 1, none⟩))] 11 [some 10] rfl rfl rfl rfl rfl rfl fun G a w S => ?_
    refine sLoad1 (p := bb0) (off := 0 + (s2).toNat * 1) (T := 49) (vs := [iv s4, iv s5]) 0 (iv x17) S (wN rfl) rfl rfl rfl rfl (box_at (g := (fun z => .int .i64 z)) [] [] 0 hx18 rfl rfl) rfl (lb rfl) fun a S => ?_
    exact leafL ⟨rfl, S⟩
  · refine fI 26 (.pointer (some ⟨bb0, 0 + (s2).toNat * 1, none⟩)) [(14, .slice (some ⟨bb0, 0, none⟩) 2 2), (15, iv s2)] 12 [some 0, some 1] rfl rfl rfl rfl rfl rfl fun G a w S => ?_
    refine sIdxV (v := .slice (some ⟨bb0, 0, none⟩) 2 2) (k := .i64) (j := s2) (q := .pointer (some ⟨bb0, 0 + (s2).toNat * 1, none⟩)) S (wN rfl) rfl rfl rfl (idxV_bsl (m := 2) (c := 2) (sz := 1) Try.underlying32 rfl (idxO_rng (m := 2) hx18 rfl).1 (idxO_rng (m := 2) hx18 rfl).2 0) rfl (lb rfl) fun a S => ?_
    exact leafL ⟨rfl, S⟩
  refine ⟨_, [(21, iv x15), (26, .pointer (some ⟨bb0, 0 + (s2).toNat * 1, none⟩))], rfl, (srcs_of [some 7, some 12] rfl rfl rfl), fun G a w S => ?_⟩
  refine sStore (p := bb0) (off := 0 + (s2).toNat * 1) (T := 49) (vs := [iv s4, iv s5]) (v := iv x15) 0 [iv x15] S (wN rfl) rfl rfl rfl rfl rfl rfl rfl (by have hq := idxO_rng (m := 2) hx18 rfl; simp; omega) rfl fun a w S => ?_
  have ho23 : over [iv s4, iv s5] (0 + (s2).toNat * 1) [iv x15] = [iv (if s2 = 0 then x15 else s4), iv (if s2 = 1 then x15 else s5)] := over_at (g := (fun z => .int .i64 z)) (xs := ([s4, s5] : List Int)) (y := x15) [] [] 0 hx18 rfl rfl rfl rfl
  rw [ho23] at S
  refine leafL ⟨rfl, _, _, .inr ⟨[(14, 27, .pointer (some ⟨bb0, 0 + (s3).toNat * 1, none⟩))], rfl, S, hz_of rfl, ?_⟩⟩
  refine node_by (A := anc_slices_Reverse___int_int__s1_0) (nf := [13, 15]) (Y := [13]) 16 (by kernel_rfl) (by kernel_rfl) (by kernel_rfl) (by kernel_rfl) (by kernel_rfl) [14, 0, 1, 2, 3, 4, 5, 6, 7, 8, 9, 10, 11, 12] (by kernel_rfl) (by decide) (by decide) (aD 0 15 13 (by decide) (aD 1 14 13 (by decide) (aF 2 13 (by decide) ?_ (aF 3 12 (by decide) ?_ (aD 4 11 13 (by decide) (aD 5 10 13 (by decide) (aD 6 9 13 (by decide) (aD 7 8 13 (by decide) (aD 8 7 13 (by decide) (aD 9 6 13 (by decide) (aD 10 5 13 (by decide) (aD 11 4 13 (by decide) (aD 12 3 13 (by decide) (aY 13 2 (by decide) (aF 14 1 (by decide) ?_ (aN 15 0 (by decide) ?_ (trivial))))))))))))))))) [] (fun q hq => by cases hq) (fun hY => absurd (hY 15 (by decide)) (by decide))
  · refine fI 16 (.slice (some ⟨bb0, 0, none⟩) 2 2) [(0, .slice (some ⟨bb0, 0, none⟩) 2 2)] 3 [none] rfl rfl rfl rfl rfl rfl fun G a w S => ?_
    refine sMove (.slice (some ⟨bb0, 0, none⟩) 2 2) S (wN rfl) (.inl rfl) rfl rfl (lb rfl) fun a S => ?_
    exact leafL ⟨rfl, S⟩
  · refine fI 17 (iv s3) [(3, iv s3)] 4 [none] rfl rfl rfl rfl rfl rfl fun G a w S => ?_
    refine sMove (iv s3) S (wN rfl) (.inl rfl) rfl rfl (lb rfl) fun a S => ?_
    exact leafL ⟨rfl, S⟩
  · refine fI 27 (.pointer (some ⟨bb0, 0 + (s3).toNat * 1, none⟩)) [(16, .slice (some ⟨bb0, 0, none⟩) 2 2), (17, iv s3)] 0 [some 3, some 4] rfl rfl rfl rfl rfl rfl fun G a w S => ?_
    refine sIdxV (v := .slice (some ⟨bb0, 0, none⟩) 2 2) (k := .i64) (j := s3) (q := .pointer (some ⟨bb0, 0 + (s3).toNat * 1, none⟩)) S (wN rfl) rfl rfl rfl (idxV_bsl (m := 2) (c := 2) (sz := 1) Try.underlying32 rfl (idxO_rng (m := 2) hx21 rfl).1 (idxO_rng (m := 2) hx21 rfl).2 0) rfl (lb rfl) fun a S => ?_
    exact leafL ⟨rfl, S⟩
  refine ⟨_, [(25, iv x17), (27, .pointer (some ⟨bb0, 0 + (s3).toNat * 1, none⟩))], rfl, (srcs_of [some 12, some 0] rfl rfl rfl), fun G a w S => ?_⟩
  refine sStore (p := bb0) (off := 0 + (s3).toNat * 1) (T := 49) (vs := [iv (if s2 = 0 then x15 else s4), iv (if s2 = 1 then x15 else s5)]) (v := iv x17) 0 [iv x17] S (wN rfl) rfl rfl rfl rfl rfl rfl rfl (by have hq := idxO_rng (m := 2) hx21 rfl; simp; omega) rfl fun a w S => ?_
  have ho24 : over [iv (if s2 = 0 then x15 else s4), iv (if s2 = 1 then x15 else s5)] (0 + (s3).toNat * 1) [iv x17] = [iv (if s3 = 0 then x17 else (if s2 = 0 then x15 else s4)), iv (if s3 = 1 then x17 else (if s2 = 1 then x15 else s5))] := over_at (g := (fun z => .int .i64 z)) (xs := ([(if s2 = 0 then x15 else s4), (if s2 = 1 then x15 else s5)] : List Int)) (y := x17) [] [] 0 hx21 rfl rfl rfl rfl
  rw [ho24] at S
  refine leafL ⟨rfl, _, _, .inr ⟨[], rfl, S, hz_of rfl, ?_⟩⟩
  refine node_by (A := anc_slices_Reverse___int_int__s1_0) (nf := [13, 15]) (Y := [15, 13]) 16 (by kernel_rfl) (by kernel_rfl) (by kernel_rfl) (by kernel_rfl) (by kernel_rfl) [14, 0, 1, 2, 3, 4, 5, 6, 7, 8, 9, 10, 11, 12] (by kernel_rfl) (by decide) (by decide) (aD 0 15 15 (by decide) (aD 1 14 15 (by decide) (aD 2 13 15 (by decide) (aD 3 12 15 (by decide) (aD 4 11 15 (by decide) (aD 5 10 15 (by decide) (aD 6 9 15 (by decide) (aD 7 8 15 (by decide) (aD 8 7 15 (by decide) (aD 9 6 15 (by decide) (aD 10 5 15 (by decide) (aD 11 4 15 (by decide) (aD 12 3 15 (by decide) (aY 13 2 (by decide) (aD 14 1 15 (by decide) (aY 15 0 (by decide) (trivial))))))))))))))))) [(0, .slice (some ⟨bb0, 0, none⟩) 2 2), (2, iv s2), (3, iv s3)] (fin_of [none, none, none] rfl (by kernel_rfl) (by kernel_rfl)) (fun _ a w S => ?_)
  refine leafB (leafT (hK14 _ _ ?_))
  refine sRegion ?_
  refine sMove (iv s2) S (wN rfl) (.inl rfl) rfl rfl (lb rfl) fun a S => ?_
  refine sBin (iv (w64 (s2 + 1))) S (wN rfl) rfl rfl rfl (bAdd _ _ _ _ s2 1) rfl (lb rfl) fun a S => ?_
  refine sMove (iv s3) S (wN rfl) (.inl rfl) rfl rfl (lb rfl) fun a S => ?_
  refine sBin (iv (w64 (s3 - 1))) S (wN rfl) rfl rfl rfl (bSub _ _ _ _ s3 1) rfl (lb rfl) fun a S => ?_
  refine sMove (iv (w64 (s2 + 1))) S (wN rfl) (.inr rfl) rfl rfl (lb rfl) fun a S => ?_
  refine sMove (iv (w64 (s3 - 1))) S (wN rfl) (.inr rfl) rfl rfl (lb rfl) fun a S => ?_
  exact leafL (leafT (⟨(w64 (s2 + 1), w64 (s3 - 1), (if s3 = 0 then x17 else (if s2 = 0 then x15 else s4)), (if s3 = 1 then x17 else (if s2 = 1 then x15 else s5))), (Option.some.inj h).symm, (S.fix [0] [] (by decide) rfl rfl rfl)⟩))

end Go.Proofs.Yticjoiolfibmlaa
