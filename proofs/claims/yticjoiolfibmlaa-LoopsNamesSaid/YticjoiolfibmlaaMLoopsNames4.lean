/- Several texts in one: G11 G66s0 G55s0 G56s0 G43s0 G33s0 G11s0 G13 G15 G15s0 G18 G19 G30 KeAlive G20 -/
import Derived.WalkKit
import Derived.Maps.AppendAt
import Derived.Deep.AppendLies
import Derived.KernelRfl
import Derived.Laws.OwnMore
import Derived.Great.BuildSlice
import Derived.Orders
import Derived.Laws.StructEq
import Derived.ChangeKeysEq
import Derived.Defers
import Derived.Laws.BytesString
import Derived.RangeFuncNested
import Derived.RangeFuncBound
import Derived.RangeFuncCalls
import Derived.RangeFuncLeaves
import Derived.OrdersIn
import Derived.LoopNIn
import Derived.ArgAppend
import Derived.Lib.AppendZeros
import Derived.Test.YticjoiolfibmlaaProg
import Derived.ProofKit
import Derived.OpenShut
import Derived.ChangeOld
import Derived.Deep.Slices
import Derived.Lib.SmallJoins
import Derived.JoinedOf
import Derived.JoinedAt
import Derived.Below
import Derived.Test.YticjoiolfibmlaaRows
import Derived.Test.YticjoiolfibmlaaMLoopsNames3
namespace Go.Proofs.Yticjoiolfibmlaa
open Go.RowKit
set_option linter.unusedVariables false

noncomputable def F_loops_Of (p0 : api_Chart) : Option ((List api_Loop) × Int) :=
  Option.bind (F_loops_of p0) fun r8 =>
  some (r8.1.loops, r8.2)
def c_loops_Of_val (r : ((List api_Loop) × Int)) (x : Value) : Value := .tuple #[x, .int .i64 r.2]
def c_loops_Of_D (r : ((List api_Loop) × Int)) (x : Value) : List Fact := [fRep (rL r_api_Loop) x r.1]
set_option maxHeartbeats 4000000 in
set_option maxRecDepth 100000 in
theorem c_loops_Of (E : Nat → Prop) (w0 : World) (p0 : api_Chart) (v0 : Value) (r : ((List api_Loop) × Int)) (h : F_loops_Of p0 = some r) (S : St0 E [] w0 w0 [] [fRep r_api_Chart (v0) p0]) :
    Calls Try.prog 11 #[v0] w0 (Ret (X := Value) E [] w0 (c_loops_Of_val r) (fun _ => []) (c_loops_Of_D r)) := by
  unfold F_loops_Of at h
  obtain ⟨u1, rfl, hu2⟩ := S.know (i := 0) (e := fRep r_api_Chart (v0) p0) rfl
  have S := S.learn (fRep (rL r_api_Row) u1 p0.Rows) hu2
  obtain ⟨ad3, cp4, _, rfl, _⟩ := hu2
  refine sEnter (args := [.agg #[iv p0.Start, .slice ad3 p0.Rows.length cp4]]) 14 Try.func11 rfl rfl (by simp) S (fun a S => ?_)
  refine sSeq (fun K5 hK5 => ?_)
  refine sRegion ?_
  refine sBox (v := .agg #[iv p0.Start, .slice ad3 p0.Rows.length cp4]) S (wN rfl) rfl rfl [iv p0.Start, .slice ad3 p0.Rows.length cp4] rfl rfl (lb rfl) fun a b6 w S => ?_
  refine sMove (.slice none 0 0) S (wN rfl) (.inr rfl) rfl rfl (lb rfl) fun a S => ?_
  refine sMove (iv 0) S (wN rfl) (.inr rfl) rfl rfl (lb rfl) fun a S => ?_
  refine leafL (leafT (hK5 _ _ ?_))
  refine sSeq (fun K7 hK7 => ?_)
  refine sRegion ?_
  refine sLoadN (p := b6) (off := 0) (T := 24) (vs := [iv p0.Start, .slice ad3 p0.Rows.length cp4]) 0 [iv p0.Start, .slice ad3 p0.Rows.length cp4] S (wN rfl) rfl rfl rfl rfl rfl rfl rfl (lb rfl) fun a S => ?_
  obtain ⟨r8, hx9, h⟩ := bindSome h
  refine sCall (X := Value) (f := 33) (vs := [.agg #[iv p0.Start, .slice ad3 p0.Rows.length cp4]]) (val := c_loops_of_val r8) (B' := fun _ => []) (D' := c_loops_of_D r8) [] [eBox b6 24 [iv p0.Start, .slice ad3 p0.Rows.length cp4]] [fRep r_api_Chart (.agg #[iv p0.Start, .slice ad3 p0.Rows.length cp4]) p0] [0] [1] S (wN rfl) rfl callee33 rfl (by decide) rfl rfl (fun E1 w1 S1 => c_loops_of E1 w1 p0 (.agg #[iv p0.Start, .slice ad3 p0.Rows.length cp4]) r8 hx9 S1) rfl (lb rfl) fun u10 a w S => ?_
  obtain ⟨u11, u12, u13, u14, rfl, hu15, hu16, hu17, hu18⟩ := S.mem.know (i := 0) (e := fRep r_loops_piece (u10) r8.1) rfl
  have S := S.learn (fRep (rL r_api_Loop) u11 r8.1.loops) hu15
  obtain ⟨ad19, cp20, _, rfl, _⟩ := hu15
  have S := S.learn (fRep (rL (rI .i64)) u12 r8.1.rows) hu16
  obtain ⟨ad21, cp22, _, rfl, _⟩ := hu16
  have S := S.learn (fRep (rL (rI .i64)) u13 r8.1.bound) hu17
  obtain ⟨ad23, cp24, _, rfl, _⟩ := hu17
  have S := S.learn (fRep (rL r_A2_Int) u14 r8.1.cross) hu18
  obtain ⟨ad25, cp26, _, rfl, _⟩ := hu18
  refine sMove (.tuple #[.agg #[.slice ad19 r8.1.loops.length cp20, .slice ad21 r8.1.rows.length cp22, .slice ad23 r8.1.bound.length cp24, .slice ad25 r8.1.cross.length cp26, iv r8.1.next], iv r8.2]) S (wN rfl) (.inl rfl) rfl rfl (lb rfl) fun a S => ?_
  refine sExtract (vs := [.agg #[.slice ad19 r8.1.loops.length cp20, .slice ad21 r8.1.rows.length cp22, .slice ad23 r8.1.bound.length cp24, .slice ad25 r8.1.cross.length cp26, iv r8.1.next], iv r8.2]) (.agg #[.slice ad19 r8.1.loops.length cp20, .slice ad21 r8.1.rows.length cp22, .slice ad23 r8.1.bound.length cp24, .slice ad25 r8.1.cross.length cp26, iv r8.1.next]) S (wN rfl) rfl rfl rfl rfl (lb rfl) fun a S => ?_
  refine sExtract (vs := [.agg #[.slice ad19 r8.1.loops.length cp20, .slice ad21 r8.1.rows.length cp22, .slice ad23 r8.1.bound.length cp24, .slice ad25 r8.1.cross.length cp26, iv r8.1.next], iv r8.2]) (iv r8.2) S (wN rfl) rfl rfl rfl rfl (lb rfl) fun a S => ?_
  refine sAlloc (.agg #[.slice none 0 0, .slice none 0 0, .slice none 0 0, .slice none 0 0, iv 0]) S (wN rfl) rfl rfl [.slice none 0 0, .slice none 0 0, .slice none 0 0, .slice none 0 0, iv 0] rfl rfl (lb rfl) fun a b27 w S => ?_
  refine sStore (p := b27) (off := 0) (T := 73) (vs := [.slice none 0 0, .slice none 0 0, .slice none 0 0, .slice none 0 0, iv 0]) (v := .agg #[.slice ad19 r8.1.loops.length cp20, .slice ad21 r8.1.rows.length cp22, .slice ad23 r8.1.bound.length cp24, .slice ad25 r8.1.cross.length cp26, iv r8.1.next]) 0 [.slice ad19 r8.1.loops.length cp20, .slice ad21 r8.1.rows.length cp22, .slice ad23 r8.1.bound.length cp24, .slice ad25 r8.1.cross.length cp26, iv r8.1.next] S (wN rfl) rfl rfl rfl rfl rfl rfl rfl (by simp) rfl fun a w S => ?_
  refine sMove (iv r8.2) S (wN rfl) (.inr rfl) rfl rfl (lb rfl) fun a S => ?_
  refine leafL (leafT (hK7 _ _ ?_))
  refine sSeq (fun K28 hK28 => ?_)
  refine sRegion ?_
  refine sField (b := b27) (off := 0) 0 0 S (wN rfl) rfl rfl rfl rfl rfl (lb rfl) fun a S => ?_
  refine sLoad1 (p := b27) (off := 0) (T := 73) (vs := [.slice ad19 r8.1.loops.length cp20, .slice ad21 r8.1.rows.length cp22, .slice ad23 r8.1.bound.length cp24, .slice ad25 r8.1.cross.length cp26, iv r8.1.next]) 0 (.slice ad19 r8.1.loops.length cp20) S (wN rfl) rfl rfl rfl rfl rfl rfl (lb rfl) fun a S => ?_
  refine sMove (iv r8.2) S (wN rfl) (.inl rfl) rfl rfl (lb rfl) fun a S => ?_
  refine sMove (.slice ad19 r8.1.loops.length cp20) S (wN rfl) (.inr rfl) rfl rfl (lb rfl) fun a S => ?_
  refine sMove (iv r8.2) S (wN rfl) (.inr rfl) rfl rfl (lb rfl) fun a S => ?_
  refine leafL (leafT (hK28 _ _ ?_))
  obtain rfl := Option.some.inj h
  exact wp_ret (sRet (.tuple #[.slice ad19 r8.1.loops.length cp20, iv r8.2]) S (rsl2 rfl (rvT (t := 2) (v := .slice ad19 r8.1.loops.length cp20) S rfl) (rvT (t := 3) (v := iv r8.2) S rfl)) ⟨(.slice ad19 r8.1.loops.length cp20), rfl, S.mem.sel [] [3] (by decide) rfl rfl⟩)

end Go.Proofs.Yticjoiolfibmlaa
namespace Go.Proofs.Yticjoiolfibmlaa
open Go.RowKit
set_option linter.unusedVariables false

noncomputable def F_slices_Backward___api_Stitch_api_Stitch__s0 (p0 : (List api_Stitch)) : Option (List api_Stitch) :=
  some p0
def c_slices_Backward___api_Stitch_api_Stitch__s0_val (r : (List api_Stitch)) (x : Value) : Value := .func (.func 73) #[] #[x]
def c_slices_Backward___api_Stitch_api_Stitch__s0_D (r : (List api_Stitch)) (x : Value) : List Fact := [fPtr (rL r_api_Stitch) x r]
set_option maxHeartbeats 4000000 in
set_option maxRecDepth 100000 in
theorem c_slices_Backward___api_Stitch_api_Stitch__s0 (E : Nat → Prop) (w0 : World) (p0 : (List api_Stitch)) (v0 : Value) (r : (List api_Stitch)) (h : F_slices_Backward___api_Stitch_api_Stitch__s0 p0 = some r) (S : St0 E [] w0 w0 [] [fRep (rL r_api_Stitch) (v0) p0]) :
    Calls Try.prog 66 #[v0] w0 (Ret (X := Value) E [] w0 (c_slices_Backward___api_Stitch_api_Stitch__s0_val r) (fun _ => []) (c_slices_Backward___api_Stitch_api_Stitch__s0_D r)) := by
  unfold F_slices_Backward___api_Stitch_api_Stitch__s0 at h
  obtain ⟨ad1, cp2, _, rfl, _⟩ := S.know (i := 0) (e := fRep (rL r_api_Stitch) (v0) p0) rfl
  refine sEnter (args := [.slice ad1 p0.length cp2]) 4 Try.func66 rfl rfl (by simp) S (fun a S => ?_)
  refine sSeq (fun K3 hK3 => ?_)
  refine sRegion ?_
  refine sBox (v := .slice ad1 p0.length cp2) S (wN rfl) rfl rfl [.slice ad1 p0.length cp2] rfl rfl (lb rfl) fun a b4 w S => ?_
  refine sMove (.nilFunc) S (wN rfl) (.inr rfl) rfl rfl (lb rfl) fun a S => ?_
  refine leafL (leafT (hK3 _ _ ?_))
  refine sSeq (fun K5 hK5 => ?_)
  refine sRegion ?_
  refine sFunc (g := 73) (vs := [.pointer (some ⟨b4, 0, none⟩)]) S (wN rfl) rfl rfl rfl (lb rfl) fun a S => ?_
  refine sMove (.func (.func 73) #[] #[.pointer (some ⟨b4, 0, none⟩)]) S (wN rfl) (.inr rfl) rfl rfl (lb rfl) fun a S => ?_
  refine leafL (leafT (hK5 _ _ ?_))
  have S := S.shutB (r := (rL r_api_Stitch)) (T := 62) (b := b4) (cs := [.slice ad1 p0.length cp2]) 0 (.slice ad1 p0.length cp2) p0 rfl rfl (S.mem.know (i := 0) (e := fRep (rL r_api_Stitch) (.slice ad1 p0.length cp2) p0) rfl)
  obtain rfl := Option.some.inj h
  exact wp_ret (sRet (.func (.func 73) #[] #[.pointer (some ⟨b4, 0, none⟩)]) S (rsl1 rfl (rvT (t := 2) (v := .func (.func 73) #[] #[.pointer (some ⟨b4, 0, none⟩)]) S rfl)) ⟨(.pointer (some ⟨b4, 0, none⟩)), rfl, S.mem.sel [] [0] (by decide) rfl rfl⟩)

end Go.Proofs.Yticjoiolfibmlaa
namespace Go.Proofs.Yticjoiolfibmlaa
open Go.RowKit
set_option linter.unusedVariables false

noncomputable def stitch_Turn_s0_l2  : List api_Stitch → (Int × api_Stitch) → Option (List api_Stitch ⊕ Empty) := fun s0 x0 => match s0, x0 with
  | s22, (x25, x27) =>
    Option.bind (F_stitch_forms x27.Kind) fun r31 =>
    Option.bind (α := Bool) (
      if r31.1.sided then
        some (!x27.Purl)
      else
        some false) fun o35 =>
    Option.bind (α := (Int × Int)) (
      if decide (0 < r31.1.b.2) then
        some (x27.B, x27.A)
      else
        some (x27.A, x27.B)) fun (o39, o40) =>
    Option.bind (appO s22 [(api_Stitch.mk x27.Kind o35 o39 o40)]) fun l47 =>
    some (.inl l47)
noncomputable def F_stitch_Turn_s0 (p0 : (List api_Stitch)) : Option ((List api_Stitch) × Int) :=
  Option.bind (F_stitch_All p0) fun r6 =>
  if r6 != 0 then
    some (([] : (List api_Stitch)), r6)
  else
    Option.bind (capO (p0.length : Int)) fun z14 =>
    Option.bind (F_slices_Backward___api_Stitch_api_Stitch__s0 p0) fun r19 =>
    Option.bind (I_slices_Backward___api_Stitch_api_Stitch__1 r19 _ _ (stitch_Turn_s0_l2) ([] : List api_Stitch)) fun z0 => match z0 with
      | .inl s22 =>
        some (s22, 0)
      | .inr z0 =>
        nomatch z0
set_option maxHeartbeats 4000000 in
set_option maxRecDepth 100000 in
theorem c_stitch_Turn_s0 (E : Nat → Prop) (w0 : World) (p0 : (List api_Stitch)) (v0 : Value) (r : ((List api_Stitch) × Int)) (h : F_stitch_Turn_s0 p0 = some r) (S : St0 E [] w0 w0 [] [fRep (rL r_api_Stitch) (v0) p0]) :
    Calls Try.prog 55 #[v0] w0 (Ret (X := Option Addr × Nat) E [] w0 (fun x => .tuple #[.slice x.1 r.1.length x.2, iv r.2]) (fun x => [eRow r_api_Stitch 61 (.slice x.1 r.1.length x.2) r.1]) (fun _ => [])) := by
  unfold F_stitch_Turn_s0 at h
  obtain ⟨ad1, cp2, _, rfl, _⟩ := S.know (i := 0) (e := fRep (rL r_api_Stitch) (v0) p0) rfl
  refine sEnterM (args := [.slice ad1 p0.length cp2]) 51 Try.func55 rfl rfl (by simp) S (fun a S => ?_)
  refine sSeq (fun K3 hK3 => ?_)
  refine sRegion ?_
  refine sMove (.slice none 0 0) S (wN rfl) (.inr rfl) rfl rfl (lb rfl) fun a S => ?_
  refine sMove (iv 0) S (wN rfl) (.inr rfl) rfl rfl (lb rfl) fun a S => ?_
  refine leafL (leafT (hK3 _ _ ?_))
  refine sSeq (fun K4 hK4 => ?_)
  refine sSeq (fun K5 hK5 => ?_)
  refine sRegion ?_
  refine sMove (.slice ad1 p0.length cp2) S (wN rfl) (.inl rfl) rfl rfl (lb rfl) fun a S => ?_
  obtain ⟨r6, hx7, h⟩ := bindSome h
  have S1 := S.mem
  refine sCallQ (X := Unit) (f := 64) (vs := [.slice ad1 p0.length cp2]) (val := fun _ => iv r6) S (wN rfl) rfl callee64 rfl (S1.quiet [0] rfl) (fun E1 w1 S1 => c_stitch_All E1 w1 p0 (.slice ad1 p0.length cp2) r6 hx7 S1) rfl (lb rfl) fun _ a w S => ?_
  refine sMove (iv r6) S (wN rfl) (.inr rfl) rfl rfl (lb rfl) fun a S => ?_
  refine leafL (leafT (hK5 _ _ ?_))
  refine sSeq (fun K8 hK8 => ?_)
  refine sRegion ?_
  refine sMove (iv r6) S (wN rfl) (.inl rfl) rfl rfl (lb rfl) fun a S => ?_
  refine sBin (.bool (r6 != 0)) S (wN rfl) rfl rfl rfl (bNe _ _ _ _ .i64 r6 0) rfl (lb rfl) fun a S => ?_
  refine leafL (leafT (hK8 _ _ ?_))
  rcases iteSome h with ⟨hc9, h⟩ | ⟨hc9, h⟩
  · refine sCondT S rfl hc9 ?_
    refine sSeq (fun K10 hK10 => ?_)
    refine sRegion ?_
    refine sMove (iv r6) S (wN rfl) (.inl rfl) rfl rfl (lb rfl) fun a S => ?_
    refine sMove (.slice none 0 0) S (wN rfl) (.inr rfl) rfl rfl (lb rfl) fun a S => ?_
    refine sMove (iv r6) S (wN rfl) (.inr rfl) rfl rfl (lb rfl) fun a S => ?_
    refine leafL (leafT (hK10 _ _ ?_))
    obtain rfl := Option.some.inj h
    have S := S.nilRow r_api_Stitch 61 (α := api_Stitch)
    exact wp_ret (rThen (sRetM0 (.tuple #[.slice none 0 0, iv r6]) S (rsl2 rfl (rvT (t := 2) (v := .slice none 0 0) S rfl) (rvT (t := 3) (v := iv r6) S rfl)) ⟨(none, 0), rfl, S.mem.sel [0] [] (by decide) rfl rfl⟩))
  refine sCondF S rfl hc9 ?_
  refine wp_skip (leafT (hK4 _ _ ?_))
  refine sSeq (fun K11 hK11 => ?_)
  refine sRegion ?_
  refine sMove (.slice ad1 p0.length cp2) S (wN rfl) (.inl rfl) rfl rfl (lb rfl) fun a S => ?_
  refine sLen (ad := ad1) (m := p0.length) (c := cp2) S (wN rfl) rfl Try.underlying62 rfl rfl (lb rfl) fun a S => ?_
  obtain ⟨z14, hx15, h⟩ := bindSome h
  refine sMake0 r_api_Stitch (m := (p0.length : Int)) (u := z14) (.agg #[.int .u8 0, .bool false, iv 0, iv 0]) 24 S (wN rfl) rfl Try.underlying62 rfl (by decide) rfl rfl hx15 rfl (lb rfl) fun a w ad12 cp13 S => ?_
  refine sAlloc (.slice none 0 0) S (wN rfl) rfl rfl [.slice none 0 0] rfl rfl (lb rfl) fun a b16 w S => ?_
  refine sStore (p := b16) (off := 0) (T := 62) (vs := [.slice none 0 0]) (v := .slice ad12 ([] : List api_Stitch).length cp13) 0 [.slice ad12 ([] : List api_Stitch).length cp13] S (wN rfl) rfl rfl rfl rfl rfl rfl rfl (by simp) rfl fun a w S => ?_
  refine leafL (leafT (hK11 _ _ ?_))
  refine sSeq (fun K17 hK17 => ?_)
  refine sSeq (fun K18 hK18 => ?_)
  refine sRegion ?_
  refine sMove (.slice ad1 p0.length cp2) S (wN rfl) (.inl rfl) rfl rfl (lb rfl) fun a S => ?_
  obtain ⟨r19, hx20, h⟩ := bindSome h
  refine sCall (X := Value) (f := 66) (vs := [.slice ad1 p0.length cp2]) (val := c_slices_Backward___api_Stitch_api_Stitch__s0_val r19) (B' := fun _ => []) (D' := c_slices_Backward___api_Stitch_api_Stitch__s0_D r19) [] [eBox b16 62 [.slice ad12 ([] : List api_Stitch).length cp13], eRow r_api_Stitch 61 (.slice ad12 ([] : List api_Stitch).length cp13) ([] : List api_Stitch)] [fRep (rL r_api_Stitch) (.slice ad1 p0.length cp2) p0] [0, 1] [0] S (wN rfl) rfl callee66 rfl (by decide) rfl rfl (fun E1 w1 S1 => c_slices_Backward___api_Stitch_api_Stitch__s0 E1 w1 p0 (.slice ad1 p0.length cp2) r19 hx20 S1) rfl (lb rfl) fun u21 a w S => ?_
  refine leafL (leafT (hK18 _ _ ?_))
  refine wp_block ?_
  obtain ⟨t53, hl54, g52⟩ := bindSome h
  replace S : St [] E [] w0 51 a w [(5, .pointer (some ⟨b16, 0, none⟩)), (19, .func (.func 73) #[] #[u21])] [eBox b16 62 [.slice ad12 ([] : List api_Stitch).length cp13], eRow r_api_Stitch 61 (.slice ad12 ([] : List api_Stitch).length cp13) ([] : List api_Stitch)] [fPtr (rL r_api_Stitch) (u21) r19] := S.fix [0, 1] [0] (by decide) rfl rfl rfl
  refine sRange2 (B := stitch_Turn_s0_l2) (fun s0 L D => match s0 with | s22 => ∃ ad23, ∃ cp24, L = [eBox b16 62 [.slice ad23 s22.length cp24], eRow r_api_Stitch 61 (.slice ad23 s22.length cp24) s22] ∧ D = [fPtr (rL r_api_Stitch) (u21) r19]) (fun _ _ _ _ => False) [0] S hl54 rfl callee73 (it_slices_Backward___api_Stitch_api_Stitch__1 r19 u21) rfl (by decide) (by decide) ⟨ad12, cp13, rfl, rfl⟩ ?_ ?_ ?_
  · intro E l0 s22 x25 x27 u26 u28 b L D K a w0 hK hIL hB S
    clear hl54 g52 h hK
    unfold stitch_Turn_s0_l2 at hB
    dsimp only at hB hIL
    obtain ⟨ad23, cp24, rfl, rfl⟩ := hIL
    have h := hB
    clear hB
    obtain rfl : u26 = iv x25 := S.mem.know (i := 0) (e := fRep (rI .i64) (u26) x25) rfl
    obtain rfl : u28 = .agg #[.int .u8 x27.Kind, .bool x27.Purl, iv x27.A, iv x27.B] := S.mem.know (i := 1) (e := fRep r_api_Stitch (u28) x27) rfl
    refine sRegionR (by repeat (first | exact roundU_out | exact it_out | exact lo_false | refine lo_then ?_ | refine lo_block ?_)) rfl ?_
    refine sAlloc (.agg #[.int .u8 0, .bool false, iv 0, iv 0]) S (wN rfl) rfl rfl [.int .u8 0, .bool false, iv 0, iv 0] rfl rfl (lb rfl) fun a b29 w S => ?_
    refine sStore (p := b29) (off := 0) (T := 61) (vs := [.int .u8 0, .bool false, iv 0, iv 0]) (v := .agg #[.int .u8 x27.Kind, .bool x27.Purl, iv x27.A, iv x27.B]) 0 [.int .u8 x27.Kind, .bool x27.Purl, iv x27.A, iv x27.B] S (wN rfl) rfl rfl rfl rfl rfl rfl rfl (by simp) rfl fun a w S => ?_
    refine leafL (leafT (⟨_, _, _, S, fun K a w0 hK S => ?_⟩))
    refine wpIn_block ?_
    refine sSeqR (fun K30 hK30 => ?_)
    refine sRegionR (by repeat (first | exact roundU_out | exact it_out | exact lo_false | refine lo_then ?_ | refine lo_block ?_)) rfl ?_
    refine sField (b := b29) (off := 0) 0 0 S (wN rfl) rfl rfl rfl rfl rfl (lb rfl) fun a S => ?_
    refine sLoad1 (p := b29) (off := 0) (T := 61) (vs := [.int .u8 x27.Kind, .bool x27.Purl, iv x27.A, iv x27.B]) 0 (.int .u8 x27.Kind) S (wN rfl) rfl rfl rfl rfl rfl rfl (lb rfl) fun a S => ?_
    obtain ⟨r31, hx32, h⟩ := bindSome h
    refine sCall (X := Value) (f := 67) (vs := [.int .u8 x27.Kind]) (val := c_stitch_forms_val r31) (B' := fun _ => []) (D' := c_stitch_forms_D r31) [] [eBox b29 61 [.int .u8 x27.Kind, .bool x27.Purl, iv x27.A, iv x27.B], eBox b16 62 [.slice ad23 s22.length cp24], eRow r_api_Stitch 61 (.slice ad23 s22.length cp24) s22] [] [0, 1, 2] [] S (wN rfl) rfl callee67 rfl (by decide) rfl rfl (fun E1 w1 S1 => c_stitch_forms E1 w1 x27.Kind r31 hx32 S1) rfl (lb rfl) fun u33 a w S => ?_
    obtain rfl : u33 = gv_stitch_form r31.1 := S.mem.know (i := 0) (e := fRep r_stitch_form (u33) r31.1) rfl
    refine sMove (.tuple #[gv_stitch_form r31.1, .bool r31.2]) S (wN rfl) (.inl rfl) rfl rfl (lb rfl) fun a S => ?_
    refine sExtract (vs := [gv_stitch_form r31.1, .bool r31.2]) (gv_stitch_form r31.1) S (wN rfl) rfl rfl rfl rfl (lb rfl) fun a S => ?_
    refine sExtract (vs := [gv_stitch_form r31.1, .bool r31.2]) (.bool r31.2) S (wN rfl) rfl rfl rfl rfl (lb rfl) fun a S => ?_
    refine sAlloc (gv_stitch_form (stitch_form.mk (⟨#[]⟩ : ByteArray) (0, 0) (0, 0) false 0 0)) S (wN rfl) rfl rfl (gl_stitch_form (stitch_form.mk (⟨#[]⟩ : ByteArray) (0, 0) (0, 0) false 0 0)) rfl rfl (lb rfl) fun a b34 w S => ?_
    refine sStore (p := b34) (off := 0) (T := 115) (vs := [.string (⟨#[]⟩ : ByteArray), iv 0, iv 0, iv 0, iv 0, .bool false, iv 0, iv 0]) (v := gv_stitch_form r31.1) 0 [.string r31.1.letter, iv r31.1.a.1, iv r31.1.a.2, iv r31.1.b.1, iv r31.1.b.2, .bool r31.1.sided, iv r31.1.uses, iv r31.1.made] S (wN rfl) rfl rfl rfl rfl rfl rfl rfl (by simp) rfl fun a w S => ?_
    refine sMove (.bool r31.2) S (wN rfl) (.inr rfl) rfl rfl (lb rfl) fun a S => ?_
    refine leafL (leafT (hK30 _ _ ?_))
    obtain ⟨t36, h, g37⟩ := bindSome h
    refine sCutR (fun a w => ∃ o35, o35 = t36 ∧ St [] E K w0 51 a w [(5, .pointer (some ⟨b16, 0, none⟩)), (7, .pointer (some ⟨b29, 0, none⟩)), (8, .pointer (some ⟨b34, 0, none⟩)), (19, .func (.func 73) #[] #[u21]), (21, .agg #[.int .u8 x27.Kind, .bool x27.Purl, iv x27.A, iv x27.B])] [eBox b16 62 [.slice ad23 s22.length cp24], eBox b29 61 [.int .u8 x27.Kind, .bool o35, iv x27.A, iv x27.B], eBox b34 115 (gl_stitch_form r31.1), eRow r_api_Stitch 61 (.slice ad23 s22.length cp24) s22] [fPtr (rL r_api_Stitch) (u21) r19]) ?_ (fun a w hI => ?_)
    · refine sRegionR (by repeat (first | exact roundU_out | exact it_out | exact lo_false | refine lo_then ?_ | refine lo_block ?_)) rfl ?_
      refine sField (b := b34) (off := 0) 5 5 S (wN rfl) rfl rfl rfl rfl rfl (lb rfl) fun a S => ?_
      refine sLoad1 (p := b34) (off := 5) (T := 115) (vs := (gl_stitch_form r31.1)) 0 (.bool r31.1.sided) S (wN rfl) rfl rfl rfl rfl rfl rfl (lb rfl) fun a S => ?_
      refine sMove (.bool r31.1.sided) S (wN rfl) (.inl rfl) rfl rfl (lb rfl) fun a S => ?_
      rcases iteSome h with ⟨hc38, h⟩ | ⟨hc38, h⟩
      rotate_left
      · refine sSkip 2 true 30 31 S rfl rfl rfl hc38 rfl (lb rfl) fun a S => ?_
        refine sSkip 2 true 30 32 S rfl rfl rfl hc38 rfl (lb rfl) fun a S => ?_
        refine sSkip 2 true 30 33 S rfl rfl rfl hc38 rfl (lb rfl) fun a S => ?_
        refine sPickF (.bool false) S (wN rfl) rfl rfl hc38 rfl rfl (lb rfl) fun a S => ?_
        refine sField (b := b29) (off := 0) 1 1 S (wN rfl) rfl rfl rfl rfl rfl (lb rfl) fun a S => ?_
        refine sStore (p := b29) (off := 1) (T := 61) (vs := [.int .u8 x27.Kind, .bool x27.Purl, iv x27.A, iv x27.B]) (v := .bool false) 1 [.bool false] S (wN rfl) rfl rfl rfl rfl rfl rfl rfl (by simp) rfl fun a w S => ?_
        exact leafL (leafT (⟨false, Option.some.inj h, S.fix [2, 0, 1, 3] [3] (by decide) rfl rfl rfl⟩))
      refine sField (b := b29) (off := 0) 1 1 S (wG 2 true 30 rfl rfl rfl hc38) rfl rfl rfl rfl rfl (lb rfl) fun a S => ?_
      refine sLoad1 (p := b29) (off := 1) (T := 61) (vs := [.int .u8 x27.Kind, .bool x27.Purl, iv x27.A, iv x27.B]) 1 (.bool x27.Purl) S (wG 2 true 30 rfl rfl rfl hc38) rfl rfl rfl rfl rfl rfl (lb rfl) fun a S => ?_
      refine sNot (b := x27.Purl) S (wG 2 true 30 rfl rfl rfl hc38) rfl rfl rfl (lb rfl) fun a S => ?_
      refine sPickT (.bool (!x27.Purl)) S (wN rfl) rfl rfl hc38 rfl rfl (lb rfl) fun a S => ?_
      refine sField (b := b29) (off := 0) 1 1 S (wN rfl) rfl rfl rfl rfl rfl (lb rfl) fun a S => ?_
      refine sStore (p := b29) (off := 1) (T := 61) (vs := [.int .u8 x27.Kind, .bool x27.Purl, iv x27.A, iv x27.B]) (v := .bool (!x27.Purl)) 1 [.bool (!x27.Purl)] S (wN rfl) rfl rfl rfl rfl rfl rfl rfl (by simp) rfl fun a w S => ?_
      exact leafL (leafT (⟨!x27.Purl, Option.some.inj h, S.fix [2, 0, 1, 3] [3] (by decide) rfl rfl rfl⟩))
    obtain ⟨o35, rfl, S⟩ := hI
    have h := g37
    clear g37
    try dsimp only at h
    obtain ⟨t41, h, g42⟩ := bindSome h
    refine sCutR (fun a w => ∃ o39, ∃ o40, (o39, o40) = t41 ∧ St [] E K w0 51 a w [(5, .pointer (some ⟨b16, 0, none⟩)), (7, .pointer (some ⟨b29, 0, none⟩)), (19, .func (.func 73) #[] #[u21]), (21, .agg #[.int .u8 x27.Kind, .bool x27.Purl, iv x27.A, iv x27.B])] [eBox b16 62 [.slice ad23 s22.length cp24], eBox b29 61 [.int .u8 x27.Kind, .bool o35, iv o39, iv o40], eRow r_api_Stitch 61 (.slice ad23 s22.length cp24) s22] [fPtr (rL r_api_Stitch) (u21) r19]) ?_ (fun a w hI => ?_)
    rotate_left
    · obtain ⟨o39, o40, rfl, S⟩ := hI
      have h := g42
      clear g42
      try dsimp only at h
      refine sRegionR (by repeat (first | exact roundU_out | exact it_out | exact lo_false | refine lo_then ?_ | refine lo_block ?_)) rfl ?_
      refine sLoad1 (p := b16) (off := 0) (T := 62) (vs := [.slice ad23 s22.length cp24]) 0 (.slice ad23 s22.length cp24) S (wN rfl) rfl rfl rfl rfl rfl rfl (lb rfl) fun a S => ?_
      refine sLoadN (p := b29) (off := 0) (T := 61) (vs := [.int .u8 x27.Kind, .bool o35, iv o39, iv o40]) 1 [.int .u8 x27.Kind, .bool o35, iv o39, iv o40] S (wN rfl) rfl rfl rfl rfl rfl rfl rfl (lb rfl) fun a S => ?_
      have S := S.learn (fRep r_api_Stitch (.agg #[.int .u8 x27.Kind, .bool o35, iv o39, iv o40]) (api_Stitch.mk x27.Kind o35 o39 o40)) rfl
      refine sLit (r := r_api_Stitch) (T := 61) (xs := [(api_Stitch.mk x27.Kind o35 o39 o40)]) [(0, .agg #[.int .u8 x27.Kind, .bool o35, iv o39, iv o40])] 1 [.agg #[.int .u8 x27.Kind, .bool o35, iv o39, iv o40]] [.int .u8 x27.Kind, .bool o35, iv o39, iv o40] (.agg #[.int .u8 0, .bool false, iv 0, iv 0]) 24 S (wN rfl) rfl rfl Try.underlying62 rfl (by decide) (by decide) (by kernel_rfl) rfl (fun E1 w1 hE => All.cons (r_api_Stitch.mono hE (S.mem.know (i := 0) (e := fRep r_api_Stitch (.agg #[.int .u8 x27.Kind, .bool o35, iv o39, iv o40]) (api_Stitch.mk x27.Kind o35 o39 o40)) rfl)) (All.nil _ _ _)) rfl rfl (lb rfl) fun a w ad45 cp46 S => ?_
      obtain ⟨l47, hx48, h⟩ := bindSome h
      refine sApp (r := r_api_Stitch) (T := 61) (xs := s22) (ys := [(api_Stitch.mk x27.Kind o35 o39 o40)]) (v := .slice ad23 s22.length cp24) (u := .slice ad45 [(api_Stitch.mk x27.Kind o35 o39 o40)].length cp46) 3 (.agg #[.int .u8 0, .bool false, iv 0, iv 0]) 24 S (wN rfl) rfl Try.underlying62 rfl rfl (by decide) rfl rfl rfl (src_R (T := 61) 0 S.mem rfl) hx48 rfl (lb rfl) fun a w ad49 cp50 S => ?_
      refine sStore (p := b16) (off := 0) (T := 62) (vs := [.slice ad23 s22.length cp24]) (v := .slice ad49 l47.length cp50) 2 [.slice ad49 l47.length cp50] S (wN rfl) rfl rfl rfl rfl rfl rfl rfl (by simp) rfl fun a w S => ?_
      exact leafL (leafB (rnN l47 _ _ [] (Option.some.inj h) ⟨ad49, cp50, rfl, rfl⟩ (S.fix [0, 1] [1] (by decide) rfl rfl rfl)))
    refine sSeqR (fun K43 hK43 => ?_)
    refine sRegionR (by repeat (first | exact roundU_out | exact it_out | exact lo_false | refine lo_then ?_ | refine lo_block ?_)) rfl ?_
    refine sField (b := b34) (off := 0) 3 3 S (wN rfl) rfl rfl rfl rfl rfl (lb rfl) fun a S => ?_
    refine sIdxV (v := .pointer (some ⟨b34, 3, none⟩)) (k := .i64) (j := 1) (q := .pointer (some ⟨b34, 4, none⟩)) S (wN rfl) rfl rfl rfl (idxV_arr (m := 2) (sz := 1) Try.underlying49 rfl (by decide) (by decide) 3) rfl (lb rfl) fun a S => ?_
    refine sLoad1 (p := b34) (off := 4) (T := 115) (vs := (gl_stitch_form r31.1)) 2 (iv r31.1.b.2) S (wN rfl) rfl rfl rfl rfl rfl rfl (lb rfl) fun a S => ?_
    refine sBin (.bool (decide (0 < r31.1.b.2))) S (wN rfl) rfl rfl rfl (bGt _ _ _ _ .i64 r31.1.b.2 0) rfl (lb rfl) fun a S => ?_
    refine leafL (leafT (hK43 _ _ ?_))
    rcases iteSome h with ⟨hc44, h⟩ | ⟨hc44, h⟩
    rotate_left
    · refine sCondFR S rfl hc44 ?_
      exact wpIn_skip (leafT (⟨x27.A, x27.B, Option.some.inj h, S.fix [0, 1, 3] [0] (by decide) rfl rfl rfl⟩))
    refine sCondTR S rfl hc44 ?_
    refine sRegionR (by repeat (first | exact roundU_out | exact it_out | exact lo_false | refine lo_then ?_ | refine lo_block ?_)) rfl ?_
    refine sField (b := b29) (off := 0) 3 3 S (wN rfl) rfl rfl rfl rfl rfl (lb rfl) fun a S => ?_
    refine sLoad1 (p := b29) (off := 3) (T := 61) (vs := [.int .u8 x27.Kind, .bool o35, iv x27.A, iv x27.B]) 1 (iv x27.B) S (wN rfl) rfl rfl rfl rfl rfl rfl (lb rfl) fun a S => ?_
    refine sField (b := b29) (off := 0) 2 2 S (wN rfl) rfl rfl rfl rfl rfl (lb rfl) fun a S => ?_
    refine sLoad1 (p := b29) (off := 2) (T := 61) (vs := [.int .u8 x27.Kind, .bool o35, iv x27.A, iv x27.B]) 1 (iv x27.A) S (wN rfl) rfl rfl rfl rfl rfl rfl (lb rfl) fun a S => ?_
    refine sField (b := b29) (off := 0) 2 2 S (wN rfl) rfl rfl rfl rfl rfl (lb rfl) fun a S => ?_
    refine sStore (p := b29) (off := 2) (T := 61) (vs := [.int .u8 x27.Kind, .bool o35, iv x27.A, iv x27.B]) (v := iv x27.B) 1 [iv x27.B] S (wN rfl) rfl rfl rfl rfl rfl rfl rfl (by simp) rfl fun a w S => ?_
    refine sField (b := b29) (off := 0) 3 3 S (wN rfl) rfl rfl rfl rfl rfl (lb rfl) fun a S => ?_
    refine sStore (p := b29) (off := 3) (T := 61) (vs := [.int .u8 x27.Kind, .bool o35, iv x27.B, iv x27.B]) (v := iv x27.A) 0 [iv x27.A] S (wN rfl) rfl rfl rfl rfl rfl rfl rfl (by simp) rfl fun a w S => ?_
    exact leafL (leafT (⟨x27.B, x27.A, Option.some.inj h, S.fix [1, 0, 3] [0] (by decide) rfl rfl rfl⟩))
  · intro dk51 s22 L D a w hr hIL S
    clear h
    obtain rfl := hr
    dsimp only at g52 hIL
    obtain ⟨ad23, cp24, rfl, rfl⟩ := hIL
    have h := g52
    clear g52 hl54
    replace S : St [mark dk51] E [] w0 51 a w [(5, .pointer (some ⟨b16, 0, none⟩)), (19, .func (.func 73) #[] #[u21])] [eBox b16 62 [.slice ad23 s22.length cp24], eRow r_api_Stitch 61 (.slice ad23 s22.length cp24) s22, eDef dk51] [fPtr (rL r_api_Stitch) (u21) r19] := S
    refine leafB (leafT (hK17 _ _ ?_))
    refine sSeq (fun K55 hK55 => ?_)
    refine sRegion ?_
    refine sLoad1 (p := b16) (off := 0) (T := 62) (vs := [.slice ad23 s22.length cp24]) 0 (.slice ad23 s22.length cp24) S (wN rfl) rfl rfl rfl rfl rfl rfl (lb rfl) fun a S => ?_
    refine sMove (.slice ad23 s22.length cp24) S (wN rfl) (.inr rfl) rfl rfl (lb rfl) fun a S => ?_
    refine sMove (iv 0) S (wN rfl) (.inr rfl) rfl rfl (lb rfl) fun a S => ?_
    refine leafL (leafT (hK55 _ _ ?_))
    refine wp_ret (sRetM1 2 S rfl (fun a w S => ?_))
    obtain rfl := Option.some.inj h
    exact sFin (.tuple #[.slice ad23 s22.length cp24, iv 0]) S (rsl2 rfl (rvT (t := 2) (v := .slice ad23 s22.length cp24) S rfl) (rvT (t := 3) (v := iv 0) S rfl)) ⟨(ad23, cp24), rfl, S.mem.sel [1] [] (by decide) rfl rfl⟩
  · intro dk51 c0 t0 L D a w hr hIX S
    clear h
    exact hIX.elim

end Go.Proofs.Yticjoiolfibmlaa
namespace Go.Proofs.Yticjoiolfibmlaa
open Go.RowKit
set_option linter.unusedVariables false

noncomputable def F_slices_Clone___api_Stitch_api_Stitch__s0 (p0 : (List api_Stitch)) : Option (List api_Stitch) :=
  Option.bind (appO ([] : List api_Stitch) p0) fun l12 =>
  some l12
set_option maxHeartbeats 4000000 in
set_option maxRecDepth 100000 in
theorem c_slices_Clone___api_Stitch_api_Stitch__s0 (E : Nat → Prop) (w0 : World) (p0 : (List api_Stitch)) (v0 : Value) (r : (List api_Stitch)) (h : F_slices_Clone___api_Stitch_api_Stitch__s0 p0 = some r) (S : St0 E [] w0 w0 [] [fRep (rL r_api_Stitch) (v0) p0]) :
    Calls Try.prog 56 #[v0] w0 (Ret (X := Option Addr × Nat) E [] w0 (fun x => .slice x.1 r.length x.2) (fun x => [eRow r_api_Stitch 61 (.slice x.1 r.length x.2) r]) (fun _ => [])) := by
  unfold F_slices_Clone___api_Stitch_api_Stitch__s0 at h
  obtain ⟨ad1, cp2, _, rfl, _⟩ := S.know (i := 0) (e := fRep (rL r_api_Stitch) (v0) p0) rfl
  refine sEnter (args := [.slice ad1 p0.length cp2]) 8 Try.func56 rfl rfl (by simp) S (fun a S => ?_)
  refine sSeq (fun K3 hK3 => ?_)
  refine sRegion ?_
  refine sMove (.slice none 0 0) S (wN rfl) (.inr rfl) rfl rfl (lb rfl) fun a S => ?_
  refine leafL (leafT (hK3 _ _ ?_))
  refine sSeq (fun K4 hK4 => ?_)
  refine sSeq (fun K5 hK5 => ?_)
  refine sRegion ?_
  refine sMove (.slice ad1 p0.length cp2) S (wN rfl) (.inl rfl) rfl rfl (lb rfl) fun a S => ?_
  refine sBin (.bool ad1.isNone) S (wN rfl) rfl rfl rfl (bEqNil _ _ _ _ Try.underlying62 ad1 (p0.length) (cp2)) rfl (lb rfl) fun a S => ?_
  refine leafL (leafT (hK5 _ _ ?_))
  rcases nil_cases ad1 with hc6 | hc6
  · have hz7 := rL_isNil (S.mem.know (i := 0) (e := fRep (rL r_api_Stitch) (.slice ad1 p0.length cp2) p0) rfl) hc6
    rw [hz7] at h
    have h : some ([] : (List api_Stitch)) = some r := h
    refine sCondT S rfl hc6 ?_
    refine sSeq (fun K8 hK8 => ?_)
    refine sRegion ?_
    refine sMove (.slice none 0 0) S (wN rfl) (.inr rfl) rfl rfl (lb rfl) fun a S => ?_
    refine leafL (leafT (hK8 _ _ ?_))
    obtain rfl := Option.some.inj h
    have S := S.nilRow r_api_Stitch 61 (α := api_Stitch)
    exact wp_ret (rThen (sRet (.slice none 0 0) S (rsl1 rfl (rvT (t := 2) (v := .slice none 0 0) S rfl)) ⟨(none, 0), rfl, S.mem.sel [0] [] (by decide) rfl rfl⟩))
  refine sCondF S rfl hc6 ?_
  refine wp_skip (leafT (hK4 _ _ ?_))
  refine sSeq (fun K9 hK9 => ?_)
  refine sRegion ?_
  refine sLit0 (α := api_Stitch) r_api_Stitch (T := 61) S (wN rfl) rfl Try.underlying62 rfl rfl (lb rfl) fun a w ad10 cp11 S => ?_
  refine sMove (.slice ad1 p0.length cp2) S (wN rfl) (.inl rfl) rfl rfl (lb rfl) fun a S => ?_
  obtain ⟨l12, hx13, h⟩ := bindSome h
  refine sApp (r := r_api_Stitch) (T := 61) (xs := ([] : List api_Stitch)) (ys := p0) (v := .slice ad10 ([] : List api_Stitch).length cp11) (u := .slice ad1 p0.length cp2) 0 (.agg #[.int .u8 0, .bool false, iv 0, iv 0]) 24 S (wN rfl) rfl Try.underlying62 rfl rfl (by decide) rfl rfl rfl (src_D 0 S.mem rfl) hx13 rfl (lb rfl) fun a w ad14 cp15 S => ?_
  refine sMove (.slice ad14 l12.length cp15) S (wN rfl) (.inr rfl) rfl rfl (lb rfl) fun a S => ?_
  refine leafL (leafT (hK9 _ _ ?_))
  obtain rfl := Option.some.inj h
  exact wp_ret (sRet (.slice ad14 l12.length cp15) S (rsl1 rfl (rvT (t := 2) (v := .slice ad14 l12.length cp15) S rfl)) ⟨(ad14, cp15), rfl, S.mem.sel [0] [] (by decide) rfl rfl⟩)

end Go.Proofs.Yticjoiolfibmlaa
namespace Go.Proofs.Yticjoiolfibmlaa
open Go.RowKit
set_option linter.unusedVariables false

noncomputable def F_chart_Face_s0 (p0 : api_Chart) (p1 : Int) : Option ((List api_Stitch) × Int) :=
  Option.bind (F_chart_Check p0) fun r9 =>
  if r9 != 0 then
    some (([] : (List api_Stitch)), r9)
  else
    Option.bind (α := Bool) (
      if decide (p1 < 0) then
        some true
      else
        some (decide ((p0.Rows.length : Int) ≤ p1))) fun o15 =>
    if o15 then
      some (([] : (List api_Stitch)), 2)
    else
      Option.bind (idxO p0.Rows p1) fun x23 =>
      if x23.Back then
        Option.bind (F_stitch_Turn_s0 x23.Cells) fun r39 =>
        some (r39.1, r39.2)
      else
        Option.bind (F_slices_Clone___api_Stitch_api_Stitch__s0 x23.Cells) fun r51 =>
        some (r51, 0)
set_option maxHeartbeats 4000000 in
set_option maxRecDepth 100000 in
theorem c_chart_Face_s0 (E : Nat → Prop) (w0 : World) (p0 : api_Chart) (v0 : Value) (p1 : Int) (r : ((List api_Stitch) × Int)) (h : F_chart_Face_s0 p0 p1 = some r) (S : St0 E [] w0 w0 [] [fRep r_api_Chart (v0) p0]) :
    Calls Try.prog 43 #[v0, iv p1] w0 (Ret (X := Option Addr × Nat) E [] w0 (fun x => .tuple #[.slice x.1 r.1.length x.2, iv r.2]) (fun x => [eRow r_api_Stitch 61 (.slice x.1 r.1.length x.2) r.1]) (fun _ => [])) := by
  unfold F_chart_Face_s0 at h
  obtain ⟨u1, rfl, hu2⟩ := S.know (i := 0) (e := fRep r_api_Chart (v0) p0) rfl
  have S := S.learn (fRep (rL r_api_Row) u1 p0.Rows) hu2
  obtain ⟨ad3, cp4, _, rfl, _⟩ := hu2
  refine sEnter (args := [.agg #[iv p0.Start, .slice ad3 p0.Rows.length cp4], iv p1]) 43 Try.func43 rfl rfl (by simp) S (fun a S => ?_)
  refine sSeq (fun K5 hK5 => ?_)
  refine sRegion ?_
  refine sBox (v := .agg #[iv p0.Start, .slice ad3 p0.Rows.length cp4]) S (wN rfl) rfl rfl [iv p0.Start, .slice ad3 p0.Rows.length cp4] rfl rfl (lb rfl) fun a b6 w S => ?_
  refine sMove (.slice none 0 0) S (wN rfl) (.inr rfl) rfl rfl (lb rfl) fun a S => ?_
  refine sMove (iv 0) S (wN rfl) (.inr rfl) rfl rfl (lb rfl) fun a S => ?_
  refine leafL (leafT (hK5 _ _ ?_))
  refine sSeq (fun K7 hK7 => ?_)
  refine sSeq (fun K8 hK8 => ?_)
  refine sRegion ?_
  refine sLoadN (p := b6) (off := 0) (T := 24) (vs := [iv p0.Start, .slice ad3 p0.Rows.length cp4]) 0 [iv p0.Start, .slice ad3 p0.Rows.length cp4] S (wN rfl) rfl rfl rfl rfl rfl rfl rfl (lb rfl) fun a S => ?_
  obtain ⟨r9, hx10, h⟩ := bindSome h
  have S1 := S.mem
  refine sCallQ (X := Unit) (f := 39) (vs := [.agg #[iv p0.Start, .slice ad3 p0.Rows.length cp4]]) (val := fun _ => iv r9) S (wN rfl) rfl callee39 rfl (S1.quiet [1] rfl) (fun E1 w1 S1 => c_chart_Check E1 w1 p0 (.agg #[iv p0.Start, .slice ad3 p0.Rows.length cp4]) r9 hx10 S1) rfl (lb rfl) fun _ a w S => ?_
  refine sMove (iv r9) S (wN rfl) (.inr rfl) rfl rfl (lb rfl) fun a S => ?_
  refine leafL (leafT (hK8 _ _ ?_))
  refine sSeq (fun K11 hK11 => ?_)
  refine sRegion ?_
  refine sMove (iv r9) S (wN rfl) (.inl rfl) rfl rfl (lb rfl) fun a S => ?_
  refine sBin (.bool (r9 != 0)) S (wN rfl) rfl rfl rfl (bNe _ _ _ _ .i64 r9 0) rfl (lb rfl) fun a S => ?_
  refine leafL (leafT (hK11 _ _ ?_))
  rcases iteSome h with ⟨hc12, h⟩ | ⟨hc12, h⟩
  · refine sCondT S rfl hc12 ?_
    refine sSeq (fun K13 hK13 => ?_)
    refine sRegion ?_
    refine sMove (iv r9) S (wN rfl) (.inl rfl) rfl rfl (lb rfl) fun a S => ?_
    refine sMove (.slice none 0 0) S (wN rfl) (.inr rfl) rfl rfl (lb rfl) fun a S => ?_
    refine sMove (iv r9) S (wN rfl) (.inr rfl) rfl rfl (lb rfl) fun a S => ?_
    refine leafL (leafT (hK13 _ _ ?_))
    obtain rfl := Option.some.inj h
    have S := S.nilRow r_api_Stitch 61 (α := api_Stitch)
    exact wp_ret (rThen (sRet (.tuple #[.slice none 0 0, iv r9]) S (rsl2 rfl (rvT (t := 4) (v := .slice none 0 0) S rfl) (rvT (t := 5) (v := iv r9) S rfl)) ⟨(none, 0), rfl, S.mem.sel [0] [] (by decide) rfl rfl⟩))
  refine sCondF S rfl hc12 ?_
  refine wp_skip (leafT (hK7 _ _ ?_))
  refine sSeq (fun K14 hK14 => ?_)
  obtain ⟨t16, h, g17⟩ := bindSome h
  refine sCut (fun a w => ∃ o15, o15 = t16 ∧ St [] E [] w0 43 a w [(1, iv p1), (2, .pointer (some ⟨b6, 0, none⟩)), (20, .bool o15)] [eBox b6 24 [iv p0.Start, .slice ad3 p0.Rows.length cp4]] [fRep (rL r_api_Row) (.slice ad3 p0.Rows.length cp4) p0.Rows]) ?_ (fun a w hI => ?_)
  · refine sRegion ?_
    refine sMove (iv p1) S (wN rfl) (.inl rfl) rfl rfl (lb rfl) fun a S => ?_
    refine sBin (.bool (decide (p1 < 0))) S (wN rfl) rfl rfl rfl (bLt _ _ _ _ .i64 p1 0) rfl (lb rfl) fun a S => ?_
    refine sMove (.bool (decide (p1 < 0))) S (wN rfl) (.inl rfl) rfl rfl (lb rfl) fun a S => ?_
    rcases iteSome h with ⟨hc18, h⟩ | ⟨hc18, h⟩
    · refine sSkip 2 false 14 15 S rfl rfl rfl hc18 rfl (lb rfl) fun a S => ?_
      refine sSkip 2 false 14 16 S rfl rfl rfl hc18 rfl (lb rfl) fun a S => ?_
      refine sSkip 2 false 14 17 S rfl rfl rfl hc18 rfl (lb rfl) fun a S => ?_
      refine sSkip 2 false 14 18 S rfl rfl rfl hc18 rfl (lb rfl) fun a S => ?_
      refine sSkip 2 false 14 19 S rfl rfl rfl hc18 rfl (lb rfl) fun a S => ?_
      refine sPickT (.bool true) S (wN rfl) rfl rfl hc18 rfl rfl (lb rfl) fun a S => ?_
      exact leafL (leafT (⟨true, Option.some.inj h, S.fix [0] [0] (by decide) rfl rfl rfl⟩))
    refine sMove (iv p1) S (wG 2 false 14 rfl rfl rfl hc18) (.inl rfl) rfl rfl (lb rfl) fun a S => ?_
    refine sField (b := b6) (off := 0) 1 1 S (wG 2 false 14 rfl rfl rfl hc18) rfl rfl rfl rfl rfl (lb rfl) fun a S => ?_
    refine sLoad1 (p := b6) (off := 1) (T := 24) (vs := [iv p0.Start, .slice ad3 p0.Rows.length cp4]) 0 (.slice ad3 p0.Rows.length cp4) S (wG 2 false 14 rfl rfl rfl hc18) rfl rfl rfl rfl rfl rfl (lb rfl) fun a S => ?_
    refine sLen (ad := ad3) (m := p0.Rows.length) (c := cp4) S (wG 2 false 14 rfl rfl rfl hc18) rfl Try.underlying22 rfl rfl (lb rfl) fun a S => ?_
    refine sBin (.bool (decide ((p0.Rows.length : Int) ≤ p1))) S (wG 2 false 14 rfl rfl rfl hc18) rfl rfl rfl (bGe _ _ _ _ .i64 p1 (p0.Rows.length : Int)) rfl (lb rfl) fun a S => ?_
    refine sPickF (.bool (decide ((p0.Rows.length : Int) ≤ p1))) S (wN rfl) rfl rfl hc18 rfl rfl (lb rfl) fun a S => ?_
    exact leafL (leafT (⟨decide ((p0.Rows.length : Int) ≤ p1), Option.some.inj h, S.fix [0] [0] (by decide) rfl rfl rfl⟩))
  obtain ⟨o15, rfl, S⟩ := hI
  have h := g17
  clear g17
  try dsimp only at h
  rcases iteSome h with ⟨hc19, h⟩ | ⟨hc19, h⟩
  · refine sCondT S rfl hc19 ?_
    refine sSeq (fun K20 hK20 => ?_)
    refine sRegion ?_
    refine sMove (.slice none 0 0) S (wN rfl) (.inr rfl) rfl rfl (lb rfl) fun a S => ?_
    refine sMove (iv 2) S (wN rfl) (.inr rfl) rfl rfl (lb rfl) fun a S => ?_
    refine leafL (leafT (hK20 _ _ ?_))
    obtain rfl := Option.some.inj h
    have S := S.nilRow r_api_Stitch 61 (α := api_Stitch)
    exact wp_ret (rThen (sRet (.tuple #[.slice none 0 0, iv 2]) S (rsl2 rfl (rvT (t := 4) (v := .slice none 0 0) S rfl) (rvT (t := 5) (v := iv 2) S rfl)) ⟨(none, 0), rfl, S.mem.sel [0] [] (by decide) rfl rfl⟩))
  refine sCondF S rfl hc19 ?_
  refine wp_skip (leafT (hK14 _ _ ?_))
  refine sSeq (fun K21 hK21 => ?_)
  refine sSeq (fun K22 hK22 => ?_)
  refine sRegion ?_
  refine sField (b := b6) (off := 0) 1 1 S (wN rfl) rfl rfl rfl rfl rfl (lb rfl) fun a S => ?_
  refine sLoad1 (p := b6) (off := 1) (T := 24) (vs := [iv p0.Start, .slice ad3 p0.Rows.length cp4]) 0 (.slice ad3 p0.Rows.length cp4) S (wN rfl) rfl rfl rfl rfl rfl rfl (lb rfl) fun a S => ?_
  refine sMove (iv p1) S (wN rfl) (.inl rfl) rfl rfl (lb rfl) fun a S => ?_
  obtain ⟨x23, hx24, h⟩ := bindSome h
  obtain ⟨q25, hq26, S⟩ := pIdx (P := Try.prog) (r := r_api_Row) (v := .slice ad3 p0.Rows.length cp4) (xs := p0.Rows) (j := p1) 22 65 0 S Try.underlying22 rfl rfl hx24
  refine sIdxV (v := .slice ad3 p0.Rows.length cp4) (k := .i64) (j := p1) S (wN rfl) rfl rfl rfl hq26 rfl (lb rfl) fun a S => ?_
  obtain ⟨q27, hq28, S⟩ := pFld (P := Try.prog) (r := r_api_Row) (s2 := rB) (g := (·.Back)) (q := q25) (z := x23) 65 0 0 0 S rfl rfl comp_api_Row_Back
  refine sFldV (q := q25) S (wN rfl) rfl rfl hq28 rfl (lb rfl) fun a S => ?_
  obtain ⟨u29, S⟩ := pLoad (r := rB) (q := q27) (x := x23.Back) 0 S rfl
  obtain rfl : u29 = .bool x23.Back := S.mem.know (i := 1) (e := fRep rB (u29) x23.Back) rfl
  refine sLoadV1 (vq := q27) 0 (.bool x23.Back) S (wN rfl) rfl rfl rfl rfl rfl (lb rfl) fun a S => ?_
  refine leafL (leafT (hK22 _ _ ?_))
  rcases iteSome h with ⟨hc30, h⟩ | ⟨hc30, h⟩
  rotate_left
  · refine sCondF S rfl hc30 ?_
    refine wp_skip (leafT (hK21 _ _ ?_))
    refine sSeq (fun K43 hK43 => ?_)
    refine sRegion ?_
    refine sField (b := b6) (off := 0) 1 1 S (wN rfl) rfl rfl rfl rfl rfl (lb rfl) fun a S => ?_
    refine sLoad1 (p := b6) (off := 1) (T := 24) (vs := [iv p0.Start, .slice ad3 p0.Rows.length cp4]) 0 (.slice ad3 p0.Rows.length cp4) S (wN rfl) rfl rfl rfl rfl rfl rfl (lb rfl) fun a S => ?_
    refine sMove (iv p1) S (wN rfl) (.inl rfl) rfl rfl (lb rfl) fun a S => ?_
    obtain ⟨q44, hq45, S⟩ := pIdx (P := Try.prog) (r := r_api_Row) (v := .slice ad3 p0.Rows.length cp4) (xs := p0.Rows) (j := p1) 22 65 4 S Try.underlying22 rfl rfl hx24
    refine sIdxV (v := .slice ad3 p0.Rows.length cp4) (k := .i64) (j := p1) S (wN rfl) rfl rfl rfl hq45 rfl (lb rfl) fun a S => ?_
    obtain ⟨q46, hq47, S⟩ := pFld (P := Try.prog) (r := r_api_Row) (s2 := (rL r_api_Stitch)) (g := (·.Cells)) (q := q44) (z := x23) 65 1 0 1 S rfl rfl comp_api_Row_Cells
    refine sFldV (q := q44) S (wN rfl) rfl rfl hq47 rfl (lb rfl) fun a S => ?_
    obtain ⟨u48, S⟩ := pLoad (r := (rL r_api_Stitch)) (q := q46) (x := x23.Cells) 0 S rfl
    obtain ⟨ad49, cp50, _, rfl, _⟩ := S.mem.know (i := 1) (e := fRep (rL r_api_Stitch) (u48) x23.Cells) rfl
    refine sLoadV1 (vq := q46) 0 (.slice ad49 x23.Cells.length cp50) S (wN rfl) rfl rfl rfl rfl rfl (lb rfl) fun a S => ?_
    obtain ⟨r51, hx52, h⟩ := bindSome h
    refine sCall (X := Option Addr × Nat) (f := 56) (vs := [.slice ad49 x23.Cells.length cp50]) (val := fun x => .slice x.1 r51.length x.2) (B' := fun x => [eRow r_api_Stitch 61 (.slice x.1 r51.length x.2) r51]) (D' := fun _ => []) [] [eBox b6 24 [iv p0.Start, .slice ad3 p0.Rows.length cp4]] [fRep (rL r_api_Stitch) (.slice ad49 x23.Cells.length cp50) x23.Cells] [0] [1] S (wN rfl) rfl callee56 rfl (by decide) rfl rfl (fun E1 w1 S1 => c_slices_Clone___api_Stitch_api_Stitch__s0 E1 w1 x23.Cells (.slice ad49 x23.Cells.length cp50) r51 hx52 S1) rfl (lb rfl) fun xx a w S => ?_
    obtain ⟨ad53, cp54⟩ := xx
    dsimp only at S
    refine sMove (.slice ad53 r51.length cp54) S (wN rfl) (.inr rfl) rfl rfl (lb rfl) fun a S => ?_
    refine sMove (iv 0) S (wN rfl) (.inr rfl) rfl rfl (lb rfl) fun a S => ?_
    refine leafL (leafT (hK43 _ _ ?_))
    obtain rfl := Option.some.inj h
    exact wp_ret (sRet (.tuple #[.slice ad53 r51.length cp54, iv 0]) S (rsl2 rfl (rvT (t := 4) (v := .slice ad53 r51.length cp54) S rfl) (rvT (t := 5) (v := iv 0) S rfl)) ⟨(ad53, cp54), rfl, S.mem.sel [0] [] (by decide) rfl rfl⟩)
  refine sCondT S rfl hc30 ?_
  refine sSeq (fun K31 hK31 => ?_)
  refine sRegion ?_
  refine sField (b := b6) (off := 0) 1 1 S (wN rfl) rfl rfl rfl rfl rfl (lb rfl) fun a S => ?_
  refine sLoad1 (p := b6) (off := 1) (T := 24) (vs := [iv p0.Start, .slice ad3 p0.Rows.length cp4]) 0 (.slice ad3 p0.Rows.length cp4) S (wN rfl) rfl rfl rfl rfl rfl rfl (lb rfl) fun a S => ?_
  refine sMove (iv p1) S (wN rfl) (.inl rfl) rfl rfl (lb rfl) fun a S => ?_
  obtain ⟨q32, hq33, S⟩ := pIdx (P := Try.prog) (r := r_api_Row) (v := .slice ad3 p0.Rows.length cp4) (xs := p0.Rows) (j := p1) 22 65 4 S Try.underlying22 rfl rfl hx24
  refine sIdxV (v := .slice ad3 p0.Rows.length cp4) (k := .i64) (j := p1) S (wN rfl) rfl rfl rfl hq33 rfl (lb rfl) fun a S => ?_
  obtain ⟨q34, hq35, S⟩ := pFld (P := Try.prog) (r := r_api_Row) (s2 := (rL r_api_Stitch)) (g := (·.Cells)) (q := q32) (z := x23) 65 1 0 1 S rfl rfl comp_api_Row_Cells
  refine sFldV (q := q32) S (wN rfl) rfl rfl hq35 rfl (lb rfl) fun a S => ?_
  obtain ⟨u36, S⟩ := pLoad (r := (rL r_api_Stitch)) (q := q34) (x := x23.Cells) 0 S rfl
  obtain ⟨ad37, cp38, _, rfl, _⟩ := S.mem.know (i := 1) (e := fRep (rL r_api_Stitch) (u36) x23.Cells) rfl
  refine sLoadV1 (vq := q34) 0 (.slice ad37 x23.Cells.length cp38) S (wN rfl) rfl rfl rfl rfl rfl (lb rfl) fun a S => ?_
  obtain ⟨r39, hx40, h⟩ := bindSome h
  refine sCall (X := Option Addr × Nat) (f := 55) (vs := [.slice ad37 x23.Cells.length cp38]) (val := fun x => .tuple #[.slice x.1 r39.1.length x.2, iv r39.2]) (B' := fun x => [eRow r_api_Stitch 61 (.slice x.1 r39.1.length x.2) r39.1]) (D' := fun _ => []) [] [eBox b6 24 [iv p0.Start, .slice ad3 p0.Rows.length cp4]] [fRep (rL r_api_Stitch) (.slice ad37 x23.Cells.length cp38) x23.Cells] [0] [1] S (wN rfl) rfl callee55 rfl (by decide) rfl rfl (fun E1 w1 S1 => c_stitch_Turn_s0 E1 w1 x23.Cells (.slice ad37 x23.Cells.length cp38) r39 hx40 S1) rfl (lb rfl) fun xx a w S => ?_
  obtain ⟨ad41, cp42⟩ := xx
  dsimp only at S
  refine sExtract (vs := [.slice ad41 r39.1.length cp42, iv r39.2]) (.slice ad41 r39.1.length cp42) S (wN rfl) rfl rfl rfl rfl (lb rfl) fun a S => ?_
  refine sExtract (vs := [.slice ad41 r39.1.length cp42, iv r39.2]) (iv r39.2) S (wN rfl) rfl rfl rfl rfl (lb rfl) fun a S => ?_
  refine sMove (.slice ad41 r39.1.length cp42) S (wN rfl) (.inr rfl) rfl rfl (lb rfl) fun a S => ?_
  refine sMove (iv r39.2) S (wN rfl) (.inr rfl) rfl rfl (lb rfl) fun a S => ?_
  refine leafL (leafT (hK31 _ _ ?_))
  obtain rfl := Option.some.inj h
  exact wp_ret (rThen (sRet (.tuple #[.slice ad41 r39.1.length cp42, iv r39.2]) S (rsl2 rfl (rvT (t := 4) (v := .slice ad41 r39.1.length cp42) S rfl) (rvT (t := 5) (v := iv r39.2) S rfl)) ⟨(ad41, cp42), rfl, S.mem.sel [0] [] (by decide) rfl rfl⟩))

end Go.Proofs.Yticjoiolfibmlaa
namespace Go.Proofs.Yticjoiolfibmlaa
open Go.RowKit
set_option linter.unusedVariables false

noncomputable def loops_of_s0_l1 (p0 : api_Chart) : (Int × List api_Loop) → Option ((Int × List api_Loop) ⊕ List api_Loop) := fun s0 => match s0 with
  | (s21, s22) =>
    if decide (s21 < p0.Start) then
      Option.bind (appO s22 [(api_Loop.mk 0 s21 ([] : (List Int)) false)]) fun l38 =>
      some (.inl (w64 (s21 + 1), l38))
    else
      some (.inr s22)
noncomputable def loops_of_s0_l2 (r111 : ((List api_Stitch) × Int)) (s61 : Int) : (Int × List api_Loop × List Int × List Int × List (Int × Int) × Int) → Option ((Int × List api_Loop × List Int × List Int × List (Int × Int) × Int) ⊕ (List api_Loop × List Int × List Int × List (Int × Int) × Int)) := fun s0 => match s0 with
  | (s131, s132, s135, s138, s141, s144) =>
    if decide (s131 < (r111.1.length : Int)) then
      Option.bind (idxO r111.1 s131) fun x166 =>
      Option.bind (F_loops_piece_work_s1 (loops_piece.mk s132 s135 s138 s141 s144) (w64 (s61 + 1)) s131 x166) fun r172 =>
      some (.inl (w64 (s131 + 1), r172.loops, r172.rows, r172.bound, r172.cross, r172.next))
    else
      some (.inr (s132, s135, s138, s141, s144))
noncomputable def loops_of_s0_l3 (p0 : api_Chart) : (Int × List api_Loop × List Int × List Int × List (Int × Int) × Int) → Option ((Int × List api_Loop × List Int × List Int × List (Int × Int) × Int) ⊕ (List api_Loop × List Int × List Int × List (Int × Int) × Int)) := fun s0 => match s0 with
  | (s61, s62, s65, s68, s71, s74) =>
    if decide (s61 < (p0.Rows.length : Int)) then
      Option.bind (α := (List api_Loop × List Int × List Int × List (Int × Int) × Int)) (
        Option.bind (F_chart_Face_s0 p0 s61) fun r111 =>
        Option.bind (α := (List api_Loop × List Int × List Int × List (Int × Int) × Int)) (
          Option.bind (whileO (loops_of_s0_l2 r111 s61) (0, s62, s65, s68, s71, s74)) fun (e148, e151, e154, e157, e160) =>
            some (e148, e151, e154, e157, e160)) fun (o115, o118, o121, o124, o127) =>
        Option.bind (appO o118 ([(o115.length : Int)] : List Int)) fun l184 =>
        some (o115, l184, o121, o124, o127)) fun (o94, o97, o100, o103, o106) =>
      some (.inl (w64 (s61 + 1), o94, o97, o100, o103, o106))
    else
      some (.inr (s62, s65, s68, s71, s74))
noncomputable def F_loops_of_s0 (p0 : api_Chart) : Option (loops_piece × Int) :=
  Option.bind (F_chart_Check p0) fun r10 =>
  if r10 != 0 then
    some ((loops_piece.mk ([] : (List api_Loop)) ([] : (List Int)) ([] : (List Int)) ([] : (List (Int × Int))) 0), r10)
  else
    Option.bind (α := List api_Loop) (
      Option.bind (whileO (loops_of_s0_l1 p0) (0, ([] : List api_Loop))) fun e28 =>
        some e28) fun o15 =>
    Option.bind (α := (List api_Loop × List Int × List Int × List (Int × Int) × Int)) (
      Option.bind (whileO (loops_of_s0_l3 p0) (0, o15, ([0, p0.Start] : List Int), ([] : List Int), ([] : List (Int × Int)), 0)) fun (e78, e81, e84, e87, e90) =>
        some (e78, e81, e84, e87, e90)) fun (o45, o48, o51, o54, o57) =>
    some ((loops_piece.mk o45 o48 o51 o54 o57), 0)
set_option maxHeartbeats 4000000 in
set_option maxRecDepth 100000 in
theorem c_loops_of_s0 (E : Nat → Prop) (w0 : World) (p0 : api_Chart) (v0 : Value) (r : (loops_piece × Int)) (h : F_loops_of_s0 p0 = some r) (S : St0 E [] w0 w0 [] [fRep r_api_Chart (v0) p0]) :
    Calls Try.prog 33 #[v0] w0 (Ret (X := Option Addr × Nat × Option Addr × Nat × Option Addr × Nat × Option Addr × Nat) E [] w0 (fun x => .tuple #[.agg #[.slice x.1 r.1.loops.length x.2.1, .slice x.2.2.1 r.1.rows.length x.2.2.2.1, .slice x.2.2.2.2.1 r.1.bound.length x.2.2.2.2.2.1, .slice x.2.2.2.2.2.2.1 r.1.cross.length x.2.2.2.2.2.2.2, iv r.1.next], iv r.2]) (fun x => [eRow r_api_Loop 48 (.slice x.1 r.1.loops.length x.2.1) r.1.loops, eRow (rI .i64) 3 (.slice x.2.2.1 r.1.rows.length x.2.2.2.1) r.1.rows, eRow (rI .i64) 3 (.slice x.2.2.2.2.1 r.1.bound.length x.2.2.2.2.2.1) r.1.bound, eRow r_A2_Int 49 (.slice x.2.2.2.2.2.2.1 r.1.cross.length x.2.2.2.2.2.2.2) r.1.cross]) (fun _ => [])) := by
  unfold F_loops_of_s0 at h
  obtain ⟨u1, rfl, hu2⟩ := S.know (i := 0) (e := fRep r_api_Chart (v0) p0) rfl
  have S := S.learn (fRep (rL r_api_Row) u1 p0.Rows) hu2
  obtain ⟨ad3, cp4, _, rfl, _⟩ := hu2
  refine sEnter (args := [.agg #[iv p0.Start, .slice ad3 p0.Rows.length cp4]]) 69 Try.func33 rfl rfl (by simp) S (fun a S => ?_)
  refine sSeq (fun K5 hK5 => ?_)
  refine sRegion ?_
  refine sBox (v := .agg #[iv p0.Start, .slice ad3 p0.Rows.length cp4]) S (wN rfl) rfl rfl [iv p0.Start, .slice ad3 p0.Rows.length cp4] rfl rfl (lb rfl) fun a b6 w S => ?_
  refine sAlloc (.agg #[.slice none 0 0, .slice none 0 0, .slice none 0 0, .slice none 0 0, iv 0]) S (wN rfl) rfl rfl [.slice none 0 0, .slice none 0 0, .slice none 0 0, .slice none 0 0, iv 0] rfl rfl (lb rfl) fun a b7 w S => ?_
  refine sMove (iv 0) S (wN rfl) (.inr rfl) rfl rfl (lb rfl) fun a S => ?_
  refine leafL (leafT (hK5 _ _ ?_))
  refine sSeq (fun K8 hK8 => ?_)
  refine sSeq (fun K9 hK9 => ?_)
  refine sRegion ?_
  refine sLoadN (p := b6) (off := 0) (T := 24) (vs := [iv p0.Start, .slice ad3 p0.Rows.length cp4]) 1 [iv p0.Start, .slice ad3 p0.Rows.length cp4] S (wN rfl) rfl rfl rfl rfl rfl rfl rfl (lb rfl) fun a S => ?_
  obtain ⟨r10, hx11, h⟩ := bindSome h
  have S1 := S.mem
  refine sCallQ (X := Unit) (f := 39) (vs := [.agg #[iv p0.Start, .slice ad3 p0.Rows.length cp4]]) (val := fun _ => iv r10) S (wN rfl) rfl callee39 rfl (S1.quiet [1] rfl) (fun E1 w1 S1 => c_chart_Check E1 w1 p0 (.agg #[iv p0.Start, .slice ad3 p0.Rows.length cp4]) r10 hx11 S1) rfl (lb rfl) fun _ a w S => ?_
  refine sMove (iv r10) S (wN rfl) (.inr rfl) rfl rfl (lb rfl) fun a S => ?_
  refine leafL (leafT (hK9 _ _ ?_))
  refine sSeq (fun K12 hK12 => ?_)
  refine sRegion ?_
  refine sMove (iv r10) S (wN rfl) (.inl rfl) rfl rfl (lb rfl) fun a S => ?_
  refine sBin (.bool (r10 != 0)) S (wN rfl) rfl rfl rfl (bNe _ _ _ _ .i64 r10 0) rfl (lb rfl) fun a S => ?_
  refine leafL (leafT (hK12 _ _ ?_))
  rcases iteSome h with ⟨hc13, h⟩ | ⟨hc13, h⟩
  · refine sCondT S rfl hc13 ?_
    refine sSeq (fun K14 hK14 => ?_)
    refine sRegion ?_
    refine sBuild [] [.slice none 0 0, .slice none 0 0, .slice none 0 0, .slice none 0 0, iv 0] S (wN rfl) rfl rfl rfl rfl (lb rfl) fun a S => ?_
    refine sMove (iv r10) S (wN rfl) (.inl rfl) rfl rfl (lb rfl) fun a S => ?_
    refine sStore (p := b7) (off := 0) (T := 73) (vs := [.slice none 0 0, .slice none 0 0, .slice none 0 0, .slice none 0 0, iv 0]) (v := .agg #[.slice none 0 0, .slice none 0 0, .slice none 0 0, .slice none 0 0, iv 0]) 0 [.slice none 0 0, .slice none 0 0, .slice none 0 0, .slice none 0 0, iv 0] S (wN rfl) rfl rfl rfl rfl rfl rfl rfl (by simp) rfl fun a w S => ?_
    refine sMove (iv r10) S (wN rfl) (.inr rfl) rfl rfl (lb rfl) fun a S => ?_
    refine leafL (leafT (hK14 _ _ ?_))
    obtain rfl := Option.some.inj h
    have S := S.nilRow r_api_Loop 48 (α := api_Loop)
    have S := S.nilRow (rI .i64) 3 (α := Int)
    have S := S.nilRow (rI .i64) 3 (α := Int)
    have S := S.nilRow r_A2_Int 49 (α := (Int × Int))
    exact wp_ret (rThen (sRet (.tuple #[.agg #[.slice none 0 0, .slice none 0 0, .slice none 0 0, .slice none 0 0, iv 0], iv r10]) S (rsl2 rfl (rvN (c := 2) (t := 73) (T := 73) (p := b7) 4 [.slice none 0 0, .slice none 0 0, .slice none 0 0, .slice none 0 0, iv 0] S rfl rfl rfl rfl) (rvT (t := 3) (v := iv r10) S rfl)) ⟨(none, 0, none, 0, none, 0, none, 0), rfl, S.mem.sel [3, 2, 1, 0] [] (by decide) rfl rfl⟩))
  refine sCondF S rfl hc13 ?_
  refine wp_skip (leafT (hK8 _ _ ?_))
  obtain ⟨t18, h, g19⟩ := bindSome h
  refine sCut (fun a w => ∃ o15, o15 = t18 ∧ ∃ ad16, ∃ cp17, St [] E [] w0 69 a w [(1, .pointer (some ⟨b6, 0, none⟩)), (2, .pointer (some ⟨b7, 0, none⟩))] [eBox b6 24 [iv p0.Start, .slice ad3 p0.Rows.length cp4], eBox b7 73 [.slice ad16 o15.length cp17, .slice none 0 0, .slice none 0 0, .slice none 0 0, iv 0], eRow r_api_Loop 48 (.slice ad16 o15.length cp17) o15] [fRep (rL r_api_Row) (.slice ad3 p0.Rows.length cp4) p0.Rows]) ?_ (fun a w hI => ?_)
  · refine sSeq (fun K20 hK20 => ?_)
    refine sRegion ?_
    refine sField (b := b6) (off := 0) 0 0 S (wN rfl) rfl rfl rfl rfl rfl (lb rfl) fun a S => ?_
    refine sLoad1 (p := b6) (off := 0) (T := 24) (vs := [iv p0.Start, .slice ad3 p0.Rows.length cp4]) 1 (iv p0.Start) S (wN rfl) rfl rfl rfl rfl rfl rfl (lb rfl) fun a S => ?_
    refine sMove (iv 0) S (wN rfl) (.inl rfl) rfl rfl (lb rfl) fun a S => ?_
    refine leafL (leafT (hK20 _ _ ?_))
    refine wp_block ?_
    have S := S.nilRow r_api_Loop 48 (α := api_Loop)
    obtain ⟨t27, hl, g26⟩ := bindSome h
    refine sLoop hl (fun s0 a w => match s0 with | (s21, s22) => ∃ ad23, ∃ cp24, St [] E [] w0 69 a w [(1, .pointer (some ⟨b6, 0, none⟩)), (2, .pointer (some ⟨b7, 0, none⟩)), (18, iv p0.Start), (19, iv s21)] [eBox b6 24 [iv p0.Start, .slice ad3 p0.Rows.length cp4], eBox b7 73 [.slice ad23 s22.length cp24, .slice none 0 0, .slice none 0 0, .slice none 0 0, iv 0], eRow r_api_Loop 48 (.slice ad23 s22.length cp24) s22] [fRep (rL r_api_Row) (.slice ad3 p0.Rows.length cp4) p0.Rows]) ⟨none, 0, S.fix [2, 1, 0] [0] (by decide) rfl rfl rfl⟩ ?_
    clear hl h
    intro s0 a w c0 hI h hu25
    obtain ⟨s21, s22⟩ := s0
    unfold loops_of_s0_l1 at h
    dsimp only at h hI
    obtain ⟨ad23, cp24, S⟩ := hI
    refine sSeq (fun K31 hK31 => ?_)
    refine sRegion ?_
    refine sBin (.bool (decide (s21 < p0.Start))) S (wN rfl) rfl rfl rfl (bLt _ _ _ _ .i64 s21 p0.Start) rfl (lb rfl) fun a S => ?_
    refine leafL (leafT (hK31 _ _ ?_))
    refine sSeq (fun K32 hK32 => ?_)
    rcases iteSome h with ⟨hc33, h⟩ | ⟨hc33, h⟩
    rotate_left
    · refine sCondF S rfl hc33 ?_
      obtain rfl := Option.some.inj h
      obtain rfl := hu25 _ rfl
      have h := g26
      clear g26
      try dsimp only at h
      exact wp_exit (xThen (xThen (xHit (leafT (⟨s22, Option.some.inj h, ad23, cp24, S.fix [0, 1, 2] [0] (by decide) rfl rfl rfl⟩)))))
    refine sCondT S rfl hc33 ?_
    refine wp_skip (leafT (hK32 _ _ ?_))
    refine sSeq (fun K34 hK34 => ?_)
    refine wp_block ?_
    refine sSeq (fun K35 hK35 => ?_)
    refine sRegion ?_
    refine sMove (iv s21) S (wN rfl) (.inl rfl) rfl rfl (lb rfl) fun a S => ?_
    refine sMove (iv s21) S (wN rfl) (.inr rfl) rfl rfl (lb rfl) fun a S => ?_
    refine leafL (leafT (hK35 _ _ ?_))
    refine sRegion ?_
    refine sField (b := b7) (off := 0) 0 0 S (wN rfl) rfl rfl rfl rfl rfl (lb rfl) fun a S => ?_
    refine sLoad1 (p := b7) (off := 0) (T := 73) (vs := [.slice ad23 s22.length cp24, .slice none 0 0, .slice none 0 0, .slice none 0 0, iv 0]) 1 (.slice ad23 s22.length cp24) S (wN rfl) rfl rfl rfl rfl rfl rfl (lb rfl) fun a S => ?_
    refine sMove (iv s21) S (wN rfl) (.inl rfl) rfl rfl (lb rfl) fun a S => ?_
    refine sBuild [(1, iv s21)] [iv 0, iv s21, .slice none 0 0, .bool false] S (wN rfl) rfl rfl rfl rfl (lb rfl) fun a S => ?_
    have S := S.learn (fRep (rL (rI .i64)) (.slice none 0 0) ([] : (List Int))) (rL_nil _ _ _)
    have S := S.learn (fRep r_api_Loop (.agg #[iv 0, iv s21, .slice none 0 0, .bool false]) (api_Loop.mk 0 s21 ([] : (List Int)) false)) ⟨_, rfl, S.mem.know (i := 0) (e := fRep (rL (rI .i64)) (.slice none 0 0) ([] : (List Int))) rfl⟩
    refine sLit (r := r_api_Loop) (T := 48) (xs := [(api_Loop.mk 0 s21 ([] : (List Int)) false)]) [(0, .agg #[iv 0, iv s21, .slice none 0 0, .bool false])] 1 [.agg #[iv 0, iv s21, .slice none 0 0, .bool false]] [iv 0, iv s21, .slice none 0 0, .bool false] (.agg #[iv 0, iv 0, .slice none 0 0, .bool false]) 48 S (wN rfl) rfl rfl Try.underlying26 rfl (by decide) (by decide) (by kernel_rfl) rfl (fun E1 w1 hE => All.cons (r_api_Loop.mono hE (S.mem.know (i := 0) (e := fRep r_api_Loop (.agg #[iv 0, iv s21, .slice none 0 0, .bool false]) (api_Loop.mk 0 s21 ([] : (List Int)) false)) rfl)) (All.nil _ _ _)) rfl rfl (lb rfl) fun a w ad36 cp37 S => ?_
    obtain ⟨l38, hx39, h⟩ := bindSome h
    refine sApp (r := r_api_Loop) (T := 48) (xs := s22) (ys := [(api_Loop.mk 0 s21 ([] : (List Int)) false)]) (v := .slice ad23 s22.length cp24) (u := .slice ad36 [(api_Loop.mk 0 s21 ([] : (List Int)) false)].length cp37) 3 (.agg #[iv 0, iv 0, .slice none 0 0, .bool false]) 48 S (wN rfl) rfl Try.underlying26 rfl rfl (by decide) rfl rfl rfl (src_R (T := 48) 0 S.mem rfl) hx39 rfl (lb rfl) fun a w ad40 cp41 S => ?_
    refine sField (b := b7) (off := 0) 0 0 S (wN rfl) rfl rfl rfl rfl rfl (lb rfl) fun a S => ?_
    refine sStore (p := b7) (off := 0) (T := 73) (vs := [.slice ad23 s22.length cp24, .slice none 0 0, .slice none 0 0, .slice none 0 0, iv 0]) (v := .slice ad40 l38.length cp41) 3 [.slice ad40 l38.length cp41] S (wN rfl) rfl rfl rfl rfl rfl rfl rfl (by simp) rfl fun a w S => ?_
    refine leafL (leafB (leafT (hK34 _ _ ?_)))
    refine sRegion ?_
    refine sBin (iv (w64 (s21 + 1))) S (wN rfl) rfl rfl rfl (bAdd _ _ _ _ s21 1) rfl (lb rfl) fun a S => ?_
    refine sMove (iv (w64 (s21 + 1))) S (wN rfl) (.inl rfl) rfl rfl (lb rfl) fun a S => ?_
    exact leafL (leafT (⟨(w64 (s21 + 1), l38), (Option.some.inj h).symm, ⟨ad40, cp41, S.fix [3, 0, 1] [2] (by decide) rfl rfl rfl⟩⟩))
  obtain ⟨o15, rfl, ad16, cp17, S⟩ := hI
  have h := g19
  clear g19
  try dsimp only at h
  refine sSeq (fun K42 hK42 => ?_)
  refine sRegion ?_
  refine sField (b := b6) (off := 0) 0 0 S (wN rfl) rfl rfl rfl rfl rfl (lb rfl) fun a S => ?_
  refine sLoad1 (p := b6) (off := 0) (T := 24) (vs := [iv p0.Start, .slice ad3 p0.Rows.length cp4]) 0 (iv p0.Start) S (wN rfl) rfl rfl rfl rfl rfl rfl (lb rfl) fun a S => ?_
  refine sLit (r := (rI .i64)) (T := 3) (xs := ([0, p0.Start] : List Int)) [(0, iv 0), (1, iv p0.Start)] 2 [iv 0, iv p0.Start] [iv 0, iv p0.Start] (iv 0) 8 S (wN rfl) rfl rfl Try.underlying32 rfl (by decide) (by decide) (by kernel_rfl) rfl (fun E1 w1 hE => All.cons rfl (All.cons rfl (All.nil _ _ _))) rfl rfl (lb rfl) fun a w ad43 cp44 S => ?_
  refine sField (b := b7) (off := 0) 1 1 S (wN rfl) rfl rfl rfl rfl rfl (lb rfl) fun a S => ?_
  refine sStore (p := b7) (off := 1) (T := 73) (vs := [.slice ad16 o15.length cp17, .slice none 0 0, .slice none 0 0, .slice none 0 0, iv 0]) (v := .slice ad43 ([0, p0.Start] : List Int).length cp44) 2 [.slice ad43 ([0, p0.Start] : List Int).length cp44] S (wN rfl) rfl rfl rfl rfl rfl rfl rfl (by simp) rfl fun a w S => ?_
  refine leafL (leafT (hK42 _ _ ?_))
  obtain ⟨t58, h, g59⟩ := bindSome h
  refine sCut (fun a w => ∃ o45, ∃ o48, ∃ o51, ∃ o54, ∃ o57, (o45, o48, o51, o54, o57) = t58 ∧ ∃ ad46, ∃ cp47, ∃ ad49, ∃ cp50, ∃ ad52, ∃ cp53, ∃ ad55, ∃ cp56, St [] E [] w0 69 a w [(2, .pointer (some ⟨b7, 0, none⟩))] [eBox b7 73 [.slice ad46 o45.length cp47, .slice ad49 o48.length cp50, .slice ad52 o51.length cp53, .slice ad55 o54.length cp56, iv o57], eRow r_api_Loop 48 (.slice ad46 o45.length cp47) o45, eRow (rI .i64) 3 (.slice ad49 o48.length cp50) o48, eRow (rI .i64) 3 (.slice ad52 o51.length cp53) o51, eRow r_A2_Int 49 (.slice ad55 o54.length cp56) o54] []) ?_ (fun a w hI => ?_)
  rotate_left
  · obtain ⟨o45, o48, o51, o54, o57, rfl, ad46, cp47, ad49, cp50, ad52, cp53, ad55, cp56, S⟩ := hI
    have h := g59
    clear g59
    try dsimp only at h
    refine sSeq (fun K188 hK188 => ?_)
    refine sRegion ?_
    refine sLoadN (p := b7) (off := 0) (T := 73) (vs := [.slice ad46 o45.length cp47, .slice ad49 o48.length cp50, .slice ad52 o51.length cp53, .slice ad55 o54.length cp56, iv o57]) 0 [.slice ad46 o45.length cp47, .slice ad49 o48.length cp50, .slice ad52 o51.length cp53, .slice ad55 o54.length cp56, iv o57] S (wN rfl) rfl rfl rfl rfl rfl rfl rfl (lb rfl) fun a S => ?_
    refine sStore (p := b7) (off := 0) (T := 73) (vs := [.slice ad46 o45.length cp47, .slice ad49 o48.length cp50, .slice ad52 o51.length cp53, .slice ad55 o54.length cp56, iv o57]) (v := .agg #[.slice ad46 o45.length cp47, .slice ad49 o48.length cp50, .slice ad52 o51.length cp53, .slice ad55 o54.length cp56, iv o57]) 0 [.slice ad46 o45.length cp47, .slice ad49 o48.length cp50, .slice ad52 o51.length cp53, .slice ad55 o54.length cp56, iv o57] S (wN rfl) rfl rfl rfl rfl rfl rfl rfl (by simp) rfl fun a w S => ?_
    refine sMove (iv 0) S (wN rfl) (.inr rfl) rfl rfl (lb rfl) fun a S => ?_
    refine leafL (leafT (hK188 _ _ ?_))
    obtain rfl := Option.some.inj h
    exact wp_ret (sRet (.tuple #[.agg #[.slice ad46 o45.length cp47, .slice ad49 o48.length cp50, .slice ad52 o51.length cp53, .slice ad55 o54.length cp56, iv o57], iv 0]) S (rsl2 rfl (rvN (c := 2) (t := 73) (T := 73) (p := b7) 0 [.slice ad46 o45.length cp47, .slice ad49 o48.length cp50, .slice ad52 o51.length cp53, .slice ad55 o54.length cp56, iv o57] S rfl rfl rfl rfl) (rvT (t := 3) (v := iv 0) S rfl)) ⟨(ad46, cp47, ad49, cp50, ad52, cp53, ad55, cp56), rfl, S.mem.sel [1, 2, 3, 4] [] (by decide) rfl rfl⟩)
  refine sSeq (fun K60 hK60 => ?_)
  refine sRegion ?_
  refine sField (b := b6) (off := 0) 1 1 S (wN rfl) rfl rfl rfl rfl rfl (lb rfl) fun a S => ?_
  refine sLoad1 (p := b6) (off := 1) (T := 24) (vs := [iv p0.Start, .slice ad3 p0.Rows.length cp4]) 2 (.slice ad3 p0.Rows.length cp4) S (wN rfl) rfl rfl rfl rfl rfl rfl (lb rfl) fun a S => ?_
  refine sLen (ad := ad3) (m := p0.Rows.length) (c := cp4) S (wN rfl) rfl Try.underlying22 rfl rfl (lb rfl) fun a S => ?_
  refine sMove (iv 0) S (wN rfl) (.inl rfl) rfl rfl (lb rfl) fun a S => ?_
  refine leafL (leafT (hK60 _ _ ?_))
  refine wp_block ?_
  have S := S.nilRow (rI .i64) 3 (α := Int)
  have S := S.nilRow r_A2_Int 49 (α := (Int × Int))
  obtain ⟨t77, hl, g76⟩ := bindSome h
  refine sLoop hl (fun s0 a w => match s0 with | (s61, s62, s65, s68, s71, s74) => ∃ ad63, ∃ cp64, ∃ ad66, ∃ cp67, ∃ ad69, ∃ cp70, ∃ ad72, ∃ cp73, St [] E [] w0 69 a w [(1, .pointer (some ⟨b6, 0, none⟩)), (2, .pointer (some ⟨b7, 0, none⟩)), (36, iv (p0.Rows.length : Int)), (37, iv s61)] [eBox b6 24 [iv p0.Start, .slice ad3 p0.Rows.length cp4], eBox b7 73 [.slice ad63 s62.length cp64, .slice ad66 s65.length cp67, .slice ad69 s68.length cp70, .slice ad72 s71.length cp73, iv s74], eRow r_api_Loop 48 (.slice ad63 s62.length cp64) s62, eRow (rI .i64) 3 (.slice ad66 s65.length cp67) s65, eRow (rI .i64) 3 (.slice ad69 s68.length cp70) s68, eRow r_A2_Int 49 (.slice ad72 s71.length cp73) s71] [fRep (rL r_api_Row) (.slice ad3 p0.Rows.length cp4) p0.Rows]) ⟨ad16, cp17, ad43, cp44, none, 0, none, 0, S.fix [4, 2, 5, 3, 1, 0] [0] (by decide) rfl rfl rfl⟩ ?_
  clear hl h
  intro s0 a w c0 hI h hu75
  obtain ⟨s61, s62, s65, s68, s71, s74⟩ := s0
  unfold loops_of_s0_l3 at h
  dsimp only at h hI
  obtain ⟨ad63, cp64, ad66, cp67, ad69, cp70, ad72, cp73, S⟩ := hI
  refine sSeq (fun K91 hK91 => ?_)
  refine sRegion ?_
  refine sBin (.bool (decide (s61 < (p0.Rows.length : Int)))) S (wN rfl) rfl rfl rfl (bLt _ _ _ _ .i64 s61 (p0.Rows.length : Int)) rfl (lb rfl) fun a S => ?_
  refine leafL (leafT (hK91 _ _ ?_))
  refine sSeq (fun K92 hK92 => ?_)
  rcases iteSome h with ⟨hc93, h⟩ | ⟨hc93, h⟩
  rotate_left
  · refine sCondF S rfl hc93 ?_
    obtain rfl := Option.some.inj h
    obtain rfl := hu75 _ rfl
    have h := g76
    clear g76
    try dsimp only at h
    exact wp_exit (xThen (xThen (xHit (leafT (⟨s62, s65, s68, s71, s74, Option.some.inj h, ad63, cp64, ad66, cp67, ad69, cp70, ad72, cp73, S.fix [1, 2, 3, 4, 5] [] (by decide) rfl rfl rfl⟩)))))
  refine sCondT S rfl hc93 ?_
  refine wp_skip (leafT (hK92 _ _ ?_))
  obtain ⟨t107, h, g108⟩ := bindSome h
  refine sCut (fun a w => ∃ o94, ∃ o97, ∃ o100, ∃ o103, ∃ o106, (o94, o97, o100, o103, o106) = t107 ∧ ∃ ad95, ∃ cp96, ∃ ad98, ∃ cp99, ∃ ad101, ∃ cp102, ∃ ad104, ∃ cp105, St [] E [] w0 69 a w [(1, .pointer (some ⟨b6, 0, none⟩)), (2, .pointer (some ⟨b7, 0, none⟩)), (36, iv (p0.Rows.length : Int)), (37, iv s61)] [eBox b6 24 [iv p0.Start, .slice ad3 p0.Rows.length cp4], eBox b7 73 [.slice ad95 o94.length cp96, .slice ad98 o97.length cp99, .slice ad101 o100.length cp102, .slice ad104 o103.length cp105, iv o106], eRow r_api_Loop 48 (.slice ad95 o94.length cp96) o94, eRow (rI .i64) 3 (.slice ad98 o97.length cp99) o97, eRow (rI .i64) 3 (.slice ad101 o100.length cp102) o100, eRow r_A2_Int 49 (.slice ad104 o103.length cp105) o103] [fRep (rL r_api_Row) (.slice ad3 p0.Rows.length cp4) p0.Rows]) ?_ (fun a w hI => ?_)
  rotate_left
  · obtain ⟨o94, o97, o100, o103, o106, rfl, ad95, cp96, ad98, cp99, ad101, cp102, ad104, cp105, S⟩ := hI
    have h := g108
    clear g108
    try dsimp only at h
    refine sRegion ?_
    refine sBin (iv (w64 (s61 + 1))) S (wN rfl) rfl rfl rfl (bAdd _ _ _ _ s61 1) rfl (lb rfl) fun a S => ?_
    refine sMove (iv (w64 (s61 + 1))) S (wN rfl) (.inl rfl) rfl rfl (lb rfl) fun a S => ?_
    exact leafL (leafT (⟨(w64 (s61 + 1), o94, o97, o100, o103, o106), (Option.some.inj h).symm, ⟨ad95, cp96, ad98, cp99, ad101, cp102, ad104, cp105, S.fix [0, 1, 2, 3, 4, 5] [0] (by decide) rfl rfl rfl⟩⟩))
  refine wp_block ?_
  refine sSeq (fun K109 hK109 => ?_)
  refine sRegion ?_
  refine sMove (iv s61) S (wN rfl) (.inl rfl) rfl rfl (lb rfl) fun a S => ?_
  refine sMove (iv s61) S (wN rfl) (.inr rfl) rfl rfl (lb rfl) fun a S => ?_
  refine leafL (leafT (hK109 _ _ ?_))
  refine sSeq (fun K110 hK110 => ?_)
  refine sRegion ?_
  refine sLoadN (p := b6) (off := 0) (T := 24) (vs := [iv p0.Start, .slice ad3 p0.Rows.length cp4]) 0 [iv p0.Start, .slice ad3 p0.Rows.length cp4] S (wN rfl) rfl rfl rfl rfl rfl rfl rfl (lb rfl) fun a S => ?_
  refine sMove (iv s61) S (wN rfl) (.inl rfl) rfl rfl (lb rfl) fun a S => ?_
  obtain ⟨r111, hx112, h⟩ := bindSome h
  have S := S.learn (fRep r_api_Chart (.agg #[iv p0.Start, .slice ad3 p0.Rows.length cp4]) p0) ⟨_, rfl, S.mem.know (i := 0) (e := fRep (rL r_api_Row) (.slice ad3 p0.Rows.length cp4) p0.Rows) rfl⟩
  refine sCall (X := Option Addr × Nat) (f := 43) (vs := [.agg #[iv p0.Start, .slice ad3 p0.Rows.length cp4], iv s61]) (val := fun x => .tuple #[.slice x.1 r111.1.length x.2, iv r111.2]) (B' := fun x => [eRow r_api_Stitch 61 (.slice x.1 r111.1.length x.2) r111.1]) (D' := fun _ => []) [] [eBox b6 24 [iv p0.Start, .slice ad3 p0.Rows.length cp4], eBox b7 73 [.slice ad63 s62.length cp64, .slice ad66 s65.length cp67, .slice ad69 s68.length cp70, .slice ad72 s71.length cp73, iv s74], eRow r_api_Loop 48 (.slice ad63 s62.length cp64) s62, eRow (rI .i64) 3 (.slice ad66 s65.length cp67) s65, eRow (rI .i64) 3 (.slice ad69 s68.length cp70) s68, eRow r_A2_Int 49 (.slice ad72 s71.length cp73) s71] [fRep r_api_Chart (.agg #[iv p0.Start, .slice ad3 p0.Rows.length cp4]) p0] [0, 1, 2, 3, 4, 5] [0] S (wN rfl) rfl callee43 rfl (by decide) rfl rfl (fun E1 w1 S1 => c_chart_Face_s0 E1 w1 p0 (.agg #[iv p0.Start, .slice ad3 p0.Rows.length cp4]) s61 r111 hx112 S1) rfl (lb rfl) fun xx a w S => ?_
  obtain ⟨ad113, cp114⟩ := xx
  dsimp only at S
  refine sMove (.tuple #[.slice ad113 r111.1.length cp114, iv r111.2]) S (wN rfl) (.inl rfl) rfl rfl (lb rfl) fun a S => ?_
  refine sExtract (vs := [.slice ad113 r111.1.length cp114, iv r111.2]) (.slice ad113 r111.1.length cp114) S (wN rfl) rfl rfl rfl rfl (lb rfl) fun a S => ?_
  refine sExtract (vs := [.slice ad113 r111.1.length cp114, iv r111.2]) (iv r111.2) S (wN rfl) rfl rfl rfl rfl (lb rfl) fun a S => ?_
  refine sMove (.slice ad113 r111.1.length cp114) S (wN rfl) (.inr rfl) rfl rfl (lb rfl) fun a S => ?_
  refine sMove (iv r111.2) S (wN rfl) (.inr rfl) rfl rfl (lb rfl) fun a S => ?_
  refine leafL (leafT (hK110 _ _ ?_))
  obtain ⟨t128, h, g129⟩ := bindSome h
  refine sCut (fun a w => ∃ o115, ∃ o118, ∃ o121, ∃ o124, ∃ o127, (o115, o118, o121, o124, o127) = t128 ∧ ∃ ad116, ∃ cp117, ∃ ad119, ∃ cp120, ∃ ad122, ∃ cp123, ∃ ad125, ∃ cp126, St [] E [] w0 69 a w [(1, .pointer (some ⟨b6, 0, none⟩)), (2, .pointer (some ⟨b7, 0, none⟩)), (36, iv (p0.Rows.length : Int)), (37, iv s61)] [eBox b6 24 [iv p0.Start, .slice ad3 p0.Rows.length cp4], eBox b7 73 [.slice ad116 o115.length cp117, .slice ad119 o118.length cp120, .slice ad122 o121.length cp123, .slice ad125 o124.length cp126, iv o127], eRow r_api_Loop 48 (.slice ad116 o115.length cp117) o115, eRow (rI .i64) 3 (.slice ad119 o118.length cp120) o118, eRow (rI .i64) 3 (.slice ad122 o121.length cp123) o121, eRow r_A2_Int 49 (.slice ad125 o124.length cp126) o124] [fRep (rL r_api_Row) (.slice ad3 p0.Rows.length cp4) p0.Rows]) ?_ (fun a w hI => ?_)
  rotate_left
  · obtain ⟨o115, o118, o121, o124, o127, rfl, ad116, cp117, ad119, cp120, ad122, cp123, ad125, cp126, S⟩ := hI
    have h := g129
    clear g129
    try dsimp only at h
    refine sRegion ?_
    refine sField (b := b7) (off := 0) 1 1 S (wN rfl) rfl rfl rfl rfl rfl (lb rfl) fun a S => ?_
    refine sLoad1 (p := b7) (off := 1) (T := 73) (vs := [.slice ad116 o115.length cp117, .slice ad119 o118.length cp120, .slice ad122 o121.length cp123, .slice ad125 o124.length cp126, iv o127]) 1 (.slice ad119 o118.length cp120) S (wN rfl) rfl rfl rfl rfl rfl rfl (lb rfl) fun a S => ?_
    refine sField (b := b7) (off := 0) 0 0 S (wN rfl) rfl rfl rfl rfl rfl (lb rfl) fun a S => ?_
    refine sLoad1 (p := b7) (off := 0) (T := 73) (vs := [.slice ad116 o115.length cp117, .slice ad119 o118.length cp120, .slice ad122 o121.length cp123, .slice ad125 o124.length cp126, iv o127]) 1 (.slice ad116 o115.length cp117) S (wN rfl) rfl rfl rfl rfl rfl rfl (lb rfl) fun a S => ?_
    refine sLen (ad := ad116) (m := o115.length) (c := cp117) S (wN rfl) rfl Try.underlying26 rfl rfl (lb rfl) fun a S => ?_
    refine sLit (r := (rI .i64)) (T := 3) (xs := ([(o115.length : Int)] : List Int)) [(0, iv (o115.length : Int))] 1 [iv (o115.length : Int)] [iv (o115.length : Int)] (iv 0) 8 S (wN rfl) rfl rfl Try.underlying32 rfl (by decide) (by decide) (by kernel_rfl) rfl (fun E1 w1 hE => All.cons rfl (All.nil _ _ _)) rfl rfl (lb rfl) fun a w ad182 cp183 S => ?_
    obtain ⟨l184, hx185, h⟩ := bindSome h
    refine sApp (r := (rI .i64)) (T := 3) (xs := o118) (ys := ([(o115.length : Int)] : List Int)) (v := .slice ad119 o118.length cp120) (u := .slice ad182 ([(o115.length : Int)] : List Int).length cp183) 4 (iv 0) 8 S (wN rfl) rfl Try.underlying32 rfl rfl (by decide) rfl rfl rfl (src_R (T := 3) 0 S.mem rfl) hx185 rfl (lb rfl) fun a w ad186 cp187 S => ?_
    refine sField (b := b7) (off := 0) 1 1 S (wN rfl) rfl rfl rfl rfl rfl (lb rfl) fun a S => ?_
    refine sStore (p := b7) (off := 1) (T := 73) (vs := [.slice ad116 o115.length cp117, .slice ad119 o118.length cp120, .slice ad122 o121.length cp123, .slice ad125 o124.length cp126, iv o127]) (v := .slice ad186 l184.length cp187) 3 [.slice ad186 l184.length cp187] S (wN rfl) rfl rfl rfl rfl rfl rfl rfl (by simp) rfl fun a w S => ?_
    exact leafL (leafB (leafT (⟨o115, l184, o121, o124, o127, Option.some.inj h, ad116, cp117, ad186, cp187, ad122, cp123, ad125, cp126, S.fix [3, 0, 4, 1, 5, 6] [0] (by decide) rfl rfl rfl⟩)))
  refine sSeq (fun K130 hK130 => ?_)
  refine sRegion ?_
  refine sMove (.slice ad113 r111.1.length cp114) S (wN rfl) (.inl rfl) rfl rfl (lb rfl) fun a S => ?_
  refine sLen (ad := ad113) (m := r111.1.length) (c := cp114) S (wN rfl) rfl Try.underlying62 rfl rfl (lb rfl) fun a S => ?_
  refine sMove (iv 0) S (wN rfl) (.inl rfl) rfl rfl (lb rfl) fun a S => ?_
  refine leafL (leafT (hK130 _ _ ?_))
  refine wp_block ?_
  have S := S.shutR (r := r_api_Stitch) (T := 61) (v := .slice ad113 r111.1.length cp114) (xs := r111.1) 0 rfl
  obtain ⟨t147, hl, g146⟩ := bindSome h
  refine sLoop hl (fun s0 a w => match s0 with | (s131, s132, s135, s138, s141, s144) => ∃ ad133, ∃ cp134, ∃ ad136, ∃ cp137, ∃ ad139, ∃ cp140, ∃ ad142, ∃ cp143, St [] E [] w0 69 a w [(1, .pointer (some ⟨b6, 0, none⟩)), (2, .pointer (some ⟨b7, 0, none⟩)), (6, iv s61), (36, iv (p0.Rows.length : Int)), (37, iv s61), (46, .slice ad113 r111.1.length cp114), (47, iv (r111.1.length : Int)), (48, iv s131)] [eBox b6 24 [iv p0.Start, .slice ad3 p0.Rows.length cp4], eBox b7 73 [.slice ad133 s132.length cp134, .slice ad136 s135.length cp137, .slice ad139 s138.length cp140, .slice ad142 s141.length cp143, iv s144], eRow r_api_Loop 48 (.slice ad133 s132.length cp134) s132, eRow (rI .i64) 3 (.slice ad136 s135.length cp137) s135, eRow (rI .i64) 3 (.slice ad139 s138.length cp140) s138, eRow r_A2_Int 49 (.slice ad142 s141.length cp143) s141] [fRep (rL r_api_Stitch) (.slice ad113 r111.1.length cp114) r111.1, fRep (rL r_api_Row) (.slice ad3 p0.Rows.length cp4) p0.Rows]) ⟨ad63, cp64, ad66, cp67, ad69, cp70, ad72, cp73, S.fix [0, 1, 2, 3, 4, 5] [0, 2] (by decide) rfl rfl rfl⟩ ?_
  clear hl h
  intro s0 a w c0 hI h hu145
  obtain ⟨s131, s132, s135, s138, s141, s144⟩ := s0
  unfold loops_of_s0_l2 at h
  dsimp only at h hI
  obtain ⟨ad133, cp134, ad136, cp137, ad139, cp140, ad142, cp143, S⟩ := hI
  refine sSeq (fun K161 hK161 => ?_)
  refine sRegion ?_
  refine sBin (.bool (decide (s131 < (r111.1.length : Int)))) S (wN rfl) rfl rfl rfl (bLt _ _ _ _ .i64 s131 (r111.1.length : Int)) rfl (lb rfl) fun a S => ?_
  refine leafL (leafT (hK161 _ _ ?_))
  refine sSeq (fun K162 hK162 => ?_)
  rcases iteSome h with ⟨hc163, h⟩ | ⟨hc163, h⟩
  rotate_left
  · refine sCondF S rfl hc163 ?_
    obtain rfl := Option.some.inj h
    obtain rfl := hu145 _ rfl
    have h := g146
    clear g146
    try dsimp only at h
    exact wp_exit (xThen (xThen (xHit (leafT (⟨s132, s135, s138, s141, s144, Option.some.inj h, ad133, cp134, ad136, cp137, ad139, cp140, ad142, cp143, S.fix [0, 1, 2, 3, 4, 5] [1] (by decide) rfl rfl rfl⟩)))))
  refine sCondT S rfl hc163 ?_
  refine wp_skip (leafT (hK162 _ _ ?_))
  refine sSeq (fun K164 hK164 => ?_)
  refine wp_block ?_
  refine sSeq (fun K165 hK165 => ?_)
  refine sRegion ?_
  refine sMove (iv s131) S (wN rfl) (.inl rfl) rfl rfl (lb rfl) fun a S => ?_
  obtain ⟨x166, hx167, h⟩ := bindSome h
  obtain ⟨q168, hq169, S⟩ := pIdx (P := Try.prog) (r := r_api_Stitch) (v := .slice ad113 r111.1.length cp114) (xs := r111.1) (j := s131) 62 61 0 S Try.underlying62 rfl rfl hx167
  refine sIdxV (v := .slice ad113 r111.1.length cp114) (k := .i64) (j := s131) S (wN rfl) rfl rfl rfl hq169 rfl (lb rfl) fun a S => ?_
  obtain ⟨u170, S⟩ := pLoad (r := r_api_Stitch) (q := q168) (x := x166) 0 S rfl
  obtain rfl : u170 = .agg #[.int .u8 x166.Kind, .bool x166.Purl, iv x166.A, iv x166.B] := S.mem.know (i := 1) (e := fRep r_api_Stitch (u170) x166) rfl
  refine sLoadVN (vq := q168) 0 [.int .u8 x166.Kind, .bool x166.Purl, iv x166.A, iv x166.B] S (wN rfl) rfl rfl rfl rfl rfl rfl (lb rfl) fun a S => ?_
  refine sAlloc (.agg #[.int .u8 0, .bool false, iv 0, iv 0]) S (wN rfl) rfl rfl [.int .u8 0, .bool false, iv 0, iv 0] rfl rfl (lb rfl) fun a b171 w S => ?_
  refine sMove (iv s131) S (wN rfl) (.inr rfl) rfl rfl (lb rfl) fun a S => ?_
  refine sStore (p := b171) (off := 0) (T := 61) (vs := [.int .u8 0, .bool false, iv 0, iv 0]) (v := .agg #[.int .u8 x166.Kind, .bool x166.Purl, iv x166.A, iv x166.B]) 0 [.int .u8 x166.Kind, .bool x166.Purl, iv x166.A, iv x166.B] S (wN rfl) rfl rfl rfl rfl rfl rfl rfl (by simp) rfl fun a w S => ?_
  refine leafL (leafT (hK165 _ _ ?_))
  refine sRegion ?_
  refine sMove (iv s61) S (wN rfl) (.inl rfl) rfl rfl (lb rfl) fun a S => ?_
  refine sBin (iv (w64 (s61 + 1))) S (wN rfl) rfl rfl rfl (bAdd _ _ _ _ s61 1) rfl (lb rfl) fun a S => ?_
  refine sMove (iv s131) S (wN rfl) (.inl rfl) rfl rfl (lb rfl) fun a S => ?_
  refine sLoadN (p := b171) (off := 0) (T := 61) (vs := [.int .u8 x166.Kind, .bool x166.Purl, iv x166.A, iv x166.B]) 0 [.int .u8 x166.Kind, .bool x166.Purl, iv x166.A, iv x166.B] S (wN rfl) rfl rfl rfl rfl rfl rfl rfl (lb rfl) fun a S => ?_
  obtain ⟨r172, hx173, h⟩ := bindSome h
  refine sCall (X := Option Addr × Nat × Option Addr × Nat × Option Addr × Nat × Option Addr × Nat) (f := 44) (vs := [.pointer (some ⟨b7, 0, none⟩), iv (w64 (s61 + 1)), iv s131, .agg #[.int .u8 x166.Kind, .bool x166.Purl, iv x166.A, iv x166.B]]) (val := fun _ => .tuple #[]) (B' := fun x => [eBox b7 73 [.slice x.1 r172.loops.length x.2.1, .slice x.2.2.1 r172.rows.length x.2.2.2.1, .slice x.2.2.2.2.1 r172.bound.length x.2.2.2.2.2.1, .slice x.2.2.2.2.2.2.1 r172.cross.length x.2.2.2.2.2.2.2, iv r172.next], eRow r_api_Loop 48 (.slice x.1 r172.loops.length x.2.1) r172.loops, eRow (rI .i64) 3 (.slice x.2.2.1 r172.rows.length x.2.2.2.1) r172.rows, eRow (rI .i64) 3 (.slice x.2.2.2.2.1 r172.bound.length x.2.2.2.2.2.1) r172.bound, eRow r_A2_Int 49 (.slice x.2.2.2.2.2.2.1 r172.cross.length x.2.2.2.2.2.2.2) r172.cross]) (D' := fun _ => []) [eBox b7 73 [.slice ad133 s132.length cp134, .slice ad136 s135.length cp137, .slice ad139 s138.length cp140, .slice ad142 s141.length cp143, iv s144], eRow r_api_Loop 48 (.slice ad133 s132.length cp134) s132, eRow (rI .i64) 3 (.slice ad136 s135.length cp137) s135, eRow (rI .i64) 3 (.slice ad139 s138.length cp140) s138, eRow r_A2_Int 49 (.slice ad142 s141.length cp143) s141] [eBox b171 61 [.int .u8 x166.Kind, .bool x166.Purl, iv x166.A, iv x166.B], eBox b6 24 [iv p0.Start, .slice ad3 p0.Rows.length cp4]] [fRep r_api_Stitch (.agg #[.int .u8 x166.Kind, .bool x166.Purl, iv x166.A, iv x166.B]) x166] [2, 3, 4, 5, 6, 0, 1] [1] S (wN rfl) rfl callee44 rfl (by decide) rfl rfl (fun E1 w1 S1 => c_loops_piece_work_s1 E1 w1 (loops_piece.mk s132 s135 s138 s141 s144) b7 ad133 cp134 ad136 cp137 ad139 cp140 ad142 cp143 (w64 (s61 + 1)) s131 x166 (.agg #[.int .u8 x166.Kind, .bool x166.Purl, iv x166.A, iv x166.B]) r172 hx173 S1) rfl (lb rfl) fun xx a w S => ?_
  obtain ⟨ad174, cp175, ad176, cp177, ad178, cp179, ad180, cp181⟩ := xx
  dsimp only at S
  refine leafL (leafB (leafT (hK164 _ _ ?_)))
  refine sRegion ?_
  refine sBin (iv (w64 (s131 + 1))) S (wN rfl) rfl rfl rfl (bAdd _ _ _ _ s131 1) rfl (lb rfl) fun a S => ?_
  refine sMove (iv (w64 (s131 + 1))) S (wN rfl) (.inl rfl) rfl rfl (lb rfl) fun a S => ?_
  exact leafL (leafT (⟨(w64 (s131 + 1), r172.loops, r172.rows, r172.bound, r172.cross, r172.next), (Option.some.inj h).symm, ⟨ad174, cp175, ad176, cp177, ad178, cp179, ad180, cp181, S.fix [6, 0, 1, 2, 3, 4] [3, 4] (by decide) rfl rfl rfl⟩⟩))

end Go.Proofs.Yticjoiolfibmlaa
namespace Go.Proofs.Yticjoiolfibmlaa
open Go.RowKit
set_option linter.unusedVariables false

noncomputable def F_loops_Of_s0 (p0 : api_Chart) : Option ((List api_Loop) × Int) :=
  Option.bind (F_loops_of_s0 p0) fun r8 =>
  some (r8.1.loops, r8.2)
set_option maxHeartbeats 4000000 in
set_option maxRecDepth 100000 in
theorem c_loops_Of_s0 (E : Nat → Prop) (w0 : World) (p0 : api_Chart) (v0 : Value) (r : ((List api_Loop) × Int)) (h : F_loops_Of_s0 p0 = some r) (S : St0 E [] w0 w0 [] [fRep r_api_Chart (v0) p0]) :
    Calls Try.prog 11 #[v0] w0 (Ret (X := Option Addr × Nat) E [] w0 (fun x => .tuple #[.slice x.1 r.1.length x.2, iv r.2]) (fun x => [eRow r_api_Loop 48 (.slice x.1 r.1.length x.2) r.1]) (fun _ => [])) := by
  unfold F_loops_Of_s0 at h
  obtain ⟨u1, rfl, hu2⟩ := S.know (i := 0) (e := fRep r_api_Chart (v0) p0) rfl
  have S := S.learn (fRep (rL r_api_Row) u1 p0.Rows) hu2
  obtain ⟨ad3, cp4, _, rfl, _⟩ := hu2
  refine sEnter (args := [.agg #[iv p0.Start, .slice ad3 p0.Rows.length cp4]]) 14 Try.func11 rfl rfl (by simp) S (fun a S => ?_)
  refine sSeq (fun K5 hK5 => ?_)
  refine sRegion ?_
  refine sBox (v := .agg #[iv p0.Start, .slice ad3 p0.Rows.length cp4]) S (wN rfl) rfl rfl [iv p0.Start, .slice ad3 p0.Rows.length cp4] rfl rfl (lb rfl) fun a b6 w S => ?_
  refine sMove (.slice none 0 0) S (wN rfl) (.inr rfl) rfl rfl (lb rfl) fun a S => ?_
  refine sMove (iv 0) S (wN rfl) (.inr rfl) rfl rfl (lb rfl) fun a S => ?_
  refine leafL (leafT (hK5 _ _ ?_))
  refine sSeq (fun K7 hK7 => ?_)
  refine sRegion ?_
  refine sLoadN (p := b6) (off := 0) (T := 24) (vs := [iv p0.Start, .slice ad3 p0.Rows.length cp4]) 0 [iv p0.Start, .slice ad3 p0.Rows.length cp4] S (wN rfl) rfl rfl rfl rfl rfl rfl rfl (lb rfl) fun a S => ?_
  obtain ⟨r8, hx9, h⟩ := bindSome h
  refine sCall (X := Option Addr × Nat × Option Addr × Nat × Option Addr × Nat × Option Addr × Nat) (f := 33) (vs := [.agg #[iv p0.Start, .slice ad3 p0.Rows.length cp4]]) (val := fun x => .tuple #[.agg #[.slice x.1 r8.1.loops.length x.2.1, .slice x.2.2.1 r8.1.rows.length x.2.2.2.1, .slice x.2.2.2.2.1 r8.1.bound.length x.2.2.2.2.2.1, .slice x.2.2.2.2.2.2.1 r8.1.cross.length x.2.2.2.2.2.2.2, iv r8.1.next], iv r8.2]) (B' := fun x => [eRow r_api_Loop 48 (.slice x.1 r8.1.loops.length x.2.1) r8.1.loops, eRow (rI .i64) 3 (.slice x.2.2.1 r8.1.rows.length x.2.2.2.1) r8.1.rows, eRow (rI .i64) 3 (.slice x.2.2.2.2.1 r8.1.bound.length x.2.2.2.2.2.1) r8.1.bound, eRow r_A2_Int 49 (.slice x.2.2.2.2.2.2.1 r8.1.cross.length x.2.2.2.2.2.2.2) r8.1.cross]) (D' := fun _ => []) [] [eBox b6 24 [iv p0.Start, .slice ad3 p0.Rows.length cp4]] [fRep r_api_Chart (.agg #[iv p0.Start, .slice ad3 p0.Rows.length cp4]) p0] [0] [1] S (wN rfl) rfl callee33 rfl (by decide) rfl rfl (fun E1 w1 S1 => c_loops_of_s0 E1 w1 p0 (.agg #[iv p0.Start, .slice ad3 p0.Rows.length cp4]) r8 hx9 S1) rfl (lb rfl) fun xx a w S => ?_
  obtain ⟨ad10, cp11, ad12, cp13, ad14, cp15, ad16, cp17⟩ := xx
  dsimp only at S
  refine sMove (.tuple #[.agg #[.slice ad10 r8.1.loops.length cp11, .slice ad12 r8.1.rows.length cp13, .slice ad14 r8.1.bound.length cp15, .slice ad16 r8.1.cross.length cp17, iv r8.1.next], iv r8.2]) S (wN rfl) (.inl rfl) rfl rfl (lb rfl) fun a S => ?_
  refine sExtract (vs := [.agg #[.slice ad10 r8.1.loops.length cp11, .slice ad12 r8.1.rows.length cp13, .slice ad14 r8.1.bound.length cp15, .slice ad16 r8.1.cross.length cp17, iv r8.1.next], iv r8.2]) (.agg #[.slice ad10 r8.1.loops.length cp11, .slice ad12 r8.1.rows.length cp13, .slice ad14 r8.1.bound.length cp15, .slice ad16 r8.1.cross.length cp17, iv r8.1.next]) S (wN rfl) rfl rfl rfl rfl (lb rfl) fun a S => ?_
  refine sExtract (vs := [.agg #[.slice ad10 r8.1.loops.length cp11, .slice ad12 r8.1.rows.length cp13, .slice ad14 r8.1.bound.length cp15, .slice ad16 r8.1.cross.length cp17, iv r8.1.next], iv r8.2]) (iv r8.2) S (wN rfl) rfl rfl rfl rfl (lb rfl) fun a S => ?_
  refine sAlloc (.agg #[.slice none 0 0, .slice none 0 0, .slice none 0 0, .slice none 0 0, iv 0]) S (wN rfl) rfl rfl [.slice none 0 0, .slice none 0 0, .slice none 0 0, .slice none 0 0, iv 0] rfl rfl (lb rfl) fun a b18 w S => ?_
  refine sStore (p := b18) (off := 0) (T := 73) (vs := [.slice none 0 0, .slice none 0 0, .slice none 0 0, .slice none 0 0, iv 0]) (v := .agg #[.slice ad10 r8.1.loops.length cp11, .slice ad12 r8.1.rows.length cp13, .slice ad14 r8.1.bound.length cp15, .slice ad16 r8.1.cross.length cp17, iv r8.1.next]) 0 [.slice ad10 r8.1.loops.length cp11, .slice ad12 r8.1.rows.length cp13, .slice ad14 r8.1.bound.length cp15, .slice ad16 r8.1.cross.length cp17, iv r8.1.next] S (wN rfl) rfl rfl rfl rfl rfl rfl rfl (by simp) rfl fun a w S => ?_
  refine sMove (iv r8.2) S (wN rfl) (.inr rfl) rfl rfl (lb rfl) fun a S => ?_
  refine leafL (leafT (hK7 _ _ ?_))
  refine sSeq (fun K19 hK19 => ?_)
  refine sRegion ?_
  refine sField (b := b18) (off := 0) 0 0 S (wN rfl) rfl rfl rfl rfl rfl (lb rfl) fun a S => ?_
  refine sLoad1 (p := b18) (off := 0) (T := 73) (vs := [.slice ad10 r8.1.loops.length cp11, .slice ad12 r8.1.rows.length cp13, .slice ad14 r8.1.bound.length cp15, .slice ad16 r8.1.cross.length cp17, iv r8.1.next]) 0 (.slice ad10 r8.1.loops.length cp11) S (wN rfl) rfl rfl rfl rfl rfl rfl (lb rfl) fun a S => ?_
  refine sMove (iv r8.2) S (wN rfl) (.inl rfl) rfl rfl (lb rfl) fun a S => ?_
  refine sMove (.slice ad10 r8.1.loops.length cp11) S (wN rfl) (.inr rfl) rfl rfl (lb rfl) fun a S => ?_
  refine sMove (iv r8.2) S (wN rfl) (.inr rfl) rfl rfl (lb rfl) fun a S => ?_
  refine leafL (leafT (hK19 _ _ ?_))
  obtain rfl := Option.some.inj h
  exact wp_ret (sRet (.tuple #[.slice ad10 r8.1.loops.length cp11, iv r8.2]) S (rsl2 rfl (rvT (t := 2) (v := .slice ad10 r8.1.loops.length cp11) S rfl) (rvT (t := 3) (v := iv r8.2) S rfl)) ⟨(ad10, cp11), rfl, S.mem.sel [1] [] (by decide) rfl rfl⟩)

end Go.Proofs.Yticjoiolfibmlaa
namespace Go.Proofs.Yticjoiolfibmlaa
open Go.RowKit
set_option linter.unusedVariables false

noncomputable def F_loops_Bound (p0 : api_Chart) : Option ((List Int) × Int) :=
  Option.bind (F_loops_of p0) fun r8 =>
  some (r8.1.bound, r8.2)
def c_loops_Bound_val (r : ((List Int) × Int)) (x : Value) : Value := .tuple #[x, .int .i64 r.2]
def c_loops_Bound_D (r : ((List Int) × Int)) (x : Value) : List Fact := [fRep (rL (rI .i64)) x r.1]
set_option maxHeartbeats 4000000 in
set_option maxRecDepth 100000 in
theorem c_loops_Bound (E : Nat → Prop) (w0 : World) (p0 : api_Chart) (v0 : Value) (r : ((List Int) × Int)) (h : F_loops_Bound p0 = some r) (S : St0 E [] w0 w0 [] [fRep r_api_Chart (v0) p0]) :
    Calls Try.prog 13 #[v0] w0 (Ret (X := Value) E [] w0 (c_loops_Bound_val r) (fun _ => []) (c_loops_Bound_D r)) := by
  unfold F_loops_Bound at h
  obtain ⟨u1, rfl, hu2⟩ := S.know (i := 0) (e := fRep r_api_Chart (v0) p0) rfl
  have S := S.learn (fRep (rL r_api_Row) u1 p0.Rows) hu2
  obtain ⟨ad3, cp4, _, rfl, _⟩ := hu2
  refine sEnter (args := [.agg #[iv p0.Start, .slice ad3 p0.Rows.length cp4]]) 14 Try.func13 rfl rfl (by simp) S (fun a S => ?_)
  refine sSeq (fun K5 hK5 => ?_)
  refine sRegion ?_
  refine sBox (v := .agg #[iv p0.Start, .slice ad3 p0.Rows.length cp4]) S (wN rfl) rfl rfl [iv p0.Start, .slice ad3 p0.Rows.length cp4] rfl rfl (lb rfl) fun a b6 w S => ?_
  refine sMove (.slice none 0 0) S (wN rfl) (.inr rfl) rfl rfl (lb rfl) fun a S => ?_
  refine sMove (iv 0) S (wN rfl) (.inr rfl) rfl rfl (lb rfl) fun a S => ?_
  refine leafL (leafT (hK5 _ _ ?_))
  refine sSeq (fun K7 hK7 => ?_)
  refine sRegion ?_
  refine sLoadN (p := b6) (off := 0) (T := 24) (vs := [iv p0.Start, .slice ad3 p0.Rows.length cp4]) 0 [iv p0.Start, .slice ad3 p0.Rows.length cp4] S (wN rfl) rfl rfl rfl rfl rfl rfl rfl (lb rfl) fun a S => ?_
  obtain ⟨r8, hx9, h⟩ := bindSome h
  refine sCall (X := Value) (f := 33) (vs := [.agg #[iv p0.Start, .slice ad3 p0.Rows.length cp4]]) (val := c_loops_of_val r8) (B' := fun _ => []) (D' := c_loops_of_D r8) [] [eBox b6 24 [iv p0.Start, .slice ad3 p0.Rows.length cp4]] [fRep r_api_Chart (.agg #[iv p0.Start, .slice ad3 p0.Rows.length cp4]) p0] [0] [1] S (wN rfl) rfl callee33 rfl (by decide) rfl rfl (fun E1 w1 S1 => c_loops_of E1 w1 p0 (.agg #[iv p0.Start, .slice ad3 p0.Rows.length cp4]) r8 hx9 S1) rfl (lb rfl) fun u10 a w S => ?_
  obtain ⟨u11, u12, u13, u14, rfl, hu15, hu16, hu17, hu18⟩ := S.mem.know (i := 0) (e := fRep r_loops_piece (u10) r8.1) rfl
  have S := S.learn (fRep (rL r_api_Loop) u11 r8.1.loops) hu15
  obtain ⟨ad19, cp20, _, rfl, _⟩ := hu15
  have S := S.learn (fRep (rL (rI .i64)) u12 r8.1.rows) hu16
  obtain ⟨ad21, cp22, _, rfl, _⟩ := hu16
  have S := S.learn (fRep (rL (rI .i64)) u13 r8.1.bound) hu17
  obtain ⟨ad23, cp24, _, rfl, _⟩ := hu17
  have S := S.learn (fRep (rL r_A2_Int) u14 r8.1.cross) hu18
  obtain ⟨ad25, cp26, _, rfl, _⟩ := hu18
  refine sMove (.tuple #[.agg #[.slice ad19 r8.1.loops.length cp20, .slice ad21 r8.1.rows.length cp22, .slice ad23 r8.1.bound.length cp24, .slice ad25 r8.1.cross.length cp26, iv r8.1.next], iv r8.2]) S (wN rfl) (.inl rfl) rfl rfl (lb rfl) fun a S => ?_
  refine sExtract (vs := [.agg #[.slice ad19 r8.1.loops.length cp20, .slice ad21 r8.1.rows.length cp22, .slice ad23 r8.1.bound.length cp24, .slice ad25 r8.1.cross.length cp26, iv r8.1.next], iv r8.2]) (.agg #[.slice ad19 r8.1.loops.length cp20, .slice ad21 r8.1.rows.length cp22, .slice ad23 r8.1.bound.length cp24, .slice ad25 r8.1.cross.length cp26, iv r8.1.next]) S (wN rfl) rfl rfl rfl rfl (lb rfl) fun a S => ?_
  refine sExtract (vs := [.agg #[.slice ad19 r8.1.loops.length cp20, .slice ad21 r8.1.rows.length cp22, .slice ad23 r8.1.bound.length cp24, .slice ad25 r8.1.cross.length cp26, iv r8.1.next], iv r8.2]) (iv r8.2) S (wN rfl) rfl rfl rfl rfl (lb rfl) fun a S => ?_
  refine sAlloc (.agg #[.slice none 0 0, .slice none 0 0, .slice none 0 0, .slice none 0 0, iv 0]) S (wN rfl) rfl rfl [.slice none 0 0, .slice none 0 0, .slice none 0 0, .slice none 0 0, iv 0] rfl rfl (lb rfl) fun a b27 w S => ?_
  refine sStore (p := b27) (off := 0) (T := 73) (vs := [.slice none 0 0, .slice none 0 0, .slice none 0 0, .slice none 0 0, iv 0]) (v := .agg #[.slice ad19 r8.1.loops.length cp20, .slice ad21 r8.1.rows.length cp22, .slice ad23 r8.1.bound.length cp24, .slice ad25 r8.1.cross.length cp26, iv r8.1.next]) 0 [.slice ad19 r8.1.loops.length cp20, .slice ad21 r8.1.rows.length cp22, .slice ad23 r8.1.bound.length cp24, .slice ad25 r8.1.cross.length cp26, iv r8.1.next] S (wN rfl) rfl rfl rfl rfl rfl rfl rfl (by simp) rfl fun a w S => ?_
  refine sMove (iv r8.2) S (wN rfl) (.inr rfl) rfl rfl (lb rfl) fun a S => ?_
  refine leafL (leafT (hK7 _ _ ?_))
  refine sSeq (fun K28 hK28 => ?_)
  refine sRegion ?_
  refine sField (b := b27) (off := 0) 2 2 S (wN rfl) rfl rfl rfl rfl rfl (lb rfl) fun a S => ?_
  refine sLoad1 (p := b27) (off := 2) (T := 73) (vs := [.slice ad19 r8.1.loops.length cp20, .slice ad21 r8.1.rows.length cp22, .slice ad23 r8.1.bound.length cp24, .slice ad25 r8.1.cross.length cp26, iv r8.1.next]) 0 (.slice ad23 r8.1.bound.length cp24) S (wN rfl) rfl rfl rfl rfl rfl rfl (lb rfl) fun a S => ?_
  refine sMove (iv r8.2) S (wN rfl) (.inl rfl) rfl rfl (lb rfl) fun a S => ?_
  refine sMove (.slice ad23 r8.1.bound.length cp24) S (wN rfl) (.inr rfl) rfl rfl (lb rfl) fun a S => ?_
  refine sMove (iv r8.2) S (wN rfl) (.inr rfl) rfl rfl (lb rfl) fun a S => ?_
  refine leafL (leafT (hK28 _ _ ?_))
  obtain rfl := Option.some.inj h
  exact wp_ret (sRet (.tuple #[.slice ad23 r8.1.bound.length cp24, iv r8.2]) S (rsl2 rfl (rvT (t := 2) (v := .slice ad23 r8.1.bound.length cp24) S rfl) (rvT (t := 3) (v := iv r8.2) S rfl)) ⟨(.slice ad23 r8.1.bound.length cp24), rfl, S.mem.sel [] [1] (by decide) rfl rfl⟩)

end Go.Proofs.Yticjoiolfibmlaa
namespace Go.Proofs.Yticjoiolfibmlaa
open Go.RowKit
set_option linter.unusedVariables false

noncomputable def F_loops_Crossings (p0 : api_Chart) : Option ((List (Int × Int)) × Int) :=
  Option.bind (F_loops_of p0) fun r8 =>
  some (r8.1.cross, r8.2)
def c_loops_Crossings_val (r : ((List (Int × Int)) × Int)) (x : Value) : Value := .tuple #[x, .int .i64 r.2]
def c_loops_Crossings_D (r : ((List (Int × Int)) × Int)) (x : Value) : List Fact := [fRep (rL r_A2_Int) x r.1]
set_option maxHeartbeats 4000000 in
set_option maxRecDepth 100000 in
theorem c_loops_Crossings (E : Nat → Prop) (w0 : World) (p0 : api_Chart) (v0 : Value) (r : ((List (Int × Int)) × Int)) (h : F_loops_Crossings p0 = some r) (S : St0 E [] w0 w0 [] [fRep r_api_Chart (v0) p0]) :
    Calls Try.prog 15 #[v0] w0 (Ret (X := Value) E [] w0 (c_loops_Crossings_val r) (fun _ => []) (c_loops_Crossings_D r)) := by
  unfold F_loops_Crossings at h
  obtain ⟨u1, rfl, hu2⟩ := S.know (i := 0) (e := fRep r_api_Chart (v0) p0) rfl
  have S := S.learn (fRep (rL r_api_Row) u1 p0.Rows) hu2
  obtain ⟨ad3, cp4, _, rfl, _⟩ := hu2
  refine sEnter (args := [.agg #[iv p0.Start, .slice ad3 p0.Rows.length cp4]]) 14 Try.func15 rfl rfl (by simp) S (fun a S => ?_)
  refine sSeq (fun K5 hK5 => ?_)
  refine sRegion ?_
  refine sBox (v := .agg #[iv p0.Start, .slice ad3 p0.Rows.length cp4]) S (wN rfl) rfl rfl [iv p0.Start, .slice ad3 p0.Rows.length cp4] rfl rfl (lb rfl) fun a b6 w S => ?_
  refine sMove (.slice none 0 0) S (wN rfl) (.inr rfl) rfl rfl (lb rfl) fun a S => ?_
  refine sMove (iv 0) S (wN rfl) (.inr rfl) rfl rfl (lb rfl) fun a S => ?_
  refine leafL (leafT (hK5 _ _ ?_))
  refine sSeq (fun K7 hK7 => ?_)
  refine sRegion ?_
  refine sLoadN (p := b6) (off := 0) (T := 24) (vs := [iv p0.Start, .slice ad3 p0.Rows.length cp4]) 0 [iv p0.Start, .slice ad3 p0.Rows.length cp4] S (wN rfl) rfl rfl rfl rfl rfl rfl rfl (lb rfl) fun a S => ?_
  obtain ⟨r8, hx9, h⟩ := bindSome h
  refine sCall (X := Value) (f := 33) (vs := [.agg #[iv p0.Start, .slice ad3 p0.Rows.length cp4]]) (val := c_loops_of_val r8) (B' := fun _ => []) (D' := c_loops_of_D r8) [] [eBox b6 24 [iv p0.Start, .slice ad3 p0.Rows.length cp4]] [fRep r_api_Chart (.agg #[iv p0.Start, .slice ad3 p0.Rows.length cp4]) p0] [0] [1] S (wN rfl) rfl callee33 rfl (by decide) rfl rfl (fun E1 w1 S1 => c_loops_of E1 w1 p0 (.agg #[iv p0.Start, .slice ad3 p0.Rows.length cp4]) r8 hx9 S1) rfl (lb rfl) fun u10 a w S => ?_
  obtain ⟨u11, u12, u13, u14, rfl, hu15, hu16, hu17, hu18⟩ := S.mem.know (i := 0) (e := fRep r_loops_piece (u10) r8.1) rfl
  have S := S.learn (fRep (rL r_api_Loop) u11 r8.1.loops) hu15
  obtain ⟨ad19, cp20, _, rfl, _⟩ := hu15
  have S := S.learn (fRep (rL (rI .i64)) u12 r8.1.rows) hu16
  obtain ⟨ad21, cp22, _, rfl, _⟩ := hu16
  have S := S.learn (fRep (rL (rI .i64)) u13 r8.1.bound) hu17
  obtain ⟨ad23, cp24, _, rfl, _⟩ := hu17
  have S := S.learn (fRep (rL r_A2_Int) u14 r8.1.cross) hu18
  obtain ⟨ad25, cp26, _, rfl, _⟩ := hu18
  refine sMove (.tuple #[.agg #[.slice ad19 r8.1.loops.length cp20, .slice ad21 r8.1.rows.length cp22, .slice ad23 r8.1.bound.length cp24, .slice ad25 r8.1.cross.length cp26, iv r8.1.next], iv r8.2]) S (wN rfl) (.inl rfl) rfl rfl (lb rfl) fun a S => ?_
  refine sExtract (vs := [.agg #[.slice ad19 r8.1.loops.length cp20, .slice ad21 r8.1.rows.length cp22, .slice ad23 r8.1.bound.length cp24, .slice ad25 r8.1.cross.length cp26, iv r8.1.next], iv r8.2]) (.agg #[.slice ad19 r8.1.loops.length cp20, .slice ad21 r8.1.rows.length cp22, .slice ad23 r8.1.bound.length cp24, .slice ad25 r8.1.cross.length cp26, iv r8.1.next]) S (wN rfl) rfl rfl rfl rfl (lb rfl) fun a S => ?_
  refine sExtract (vs := [.agg #[.slice ad19 r8.1.loops.length cp20, .slice ad21 r8.1.rows.length cp22, .slice ad23 r8.1.bound.length cp24, .slice ad25 r8.1.cross.length cp26, iv r8.1.next], iv r8.2]) (iv r8.2) S (wN rfl) rfl rfl rfl rfl (lb rfl) fun a S => ?_
  refine sAlloc (.agg #[.slice none 0 0, .slice none 0 0, .slice none 0 0, .slice none 0 0, iv 0]) S (wN rfl) rfl rfl [.slice none 0 0, .slice none 0 0, .slice none 0 0, .slice none 0 0, iv 0] rfl rfl (lb rfl) fun a b27 w S => ?_
  refine sStore (p := b27) (off := 0) (T := 73) (vs := [.slice none 0 0, .slice none 0 0, .slice none 0 0, .slice none 0 0, iv 0]) (v := .agg #[.slice ad19 r8.1.loops.length cp20, .slice ad21 r8.1.rows.length cp22, .slice ad23 r8.1.bound.length cp24, .slice ad25 r8.1.cross.length cp26, iv r8.1.next]) 0 [.slice ad19 r8.1.loops.length cp20, .slice ad21 r8.1.rows.length cp22, .slice ad23 r8.1.bound.length cp24, .slice ad25 r8.1.cross.length cp26, iv r8.1.next] S (wN rfl) rfl rfl rfl rfl rfl rfl rfl (by simp) rfl fun a w S => ?_
  refine sMove (iv r8.2) S (wN rfl) (.inr rfl) rfl rfl (lb rfl) fun a S => ?_
  refine leafL (leafT (hK7 _ _ ?_))
  refine sSeq (fun K28 hK28 => ?_)
  refine sRegion ?_
  refine sField (b := b27) (off := 0) 3 3 S (wN rfl) rfl rfl rfl rfl rfl (lb rfl) fun a S => ?_
  refine sLoad1 (p := b27) (off := 3) (T := 73) (vs := [.slice ad19 r8.1.loops.length cp20, .slice ad21 r8.1.rows.length cp22, .slice ad23 r8.1.bound.length cp24, .slice ad25 r8.1.cross.length cp26, iv r8.1.next]) 0 (.slice ad25 r8.1.cross.length cp26) S (wN rfl) rfl rfl rfl rfl rfl rfl (lb rfl) fun a S => ?_
  refine sMove (iv r8.2) S (wN rfl) (.inl rfl) rfl rfl (lb rfl) fun a S => ?_
  refine sMove (.slice ad25 r8.1.cross.length cp26) S (wN rfl) (.inr rfl) rfl rfl (lb rfl) fun a S => ?_
  refine sMove (iv r8.2) S (wN rfl) (.inr rfl) rfl rfl (lb rfl) fun a S => ?_
  refine leafL (leafT (hK28 _ _ ?_))
  obtain rfl := Option.some.inj h
  exact wp_ret (sRet (.tuple #[.slice ad25 r8.1.cross.length cp26, iv r8.2]) S (rsl2 rfl (rvT (t := 2) (v := .slice ad25 r8.1.cross.length cp26) S rfl) (rvT (t := 3) (v := iv r8.2) S rfl)) ⟨(.slice ad25 r8.1.cross.length cp26), rfl, S.mem.sel [] [0] (by decide) rfl rfl⟩)

end Go.Proofs.Yticjoiolfibmlaa
namespace Go.Proofs.Yticjoiolfibmlaa
open Go.RowKit
set_option linter.unusedVariables false

noncomputable def F_loops_Crossings_s0 (p0 : api_Chart) : Option ((List (Int × Int)) × Int) :=
  Option.bind (F_loops_of_s0 p0) fun r8 =>
  some (r8.1.cross, r8.2)
set_option maxHeartbeats 4000000 in
set_option maxRecDepth 100000 in
theorem c_loops_Crossings_s0 (E : Nat → Prop) (w0 : World) (p0 : api_Chart) (v0 : Value) (r : ((List (Int × Int)) × Int)) (h : F_loops_Crossings_s0 p0 = some r) (S : St0 E [] w0 w0 [] [fRep r_api_Chart (v0) p0]) :
    Calls Try.prog 15 #[v0] w0 (Ret (X := Option Addr × Nat) E [] w0 (fun x => .tuple #[.slice x.1 r.1.length x.2, iv r.2]) (fun x => [eRow r_A2_Int 49 (.slice x.1 r.1.length x.2) r.1]) (fun _ => [])) := by
  unfold F_loops_Crossings_s0 at h
  obtain ⟨u1, rfl, hu2⟩ := S.know (i := 0) (e := fRep r_api_Chart (v0) p0) rfl
  have S := S.learn (fRep (rL r_api_Row) u1 p0.Rows) hu2
  obtain ⟨ad3, cp4, _, rfl, _⟩ := hu2
  refine sEnter (args := [.agg #[iv p0.Start, .slice ad3 p0.Rows.length cp4]]) 14 Try.func15 rfl rfl (by simp) S (fun a S => ?_)
  refine sSeq (fun K5 hK5 => ?_)
  refine sRegion ?_
  refine sBox (v := .agg #[iv p0.Start, .slice ad3 p0.Rows.length cp4]) S (wN rfl) rfl rfl [iv p0.Start, .slice ad3 p0.Rows.length cp4] rfl rfl (lb rfl) fun a b6 w S => ?_
  refine sMove (.slice none 0 0) S (wN rfl) (.inr rfl) rfl rfl (lb rfl) fun a S => ?_
  refine sMove (iv 0) S (wN rfl) (.inr rfl) rfl rfl (lb rfl) fun a S => ?_
  refine leafL (leafT (hK5 _ _ ?_))
  refine sSeq (fun K7 hK7 => ?_)
  refine sRegion ?_
  refine sLoadN (p := b6) (off := 0) (T := 24) (vs := [iv p0.Start, .slice ad3 p0.Rows.length cp4]) 0 [iv p0.Start, .slice ad3 p0.Rows.length cp4] S (wN rfl) rfl rfl rfl rfl rfl rfl rfl (lb rfl) fun a S => ?_
  obtain ⟨r8, hx9, h⟩ := bindSome h
  refine sCall (X := Option Addr × Nat × Option Addr × Nat × Option Addr × Nat × Option Addr × Nat) (f := 33) (vs := [.agg #[iv p0.Start, .slice ad3 p0.Rows.length cp4]]) (val := fun x => .tuple #[.agg #[.slice x.1 r8.1.loops.length x.2.1, .slice x.2.2.1 r8.1.rows.length x.2.2.2.1, .slice x.2.2.2.2.1 r8.1.bound.length x.2.2.2.2.2.1, .slice x.2.2.2.2.2.2.1 r8.1.cross.length x.2.2.2.2.2.2.2, iv r8.1.next], iv r8.2]) (B' := fun x => [eRow r_api_Loop 48 (.slice x.1 r8.1.loops.length x.2.1) r8.1.loops, eRow (rI .i64) 3 (.slice x.2.2.1 r8.1.rows.length x.2.2.2.1) r8.1.rows, eRow (rI .i64) 3 (.slice x.2.2.2.2.1 r8.1.bound.length x.2.2.2.2.2.1) r8.1.bound, eRow r_A2_Int 49 (.slice x.2.2.2.2.2.2.1 r8.1.cross.length x.2.2.2.2.2.2.2) r8.1.cross]) (D' := fun _ => []) [] [eBox b6 24 [iv p0.Start, .slice ad3 p0.Rows.length cp4]] [fRep r_api_Chart (.agg #[iv p0.Start, .slice ad3 p0.Rows.length cp4]) p0] [0] [1] S (wN rfl) rfl callee33 rfl (by decide) rfl rfl (fun E1 w1 S1 => c_loops_of_s0 E1 w1 p0 (.agg #[iv p0.Start, .slice ad3 p0.Rows.length cp4]) r8 hx9 S1) rfl (lb rfl) fun xx a w S => ?_
  obtain ⟨ad10, cp11, ad12, cp13, ad14, cp15, ad16, cp17⟩ := xx
  dsimp only at S
  refine sMove (.tuple #[.agg #[.slice ad10 r8.1.loops.length cp11, .slice ad12 r8.1.rows.length cp13, .slice ad14 r8.1.bound.length cp15, .slice ad16 r8.1.cross.length cp17, iv r8.1.next], iv r8.2]) S (wN rfl) (.inl rfl) rfl rfl (lb rfl) fun a S => ?_
  refine sExtract (vs := [.agg #[.slice ad10 r8.1.loops.length cp11, .slice ad12 r8.1.rows.length cp13, .slice ad14 r8.1.bound.length cp15, .slice ad16 r8.1.cross.length cp17, iv r8.1.next], iv r8.2]) (.agg #[.slice ad10 r8.1.loops.length cp11, .slice ad12 r8.1.rows.length cp13, .slice ad14 r8.1.bound.length cp15, .slice ad16 r8.1.cross.length cp17, iv r8.1.next]) S (wN rfl) rfl rfl rfl rfl (lb rfl) fun a S => ?_
  refine sExtract (vs := [.agg #[.slice ad10 r8.1.loops.length cp11, .slice ad12 r8.1.rows.length cp13, .slice ad14 r8.1.bound.length cp15, .slice ad16 r8.1.cross.length cp17, iv r8.1.next], iv r8.2]) (iv r8.2) S (wN rfl) rfl rfl rfl rfl (lb rfl) fun a S => ?_
  refine sAlloc (.agg #[.slice none 0 0, .slice none 0 0, .slice none 0 0, .slice none 0 0, iv 0]) S (wN rfl) rfl rfl [.slice none 0 0, .slice none 0 0, .slice none 0 0, .slice none 0 0, iv 0] rfl rfl (lb rfl) fun a b18 w S => ?_
  refine sStore (p := b18) (off := 0) (T := 73) (vs := [.slice none 0 0, .slice none 0 0, .slice none 0 0, .slice none 0 0, iv 0]) (v := .agg #[.slice ad10 r8.1.loops.length cp11, .slice ad12 r8.1.rows.length cp13, .slice ad14 r8.1.bound.length cp15, .slice ad16 r8.1.cross.length cp17, iv r8.1.next]) 0 [.slice ad10 r8.1.loops.length cp11, .slice ad12 r8.1.rows.length cp13, .slice ad14 r8.1.bound.length cp15, .slice ad16 r8.1.cross.length cp17, iv r8.1.next] S (wN rfl) rfl rfl rfl rfl rfl rfl rfl (by simp) rfl fun a w S => ?_
  refine sMove (iv r8.2) S (wN rfl) (.inr rfl) rfl rfl (lb rfl) fun a S => ?_
  refine leafL (leafT (hK7 _ _ ?_))
  refine sSeq (fun K19 hK19 => ?_)
  refine sRegion ?_
  refine sField (b := b18) (off := 0) 3 3 S (wN rfl) rfl rfl rfl rfl rfl (lb rfl) fun a S => ?_
  refine sLoad1 (p := b18) (off := 3) (T := 73) (vs := [.slice ad10 r8.1.loops.length cp11, .slice ad12 r8.1.rows.length cp13, .slice ad14 r8.1.bound.length cp15, .slice ad16 r8.1.cross.length cp17, iv r8.1.next]) 0 (.slice ad16 r8.1.cross.length cp17) S (wN rfl) rfl rfl rfl rfl rfl rfl (lb rfl) fun a S => ?_
  refine sMove (iv r8.2) S (wN rfl) (.inl rfl) rfl rfl (lb rfl) fun a S => ?_
  refine sMove (.slice ad16 r8.1.cross.length cp17) S (wN rfl) (.inr rfl) rfl rfl (lb rfl) fun a S => ?_
  refine sMove (iv r8.2) S (wN rfl) (.inr rfl) rfl rfl (lb rfl) fun a S => ?_
  refine leafL (leafT (hK19 _ _ ?_))
  obtain rfl := Option.some.inj h
  exact wp_ret (sRet (.tuple #[.slice ad16 r8.1.cross.length cp17, iv r8.2]) S (rsl2 rfl (rvT (t := 2) (v := .slice ad16 r8.1.cross.length cp17) S rfl) (rvT (t := 3) (v := iv r8.2) S rfl)) ⟨(ad16, cp17), rfl, S.mem.sel [4] [] (by decide) rfl rfl⟩)

end Go.Proofs.Yticjoiolfibmlaa
namespace Go.Proofs.Yticjoiolfibmlaa
open Go.RowKit
set_option linter.unusedVariables false

def anc_raddleref26_SameInts_0 : List (List Nat) := [[], [], [0, 1], [0, 1, 2], [], [], [4, 5], [4, 5, 6], [0, 1, 2, 3, 4, 5, 6, 7]]
noncomputable def raddleref26_SameInts_l1 (p0 : (List Int)) (p1 : (List Int)) : Int → Option (Int ⊕ (Bool ⊕ Unit)) := fun s0 => match s0 with
  | s13 =>
    if decide (s13 < (p0.length : Int)) then
      Option.bind (idxO p0 s13) fun x22 =>
      Option.bind (idxO p1 s13) fun x27 =>
      if x22 != x27 then
        some (.inr (.inl false))
      else
        some (.inl (w64 (s13 + 1)))
    else
      some (.inr (.inr ()))
noncomputable def F_raddleref26_SameInts (p0 : (List Int)) (p1 : (List Int)) : Option Bool :=
  if (p0.length : Int) != (p1.length : Int) then
    some false
  else
    Option.bind (α := Unit ⊕ Bool) (
      Option.bind (whileO (raddleref26_SameInts_l1 p0 p1) 0) fun z0 => match z0 with
        | .inl z =>
          some (.inr z)
        | .inr _ =>
          some (.inl ())) fun z0 => match z0 with
      | .inl _ =>
        some true
      | .inr z =>
        some z
set_option maxHeartbeats 4000000 in
set_option maxRecDepth 100000 in
theorem c_raddleref26_SameInts (E : Nat → Prop) (w0 : World) (p0 : (List Int)) (v0 : Value) (p1 : (List Int)) (v1 : Value) (r : Bool) (h : F_raddleref26_SameInts p0 p1 = some r) (S : St0 E [] w0 w0 [] [fRep (rL (rI .i64)) (v0) p0, fRep (rL (rI .i64)) (v1) p1]) :
    Calls Try.prog 18 #[v0, v1] w0 (Ret (X := Unit) E [] w0 (fun _ => .bool r) (fun _ => []) (fun _ => [])) := by
  unfold F_raddleref26_SameInts at h
  obtain ⟨ad1, cp2, _, rfl, _⟩ := S.know (i := 0) (e := fRep (rL (rI .i64)) (v0) p0) rfl
  obtain ⟨ad3, cp4, _, rfl, _⟩ := S.know (i := 1) (e := fRep (rL (rI .i64)) (v1) p1) rfl
  refine sEnter (args := [.slice ad1 p0.length cp2, .slice ad3 p1.length cp4]) 26 Try.func18 rfl rfl (by simp) S (fun a S => ?_)
  refine sSeq (fun K5 hK5 => ?_)
  refine sRegion ?_
  refine sMove (.bool false) S (wN rfl) (.inr rfl) rfl rfl (lb rfl) fun a S => ?_
  refine leafL (leafT (hK5 _ _ ?_))
  refine sSeq (fun K6 hK6 => ?_)
  refine sSeq (fun K7 hK7 => ?_)
  refine sRegion ?_
  refine sMove (.slice ad1 p0.length cp2) S (wN rfl) (.inl rfl) rfl rfl (lb rfl) fun a S => ?_
  refine sLen (ad := ad1) (m := p0.length) (c := cp2) S (wN rfl) rfl Try.underlying32 rfl rfl (lb rfl) fun a S => ?_
  refine sMove (.slice ad3 p1.length cp4) S (wN rfl) (.inl rfl) rfl rfl (lb rfl) fun a S => ?_
  refine sLen (ad := ad3) (m := p1.length) (c := cp4) S (wN rfl) rfl Try.underlying32 rfl rfl (lb rfl) fun a S => ?_
  refine sBin (.bool ((p0.length : Int) != (p1.length : Int))) S (wN rfl) rfl rfl rfl (bNe _ _ _ _ .i64 (p0.length : Int) (p1.length : Int)) rfl (lb rfl) fun a S => ?_
  refine leafL (leafT (hK7 _ _ ?_))
  rcases iteSome h with ⟨hc8, h⟩ | ⟨hc8, h⟩
  · refine sCondT S rfl hc8 ?_
    refine sSeq (fun K9 hK9 => ?_)
    refine sRegion ?_
    refine sMove (.bool false) S (wN rfl) (.inr rfl) rfl rfl (lb rfl) fun a S => ?_
    refine leafL (leafT (hK9 _ _ ?_))
    obtain rfl := Option.some.inj h
    exact wp_ret (rThen (sRet (.bool false) S (rsl1 rfl (rvT (t := 4) (v := .bool false) S rfl)) ⟨(), rfl, S.mem.sel [] [] (by decide) rfl rfl⟩))
  refine sCondF S rfl hc8 ?_
  refine wp_skip (leafT (hK6 _ _ ?_))
  obtain ⟨t10, h, g11⟩ := bindSome h
  refine sCut (fun a w => .inl () = t10 ∧ St [] E [] w0 26 a w [] [] []) ?_ (fun a w hI => ?_)
  rotate_left
  · obtain ⟨rfl, S⟩ := hI
    have h := g11
    clear g11
    try dsimp only at h
    refine sSeq (fun K40 hK40 => ?_)
    refine sRegion ?_
    refine sMove (.bool true) S (wN rfl) (.inr rfl) rfl rfl (lb rfl) fun a S => ?_
    refine leafL (leafT (hK40 _ _ ?_))
    obtain rfl := Option.some.inj h
    exact wp_ret (sRet (.bool true) S (rsl1 rfl (rvT (t := 4) (v := .bool true) S rfl)) ⟨(), rfl, S.mem.sel [] [] (by decide) rfl rfl⟩)
  refine sSeq (fun K12 hK12 => ?_)
  refine sRegion ?_
  refine sMove (iv 0) S (wN rfl) (.inr rfl) rfl rfl (lb rfl) fun a S => ?_
  refine leafL (leafT (hK12 _ _ ?_))
  refine wp_block ?_
  obtain ⟨t16, hl, g15⟩ := bindSome h
  refine sLoop hl (fun s0 a w => match s0 with | s13 => St [] E [] w0 26 a w [(0, .slice ad1 p0.length cp2), (1, .slice ad3 p1.length cp4), (5, iv s13)] [] [fRep (rL (rI .i64)) (.slice ad1 p0.length cp2) p0, fRep (rL (rI .i64)) (.slice ad3 p1.length cp4) p1]) (S.fix [] [0, 1] (by decide) rfl rfl rfl) ?_
  clear hl h
  intro s13 a w c0 hI h hu14
  unfold raddleref26_SameInts_l1 at h
  dsimp only at h hI
  have S := hI
  refine sSeq (fun K17 hK17 => ?_)
  refine sSeq (fun K18 hK18 => ?_)
  refine sRegion ?_
  refine sMove (iv s13) S (wN rfl) (.inl rfl) rfl rfl (lb rfl) fun a S => ?_
  refine sMove (.slice ad1 p0.length cp2) S (wN rfl) (.inl rfl) rfl rfl (lb rfl) fun a S => ?_
  refine sLen (ad := ad1) (m := p0.length) (c := cp2) S (wN rfl) rfl Try.underlying32 rfl rfl (lb rfl) fun a S => ?_
  refine sBin (.bool (decide (s13 < (p0.length : Int)))) S (wN rfl) rfl rfl rfl (bLt _ _ _ _ .i64 s13 (p0.length : Int)) rfl (lb rfl) fun a S => ?_
  refine leafL (leafT (hK18 _ _ ?_))
  rcases iteSome h with ⟨hc19, h⟩ | ⟨hc19, h⟩
  rotate_left
  · refine sCondF S rfl hc19 ?_
    obtain rfl := Option.some.inj h
    obtain rfl := hu14 _ rfl
    have h := g15
    clear g15
    try dsimp only at h
    exact wp_exit (xThen (xThen (xHit (leafT (⟨Option.some.inj h, S.fix [] [] (by decide) rfl rfl rfl⟩)))))
  refine sCondT S rfl hc19 ?_
  refine wp_skip (leafT (hK17 _ _ ?_))
  refine sSeq (fun K20 hK20 => ?_)
  refine wp_block ?_
  refine sSeq (fun K21 hK21 => ?_)
  obtain ⟨x22, hx23, h⟩ := bindSome h
  obtain ⟨x27, hx28, h⟩ := bindSome h
  obtain ⟨q32, hq33, S⟩ := pIdx (P := Try.prog) (r := (rI .i64)) (v := .slice ad1 p0.length cp2) (xs := p0) (j := s13) 32 3 0 S Try.underlying32 rfl rfl hx23
  obtain ⟨u34, S⟩ := pLoad (r := (rI .i64)) (q := q32) (x := x22) 0 S rfl
  obtain rfl : u34 = iv x22 := S.mem.know (i := 1) (e := fRep (rI .i64) (u34) x22) rfl
  obtain ⟨q35, hq36, S⟩ := pIdx (P := Try.prog) (r := (rI .i64)) (v := .slice ad3 p1.length cp4) (xs := p1) (j := s13) 32 3 4 S Try.underlying32 rfl rfl hx28
  obtain ⟨u37, S⟩ := pLoad (r := (rI .i64)) (q := q35) (x := x27) 0 S rfl
  obtain rfl : u37 = iv x27 := S.mem.know (i := 1) (e := fRep (rI .i64) (u37) x27) rfl
  refine sDraw (nf := []) (W := [(0, 17, .slice ad1 p0.length cp2), (1, 18, iv s13), (2, 19, q32), (3, 20, iv x22), (4, 21, .slice ad3 p1.length cp4), (5, 22, iv s13), (6, 23, q35), (7, 24, iv x27), (8, 25, .bool (x22 != x27))]) rfl S ?_
  refine node_by (A := anc_raddleref26_SameInts_0) (nf := []) (Y := []) (W := [(0, 17, .slice ad1 p0.length cp2), (1, 18, iv s13), (2, 19, q32), (3, 20, iv x22), (4, 21, .slice ad3 p1.length cp4), (5, 22, iv s13), (6, 23, q35), (7, 24, iv x27), (8, 25, .bool (x22 != x27))]) 9 (by kernel_rfl) (by kernel_rfl) (by kernel_rfl) (by kernel_rfl) (by kernel_rfl) [0, 1, 2, 3, 4, 5, 6, 7, 8] (by kernel_rfl) (by decide) (by decide) (aF 0 8 (by decide) ?_ (aF 1 7 (by decide) ?_ (aF 2 6 (by decide) ?_ (aF 3 5 (by decide) ?_ (aF 4 4 (by decide) ?_ (aF 5 3 (by decide) ?_ (aF 6 2 (by decide) ?_ (aF 7 1 (by decide) ?_ (aF 8 0 (by decide) ?_ (trivial)))))))))) [(0, .slice ad1 p0.length cp2), (1, .slice ad3 p1.length cp4), (5, iv s13), (25, .bool (x22 != x27))] (fin_of [none, none, none, some 8] rfl (by kernel_rfl) (by kernel_rfl)) (fun _ a w S => ?_)
  · refine fI 17 (.slice ad1 p0.length cp2) [(0, .slice ad1 p0.length cp2)] 0 [none] rfl rfl rfl rfl rfl rfl fun G a w S => ?_
    refine sMove (.slice ad1 p0.length cp2) S (wN rfl) (.inl rfl) rfl rfl (lb rfl) fun a S => ?_
    exact leafL ⟨rfl, S⟩
  · refine fI 18 (iv s13) [(5, iv s13)] 1 [none] rfl rfl rfl rfl rfl rfl fun G a w S => ?_
    refine sMove (iv s13) S (wN rfl) (.inl rfl) rfl rfl (lb rfl) fun a S => ?_
    exact leafL ⟨rfl, S⟩
  · refine fI 19 q32 [(17, .slice ad1 p0.length cp2), (18, iv s13)] 2 [some 0, some 1] rfl rfl rfl rfl rfl rfl fun G a w S => ?_
    refine sIdxV (v := .slice ad1 p0.length cp2) (k := .i64) (j := s13) S (wN rfl) rfl rfl rfl hq33 rfl (lb rfl) fun a S => ?_
    exact leafL ⟨rfl, S⟩
  · refine fI 20 (iv x22) [(19, q32)] 3 [some 2] rfl rfl rfl rfl rfl rfl fun G a w S => ?_
    refine sLoadV1 (vq := q32) 3 (iv x22) S (wN rfl) rfl rfl rfl rfl rfl (lb rfl) fun a S => ?_
    exact leafL ⟨rfl, S⟩
  · refine fI 21 (.slice ad3 p1.length cp4) [(1, .slice ad3 p1.length cp4)] 4 [none] rfl rfl rfl rfl rfl rfl fun G a w S => ?_
    refine sMove (.slice ad3 p1.length cp4) S (wN rfl) (.inl rfl) rfl rfl (lb rfl) fun a S => ?_
    exact leafL ⟨rfl, S⟩
  · refine fI 22 (iv s13) [(5, iv s13)] 5 [none] rfl rfl rfl rfl rfl rfl fun G a w S => ?_
    refine sMove (iv s13) S (wN rfl) (.inl rfl) rfl rfl (lb rfl) fun a S => ?_
    exact leafL ⟨rfl, S⟩
  · refine fI 23 q35 [(21, .slice ad3 p1.length cp4), (22, iv s13)] 6 [some 4, some 5] rfl rfl rfl rfl rfl rfl fun G a w S => ?_
    refine sIdxV (v := .slice ad3 p1.length cp4) (k := .i64) (j := s13) S (wN rfl) rfl rfl rfl hq36 rfl (lb rfl) fun a S => ?_
    exact leafL ⟨rfl, S⟩
  · refine fI 24 (iv x27) [(23, q35)] 7 [some 6] rfl rfl rfl rfl rfl rfl fun G a w S => ?_
    refine sLoadV1 (vq := q35) 0 (iv x27) S (wN rfl) rfl rfl rfl rfl rfl (lb rfl) fun a S => ?_
    exact leafL ⟨rfl, S⟩
  · refine fI 25 (.bool (x22 != x27)) [(20, iv x22), (24, iv x27)] 8 [some 3, some 7] rfl rfl rfl rfl rfl rfl fun G a w S => ?_
    refine sBin (.bool (x22 != x27)) S (wN rfl) rfl rfl rfl (bNe _ _ _ _ .i64 x22 x27) rfl (lb rfl) fun a S => ?_
    exact leafL ⟨rfl, S⟩
  refine leafT (hK21 _ _ ?_)
  rcases iteSome h with ⟨hc38, h⟩ | ⟨hc38, h⟩
  rotate_left
  · refine sCondF S rfl hc38 ?_
    refine wp_skip (leafB (leafT (hK20 _ _ ?_)))
    refine sRegion ?_
    refine sMove (iv s13) S (wN rfl) (.inl rfl) rfl rfl (lb rfl) fun a S => ?_
    refine sBin (iv (w64 (s13 + 1))) S (wN rfl) rfl rfl rfl (bAdd _ _ _ _ s13 1) rfl (lb rfl) fun a S => ?_
    refine sMove (iv (w64 (s13 + 1))) S (wN rfl) (.inr rfl) rfl rfl (lb rfl) fun a S => ?_
    exact leafL (leafT (⟨w64 (s13 + 1), (Option.some.inj h).symm, (S.fix [] [6, 7] (by decide) rfl rfl rfl)⟩))
  refine sCondT S rfl hc38 ?_
  refine sSeq (fun K39 hK39 => ?_)
  refine sRegion ?_
  refine sMove (.bool false) S (wN rfl) (.inr rfl) rfl rfl (lb rfl) fun a S => ?_
  refine leafL (leafT (hK39 _ _ ?_))
  obtain rfl := Option.some.inj h
  obtain rfl := hu14 _ rfl
  have h := g15
  clear g15
  try dsimp only at h
  obtain rfl := Option.some.inj h
  have h := g11
  clear g11
  try dsimp only at h
  obtain rfl := Option.some.inj h
  exact wp_ret (rBlock (rThen (rThen (rBlock (rThen (sRet (.bool false) S (rsl1 rfl (rvT (t := 4) (v := .bool false) S rfl)) ⟨(), rfl, S.mem.sel [] [] (by decide) rfl rfl⟩))))))

end Go.Proofs.Yticjoiolfibmlaa
namespace Go.Proofs.Yticjoiolfibmlaa
open Go.RowKit
set_option linter.unusedVariables false

def anc_raddleref27_SamePairs_0 : List (List Nat) := [[], [], [0, 1], [0, 1, 2], [], [], [4, 5], [4, 5, 6], [0, 1, 2, 3, 4, 5, 6, 7]]
noncomputable def raddleref27_SamePairs_l1 (p0 : (List (Int × Int))) (p1 : (List (Int × Int))) : Int → Option (Int ⊕ (Bool ⊕ Unit)) := fun s0 => match s0 with
  | s13 =>
    if decide (s13 < (p0.length : Int)) then
      Option.bind (idxO p0 s13) fun x22 =>
      Option.bind (idxO p1 s13) fun x27 =>
      if !((x22.1 == x27.1) && ((x22.2 == x27.2) && true)) then
        some (.inr (.inl false))
      else
        some (.inl (w64 (s13 + 1)))
    else
      some (.inr (.inr ()))
noncomputable def F_raddleref27_SamePairs (p0 : (List (Int × Int))) (p1 : (List (Int × Int))) : Option Bool :=
  if (p0.length : Int) != (p1.length : Int) then
    some false
  else
    Option.bind (α := Unit ⊕ Bool) (
      Option.bind (whileO (raddleref27_SamePairs_l1 p0 p1) 0) fun z0 => match z0 with
        | .inl z =>
          some (.inr z)
        | .inr _ =>
          some (.inl ())) fun z0 => match z0 with
      | .inl _ =>
        some true
      | .inr z =>
        some z
set_option maxHeartbeats 4000000 in
set_option maxRecDepth 100000 in
theorem c_raddleref27_SamePairs (E : Nat → Prop) (w0 : World) (p0 : (List (Int × Int))) (v0 : Value) (p1 : (List (Int × Int))) (v1 : Value) (r : Bool) (h : F_raddleref27_SamePairs p0 p1 = some r) (S : St0 E [] w0 w0 [] [fRep (rL r_A2_Int) (v0) p0, fRep (rL r_A2_Int) (v1) p1]) :
    Calls Try.prog 19 #[v0, v1] w0 (Ret (X := Unit) E [] w0 (fun _ => .bool r) (fun _ => []) (fun _ => [])) := by
  unfold F_raddleref27_SamePairs at h
  obtain ⟨ad1, cp2, _, rfl, _⟩ := S.know (i := 0) (e := fRep (rL r_A2_Int) (v0) p0) rfl
  obtain ⟨ad3, cp4, _, rfl, _⟩ := S.know (i := 1) (e := fRep (rL r_A2_Int) (v1) p1) rfl
  refine sEnter (args := [.slice ad1 p0.length cp2, .slice ad3 p1.length cp4]) 26 Try.func19 rfl rfl (by simp) S (fun a S => ?_)
  refine sSeq (fun K5 hK5 => ?_)
  refine sRegion ?_
  refine sMove (.bool false) S (wN rfl) (.inr rfl) rfl rfl (lb rfl) fun a S => ?_
  refine leafL (leafT (hK5 _ _ ?_))
  refine sSeq (fun K6 hK6 => ?_)
  refine sSeq (fun K7 hK7 => ?_)
  refine sRegion ?_
  refine sMove (.slice ad1 p0.length cp2) S (wN rfl) (.inl rfl) rfl rfl (lb rfl) fun a S => ?_
  refine sLen (ad := ad1) (m := p0.length) (c := cp2) S (wN rfl) rfl Try.underlying37 rfl rfl (lb rfl) fun a S => ?_
  refine sMove (.slice ad3 p1.length cp4) S (wN rfl) (.inl rfl) rfl rfl (lb rfl) fun a S => ?_
  refine sLen (ad := ad3) (m := p1.length) (c := cp4) S (wN rfl) rfl Try.underlying37 rfl rfl (lb rfl) fun a S => ?_
  refine sBin (.bool ((p0.length : Int) != (p1.length : Int))) S (wN rfl) rfl rfl rfl (bNe _ _ _ _ .i64 (p0.length : Int) (p1.length : Int)) rfl (lb rfl) fun a S => ?_
  refine leafL (leafT (hK7 _ _ ?_))
  rcases iteSome h with ⟨hc8, h⟩ | ⟨hc8, h⟩
  · refine sCondT S rfl hc8 ?_
    refine sSeq (fun K9 hK9 => ?_)
    refine sRegion ?_
    refine sMove (.bool false) S (wN rfl) (.inr rfl) rfl rfl (lb rfl) fun a S => ?_
    refine leafL (leafT (hK9 _ _ ?_))
    obtain rfl := Option.some.inj h
    exact wp_ret (rThen (sRet (.bool false) S (rsl1 rfl (rvT (t := 4) (v := .bool false) S rfl)) ⟨(), rfl, S.mem.sel [] [] (by decide) rfl rfl⟩))
  refine sCondF S rfl hc8 ?_
  refine wp_skip (leafT (hK6 _ _ ?_))
  obtain ⟨t10, h, g11⟩ := bindSome h
  refine sCut (fun a w => .inl () = t10 ∧ St [] E [] w0 26 a w [] [] []) ?_ (fun a w hI => ?_)
  rotate_left
  · obtain ⟨rfl, S⟩ := hI
    have h := g11
    clear g11
    try dsimp only at h
    refine sSeq (fun K40 hK40 => ?_)
    refine sRegion ?_
    refine sMove (.bool true) S (wN rfl) (.inr rfl) rfl rfl (lb rfl) fun a S => ?_
    refine leafL (leafT (hK40 _ _ ?_))
    obtain rfl := Option.some.inj h
    exact wp_ret (sRet (.bool true) S (rsl1 rfl (rvT (t := 4) (v := .bool true) S rfl)) ⟨(), rfl, S.mem.sel [] [] (by decide) rfl rfl⟩)
  refine sSeq (fun K12 hK12 => ?_)
  refine sRegion ?_
  refine sMove (iv 0) S (wN rfl) (.inr rfl) rfl rfl (lb rfl) fun a S => ?_
  refine leafL (leafT (hK12 _ _ ?_))
  refine wp_block ?_
  obtain ⟨t16, hl, g15⟩ := bindSome h
  refine sLoop hl (fun s0 a w => match s0 with | s13 => St [] E [] w0 26 a w [(0, .slice ad1 p0.length cp2), (1, .slice ad3 p1.length cp4), (5, iv s13)] [] [fRep (rL r_A2_Int) (.slice ad1 p0.length cp2) p0, fRep (rL r_A2_Int) (.slice ad3 p1.length cp4) p1]) (S.fix [] [0, 1] (by decide) rfl rfl rfl) ?_
  clear hl h
  intro s13 a w c0 hI h hu14
  unfold raddleref27_SamePairs_l1 at h
  dsimp only at h hI
  have S := hI
  refine sSeq (fun K17 hK17 => ?_)
  refine sSeq (fun K18 hK18 => ?_)
  refine sRegion ?_
  refine sMove (iv s13) S (wN rfl) (.inl rfl) rfl rfl (lb rfl) fun a S => ?_
  refine sMove (.slice ad1 p0.length cp2) S (wN rfl) (.inl rfl) rfl rfl (lb rfl) fun a S => ?_
  refine sLen (ad := ad1) (m := p0.length) (c := cp2) S (wN rfl) rfl Try.underlying37 rfl rfl (lb rfl) fun a S => ?_
  refine sBin (.bool (decide (s13 < (p0.length : Int)))) S (wN rfl) rfl rfl rfl (bLt _ _ _ _ .i64 s13 (p0.length : Int)) rfl (lb rfl) fun a S => ?_
  refine leafL (leafT (hK18 _ _ ?_))
  rcases iteSome h with ⟨hc19, h⟩ | ⟨hc19, h⟩
  rotate_left
  · refine sCondF S rfl hc19 ?_
    obtain rfl := Option.some.inj h
    obtain rfl := hu14 _ rfl
    have h := g15
    clear g15
    try dsimp only at h
    exact wp_exit (xThen (xThen (xHit (leafT (⟨Option.some.inj h, S.fix [] [] (by decide) rfl rfl rfl⟩)))))
  refine sCondT S rfl hc19 ?_
  refine wp_skip (leafT (hK17 _ _ ?_))
  refine sSeq (fun K20 hK20 => ?_)
  refine wp_block ?_
  refine sSeq (fun K21 hK21 => ?_)
  obtain ⟨x22, hx23, h⟩ := bindSome h
  obtain ⟨x27, hx28, h⟩ := bindSome h
  obtain ⟨q32, hq33, S⟩ := pIdx (P := Try.prog) (r := r_A2_Int) (v := .slice ad1 p0.length cp2) (xs := p0) (j := s13) 37 49 0 S Try.underlying37 rfl rfl hx23
  obtain ⟨u34, S⟩ := pLoad (r := r_A2_Int) (q := q32) (x := x22) 0 S rfl
  obtain rfl : u34 = .agg #[iv x22.1, iv x22.2] := S.mem.know (i := 1) (e := fRep r_A2_Int (u34) x22) rfl
  obtain ⟨q35, hq36, S⟩ := pIdx (P := Try.prog) (r := r_A2_Int) (v := .slice ad3 p1.length cp4) (xs := p1) (j := s13) 37 49 4 S Try.underlying37 rfl rfl hx28
  obtain ⟨u37, S⟩ := pLoad (r := r_A2_Int) (q := q35) (x := x27) 0 S rfl
  obtain rfl : u37 = .agg #[iv x27.1, iv x27.2] := S.mem.know (i := 1) (e := fRep r_A2_Int (u37) x27) rfl
  refine sDraw (nf := []) (W := [(0, 17, .slice ad1 p0.length cp2), (1, 18, iv s13), (2, 19, q32), (3, 20, .agg #[iv x22.1, iv x22.2]), (4, 21, .slice ad3 p1.length cp4), (5, 22, iv s13), (6, 23, q35), (7, 24, .agg #[iv x27.1, iv x27.2]), (8, 25, .bool (!((x22.1 == x27.1) && ((x22.2 == x27.2) && true))))]) rfl S ?_
  refine node_by (A := anc_raddleref27_SamePairs_0) (nf := []) (Y := []) (W := [(0, 17, .slice ad1 p0.length cp2), (1, 18, iv s13), (2, 19, q32), (3, 20, .agg #[iv x22.1, iv x22.2]), (4, 21, .slice ad3 p1.length cp4), (5, 22, iv s13), (6, 23, q35), (7, 24, .agg #[iv x27.1, iv x27.2]), (8, 25, .bool (!((x22.1 == x27.1) && ((x22.2 == x27.2) && true))))]) 9 (by kernel_rfl) (by kernel_rfl) (by kernel_rfl) (by kernel_rfl) (by kernel_rfl) [0, 1, 2, 3, 4, 5, 6, 7, 8] (by kernel_rfl) (by decide) (by decide) (aF 0 8 (by decide) ?_ (aF 1 7 (by decide) ?_ (aF 2 6 (by decide) ?_ (aF 3 5 (by decide) ?_ (aF 4 4 (by decide) ?_ (aF 5 3 (by decide) ?_ (aF 6 2 (by decide) ?_ (aF 7 1 (by decide) ?_ (aF 8 0 (by decide) ?_ (trivial)))))))))) [(0, .slice ad1 p0.length cp2), (1, .slice ad3 p1.length cp4), (5, iv s13), (25, .bool (!((x22.1 == x27.1) && ((x22.2 == x27.2) && true))))] (fin_of [none, none, none, some 8] rfl (by kernel_rfl) (by kernel_rfl)) (fun _ a w S => ?_)
  · refine fI 17 (.slice ad1 p0.length cp2) [(0, .slice ad1 p0.length cp2)] 0 [none] rfl rfl rfl rfl rfl rfl fun G a w S => ?_
    refine sMove (.slice ad1 p0.length cp2) S (wN rfl) (.inl rfl) rfl rfl (lb rfl) fun a S => ?_
    exact leafL ⟨rfl, S⟩
  · refine fI 18 (iv s13) [(5, iv s13)] 1 [none] rfl rfl rfl rfl rfl rfl fun G a w S => ?_
    refine sMove (iv s13) S (wN rfl) (.inl rfl) rfl rfl (lb rfl) fun a S => ?_
    exact leafL ⟨rfl, S⟩
  · refine fI 19 q32 [(17, .slice ad1 p0.length cp2), (18, iv s13)] 2 [some 0, some 1] rfl rfl rfl rfl rfl rfl fun G a w S => ?_
    refine sIdxV (v := .slice ad1 p0.length cp2) (k := .i64) (j := s13) S (wN rfl) rfl rfl rfl hq33 rfl (lb rfl) fun a S => ?_
    exact leafL ⟨rfl, S⟩
  · refine fI 20 (.agg #[iv x22.1, iv x22.2]) [(19, q32)] 3 [some 2] rfl rfl rfl rfl rfl rfl fun G a w S => ?_
    refine sLoadVN (vq := q32) 3 [iv x22.1, iv x22.2] S (wN rfl) rfl rfl rfl rfl rfl rfl (lb rfl) fun a S => ?_
    exact leafL ⟨rfl, S⟩
  · refine fI 21 (.slice ad3 p1.length cp4) [(1, .slice ad3 p1.length cp4)] 4 [none] rfl rfl rfl rfl rfl rfl fun G a w S => ?_
    refine sMove (.slice ad3 p1.length cp4) S (wN rfl) (.inl rfl) rfl rfl (lb rfl) fun a S => ?_
    exact leafL ⟨rfl, S⟩
  · refine fI 22 (iv s13) [(5, iv s13)] 5 [none] rfl rfl rfl rfl rfl rfl fun G a w S => ?_
    refine sMove (iv s13) S (wN rfl) (.inl rfl) rfl rfl (lb rfl) fun a S => ?_
    exact leafL ⟨rfl, S⟩
  · refine fI 23 q35 [(21, .slice ad3 p1.length cp4), (22, iv s13)] 6 [some 4, some 5] rfl rfl rfl rfl rfl rfl fun G a w S => ?_
    refine sIdxV (v := .slice ad3 p1.length cp4) (k := .i64) (j := s13) S (wN rfl) rfl rfl rfl hq36 rfl (lb rfl) fun a S => ?_
    exact leafL ⟨rfl, S⟩
  · refine fI 24 (.agg #[iv x27.1, iv x27.2]) [(23, q35)] 7 [some 6] rfl rfl rfl rfl rfl rfl fun G a w S => ?_
    refine sLoadVN (vq := q35) 0 [iv x27.1, iv x27.2] S (wN rfl) rfl rfl rfl rfl rfl rfl (lb rfl) fun a S => ?_
    exact leafL ⟨rfl, S⟩
  · refine fI 25 (.bool (!((x22.1 == x27.1) && ((x22.2 == x27.2) && true)))) [(20, .agg #[iv x22.1, iv x22.2]), (24, .agg #[iv x27.1, iv x27.2])] 8 [some 3, some 7] rfl rfl rfl rfl rfl rfl fun G a w S => ?_
    refine sBin (.bool (!((x22.1 == x27.1) && ((x22.2 == x27.2) && true)))) S (wN rfl) rfl rfl rfl (bNeV _ _ _ _ #[iv x22.1, iv x22.2] #[iv x27.1, iv x27.2] ((x22.1 == x27.1) && ((x22.2 == x27.2) && true)) (by kernel_rfl) (eqlV_of (by kernel_rfl))) rfl (lb rfl) fun a S => ?_
    exact leafL ⟨rfl, S⟩
  refine leafT (hK21 _ _ ?_)
  rcases iteSome h with ⟨hc38, h⟩ | ⟨hc38, h⟩
  rotate_left
  · refine sCondF S rfl hc38 ?_
    refine wp_skip (leafB (leafT (hK20 _ _ ?_)))
    refine sRegion ?_
    refine sMove (iv s13) S (wN rfl) (.inl rfl) rfl rfl (lb rfl) fun a S => ?_
    refine sBin (iv (w64 (s13 + 1))) S (wN rfl) rfl rfl rfl (bAdd _ _ _ _ s13 1) rfl (lb rfl) fun a S => ?_
    refine sMove (iv (w64 (s13 + 1))) S (wN rfl) (.inr rfl) rfl rfl (lb rfl) fun a S => ?_
    exact leafL (leafT (⟨w64 (s13 + 1), (Option.some.inj h).symm, (S.fix [] [6, 7] (by decide) rfl rfl rfl)⟩))
  refine sCondT S rfl hc38 ?_
  refine sSeq (fun K39 hK39 => ?_)
  refine sRegion ?_
  refine sMove (.bool false) S (wN rfl) (.inr rfl) rfl rfl (lb rfl) fun a S => ?_
  refine leafL (leafT (hK39 _ _ ?_))
  obtain rfl := Option.some.inj h
  obtain rfl := hu14 _ rfl
  have h := g15
  clear g15
  try dsimp only at h
  obtain rfl := Option.some.inj h
  have h := g11
  clear g11
  try dsimp only at h
  obtain rfl := Option.some.inj h
  exact wp_ret (rBlock (rThen (rThen (rBlock (rThen (sRet (.bool false) S (rsl1 rfl (rvT (t := 4) (v := .bool false) S rfl)) ⟨(), rfl, S.mem.sel [] [] (by decide) rfl rfl⟩))))))

end Go.Proofs.Yticjoiolfibmlaa
namespace Go.Proofs.Yticjoiolfibmlaa
open Go.RowKit
set_option linter.unusedVariables false

noncomputable def F_raddlelaw27_one (p0 : Int) (p1 : (List api_Stitch)) : Option api_Chart :=
  some (api_Chart.mk p0 [(api_Row.mk false p1)])
def c_raddlelaw27_one_val (r : api_Chart) (x : Value) : Value := x
def c_raddlelaw27_one_D (r : api_Chart) (x : Value) : List Fact := [fRep r_api_Chart x r]
set_option maxHeartbeats 4000000 in
set_option maxRecDepth 100000 in
theorem c_raddlelaw27_one (E : Nat → Prop) (w0 : World) (p0 : Int) (p1 : (List api_Stitch)) (v1 : Value) (r : api_Chart) (h : F_raddlelaw27_one p0 p1 = some r) (S : St0 E [] w0 w0 [] [fRep (rL r_api_Stitch) (v1) p1]) :
    Calls Try.prog 30 #[iv p0, v1] w0 (Ret (X := Value) E [] w0 (c_raddlelaw27_one_val r) (fun _ => []) (c_raddlelaw27_one_D r)) := by
  unfold F_raddlelaw27_one at h
  obtain ⟨ad1, cp2, _, rfl, _⟩ := S.know (i := 0) (e := fRep (rL r_api_Stitch) (v1) p1) rfl
  refine sEnter (args := [iv p0, .slice ad1 p1.length cp2]) 10 Try.func30 rfl rfl (by simp) S (fun a S => ?_)
  refine sSeq (fun K3 hK3 => ?_)
  refine sRegion ?_
  refine sAlloc (.agg #[iv 0, .slice none 0 0]) S (wN rfl) rfl rfl [iv 0, .slice none 0 0] rfl rfl (lb rfl) fun a b4 w S => ?_
  refine leafL (leafT (hK3 _ _ ?_))
  refine sSeq (fun K5 hK5 => ?_)
  refine sRegion ?_
  refine sMove (iv p0) S (wN rfl) (.inl rfl) rfl rfl (lb rfl) fun a S => ?_
  refine sMove (.slice ad1 p1.length cp2) S (wN rfl) (.inl rfl) rfl rfl (lb rfl) fun a S => ?_
  refine sBuild [(1, .slice ad1 p1.length cp2)] [.bool false, .slice ad1 p1.length cp2] S (wN rfl) rfl rfl rfl rfl (lb rfl) fun a S => ?_
  have S := S.learn (fRep r_api_Row (.agg #[.bool false, .slice ad1 p1.length cp2]) (api_Row.mk false p1)) ⟨_, rfl, S.mem.know (i := 0) (e := fRep (rL r_api_Stitch) (.slice ad1 p1.length cp2) p1) rfl⟩
  refine sLit (r := r_api_Row) (T := 65) (xs := [(api_Row.mk false p1)]) [(0, .agg #[.bool false, .slice ad1 p1.length cp2])] 1 [.agg #[.bool false, .slice ad1 p1.length cp2]] [.bool false, .slice ad1 p1.length cp2] (.agg #[.bool false, .slice none 0 0]) 32 S (wN rfl) rfl rfl Try.underlying22 rfl (by decide) (by decide) (by kernel_rfl) rfl (fun E1 w1 hE => All.cons (r_api_Row.mono hE (S.mem.know (i := 0) (e := fRep r_api_Row (.agg #[.bool false, .slice ad1 p1.length cp2]) (api_Row.mk false p1)) rfl)) (All.nil _ _ _)) rfl rfl (lb rfl) fun a w ad6 cp7 S => ?_
  refine sBuild [(0, iv p0), (1, .slice ad6 [(api_Row.mk false p1)].length cp7)] [iv p0, .slice ad6 [(api_Row.mk false p1)].length cp7] S (wN rfl) rfl rfl rfl rfl (lb rfl) fun a S => ?_
  refine sStore (p := b4) (off := 0) (T := 24) (vs := [iv 0, .slice none 0 0]) (v := .agg #[iv p0, .slice ad6 [(api_Row.mk false p1)].length cp7]) 1 [iv p0, .slice ad6 [(api_Row.mk false p1)].length cp7] S (wN rfl) rfl rfl rfl rfl rfl rfl rfl (by simp) rfl fun a w S => ?_
  refine leafL (leafT (hK5 _ _ ?_))
  obtain rfl := Option.some.inj h
  have S := S.shutR (r := r_api_Row) (T := 65) (v := .slice ad6 [(api_Row.mk false p1)].length cp7) (xs := [(api_Row.mk false p1)]) 1 rfl
  have S := S.learn (fRep r_api_Chart (.agg #[iv p0, .slice ad6 [(api_Row.mk false p1)].length cp7]) (api_Chart.mk p0 [(api_Row.mk false p1)])) ⟨_, rfl, S.mem.know (i := 0) (e := fRep (rL r_api_Row) (.slice ad6 [(api_Row.mk false p1)].length cp7) [(api_Row.mk false p1)]) rfl⟩
  exact wp_ret (sRet (.agg #[iv p0, .slice ad6 [(api_Row.mk false p1)].length cp7]) S (rsl1 rfl (rvN (c := 4) (t := 24) (T := 24) (p := b4) 0 [iv p0, .slice ad6 [(api_Row.mk false p1)].length cp7] S rfl rfl rfl rfl)) ⟨(.agg #[iv p0, .slice ad6 [(api_Row.mk false p1)].length cp7]), rfl, S.mem.sel [] [0] (by decide) rfl rfl⟩)

end Go.Proofs.Yticjoiolfibmlaa
namespace Go.Proofs.Yticjoiolfibmlaa
open Go.RowKit
set_option linter.unusedVariables false

def K_raddlelaw27_one (p0 : Int) (p1 : (List api_Stitch)) : Option api_Chart :=
  some (api_Chart.mk p0 [(api_Row.mk false p1)])
def K_chart_counted (p0 : api_Chart) : Option api_Chart :=
  some p0
def K_stitch_forms (p0 : Int) : Option (stitch_form × Bool) :=
  Option.bind (α := Bool) (
    if decide (p0 < 1) then
      some true
    else
      some (decide (([(stitch_form.mk (⟨#[]⟩ : ByteArray) (0, 0) (0, 0) true 1 1), (stitch_form.mk (⟨#[]⟩ : ByteArray) (0, 0) (0, 0) false 0 1), (stitch_form.mk (⟨#[102]⟩ : ByteArray) (2, 4) (0, 0) true 2 1), (stitch_form.mk (⟨#[108]⟩ : ByteArray) (2, 4) (0, 0) true 2 1), (stitch_form.mk (⟨#[109]⟩ : ByteArray) (2, 4) (0, 0) true 1 2), (stitch_form.mk (⟨#[120]⟩ : ByteArray) (1, 6) (1, 6) true 3 3), (stitch_form.mk (⟨#[121]⟩ : ByteArray) (1, 6) (1, 6) true 3 3), (stitch_form.mk (⟨#[115]⟩ : ByteArray) (0, 0) (0, 0) true 1 1), (stitch_form.mk (⟨#[]⟩ : ByteArray) (1, 200) (0, 0) false 0 2), (stitch_form.mk (⟨#[111]⟩ : ByteArray) (1, 200) (0, 0) true 2 0)].length : Int) < (IntKind.i64.wrap p0)))) fun o12 =>
  if o12 then
    some ((stitch_form.mk (⟨#[]⟩ : ByteArray) (0, 0) (0, 0) false 0 0), false)
  else
    Option.bind (idxO [(stitch_form.mk (⟨#[]⟩ : ByteArray) (0, 0) (0, 0) true 1 1), (stitch_form.mk (⟨#[]⟩ : ByteArray) (0, 0) (0, 0) false 0 1), (stitch_form.mk (⟨#[102]⟩ : ByteArray) (2, 4) (0, 0) true 2 1), (stitch_form.mk (⟨#[108]⟩ : ByteArray) (2, 4) (0, 0) true 2 1), (stitch_form.mk (⟨#[109]⟩ : ByteArray) (2, 4) (0, 0) true 1 2), (stitch_form.mk (⟨#[120]⟩ : ByteArray) (1, 6) (1, 6) true 3 3), (stitch_form.mk (⟨#[121]⟩ : ByteArray) (1, 6) (1, 6) true 3 3), (stitch_form.mk (⟨#[115]⟩ : ByteArray) (0, 0) (0, 0) true 1 1), (stitch_form.mk (⟨#[]⟩ : ByteArray) (1, 200) (0, 0) false 0 2), (stitch_form.mk (⟨#[111]⟩ : ByteArray) (1, 200) (0, 0) true 2 0)] (IntKind.u8.wrap (p0 - 1))) fun x19 =>
    some (x19, true)
def K_stitch_within (p0 : Int) (p1 : (Int × Int)) : Option Bool :=
  Option.bind (α := Bool) (
    if decide (p1.1 ≤ p0) then
      some (decide (p0 ≤ p1.2))
    else
      some false) fun o3 =>
  some o3
def K_stitch_Check (p0 : api_Stitch) : Option Int :=
  Option.bind (K_stitch_forms p0.Kind) fun r4 =>
  Option.bind (α := Bool) (
    if !r4.2 then
      some true
    else
      Option.bind (K_stitch_within p0.A r4.1.a) fun r13 =>
      if !r13 then
        some true
      else
        Option.bind (K_stitch_within p0.B r4.1.b) fun r16 =>
        if !r16 then
          some true
        else
          if p0.Purl then
            some (!r4.1.sided)
          else
            some false) fun o9 =>
  if o9 then
    some 8
  else
    some 0
def K_stitch_All_1 (p0 : api_Stitch) : Option Bool :=
  Option.bind (K_stitch_Check p0) fun r4 =>
  some (r4 != 0)
def K_slices_IndexFunc___api_Stitch_api_Stitch__s0_l1 (p0 : (List api_Stitch)) : Int → Option (Int ⊕ (Int ⊕ Unit)) := fun s0 => match s0 with
  | s7 =>
    if decide (s7 < (p0.length : Int)) then
      Option.bind (idxO p0 s7) fun x17 =>
      Option.bind (K_stitch_All_1 x17) fun r22 =>
      if r22 then
        some (.inr (.inl s7))
      else
        some (.inl (w64 (s7 + 1)))
    else
      some (.inr (.inr ()))
def K_slices_IndexFunc___api_Stitch_api_Stitch__s0 (p0 : (List api_Stitch)) : Option Int :=
  Option.bind (α := Unit ⊕ Int) (
    Option.bind (whileK (K_slices_IndexFunc___api_Stitch_api_Stitch__s0_l1 p0) 0) fun z0 => match z0 with
      | .inl z =>
        some (.inr z)
      | .inr _ =>
        some (.inl ())) fun z0 => match z0 with
    | .inl _ =>
      some (-1)
    | .inr z =>
      some z
def K_slices_ContainsFunc___api_Stitch_api_Stitch__s0 (p0 : (List api_Stitch)) : Option Bool :=
  Option.bind (K_slices_IndexFunc___api_Stitch_api_Stitch__s0 p0) fun r5 =>
  some (decide (0 ≤ r5))
def K_stitch_loops (p0 : api_Stitch) (p1 : Int) : Option Int :=
  Option.bind (idxO ([0, 1, p0.A, w64 (p0.A + p0.B)] : List Int) p1) fun x4 =>
  some x4
def K_stitch_sum_l1 (p0 : (List api_Stitch)) : (Int × Int × Int) → Option ((Int × Int × Int) ⊕ (Int × Int)) := fun s0 => match s0 with
  | (s9, s10, s11) =>
    if decide (s11 < (p0.length : Int)) then
      Option.bind (idxO p0 s11) fun x22 =>
      Option.bind (K_stitch_forms x22.Kind) fun r29 =>
      Option.bind (K_stitch_loops x22 r29.1.uses) fun r34 =>
      Option.bind (K_stitch_loops x22 r29.1.made) fun r36 =>
      some (.inl (w64 (s9 + r34), w64 (s10 + r36), w64 (s11 + 1)))
    else
      some (.inr (s9, s10))
def K_stitch_sum (p0 : (List api_Stitch)) : Option (Int × Int) :=
  Option.bind (α := (Int × Int)) (
    Option.bind (whileK (K_stitch_sum_l1 p0) (0, 0, 0)) fun (e15, e16) =>
      some (e15, e16)) fun (o4, o5) =>
  some (o4, o5)
def K_stitch_All (p0 : (List api_Stitch)) : Option Int :=
  if decide (200 < (p0.length : Int)) then
    some 4
  else
    Option.bind (K_slices_ContainsFunc___api_Stitch_api_Stitch__s0 p0) fun r10 =>
    if r10 then
      some 8
    else
      Option.bind (K_stitch_sum p0) fun r16 =>
      if decide (200 < (if r16.1 < r16.2 then r16.2 else r16.1)) then
        some 4
      else
        some 0
def K_stitch_Uses (p0 : (List api_Stitch)) : Option (Int × Int) :=
  Option.bind (K_stitch_All p0) fun r6 =>
  if r6 != 0 then
    some (0, r6)
  else
    Option.bind (K_stitch_sum p0) fun r12 =>
    some (r12.1, 0)
def K_stitch_Makes (p0 : (List api_Stitch)) : Option (Int × Int) :=
  Option.bind (K_stitch_All p0) fun r6 =>
  if r6 != 0 then
    some (0, r6)
  else
    Option.bind (K_stitch_sum p0) fun r12 =>
    some (r12.2, 0)
def K_chart_counted_1_l1 {σ τ : Type} (p0 : api_Chart) (B : σ → (Int × chart_count) → Option (σ ⊕ τ)) : (Int × Int × σ) → Option ((Int × Int × σ) ⊕ ((σ ⊕ τ) ⊕ (σ))) := fun s0 => match s0 with
  | (s11, s12, gz13) =>
    if decide (s12 < (p0.Rows.length : Int)) then
      Option.bind (idxO p0.Rows s12) fun x23 =>
      Option.bind (K_stitch_Uses x23.Cells) fun r36 =>
      Option.bind (α := (Int × Int)) (
        if r36.2 != 0 then
          some (0, r36.2)
        else
          if r36.1 != s11 then
            some (0, 26)
          else
            Option.bind (K_stitch_Makes x23.Cells) fun r46 =>
            some (r46.1, 0)) fun (o38, o39) =>
      Option.bind (B gz13 (s12, (chart_count.mk s11 o38 o39))) fun y51 =>
      match y51 with
      | .inl gz53 =>
        if ((chart_count.mk s11 o38 o39).e) != 0 then
          some (.inr (.inl (.inl gz53)))
        else
          some (.inl ((chart_count.mk s11 o38 o39).after, w64 (s12 + 1), gz53))
      | .inr tz54 =>
        some (.inr (.inl (.inr tz54)))
    else
      some (.inr (.inr gz13))
def K_I_chart_counted_1 (p0 : api_Chart) (σ τ : Type) (B : σ → (Int × chart_count) → Option (σ ⊕ τ)) (gz0 : σ) : Option (σ ⊕ τ) :=
  Option.bind (whileK (K_chart_counted_1_l1 p0 B) (p0.Start, 0, gz0)) fun z0 => match z0 with
    | .inl z =>
      some z
    | .inr gz17 =>
      some (.inl gz17)
def K_chart_Check_l2  : Unit → (Int × chart_count) → Option (Unit ⊕ Int) := fun s0 x0 => match s0, x0 with
  | _, (x25, x27) =>
    if x27.e != 0 then
      some (.inr x27.e)
    else
      some (.inl ())
def K_chart_Check (p0 : api_Chart) : Option Int :=
  if decide (100 < (p0.Rows.length : Int)) then
    some 4
  else
    Option.bind (α := Bool) (
      if decide (p0.Start < 0) then
        some true
      else
        some (decide (200 < p0.Start))) fun o13 =>
    if o13 then
      some 8
    else
      Option.bind (K_chart_counted p0) fun r21 =>
      Option.bind (K_I_chart_counted_1 r21 _ _ (K_chart_Check_l2) ()) fun z0 => match z0 with
        | .inl _ =>
          some 0
        | .inr e24 =>
          some e24
def K_loops_of_l1 (p0 : api_Chart) : (Int × List api_Loop) → Option ((Int × List api_Loop) ⊕ List api_Loop) := fun s0 => match s0 with
  | (s21, s22) =>
    if decide (s21 < p0.Start) then
      Option.bind (appO s22 [(api_Loop.mk 0 s21 ([] : (List Int)) false)]) fun l38 =>
      some (.inl (w64 (s21 + 1), l38))
    else
      some (.inr s22)
def K_slices_Backward___api_Stitch_api_Stitch_ (p0 : (List api_Stitch)) : Option (List api_Stitch) :=
  some p0
def K_slices_Backward___api_Stitch_api_Stitch__1_l1 {σ τ : Type} (p0 : (List api_Stitch)) (B : σ → (Int × api_Stitch) → Option (σ ⊕ τ)) : (Int × σ) → Option ((Int × σ) ⊕ ((σ ⊕ τ) ⊕ (σ))) := fun s0 => match s0 with
  | (s5, gz6) =>
    if decide (0 ≤ s5) then
      Option.bind (idxO p0 s5) fun x20 =>
      Option.bind (B gz6 (s5, x20)) fun y25 =>
      match y25 with
      | .inl gz27 =>
        some (.inl (w64 (s5 - 1), gz27))
      | .inr tz28 =>
        some (.inr (.inl (.inr tz28)))
    else
      some (.inr (.inr gz6))
def K_I_slices_Backward___api_Stitch_api_Stitch__1 (p0 : (List api_Stitch)) (σ τ : Type) (B : σ → (Int × api_Stitch) → Option (σ ⊕ τ)) (gz0 : σ) : Option (σ ⊕ τ) :=
  Option.bind (whileK (K_slices_Backward___api_Stitch_api_Stitch__1_l1 p0 B) (w64 ((p0.length : Int) - 1), gz0)) fun z0 => match z0 with
    | .inl z =>
      some z
    | .inr gz10 =>
      some (.inl gz10)
def K_stitch_Turn_l2  : List api_Stitch → (Int × api_Stitch) → Option (List api_Stitch ⊕ Empty) := fun s0 x0 => match s0, x0 with
  | s22, (x25, x27) =>
    Option.bind (K_stitch_forms x27.Kind) fun r31 =>
    Option.bind (α := Bool) (
      if r31.1.sided then
        some (!x27.Purl)
      else
        some false) fun o35 =>
    Option.bind (α := (Int × Int)) (
      if decide (0 < r31.1.b.2) then
        some (x27.B, x27.A)
      else
        some (x27.A, x27.B)) fun (o39, o40) =>
    Option.bind (appO s22 [(api_Stitch.mk x27.Kind o35 o39 o40)]) fun l47 =>
    some (.inl l47)
def K_stitch_Turn (p0 : (List api_Stitch)) : Option ((List api_Stitch) × Int) :=
  Option.bind (K_stitch_All p0) fun r6 =>
  if r6 != 0 then
    some (([] : (List api_Stitch)), r6)
  else
    Option.bind (capO (p0.length : Int)) fun z14 =>
    Option.bind (K_slices_Backward___api_Stitch_api_Stitch_ p0) fun r19 =>
    Option.bind (K_I_slices_Backward___api_Stitch_api_Stitch__1 r19 _ _ (K_stitch_Turn_l2) ([] : List api_Stitch)) fun z0 => match z0 with
      | .inl s22 =>
        some (s22, 0)
      | .inr z0 =>
        nomatch z0
def K_slices_Clone___api_Stitch_api_Stitch_ (p0 : (List api_Stitch)) : Option (List api_Stitch) :=
  Option.bind (appO ([] : List api_Stitch) p0) fun l12 =>
  some l12
def K_chart_Face (p0 : api_Chart) (p1 : Int) : Option ((List api_Stitch) × Int) :=
  Option.bind (K_chart_Check p0) fun r9 =>
  if r9 != 0 then
    some (([] : (List api_Stitch)), r9)
  else
    Option.bind (α := Bool) (
      if decide (p1 < 0) then
        some true
      else
        some (decide ((p0.Rows.length : Int) ≤ p1))) fun o15 =>
    if o15 then
      some (([] : (List api_Stitch)), 2)
    else
      Option.bind (idxO p0.Rows p1) fun x23 =>
      if x23.Back then
        Option.bind (K_stitch_Turn x23.Cells) fun r39 =>
        some (r39.1, r39.2)
      else
        Option.bind (K_slices_Clone___api_Stitch_api_Stitch_ x23.Cells) fun r52 =>
        some (r52, 0)
def K_loops_piece_take_s3_l1 (m5 : List Int) (p0 : loops_piece) : (List Int × Int) → Option ((List Int × Int) ⊕ List Int) := fun s0 => match s0 with
  | (s19, s20) =>
    if decide (s20 < (m5.length : Int)) then
      Option.bind (idxO s19 s20) fun x46 =>
      Option.bind (setO s19 s20 (w64 (p0.next + s20))) fun l51 =>
      some (.inl (l51, w64 (s20 + 1)))
    else
      some (.inr s19)
def K_loops_piece_take_s3 (p0 : loops_piece) (p1 : Int) : Option ((List Int) × loops_piece) :=
  Option.bind (makeO p1 (0 : Int)) fun m5 =>
  Option.bind (α := List Int) (
    Option.bind (whileK (K_loops_piece_take_s3_l1 m5 p0) (m5, 0)) fun e32 =>
      some e32) fun o7 =>
  some (o7, (loops_piece.mk p0.loops p0.rows p0.bound p0.cross (w64 (p0.next + p1))))
def K_loops_piece_add_s1_l1 (p2 : (List (List Int))) (p1 : api_Loop) : (Int × List api_Loop × List Int) → Option ((Int × List api_Loop × List Int) ⊕ List api_Loop) := fun s0 => match s0 with
  | (s10, s11, s20) =>
    if decide (s10 < (p2.length : Int)) then
      Option.bind (idxO p2 s10) fun x40 =>
      Option.bind (appO s11 [(api_Loop.mk p1.Row p1.Cell x40 p1.Purl)]) fun l50 =>
      some (.inl (w64 (s10 + 1), l50, x40))
    else
      some (.inr s11)
def K_loops_piece_add_s1 (p0 : loops_piece) (p1 : api_Loop) (p2 : (List (List Int))) : Option loops_piece :=
  Option.bind (whileK (K_loops_piece_add_s1_l1 p2 p1) (0, p0.loops, p1.Parents)) fun e26 =>
    some (loops_piece.mk e26 p0.rows p0.bound p0.cross p0.next)
def K_slices_Reverse___int_int__s0_l1  : (List Int × Int × Int) → Option ((List Int × Int × Int) ⊕ List Int) := fun s0 => match s0 with
  | (s2, s3, s4) =>
    if decide (s3 < s4) then
      Option.bind (idxO s2 s4) fun x13 =>
      Option.bind (idxO s2 s3) fun x18 =>
      Option.bind (setO s2 s3 x13) fun l26 =>
      Option.bind (idxO l26 s4) fun x28 =>
      Option.bind (setO l26 s4 x18) fun l33 =>
      some (.inl (l33, w64 (s3 + 1), w64 (s4 - 1)))
    else
      some (.inr s2)
def K_slices_Reverse___int_int__s0 (p0 : (List Int)) : Option (List Int) :=
  Option.bind (whileK (K_slices_Reverse___int_int__s0_l1) (p0, 0, w64 ((p0.length : Int) - 1))) fun e8 =>
    (keepO p0 e8).bind fun _ =>
    some e8
def K_slices_Clone___int_int__s0 (p0 : (List Int)) : Option (List Int) :=
  Option.bind (appO ([] : List Int) p0) fun l12 =>
  some l12
def K_loops_piece_work_s1_l1 (p3 : api_Stitch) (r9 : ((List Int) × loops_piece)) (p1 : Int) (p2 : Int) : (Int × List api_Loop × List Int × List Int × List (Int × Int) × Int) → Option ((Int × List api_Loop × List Int × List Int × List (Int × Int) × Int) ⊕ (List api_Loop × List Int × List Int × List (Int × Int) × Int)) := fun s0 => match s0 with
  | (s140, s141, s144, s147, s150, s153) =>
    if decide (s140 < p3.A) then
      Option.bind (K_slices_Clone___int_int__s0 r9.1) fun r174 =>
      Option.bind (K_loops_piece_add_s1 (loops_piece.mk s141 s144 s147 s150 s153) (api_Loop.mk p1 p2 ([] : (List Int)) p3.Purl) [r174]) fun r180 =>
      some (.inl (w64 (s140 + 1), r180.loops, r180.rows, r180.bound, r180.cross, r180.next))
    else
      some (.inr (s141, s144, s147, s150, s153))
def K_slices_Concat___int_int__l1 (p0 : (List (List Int))) : (Int × Int) → Option ((Int × Int) ⊕ Int) := fun s0 => match s0 with
  | (s9, s10) =>
    if decide (s10 < (p0.length : Int)) then
      Option.bind (idxO p0 s10) fun x20 =>
      if decide ((w64 (s9 + (x20.length : Int))) < 0) then
        none
      else
        some (.inl (w64 (s9 + (x20.length : Int)), w64 (s10 + 1)))
    else
      some (.inr s9)
def K_slices_Grow___int_int__s1 (p0 : Int) : Option (List Int) :=
  if decide (p0 < 0) then
    none
  else
    Option.bind (α := List Int) (
      if decide (0 < (w64 (p0 - (w64 ((0 : Int) - 0))))) then
        Option.bind (appZ (w64 (p0 - (w64 ((0 : Int) - 0)))) (0 : Int)) fun m15 =>
        Option.bind (sliceO m15 0 0) fun y17 =>
        some y17
      else
        some ([] : List Int)) fun o5 =>
    some o5
def K_slices_Concat___int_int__l2 (p0 : (List (List Int))) : (List Int × Int) → Option ((List Int × Int) ⊕ List Int) := fun s0 => match s0 with
  | (s41, s44) =>
    if decide (s44 < (p0.length : Int)) then
      Option.bind (idxO p0 s44) fun x56 =>
      Option.bind (appO s41 x56) fun l63 =>
      some (.inl (l63, w64 (s44 + 1)))
    else
      some (.inr s41)
def K_slices_Concat___int_int_ (p0 : (List (List Int))) : Option (List Int) :=
  Option.bind (α := Int) (
    Option.bind (whileK (K_slices_Concat___int_int__l1 p0) (0, 0)) fun e14 =>
      some e14) fun o5 =>
  Option.bind (K_slices_Grow___int_int__s1 o5) fun r31 =>
  Option.bind (α := List Int) (
    Option.bind (whileK (K_slices_Concat___int_int__l2 p0) (r31, 0)) fun e48 =>
      some e48) fun o35 =>
  some o35
def K_loops_piece_cable_s1_l1 (r37 : (List Int)) (p1 : api_Loop) : (Int × List api_Loop × List Int × List Int × List (Int × Int) × Int) → Option ((Int × List api_Loop × List Int × List Int × List (Int × Int) × Int) ⊕ (List api_Loop × List Int × List Int × List (Int × Int) × Int)) := fun s0 => match s0 with
  | (s51, s52, s55, s58, s61, s64) =>
    if decide (s51 < (r37.length : Int)) then
      Option.bind (idxO r37 s51) fun x86 =>
      Option.bind (K_loops_piece_add_s1 (loops_piece.mk s52 s55 s58 s61 s64) p1 [([x86] : List Int)]) fun r95 =>
      some (.inl (w64 (s51 + 1), r95.loops, r95.rows, r95.bound, r95.cross, r95.next))
    else
      some (.inr (s52, s55, s58, s61, s64))
def K_slices_Reverse___int_int__s1_l1  : (Int × Int × Int × Int) → Option ((Int × Int × Int × Int) ⊕ (Int × Int)) := fun s0 => match s0 with
  | (s2, s3, s4, s5) =>
    if decide (s2 < s3) then
      Option.bind (idxO ([s4, s5] : List Int) s3) fun x15 =>
      Option.bind (idxO ([s4, s5] : List Int) s2) fun x17 =>
      Option.bind (idxO ([(if s2 = 0 then x15 else s4), (if s2 = 1 then x15 else s5)] : List Int) s3) fun x20 =>
      some (.inl (w64 (s2 + 1), w64 (s3 - 1), (if s3 = 0 then x17 else (if s2 = 0 then x15 else s4)), (if s3 = 1 then x17 else (if s2 = 1 then x15 else s5))))
    else
      some (.inr (s4, s5))
def K_slices_Reverse___int_int__s1 (p0 : (Int × Int)) : Option (Int × Int) :=
  Option.bind (whileK (K_slices_Reverse___int_int__s1_l1) (0, w64 (((2 : Nat) : Int) - 1), p0.1, p0.2)) fun (e9, e10) =>
    some (e9, e10)
def K_loops_piece_cable_s1_l2 (p2 : api_Stitch) (p0 : loops_piece) (s110 : Int) : (Int × List (Int × Int)) → Option ((Int × List (Int × Int)) ⊕ List (Int × Int)) := fun s0 => match s0 with
  | (s130, s131) =>
    if decide (s130 < p2.B) then
      Option.bind (α := (Int × Int)) (
        if p2.Kind == 7 then
          Option.bind (K_slices_Reverse___int_int__s1 (w64 ((w64 ((p0.loops.length : Int) + p2.B)) + s110), w64 ((p0.loops.length : Int) + s130))) fun r153 =>
          some (r153.1, r153.2)
        else
          some (w64 ((w64 ((p0.loops.length : Int) + p2.B)) + s110), w64 ((p0.loops.length : Int) + s130))) fun (o147, o148) =>
      Option.bind (appO s131 [(o147, o148)]) fun l157 =>
      some (.inl (w64 (s130 + 1), l157))
    else
      some (.inr s131)
def K_loops_piece_cable_s1_l3 (p2 : api_Stitch) (p0 : loops_piece) : (Int × List (Int × Int)) → Option ((Int × List (Int × Int)) ⊕ List (Int × Int)) := fun s0 => match s0 with
  | (s110, s111) =>
    if decide (s110 < p2.A) then
      Option.bind (α := List (Int × Int)) (
        Option.bind (whileK (K_loops_piece_cable_s1_l2 p2 p0 s110) (0, s111)) fun e137 =>
          some e137) fun o123 =>
      some (.inl (w64 (s110 + 1), o123))
    else
      some (.inr s111)
def K_loops_piece_cable_s1 (p0 : loops_piece) (p1 : api_Loop) (p2 : api_Stitch) (p3 : (List Int)) : Option loops_piece :=
  Option.bind (α := (List api_Loop × List Int × List Int × List (Int × Int) × Int)) (
    Option.bind (sliceO p3 p2.A (p3.length : Int)) fun y27 =>
    Option.bind (sliceO p3 0 p2.A) fun y31 =>
    Option.bind (K_slices_Concat___int_int_ [y27, y31]) fun r37 =>
    Option.bind (whileK (K_loops_piece_cable_s1_l1 r37 p1) (0, p0.loops, p0.rows, p0.bound, p0.cross, p0.next)) fun (e68, e71, e74, e77, e80) =>
      some (e68, e71, e74, e77, e80)) fun (o11, o14, o17, o20, o23) =>
  Option.bind (whileK (K_loops_piece_cable_s1_l3 p2 p0) (0, o20)) fun e117 =>
    some (loops_piece.mk o11 o14 o17 e117 o23)
def K_loops_piece_work_s1 (p0 : loops_piece) (p1 : Int) (p2 : Int) (p3 : api_Stitch) : Option loops_piece :=
  Option.bind (K_stitch_Uses [p3]) fun r6 =>
  Option.bind (K_loops_piece_take_s3 p0 r6.1) fun r9 =>
  Option.bind (α := Bool) (
    if p3.Kind == 2 then
      some (p3.Kind == 2)
    else
      some (p3.Kind == 9)) fun o24 =>
  if o24 then
    Option.bind (makeO (if (1 : Int) < p3.A then p3.A else 1) ([] : (List Int))) fun m32 =>
    Option.bind (K_loops_piece_add_s1 r9.2 (api_Loop.mk p1 p2 ([] : (List Int)) p3.Purl) m32) fun r34 =>
    some r34
  else
    if p3.Kind == 1 then
      Option.bind (K_loops_piece_add_s1 r9.2 (api_Loop.mk p1 p2 ([] : (List Int)) p3.Purl) [r9.1]) fun r58 =>
      some r58
    else
      if p3.Kind == 8 then
        Option.bind (idxO r9.1 0) fun x71 =>
        Option.bind (idxO r9.2.loops x71) fun x76 =>
        Option.bind (K_loops_piece_add_s1 r9.2 (api_Loop.mk p1 p2 ([] : (List Int)) x76.Purl) [r9.1]) fun r95 =>
        some r95
      else
        if p3.Kind == 4 then
          Option.bind (K_slices_Reverse___int_int__s0 r9.1) fun r108 =>
          Option.bind (K_loops_piece_add_s1 r9.2 (api_Loop.mk p1 p2 ([] : (List Int)) p3.Purl) [r108]) fun r113 =>
          some r113
        else
          if p3.Kind == 3 then
            Option.bind (K_loops_piece_add_s1 r9.2 (api_Loop.mk p1 p2 ([] : (List Int)) p3.Purl) [r9.1]) fun r127 =>
            some r127
          else
            if p3.Kind == 5 then
              Option.bind (whileK (K_loops_piece_work_s1_l1 p3 r9 p1 p2) (0, r9.2.loops, r9.2.rows, r9.2.bound, r9.2.cross, r9.2.next)) fun (e157, e160, e163, e166, e169) =>
                some (loops_piece.mk e157 e160 e163 e166 e169)
            else
              if p3.Kind == 10 then
                Option.bind (appO r9.2.bound r9.1) fun l204 =>
                some (loops_piece.mk r9.2.loops r9.2.rows l204 r9.2.cross r9.2.next)
              else
                Option.bind (K_loops_piece_cable_s1 r9.2 (api_Loop.mk p1 p2 ([] : (List Int)) p3.Purl) p3 r9.1) fun r208 =>
                some r208
def K_loops_of_l2 (r111 : ((List api_Stitch) × Int)) (s61 : Int) : (Int × List api_Loop × List Int × List Int × List (Int × Int) × Int) → Option ((Int × List api_Loop × List Int × List Int × List (Int × Int) × Int) ⊕ (List api_Loop × List Int × List Int × List (Int × Int) × Int)) := fun s0 => match s0 with
  | (s132, s133, s136, s139, s142, s145) =>
    if decide (s132 < (r111.1.length : Int)) then
      Option.bind (idxO r111.1 s132) fun x167 =>
      Option.bind (K_loops_piece_work_s1 (loops_piece.mk s133 s136 s139 s142 s145) (w64 (s61 + 1)) s132 x167) fun r173 =>
      some (.inl (w64 (s132 + 1), r173.loops, r173.rows, r173.bound, r173.cross, r173.next))
    else
      some (.inr (s133, s136, s139, s142, s145))
def K_loops_of_l3 (p0 : api_Chart) : (Int × List api_Loop × List Int × List Int × List (Int × Int) × Int) → Option ((Int × List api_Loop × List Int × List Int × List (Int × Int) × Int) ⊕ (List api_Loop × List Int × List Int × List (Int × Int) × Int)) := fun s0 => match s0 with
  | (s61, s62, s65, s68, s71, s74) =>
    if decide (s61 < (p0.Rows.length : Int)) then
      Option.bind (α := (List api_Loop × List Int × List Int × List (Int × Int) × Int)) (
        Option.bind (K_chart_Face p0 s61) fun r111 =>
        Option.bind (α := (List api_Loop × List Int × List Int × List (Int × Int) × Int)) (
          Option.bind (whileK (K_loops_of_l2 r111 s61) (0, s62, s65, s68, s71, s74)) fun (e149, e152, e155, e158, e161) =>
            some (e149, e152, e155, e158, e161)) fun (o116, o119, o122, o125, o128) =>
        Option.bind (appO o119 ([(o116.length : Int)] : List Int)) fun l185 =>
        some (o116, l185, o122, o125, o128)) fun (o94, o97, o100, o103, o106) =>
      some (.inl (w64 (s61 + 1), o94, o97, o100, o103, o106))
    else
      some (.inr (s62, s65, s68, s71, s74))
def K_loops_of (p0 : api_Chart) : Option (loops_piece × Int) :=
  Option.bind (K_chart_Check p0) fun r10 =>
  if r10 != 0 then
    some ((loops_piece.mk ([] : (List api_Loop)) ([] : (List Int)) ([] : (List Int)) ([] : (List (Int × Int))) 0), r10)
  else
    Option.bind (α := List api_Loop) (
      Option.bind (whileK (K_loops_of_l1 p0) (0, ([] : List api_Loop))) fun e28 =>
        some e28) fun o15 =>
    Option.bind (α := (List api_Loop × List Int × List Int × List (Int × Int) × Int)) (
      Option.bind (whileK (K_loops_of_l3 p0) (0, o15, ([0, p0.Start] : List Int), ([] : List Int), ([] : List (Int × Int)), 0)) fun (e78, e81, e84, e87, e90) =>
        some (e78, e81, e84, e87, e90)) fun (o45, o48, o51, o54, o57) =>
    some ((loops_piece.mk o45 o48 o51 o54 o57), 0)
def K_loops_Of (p0 : api_Chart) : Option ((List api_Loop) × Int) :=
  Option.bind (K_loops_of p0) fun r8 =>
  some (r8.1.loops, r8.2)
def K_loops_Crossings (p0 : api_Chart) : Option ((List (Int × Int)) × Int) :=
  Option.bind (K_loops_of p0) fun r8 =>
  some (r8.1.cross, r8.2)
def K_loops_Bound (p0 : api_Chart) : Option ((List Int) × Int) :=
  Option.bind (K_loops_of p0) fun r8 =>
  some (r8.1.bound, r8.2)
def K_raddleref26_SameInts_l1 (p0 : (List Int)) (p1 : (List Int)) : Int → Option (Int ⊕ (Bool ⊕ Unit)) := fun s0 => match s0 with
  | s13 =>
    if decide (s13 < (p0.length : Int)) then
      Option.bind (idxO p0 s13) fun x22 =>
      Option.bind (idxO p1 s13) fun x27 =>
      if x22 != x27 then
        some (.inr (.inl false))
      else
        some (.inl (w64 (s13 + 1)))
    else
      some (.inr (.inr ()))
def K_raddleref26_SameInts (p0 : (List Int)) (p1 : (List Int)) : Option Bool :=
  if (p0.length : Int) != (p1.length : Int) then
    some false
  else
    Option.bind (α := Unit ⊕ Bool) (
      Option.bind (whileK (K_raddleref26_SameInts_l1 p0 p1) 0) fun z0 => match z0 with
        | .inl z =>
          some (.inr z)
        | .inr _ =>
          some (.inl ())) fun z0 => match z0 with
      | .inl _ =>
        some true
      | .inr z =>
        some z
def K_raddleref27_SamePairs_l1 (p0 : (List (Int × Int))) (p1 : (List (Int × Int))) : Int → Option (Int ⊕ (Bool ⊕ Unit)) := fun s0 => match s0 with
  | s13 =>
    if decide (s13 < (p0.length : Int)) then
      Option.bind (idxO p0 s13) fun x22 =>
      Option.bind (idxO p1 s13) fun x27 =>
      if !((x22.1 == x27.1) && ((x22.2 == x27.2) && true)) then
        some (.inr (.inl false))
      else
        some (.inl (w64 (s13 + 1)))
    else
      some (.inr (.inr ()))
def K_raddleref27_SamePairs (p0 : (List (Int × Int))) (p1 : (List (Int × Int))) : Option Bool :=
  if (p0.length : Int) != (p1.length : Int) then
    some false
  else
    Option.bind (α := Unit ⊕ Bool) (
      Option.bind (whileK (K_raddleref27_SamePairs_l1 p0 p1) 0) fun z0 => match z0 with
        | .inl z =>
          some (.inr z)
        | .inr _ =>
          some (.inl ())) fun z0 => match z0 with
      | .inl _ =>
        some true
      | .inr z =>
        some z
theorem m_F_raddlelaw27_one (p0 : Int) (p1 : (List api_Stitch)) : Le (K_raddlelaw27_one p0 p1) (F_raddlelaw27_one p0 p1) := by
  unfold K_raddlelaw27_one F_raddlelaw27_one
  with_reducible repeat' (first | exact Le.rfl _ | refine Le.loop _ ?_ | refine Le.bind ?_ ?_ | refine Le.ite ?_ ?_ | refine Le.sum ?_ ?_ | refine Le.prod ?_ | intro _ | exact Empty.elim (by assumption) | dsimp only)
theorem m_F_chart_counted (p0 : api_Chart) : Le (K_chart_counted p0) (F_chart_counted p0) := by
  unfold K_chart_counted F_chart_counted
  with_reducible repeat' (first | exact Le.rfl _ | refine Le.loop _ ?_ | refine Le.bind ?_ ?_ | refine Le.ite ?_ ?_ | refine Le.sum ?_ ?_ | refine Le.prod ?_ | intro _ | exact Empty.elim (by assumption) | dsimp only)
theorem m_F_stitch_forms (p0 : Int) : Le (K_stitch_forms p0) (F_stitch_forms p0) := by
  unfold K_stitch_forms F_stitch_forms
  with_reducible repeat' (first | exact Le.rfl _ | refine Le.loop _ ?_ | refine Le.bind ?_ ?_ | refine Le.ite ?_ ?_ | refine Le.sum ?_ ?_ | refine Le.prod ?_ | intro _ | exact Empty.elim (by assumption) | dsimp only)
theorem m_F_stitch_within (p0 : Int) (p1 : (Int × Int)) : Le (K_stitch_within p0 p1) (F_stitch_within p0 p1) := by
  unfold K_stitch_within F_stitch_within
  with_reducible repeat' (first | exact Le.rfl _ | refine Le.loop _ ?_ | refine Le.bind ?_ ?_ | refine Le.ite ?_ ?_ | refine Le.sum ?_ ?_ | refine Le.prod ?_ | intro _ | exact Empty.elim (by assumption) | dsimp only)
theorem m_F_stitch_Check (p0 : api_Stitch) : Le (K_stitch_Check p0) (F_stitch_Check p0) := by
  unfold K_stitch_Check F_stitch_Check
  with_reducible repeat' (first | exact m_F_stitch_forms _ | exact m_F_stitch_within _ _ | exact Le.rfl _ | refine Le.loop _ ?_ | refine Le.bind ?_ ?_ | refine Le.ite ?_ ?_ | refine Le.sum ?_ ?_ | refine Le.prod ?_ | intro _ | exact Empty.elim (by assumption) | dsimp only)
theorem m_F_stitch_All_1 (p0 : api_Stitch) : Le (K_stitch_All_1 p0) (F_stitch_All_1 p0) := by
  unfold K_stitch_All_1 F_stitch_All_1
  with_reducible repeat' (first | exact m_F_stitch_Check _ | exact Le.rfl _ | refine Le.loop _ ?_ | refine Le.bind ?_ ?_ | refine Le.ite ?_ ?_ | refine Le.sum ?_ ?_ | refine Le.prod ?_ | intro _ | exact Empty.elim (by assumption) | dsimp only)
theorem m_slices_IndexFunc___api_Stitch_api_Stitch__s0_l1 (p0 : (List api_Stitch)) : ∀ s, Le (K_slices_IndexFunc___api_Stitch_api_Stitch__s0_l1 p0 s) (slices_IndexFunc___api_Stitch_api_Stitch__s0_l1 p0 s) := by
  unfold K_slices_IndexFunc___api_Stitch_api_Stitch__s0_l1 slices_IndexFunc___api_Stitch_api_Stitch__s0_l1
  with_reducible repeat' (first | exact m_F_stitch_All_1 _ | exact Le.rfl _ | refine Le.loop _ ?_ | refine Le.bind ?_ ?_ | refine Le.ite ?_ ?_ | refine Le.sum ?_ ?_ | refine Le.prod ?_ | intro _ | exact Empty.elim (by assumption) | dsimp only)
theorem m_F_slices_IndexFunc___api_Stitch_api_Stitch__s0 (p0 : (List api_Stitch)) : Le (K_slices_IndexFunc___api_Stitch_api_Stitch__s0 p0) (F_slices_IndexFunc___api_Stitch_api_Stitch__s0 p0) := by
  unfold K_slices_IndexFunc___api_Stitch_api_Stitch__s0 F_slices_IndexFunc___api_Stitch_api_Stitch__s0
  with_reducible repeat' (first | exact m_slices_IndexFunc___api_Stitch_api_Stitch__s0_l1 _ | exact Le.rfl _ | refine Le.loop _ ?_ | refine Le.bind ?_ ?_ | refine Le.ite ?_ ?_ | refine Le.sum ?_ ?_ | refine Le.prod ?_ | intro _ | exact Empty.elim (by assumption) | dsimp only)
theorem m_F_slices_ContainsFunc___api_Stitch_api_Stitch__s0 (p0 : (List api_Stitch)) : Le (K_slices_ContainsFunc___api_Stitch_api_Stitch__s0 p0) (F_slices_ContainsFunc___api_Stitch_api_Stitch__s0 p0) := by
  unfold K_slices_ContainsFunc___api_Stitch_api_Stitch__s0 F_slices_ContainsFunc___api_Stitch_api_Stitch__s0
  with_reducible repeat' (first | exact m_F_slices_IndexFunc___api_Stitch_api_Stitch__s0 _ | exact Le.rfl _ | refine Le.loop _ ?_ | refine Le.bind ?_ ?_ | refine Le.ite ?_ ?_ | refine Le.sum ?_ ?_ | refine Le.prod ?_ | intro _ | exact Empty.elim (by assumption) | dsimp only)
theorem m_F_stitch_loops (p0 : api_Stitch) (p1 : Int) : Le (K_stitch_loops p0 p1) (F_stitch_loops p0 p1) := by
  unfold K_stitch_loops F_stitch_loops
  with_reducible repeat' (first | exact Le.rfl _ | refine Le.loop _ ?_ | refine Le.bind ?_ ?_ | refine Le.ite ?_ ?_ | refine Le.sum ?_ ?_ | refine Le.prod ?_ | intro _ | exact Empty.elim (by assumption) | dsimp only)
theorem m_stitch_sum_l1 (p0 : (List api_Stitch)) : ∀ s, Le (K_stitch_sum_l1 p0 s) (stitch_sum_l1 p0 s) := by
  unfold K_stitch_sum_l1 stitch_sum_l1
  with_reducible repeat' (first | exact m_F_stitch_forms _ | exact m_F_stitch_loops _ _ | exact Le.rfl _ | refine Le.loop _ ?_ | refine Le.bind ?_ ?_ | refine Le.ite ?_ ?_ | refine Le.sum ?_ ?_ | refine Le.prod ?_ | intro _ | exact Empty.elim (by assumption) | dsimp only)
theorem m_F_stitch_sum (p0 : (List api_Stitch)) : Le (K_stitch_sum p0) (F_stitch_sum p0) := by
  unfold K_stitch_sum F_stitch_sum
  with_reducible repeat' (first | exact m_stitch_sum_l1 _ | exact Le.rfl _ | refine Le.loop _ ?_ | refine Le.bind ?_ ?_ | refine Le.ite ?_ ?_ | refine Le.sum ?_ ?_ | refine Le.prod ?_ | intro _ | exact Empty.elim (by assumption) | dsimp only)
theorem m_F_stitch_All (p0 : (List api_Stitch)) : Le (K_stitch_All p0) (F_stitch_All p0) := by
  unfold K_stitch_All F_stitch_All
  with_reducible repeat' (first | exact m_F_slices_ContainsFunc___api_Stitch_api_Stitch__s0 _ | exact m_F_stitch_sum _ | exact Le.rfl _ | refine Le.loop _ ?_ | refine Le.bind ?_ ?_ | refine Le.ite ?_ ?_ | refine Le.sum ?_ ?_ | refine Le.prod ?_ | intro _ | exact Empty.elim (by assumption) | dsimp only)
theorem m_F_stitch_Uses (p0 : (List api_Stitch)) : Le (K_stitch_Uses p0) (F_stitch_Uses p0) := by
  unfold K_stitch_Uses F_stitch_Uses
  with_reducible repeat' (first | exact m_F_stitch_All _ | exact m_F_stitch_sum _ | exact Le.rfl _ | refine Le.loop _ ?_ | refine Le.bind ?_ ?_ | refine Le.ite ?_ ?_ | refine Le.sum ?_ ?_ | refine Le.prod ?_ | intro _ | exact Empty.elim (by assumption) | dsimp only)
theorem m_F_stitch_Makes (p0 : (List api_Stitch)) : Le (K_stitch_Makes p0) (F_stitch_Makes p0) := by
  unfold K_stitch_Makes F_stitch_Makes
  with_reducible repeat' (first | exact m_F_stitch_All _ | exact m_F_stitch_sum _ | exact Le.rfl _ | refine Le.loop _ ?_ | refine Le.bind ?_ ?_ | refine Le.ite ?_ ?_ | refine Le.sum ?_ ?_ | refine Le.prod ?_ | intro _ | exact Empty.elim (by assumption) | dsimp only)
theorem m_chart_counted_1_l1 {σ τ : Type} (p0 : api_Chart) (B B' : σ → (Int × chart_count) → Option (σ ⊕ τ)) (hB : ∀ s x, Le (B s x) (B' s x)) : ∀ s, Le (K_chart_counted_1_l1 p0 B s) (chart_counted_1_l1 p0 B' s) := by
  unfold K_chart_counted_1_l1 chart_counted_1_l1
  with_reducible repeat' (first | exact hB _ _ | exact m_F_stitch_Uses _ | exact m_F_stitch_Makes _ | exact Le.rfl _ | refine Le.loop _ ?_ | refine Le.bind ?_ ?_ | refine Le.ite ?_ ?_ | refine Le.sum ?_ ?_ | refine Le.prod ?_ | intro _ | exact Empty.elim (by assumption) | dsimp only)
theorem m_I_chart_counted_1 (p0 : api_Chart) (σ τ : Type) (B B' : σ → (Int × chart_count) → Option (σ ⊕ τ)) (hB : ∀ s x, Le (B s x) (B' s x)) (gz0 : σ) : Le (K_I_chart_counted_1 p0 σ τ B gz0) (I_chart_counted_1 p0 σ τ B' gz0) := by
  unfold K_I_chart_counted_1 I_chart_counted_1
  with_reducible repeat' (first | exact hB _ _ | exact m_chart_counted_1_l1 _ _ _ hB | exact Le.rfl _ | refine Le.loop _ ?_ | refine Le.bind ?_ ?_ | refine Le.ite ?_ ?_ | refine Le.sum ?_ ?_ | refine Le.prod ?_ | intro _ | exact Empty.elim (by assumption) | dsimp only)
theorem m_chart_Check_l2  : ∀ s x, Le (K_chart_Check_l2 s x) (chart_Check_l2 s x) := by
  unfold K_chart_Check_l2 chart_Check_l2
  with_reducible repeat' (first | exact Le.rfl _ | refine Le.loop _ ?_ | refine Le.bind ?_ ?_ | refine Le.ite ?_ ?_ | refine Le.sum ?_ ?_ | refine Le.prod ?_ | intro _ | exact Empty.elim (by assumption) | dsimp only)
theorem m_F_chart_Check (p0 : api_Chart) : Le (K_chart_Check p0) (F_chart_Check p0) := by
  unfold K_chart_Check F_chart_Check
  with_reducible repeat' (first | exact m_F_chart_counted _ | refine m_I_chart_counted_1 _ _ _ _ _ ?_ _ | exact m_chart_Check_l2 | exact Le.rfl _ | refine Le.loop _ ?_ | refine Le.bind ?_ ?_ | refine Le.ite ?_ ?_ | refine Le.sum ?_ ?_ | refine Le.prod ?_ | intro _ | exact Empty.elim (by assumption) | dsimp only)
theorem m_loops_of_l1 (p0 : api_Chart) : ∀ s, Le (K_loops_of_l1 p0 s) (loops_of_l1 p0 s) := by
  unfold K_loops_of_l1 loops_of_l1
  with_reducible repeat' (first | exact Le.rfl _ | refine Le.loop _ ?_ | refine Le.bind ?_ ?_ | refine Le.ite ?_ ?_ | refine Le.sum ?_ ?_ | refine Le.prod ?_ | intro _ | exact Empty.elim (by assumption) | dsimp only)
theorem m_F_slices_Backward___api_Stitch_api_Stitch_ (p0 : (List api_Stitch)) : Le (K_slices_Backward___api_Stitch_api_Stitch_ p0) (F_slices_Backward___api_Stitch_api_Stitch_ p0) := by
  unfold K_slices_Backward___api_Stitch_api_Stitch_ F_slices_Backward___api_Stitch_api_Stitch_
  with_reducible repeat' (first | exact Le.rfl _ | refine Le.loop _ ?_ | refine Le.bind ?_ ?_ | refine Le.ite ?_ ?_ | refine Le.sum ?_ ?_ | refine Le.prod ?_ | intro _ | exact Empty.elim (by assumption) | dsimp only)
theorem m_slices_Backward___api_Stitch_api_Stitch__1_l1 {σ τ : Type} (p0 : (List api_Stitch)) (B B' : σ → (Int × api_Stitch) → Option (σ ⊕ τ)) (hB : ∀ s x, Le (B s x) (B' s x)) : ∀ s, Le (K_slices_Backward___api_Stitch_api_Stitch__1_l1 p0 B s) (slices_Backward___api_Stitch_api_Stitch__1_l1 p0 B' s) := by
  unfold K_slices_Backward___api_Stitch_api_Stitch__1_l1 slices_Backward___api_Stitch_api_Stitch__1_l1
  with_reducible repeat' (first | exact hB _ _ | exact Le.rfl _ | refine Le.loop _ ?_ | refine Le.bind ?_ ?_ | refine Le.ite ?_ ?_ | refine Le.sum ?_ ?_ | refine Le.prod ?_ | intro _ | exact Empty.elim (by assumption) | dsimp only)
theorem m_I_slices_Backward___api_Stitch_api_Stitch__1 (p0 : (List api_Stitch)) (σ τ : Type) (B B' : σ → (Int × api_Stitch) → Option (σ ⊕ τ)) (hB : ∀ s x, Le (B s x) (B' s x)) (gz0 : σ) : Le (K_I_slices_Backward___api_Stitch_api_Stitch__1 p0 σ τ B gz0) (I_slices_Backward___api_Stitch_api_Stitch__1 p0 σ τ B' gz0) := by
  unfold K_I_slices_Backward___api_Stitch_api_Stitch__1 I_slices_Backward___api_Stitch_api_Stitch__1
  with_reducible repeat' (first | exact hB _ _ | exact m_slices_Backward___api_Stitch_api_Stitch__1_l1 _ _ _ hB | exact Le.rfl _ | refine Le.loop _ ?_ | refine Le.bind ?_ ?_ | refine Le.ite ?_ ?_ | refine Le.sum ?_ ?_ | refine Le.prod ?_ | intro _ | exact Empty.elim (by assumption) | dsimp only)
theorem m_stitch_Turn_l2  : ∀ s x, Le (K_stitch_Turn_l2 s x) (stitch_Turn_l2 s x) := by
  unfold K_stitch_Turn_l2 stitch_Turn_l2
  with_reducible repeat' (first | exact m_F_stitch_forms _ | exact Le.rfl _ | refine Le.loop _ ?_ | refine Le.bind ?_ ?_ | refine Le.ite ?_ ?_ | refine Le.sum ?_ ?_ | refine Le.prod ?_ | intro _ | exact Empty.elim (by assumption) | dsimp only)
theorem m_F_stitch_Turn (p0 : (List api_Stitch)) : Le (K_stitch_Turn p0) (F_stitch_Turn p0) := by
  unfold K_stitch_Turn F_stitch_Turn
  with_reducible repeat' (first | exact m_F_stitch_All _ | exact m_F_slices_Backward___api_Stitch_api_Stitch_ _ | refine m_I_slices_Backward___api_Stitch_api_Stitch__1 _ _ _ _ _ ?_ _ | exact m_stitch_Turn_l2 | exact Le.rfl _ | refine Le.loop _ ?_ | refine Le.bind ?_ ?_ | refine Le.ite ?_ ?_ | refine Le.sum ?_ ?_ | refine Le.prod ?_ | intro _ | exact Empty.elim (by assumption) | dsimp only)
theorem m_F_slices_Clone___api_Stitch_api_Stitch_ (p0 : (List api_Stitch)) : Le (K_slices_Clone___api_Stitch_api_Stitch_ p0) (F_slices_Clone___api_Stitch_api_Stitch_ p0) := by
  unfold K_slices_Clone___api_Stitch_api_Stitch_ F_slices_Clone___api_Stitch_api_Stitch_
  with_reducible repeat' (first | exact Le.rfl _ | refine Le.loop _ ?_ | refine Le.bind ?_ ?_ | refine Le.ite ?_ ?_ | refine Le.sum ?_ ?_ | refine Le.prod ?_ | intro _ | exact Empty.elim (by assumption) | dsimp only)
theorem m_F_chart_Face (p0 : api_Chart) (p1 : Int) : Le (K_chart_Face p0 p1) (F_chart_Face p0 p1) := by
  unfold K_chart_Face F_chart_Face
  with_reducible repeat' (first | exact m_F_chart_Check _ | exact m_F_stitch_Turn _ | exact m_F_slices_Clone___api_Stitch_api_Stitch_ _ | exact Le.rfl _ | refine Le.loop _ ?_ | refine Le.bind ?_ ?_ | refine Le.ite ?_ ?_ | refine Le.sum ?_ ?_ | refine Le.prod ?_ | intro _ | exact Empty.elim (by assumption) | dsimp only)
theorem m_loops_piece_take_s3_l1 (m5 : List Int) (p0 : loops_piece) : ∀ s, Le (K_loops_piece_take_s3_l1 m5 p0 s) (loops_piece_take_s3_l1 m5 p0 s) := by
  unfold K_loops_piece_take_s3_l1 loops_piece_take_s3_l1
  with_reducible repeat' (first | exact Le.rfl _ | refine Le.loop _ ?_ | refine Le.bind ?_ ?_ | refine Le.ite ?_ ?_ | refine Le.sum ?_ ?_ | refine Le.prod ?_ | intro _ | exact Empty.elim (by assumption) | dsimp only)
theorem m_F_loops_piece_take_s3 (p0 : loops_piece) (p1 : Int) : Le (K_loops_piece_take_s3 p0 p1) (F_loops_piece_take_s3 p0 p1) := by
  unfold K_loops_piece_take_s3 F_loops_piece_take_s3
  with_reducible repeat' (first | exact m_loops_piece_take_s3_l1 _ _ | exact Le.rfl _ | refine Le.loop _ ?_ | refine Le.bind ?_ ?_ | refine Le.ite ?_ ?_ | refine Le.sum ?_ ?_ | refine Le.prod ?_ | intro _ | exact Empty.elim (by assumption) | dsimp only)
theorem m_loops_piece_add_s1_l1 (p2 : (List (List Int))) (p1 : api_Loop) : ∀ s, Le (K_loops_piece_add_s1_l1 p2 p1 s) (loops_piece_add_s1_l1 p2 p1 s) := by
  unfold K_loops_piece_add_s1_l1 loops_piece_add_s1_l1
  with_reducible repeat' (first | exact Le.rfl _ | refine Le.loop _ ?_ | refine Le.bind ?_ ?_ | refine Le.ite ?_ ?_ | refine Le.sum ?_ ?_ | refine Le.prod ?_ | intro _ | exact Empty.elim (by assumption) | dsimp only)
theorem m_F_loops_piece_add_s1 (p0 : loops_piece) (p1 : api_Loop) (p2 : (List (List Int))) : Le (K_loops_piece_add_s1 p0 p1 p2) (F_loops_piece_add_s1 p0 p1 p2) := by
  unfold K_loops_piece_add_s1 F_loops_piece_add_s1
  with_reducible repeat' (first | exact m_loops_piece_add_s1_l1 _ _ | exact Le.rfl _ | refine Le.loop _ ?_ | refine Le.bind ?_ ?_ | refine Le.ite ?_ ?_ | refine Le.sum ?_ ?_ | refine Le.prod ?_ | intro _ | exact Empty.elim (by assumption) | dsimp only)
theorem m_slices_Reverse___int_int__s0_l1  : ∀ s, Le (K_slices_Reverse___int_int__s0_l1 s) (slices_Reverse___int_int__s0_l1 s) := by
  unfold K_slices_Reverse___int_int__s0_l1 slices_Reverse___int_int__s0_l1
  with_reducible repeat' (first | exact Le.rfl _ | refine Le.loop _ ?_ | refine Le.bind ?_ ?_ | refine Le.ite ?_ ?_ | refine Le.sum ?_ ?_ | refine Le.prod ?_ | intro _ | exact Empty.elim (by assumption) | dsimp only)
theorem m_F_slices_Reverse___int_int__s0 (p0 : (List Int)) : Le (K_slices_Reverse___int_int__s0 p0) (F_slices_Reverse___int_int__s0 p0) := by
  unfold K_slices_Reverse___int_int__s0 F_slices_Reverse___int_int__s0
  with_reducible repeat' (first | exact m_slices_Reverse___int_int__s0_l1 | exact Le.rfl _ | refine Le.loop _ ?_ | refine Le.bind ?_ ?_ | refine Le.ite ?_ ?_ | refine Le.sum ?_ ?_ | refine Le.prod ?_ | intro _ | exact Empty.elim (by assumption) | dsimp only)
theorem m_F_slices_Clone___int_int__s0 (p0 : (List Int)) : Le (K_slices_Clone___int_int__s0 p0) (F_slices_Clone___int_int__s0 p0) := by
  unfold K_slices_Clone___int_int__s0 F_slices_Clone___int_int__s0
  with_reducible repeat' (first | exact Le.rfl _ | refine Le.loop _ ?_ | refine Le.bind ?_ ?_ | refine Le.ite ?_ ?_ | refine Le.sum ?_ ?_ | refine Le.prod ?_ | intro _ | exact Empty.elim (by assumption) | dsimp only)
theorem m_loops_piece_work_s1_l1 (p3 : api_Stitch) (r9 : ((List Int) × loops_piece)) (p1 : Int) (p2 : Int) : ∀ s, Le (K_loops_piece_work_s1_l1 p3 r9 p1 p2 s) (loops_piece_work_s1_l1 p3 r9 p1 p2 s) := by
  unfold K_loops_piece_work_s1_l1 loops_piece_work_s1_l1
  with_reducible repeat' (first | exact m_F_slices_Clone___int_int__s0 _ | exact m_F_loops_piece_add_s1 _ _ _ | exact Le.rfl _ | refine Le.loop _ ?_ | refine Le.bind ?_ ?_ | refine Le.ite ?_ ?_ | refine Le.sum ?_ ?_ | refine Le.prod ?_ | intro _ | exact Empty.elim (by assumption) | dsimp only)
theorem m_slices_Concat___int_int__l1 (p0 : (List (List Int))) : ∀ s, Le (K_slices_Concat___int_int__l1 p0 s) (slices_Concat___int_int__l1 p0 s) := by
  unfold K_slices_Concat___int_int__l1 slices_Concat___int_int__l1
  with_reducible repeat' (first | exact Le.rfl _ | refine Le.loop _ ?_ | refine Le.bind ?_ ?_ | refine Le.ite ?_ ?_ | refine Le.sum ?_ ?_ | refine Le.prod ?_ | intro _ | exact Empty.elim (by assumption) | dsimp only)
theorem m_F_slices_Grow___int_int__s1 (p0 : Int) : Le (K_slices_Grow___int_int__s1 p0) (F_slices_Grow___int_int__s1 p0) := by
  unfold K_slices_Grow___int_int__s1 F_slices_Grow___int_int__s1
  with_reducible repeat' (first | exact Le.rfl _ | refine Le.loop _ ?_ | refine Le.bind ?_ ?_ | refine Le.ite ?_ ?_ | refine Le.sum ?_ ?_ | refine Le.prod ?_ | intro _ | exact Empty.elim (by assumption) | dsimp only)
theorem m_slices_Concat___int_int__l2 (p0 : (List (List Int))) : ∀ s, Le (K_slices_Concat___int_int__l2 p0 s) (slices_Concat___int_int__l2 p0 s) := by
  unfold K_slices_Concat___int_int__l2 slices_Concat___int_int__l2
  with_reducible repeat' (first | exact Le.rfl _ | refine Le.loop _ ?_ | refine Le.bind ?_ ?_ | refine Le.ite ?_ ?_ | refine Le.sum ?_ ?_ | refine Le.prod ?_ | intro _ | exact Empty.elim (by assumption) | dsimp only)
theorem m_F_slices_Concat___int_int_ (p0 : (List (List Int))) : Le (K_slices_Concat___int_int_ p0) (F_slices_Concat___int_int_ p0) := by
  unfold K_slices_Concat___int_int_ F_slices_Concat___int_int_
  with_reducible repeat' (first | exact m_slices_Concat___int_int__l1 _ | exact m_F_slices_Grow___int_int__s1 _ | exact m_slices_Concat___int_int__l2 _ | exact Le.rfl _ | refine Le.loop _ ?_ | refine Le.bind ?_ ?_ | refine Le.ite ?_ ?_ | refine Le.sum ?_ ?_ | refine Le.prod ?_ | intro _ | exact Empty.elim (by assumption) | dsimp only)
theorem m_loops_piece_cable_s1_l1 (r37 : (List Int)) (p1 : api_Loop) : ∀ s, Le (K_loops_piece_cable_s1_l1 r37 p1 s) (loops_piece_cable_s1_l1 r37 p1 s) := by
  unfold K_loops_piece_cable_s1_l1 loops_piece_cable_s1_l1
  with_reducible repeat' (first | exact m_F_loops_piece_add_s1 _ _ _ | exact Le.rfl _ | refine Le.loop _ ?_ | refine Le.bind ?_ ?_ | refine Le.ite ?_ ?_ | refine Le.sum ?_ ?_ | refine Le.prod ?_ | intro _ | exact Empty.elim (by assumption) | dsimp only)
theorem m_slices_Reverse___int_int__s1_l1  : ∀ s, Le (K_slices_Reverse___int_int__s1_l1 s) (slices_Reverse___int_int__s1_l1 s) := by
  unfold K_slices_Reverse___int_int__s1_l1 slices_Reverse___int_int__s1_l1
  with_reducible repeat' (first | exact Le.rfl _ | refine Le.loop _ ?_ | refine Le.bind ?_ ?_ | refine Le.ite ?_ ?_ | refine Le.sum ?_ ?_ | refine Le.prod ?_ | intro _ | exact Empty.elim (by assumption) | dsimp only)
theorem m_F_slices_Reverse___int_int__s1 (p0 : (Int × Int)) : Le (K_slices_Reverse___int_int__s1 p0) (F_slices_Reverse___int_int__s1 p0) := by
  unfold K_slices_Reverse___int_int__s1 F_slices_Reverse___int_int__s1
  with_reducible repeat' (first | exact m_slices_Reverse___int_int__s1_l1 | exact Le.rfl _ | refine Le.loop _ ?_ | refine Le.bind ?_ ?_ | refine Le.ite ?_ ?_ | refine Le.sum ?_ ?_ | refine Le.prod ?_ | intro _ | exact Empty.elim (by assumption) | dsimp only)
theorem m_loops_piece_cable_s1_l2 (p2 : api_Stitch) (p0 : loops_piece) (s110 : Int) : ∀ s, Le (K_loops_piece_cable_s1_l2 p2 p0 s110 s) (loops_piece_cable_s1_l2 p2 p0 s110 s) := by
  unfold K_loops_piece_cable_s1_l2 loops_piece_cable_s1_l2
  with_reducible repeat' (first | exact m_F_slices_Reverse___int_int__s1 _ | exact Le.rfl _ | refine Le.loop _ ?_ | refine Le.bind ?_ ?_ | refine Le.ite ?_ ?_ | refine Le.sum ?_ ?_ | refine Le.prod ?_ | intro _ | exact Empty.elim (by assumption) | dsimp only)
theorem m_loops_piece_cable_s1_l3 (p2 : api_Stitch) (p0 : loops_piece) : ∀ s, Le (K_loops_piece_cable_s1_l3 p2 p0 s) (loops_piece_cable_s1_l3 p2 p0 s) := by
  unfold K_loops_piece_cable_s1_l3 loops_piece_cable_s1_l3
  with_reducible repeat' (first | exact m_loops_piece_cable_s1_l2 _ _ _ | exact Le.rfl _ | refine Le.loop _ ?_ | refine Le.bind ?_ ?_ | refine Le.ite ?_ ?_ | refine Le.sum ?_ ?_ | refine Le.prod ?_ | intro _ | exact Empty.elim (by assumption) | dsimp only)
theorem m_F_loops_piece_cable_s1 (p0 : loops_piece) (p1 : api_Loop) (p2 : api_Stitch) (p3 : (List Int)) : Le (K_loops_piece_cable_s1 p0 p1 p2 p3) (F_loops_piece_cable_s1 p0 p1 p2 p3) := by
  unfold K_loops_piece_cable_s1 F_loops_piece_cable_s1
  with_reducible repeat' (first | exact m_F_slices_Concat___int_int_ _ | exact m_loops_piece_cable_s1_l1 _ _ | exact m_loops_piece_cable_s1_l3 _ _ | exact Le.rfl _ | refine Le.loop _ ?_ | refine Le.bind ?_ ?_ | refine Le.ite ?_ ?_ | refine Le.sum ?_ ?_ | refine Le.prod ?_ | intro _ | exact Empty.elim (by assumption) | dsimp only)
theorem m_F_loops_piece_work_s1 (p0 : loops_piece) (p1 : Int) (p2 : Int) (p3 : api_Stitch) : Le (K_loops_piece_work_s1 p0 p1 p2 p3) (F_loops_piece_work_s1 p0 p1 p2 p3) := by
  unfold K_loops_piece_work_s1 F_loops_piece_work_s1
  with_reducible repeat' (first | exact m_F_stitch_Uses _ | exact m_F_loops_piece_take_s3 _ _ | exact m_F_loops_piece_add_s1 _ _ _ | exact m_F_slices_Reverse___int_int__s0 _ | exact m_loops_piece_work_s1_l1 _ _ _ _ | exact m_F_loops_piece_cable_s1 _ _ _ _ | exact Le.rfl _ | refine Le.loop _ ?_ | refine Le.bind ?_ ?_ | refine Le.ite ?_ ?_ | refine Le.sum ?_ ?_ | refine Le.prod ?_ | intro _ | exact Empty.elim (by assumption) | dsimp only)
theorem m_loops_of_l2 (r111 : ((List api_Stitch) × Int)) (s61 : Int) : ∀ s, Le (K_loops_of_l2 r111 s61 s) (loops_of_l2 r111 s61 s) := by
  unfold K_loops_of_l2 loops_of_l2
  with_reducible repeat' (first | exact m_F_loops_piece_work_s1 _ _ _ _ | exact Le.rfl _ | refine Le.loop _ ?_ | refine Le.bind ?_ ?_ | refine Le.ite ?_ ?_ | refine Le.sum ?_ ?_ | refine Le.prod ?_ | intro _ | exact Empty.elim (by assumption) | dsimp only)
theorem m_loops_of_l3 (p0 : api_Chart) : ∀ s, Le (K_loops_of_l3 p0 s) (loops_of_l3 p0 s) := by
  unfold K_loops_of_l3 loops_of_l3
  with_reducible repeat' (first | exact m_F_chart_Face _ _ | exact m_loops_of_l2 _ _ | exact Le.rfl _ | refine Le.loop _ ?_ | refine Le.bind ?_ ?_ | refine Le.ite ?_ ?_ | refine Le.sum ?_ ?_ | refine Le.prod ?_ | intro _ | exact Empty.elim (by assumption) | dsimp only)
theorem m_F_loops_of (p0 : api_Chart) : Le (K_loops_of p0) (F_loops_of p0) := by
  unfold K_loops_of F_loops_of
  with_reducible repeat' (first | exact m_F_chart_Check _ | exact m_loops_of_l1 _ | exact m_loops_of_l3 _ | exact Le.rfl _ | refine Le.loop _ ?_ | refine Le.bind ?_ ?_ | refine Le.ite ?_ ?_ | refine Le.sum ?_ ?_ | refine Le.prod ?_ | intro _ | exact Empty.elim (by assumption) | dsimp only)
theorem m_F_loops_Of (p0 : api_Chart) : Le (K_loops_Of p0) (F_loops_Of p0) := by
  unfold K_loops_Of F_loops_Of
  with_reducible repeat' (first | exact m_F_loops_of _ | exact Le.rfl _ | refine Le.loop _ ?_ | refine Le.bind ?_ ?_ | refine Le.ite ?_ ?_ | refine Le.sum ?_ ?_ | refine Le.prod ?_ | intro _ | exact Empty.elim (by assumption) | dsimp only)
theorem m_F_loops_Crossings (p0 : api_Chart) : Le (K_loops_Crossings p0) (F_loops_Crossings p0) := by
  unfold K_loops_Crossings F_loops_Crossings
  with_reducible repeat' (first | exact m_F_loops_of _ | exact Le.rfl _ | refine Le.loop _ ?_ | refine Le.bind ?_ ?_ | refine Le.ite ?_ ?_ | refine Le.sum ?_ ?_ | refine Le.prod ?_ | intro _ | exact Empty.elim (by assumption) | dsimp only)
theorem m_F_loops_Bound (p0 : api_Chart) : Le (K_loops_Bound p0) (F_loops_Bound p0) := by
  unfold K_loops_Bound F_loops_Bound
  with_reducible repeat' (first | exact m_F_loops_of _ | exact Le.rfl _ | refine Le.loop _ ?_ | refine Le.bind ?_ ?_ | refine Le.ite ?_ ?_ | refine Le.sum ?_ ?_ | refine Le.prod ?_ | intro _ | exact Empty.elim (by assumption) | dsimp only)
theorem m_raddleref26_SameInts_l1 (p0 : (List Int)) (p1 : (List Int)) : ∀ s, Le (K_raddleref26_SameInts_l1 p0 p1 s) (raddleref26_SameInts_l1 p0 p1 s) := by
  unfold K_raddleref26_SameInts_l1 raddleref26_SameInts_l1
  with_reducible repeat' (first | exact Le.rfl _ | refine Le.loop _ ?_ | refine Le.bind ?_ ?_ | refine Le.ite ?_ ?_ | refine Le.sum ?_ ?_ | refine Le.prod ?_ | intro _ | exact Empty.elim (by assumption) | dsimp only)
theorem m_F_raddleref26_SameInts (p0 : (List Int)) (p1 : (List Int)) : Le (K_raddleref26_SameInts p0 p1) (F_raddleref26_SameInts p0 p1) := by
  unfold K_raddleref26_SameInts F_raddleref26_SameInts
  with_reducible repeat' (first | exact m_raddleref26_SameInts_l1 _ _ | exact Le.rfl _ | refine Le.loop _ ?_ | refine Le.bind ?_ ?_ | refine Le.ite ?_ ?_ | refine Le.sum ?_ ?_ | refine Le.prod ?_ | intro _ | exact Empty.elim (by assumption) | dsimp only)
theorem m_raddleref27_SamePairs_l1 (p0 : (List (Int × Int))) (p1 : (List (Int × Int))) : ∀ s, Le (K_raddleref27_SamePairs_l1 p0 p1 s) (raddleref27_SamePairs_l1 p0 p1 s) := by
  unfold K_raddleref27_SamePairs_l1 raddleref27_SamePairs_l1
  with_reducible repeat' (first | exact Le.rfl _ | refine Le.loop _ ?_ | refine Le.bind ?_ ?_ | refine Le.ite ?_ ?_ | refine Le.sum ?_ ?_ | refine Le.prod ?_ | intro _ | exact Empty.elim (by assumption) | dsimp only)
theorem m_F_raddleref27_SamePairs (p0 : (List (Int × Int))) (p1 : (List (Int × Int))) : Le (K_raddleref27_SamePairs p0 p1) (F_raddleref27_SamePairs p0 p1) := by
  unfold K_raddleref27_SamePairs F_raddleref27_SamePairs
  with_reducible repeat' (first | exact m_raddleref27_SamePairs_l1 _ _ | exact Le.rfl _ | refine Le.loop _ ?_ | refine Le.bind ?_ ?_ | refine Le.ite ?_ ?_ | refine Le.sum ?_ ?_ | refine Le.prod ?_ | intro _ | exact Empty.elim (by assumption) | dsimp only)
set_option maxRecDepth 1000000 in
theorem kc_raddlelaw27_alive_0 : F_raddlelaw27_one 3 [(api_Stitch.mk 6 false 1 2)] = some (api_Chart.mk 3 [(api_Row.mk false [(api_Stitch.mk 6 false 1 2)])]) := m_F_raddlelaw27_one _ _ _ (by kernel_rfl)
set_option maxRecDepth 1000000 in
theorem kc_raddlelaw27_alive_1 : F_loops_Of ((api_Chart.mk 3 [(api_Row.mk false [(api_Stitch.mk 6 false 1 2)])])) = some ([(api_Loop.mk 0 0 [] false), (api_Loop.mk 0 1 [] false), (api_Loop.mk 0 2 [] false), (api_Loop.mk 1 0 [1] false), (api_Loop.mk 1 0 [2] false), (api_Loop.mk 1 0 [0] false)], 0) := m_F_loops_Of _ _ (by kernel_rfl)
set_option maxRecDepth 1000000 in
theorem kc_raddlelaw27_alive_2 : F_loops_Crossings ((api_Chart.mk 3 [(api_Row.mk false [(api_Stitch.mk 6 false 1 2)])])) = some ([(5, 3), (5, 4)], 0) := m_F_loops_Crossings _ _ (by kernel_rfl)
set_option maxRecDepth 1000000 in
theorem kc_raddlelaw27_alive_3 : F_raddlelaw27_one 3 [(api_Stitch.mk 3 false 2 0), (api_Stitch.mk 2 false 0 0), (api_Stitch.mk 10 false 1 0)] = some (api_Chart.mk 3 [(api_Row.mk false [(api_Stitch.mk 3 false 2 0), (api_Stitch.mk 2 false 0 0), (api_Stitch.mk 10 false 1 0)])]) := m_F_raddlelaw27_one _ _ _ (by kernel_rfl)
set_option maxRecDepth 1000000 in
theorem kc_raddlelaw27_alive_4 : F_loops_Of ((api_Chart.mk 3 [(api_Row.mk false [(api_Stitch.mk 3 false 2 0), (api_Stitch.mk 2 false 0 0), (api_Stitch.mk 10 false 1 0)])])) = some ([(api_Loop.mk 0 0 [] false), (api_Loop.mk 0 1 [] false), (api_Loop.mk 0 2 [] false), (api_Loop.mk 1 0 [0, 1] false), (api_Loop.mk 1 1 [] false)], 0) := m_F_loops_Of _ _ (by kernel_rfl)
set_option maxRecDepth 1000000 in
theorem kc_raddlelaw27_alive_5 : F_loops_Bound ((api_Chart.mk 3 [(api_Row.mk false [(api_Stitch.mk 3 false 2 0), (api_Stitch.mk 2 false 0 0), (api_Stitch.mk 10 false 1 0)])])) = some ([2], 0) := m_F_loops_Bound _ _ (by kernel_rfl)
set_option maxRecDepth 1000000 in
theorem kc_raddlelaw27_alive_6 : F_raddleref26_SameInts ((api_Loop.mk 1 0 [1] false)).Parents ([1] : List Int) = some true := m_F_raddleref26_SameInts _ _ _ (by kernel_rfl)
set_option maxRecDepth 1000000 in
theorem kc_raddlelaw27_alive_7 : F_raddleref26_SameInts ((api_Loop.mk 1 0 [2] false)).Parents ([2] : List Int) = some true := m_F_raddleref26_SameInts _ _ _ (by kernel_rfl)
set_option maxRecDepth 1000000 in
theorem kc_raddlelaw27_alive_8 : F_raddleref26_SameInts ((api_Loop.mk 1 0 [0] false)).Parents ([0] : List Int) = some true := m_F_raddleref26_SameInts _ _ _ (by kernel_rfl)
set_option maxRecDepth 1000000 in
theorem kc_raddlelaw27_alive_9 : F_raddleref27_SamePairs (([(5, 3), (5, 4)], 0)).1 [(5, 3), (5, 4)] = some true := m_F_raddleref27_SamePairs _ _ _ (by kernel_rfl)
set_option maxRecDepth 1000000 in
theorem kc_raddlelaw27_alive_10 : F_raddleref26_SameInts ((api_Loop.mk 1 0 [0, 1] false)).Parents ([0, 1] : List Int) = some true := m_F_raddleref26_SameInts _ _ _ (by kernel_rfl)
set_option maxRecDepth 1000000 in
theorem kc_raddlelaw27_alive_11 : F_raddleref26_SameInts (([2], 0)).1 ([2] : List Int) = some true := m_F_raddleref26_SameInts _ _ _ (by kernel_rfl)
end Go.Proofs.Yticjoiolfibmlaa
namespace Go.Proofs.Yticjoiolfibmlaa
open Go.RowKit
set_option linter.unusedVariables false

noncomputable def F_raddlelaw27_alive  : Option Bool :=
  Option.bind (F_raddlelaw27_one 3 [(api_Stitch.mk 6 false 1 2)]) fun r5 =>
  Option.bind (F_loops_Of r5) fun r14 =>
  Option.bind (F_loops_Crossings r5) fun r20 =>
  Option.bind (F_raddlelaw27_one 3 [(api_Stitch.mk 3 false 2 0), (api_Stitch.mk 2 false 0 0), (api_Stitch.mk 10 false 1 0)]) fun r28 =>
  Option.bind (F_loops_Of r28) fun r37 =>
  Option.bind (F_loops_Bound r28) fun r43 =>
  if r14.2 != 0 then
    none
  else
    if r20.2 != 0 then
      none
    else
      if r37.2 != 0 then
        none
      else
        if r43.2 != 0 then
          none
        else
          if (r14.1.length : Int) != 6 then
            none
          else
            if (r37.1.length : Int) != 5 then
              some false
            else
              Option.bind (idxO r14.1 3) fun x58 =>
              Option.bind (F_raddleref26_SameInts x58.Parents ([1] : List Int)) fun r69 =>
              if r69 then
                Option.bind (idxO r14.1 4) fun x72 =>
                Option.bind (F_raddleref26_SameInts x72.Parents ([2] : List Int)) fun r83 =>
                if r83 then
                  Option.bind (idxO r14.1 5) fun x86 =>
                  Option.bind (F_raddleref26_SameInts x86.Parents ([0] : List Int)) fun r97 =>
                  if r97 then
                    Option.bind (F_raddleref27_SamePairs r20.1 [(5, 3), (5, 4)]) fun r102 =>
                    if r102 then
                      Option.bind (idxO r37.1 3) fun x106 =>
                      Option.bind (F_raddleref26_SameInts x106.Parents ([0, 1] : List Int)) fun r117 =>
                      if r117 then
                        Option.bind (idxO r37.1 4) fun x120 =>
                        if (x120.Parents.length : Int) == 0 then
                          Option.bind (F_raddleref26_SameInts r43.1 ([2] : List Int)) fun r132 =>
                          some r132
                        else
                          none
                      else
                        none
                    else
                      none
                  else
                    none
                else
                  none
              else
                none
set_option maxHeartbeats 4000000 in
set_option maxRecDepth 100000 in
theorem c_raddlelaw27_alive (E : Nat → Prop) (w0 : World)  (r : Bool) (h : F_raddlelaw27_alive  = some r) (S : St0 E [] w0 w0 [] []) :
    Calls Try.prog 20 #[] w0 (Ret (X := Unit) E [] w0 (fun _ => .bool r) (fun _ => []) (fun _ => [])) := by
  unfold F_raddlelaw27_alive at h
  refine sEnter (args := []) 115 Try.func20 rfl rfl (by simp) S (fun a S => ?_)
  refine sSeq (fun K1 hK1 => ?_)
  refine sRegion ?_
  refine sMove (.bool false) S (wN rfl) (.inr rfl) rfl rfl (lb rfl) fun a S => ?_
  refine leafL (leafT (hK1 _ _ ?_))
  refine sSeq (fun K2 hK2 => ?_)
  refine sRegion ?_
  refine sBuild [(0, .int .u8 6), (2, iv 1), (3, iv 2)] [.int .u8 6, .bool false, iv 1, iv 2] S (wN rfl) rfl rfl rfl rfl (lb rfl) fun a S => ?_
  have S := S.learn (fRep r_api_Stitch (.agg #[.int .u8 6, .bool false, iv 1, iv 2]) (api_Stitch.mk 6 false 1 2)) rfl
  refine sLit (r := r_api_Stitch) (T := 61) (xs := [(api_Stitch.mk 6 false 1 2)]) [(0, .agg #[.int .u8 6, .bool false, iv 1, iv 2])] 1 [.agg #[.int .u8 6, .bool false, iv 1, iv 2]] [.int .u8 6, .bool false, iv 1, iv 2] (.agg #[.int .u8 0, .bool false, iv 0, iv 0]) 24 S (wN rfl) rfl rfl Try.underlying62 rfl (by decide) (by decide) (by kernel_rfl) rfl (fun E1 w1 hE => All.cons (r_api_Stitch.mono hE (S.mem.know (i := 0) (e := fRep r_api_Stitch (.agg #[.int .u8 6, .bool false, iv 1, iv 2]) (api_Stitch.mk 6 false 1 2)) rfl)) (All.nil _ _ _)) rfl rfl (lb rfl) fun a w ad3 cp4 S => ?_
  obtain ⟨r5, hx6, h⟩ := bindSome h
  have hv_r5 : r5 = (api_Chart.mk 3 [(api_Row.mk false [(api_Stitch.mk 6 false 1 2)])]) := Option.some.inj (hx6.symm.trans (by exact kc_raddlelaw27_alive_0))
  have S := S.shutR (r := r_api_Stitch) (T := 61) (v := .slice ad3 [(api_Stitch.mk 6 false 1 2)].length cp4) (xs := [(api_Stitch.mk 6 false 1 2)]) 0 rfl
  refine sCall (X := Value) (f := 30) (vs := [iv 3, .slice ad3 [(api_Stitch.mk 6 false 1 2)].length cp4]) (val := c_raddlelaw27_one_val r5) (B' := fun _ => []) (D' := c_raddlelaw27_one_D r5) [] [] [fRep (rL r_api_Stitch) (.slice ad3 [(api_Stitch.mk 6 false 1 2)].length cp4) [(api_Stitch.mk 6 false 1 2)]] [] [0] S (wN rfl) rfl callee30 rfl (by decide) rfl rfl (fun E1 w1 S1 => c_raddlelaw27_one E1 w1 3 [(api_Stitch.mk 6 false 1 2)] (.slice ad3 [(api_Stitch.mk 6 false 1 2)].length cp4) r5 hx6 S1) rfl (lb rfl) fun u7 a w S => ?_
  obtain ⟨u8, rfl, hu9⟩ := S.mem.know (i := 0) (e := fRep r_api_Chart (u7) r5) rfl
  have S := S.learn (fRep (rL r_api_Row) u8 r5.Rows) hu9
  obtain ⟨ad10, cp11, _, rfl, _⟩ := hu9
  refine sAlloc (.agg #[iv 0, .slice none 0 0]) S (wN rfl) rfl rfl [iv 0, .slice none 0 0] rfl rfl (lb rfl) fun a b12 w S => ?_
  refine sStore (p := b12) (off := 0) (T := 24) (vs := [iv 0, .slice none 0 0]) (v := .agg #[iv r5.Start, .slice ad10 r5.Rows.length cp11]) 0 [iv r5.Start, .slice ad10 r5.Rows.length cp11] S (wN rfl) rfl rfl rfl rfl rfl rfl rfl (by simp) rfl fun a w S => ?_
  refine leafL (leafT (hK2 _ _ ?_))
  refine sSeq (fun K13 hK13 => ?_)
  refine sRegion ?_
  refine sLoadN (p := b12) (off := 0) (T := 24) (vs := [iv r5.Start, .slice ad10 r5.Rows.length cp11]) 0 [iv r5.Start, .slice ad10 r5.Rows.length cp11] S (wN rfl) rfl rfl rfl rfl rfl rfl rfl (lb rfl) fun a S => ?_
  obtain ⟨r14, hx15, h⟩ := bindSome h
  have hv_r14 : r14 = ([(api_Loop.mk 0 0 [] false), (api_Loop.mk 0 1 [] false), (api_Loop.mk 0 2 [] false), (api_Loop.mk 1 0 [1] false), (api_Loop.mk 1 0 [2] false), (api_Loop.mk 1 0 [0] false)], 0) := Option.some.inj (hx15.symm.trans (by rw [hv_r5]; exact kc_raddlelaw27_alive_1))
  refine sCall (X := Value) (f := 11) (vs := [.agg #[iv r5.Start, .slice ad10 r5.Rows.length cp11]]) (val := c_loops_Of_val r14) (B' := fun _ => []) (D' := c_loops_Of_D r14) [] [eBox b12 24 [iv r5.Start, .slice ad10 r5.Rows.length cp11]] [fRep r_api_Chart (.agg #[iv r5.Start, .slice ad10 r5.Rows.length cp11]) r5] [0] [1] S (wN rfl) rfl callee11 rfl (by decide) rfl rfl (fun E1 w1 S1 => c_loops_Of E1 w1 r5 (.agg #[iv r5.Start, .slice ad10 r5.Rows.length cp11]) r14 hx15 S1) rfl (lb rfl) fun u16 a w S => ?_
  obtain ⟨ad17, cp18, _, rfl, _⟩ := S.mem.know (i := 0) (e := fRep (rL r_api_Loop) (u16) r14.1) rfl
  refine sMove (.tuple #[.slice ad17 r14.1.length cp18, iv r14.2]) S (wN rfl) (.inl rfl) rfl rfl (lb rfl) fun a S => ?_
  refine sExtract (vs := [.slice ad17 r14.1.length cp18, iv r14.2]) (.slice ad17 r14.1.length cp18) S (wN rfl) rfl rfl rfl rfl (lb rfl) fun a S => ?_
  refine sExtract (vs := [.slice ad17 r14.1.length cp18, iv r14.2]) (iv r14.2) S (wN rfl) rfl rfl rfl rfl (lb rfl) fun a S => ?_
  refine sMove (.slice ad17 r14.1.length cp18) S (wN rfl) (.inr rfl) rfl rfl (lb rfl) fun a S => ?_
  refine sMove (iv r14.2) S (wN rfl) (.inr rfl) rfl rfl (lb rfl) fun a S => ?_
  refine leafL (leafT (hK13 _ _ ?_))
  refine sSeq (fun K19 hK19 => ?_)
  refine sRegion ?_
  refine sLoadN (p := b12) (off := 0) (T := 24) (vs := [iv r5.Start, .slice ad10 r5.Rows.length cp11]) 0 [iv r5.Start, .slice ad10 r5.Rows.length cp11] S (wN rfl) rfl rfl rfl rfl rfl rfl rfl (lb rfl) fun a S => ?_
  obtain ⟨r20, hx21, h⟩ := bindSome h
  have hv_r20 : r20 = ([(5, 3), (5, 4)], 0) := Option.some.inj (hx21.symm.trans (by rw [hv_r5]; exact kc_raddlelaw27_alive_2))
  refine sCall (X := Value) (f := 15) (vs := [.agg #[iv r5.Start, .slice ad10 r5.Rows.length cp11]]) (val := c_loops_Crossings_val r20) (B' := fun _ => []) (D' := c_loops_Crossings_D r20) [] [eBox b12 24 [iv r5.Start, .slice ad10 r5.Rows.length cp11]] [fRep r_api_Chart (.agg #[iv r5.Start, .slice ad10 r5.Rows.length cp11]) r5] [0] [2] S (wN rfl) rfl callee15 rfl (by decide) rfl rfl (fun E1 w1 S1 => c_loops_Crossings E1 w1 r5 (.agg #[iv r5.Start, .slice ad10 r5.Rows.length cp11]) r20 hx21 S1) rfl (lb rfl) fun u22 a w S => ?_
  obtain ⟨ad23, cp24, _, rfl, _⟩ := S.mem.know (i := 0) (e := fRep (rL r_A2_Int) (u22) r20.1) rfl
  refine sMove (.tuple #[.slice ad23 r20.1.length cp24, iv r20.2]) S (wN rfl) (.inl rfl) rfl rfl (lb rfl) fun a S => ?_
  refine sExtract (vs := [.slice ad23 r20.1.length cp24, iv r20.2]) (.slice ad23 r20.1.length cp24) S (wN rfl) rfl rfl rfl rfl (lb rfl) fun a S => ?_
  refine sExtract (vs := [.slice ad23 r20.1.length cp24, iv r20.2]) (iv r20.2) S (wN rfl) rfl rfl rfl rfl (lb rfl) fun a S => ?_
  refine sMove (.slice ad23 r20.1.length cp24) S (wN rfl) (.inr rfl) rfl rfl (lb rfl) fun a S => ?_
  refine sMove (iv r20.2) S (wN rfl) (.inr rfl) rfl rfl (lb rfl) fun a S => ?_
  refine leafL (leafT (hK19 _ _ ?_))
  refine sSeq (fun K25 hK25 => ?_)
  refine sRegion ?_
  refine sBuild [(0, .int .u8 3), (2, iv 2)] [.int .u8 3, .bool false, iv 2, iv 0] S (wN rfl) rfl rfl rfl rfl (lb rfl) fun a S => ?_
  refine sBuild [(0, .int .u8 2)] [.int .u8 2, .bool false, iv 0, iv 0] S (wN rfl) rfl rfl rfl rfl (lb rfl) fun a S => ?_
  refine sBuild [(0, .int .u8 10), (2, iv 1)] [.int .u8 10, .bool false, iv 1, iv 0] S (wN rfl) rfl rfl rfl rfl (lb rfl) fun a S => ?_
  have S := S.learn (fRep r_api_Stitch (.agg #[.int .u8 3, .bool false, iv 2, iv 0]) (api_Stitch.mk 3 false 2 0)) rfl
  have S := S.learn (fRep r_api_Stitch (.agg #[.int .u8 2, .bool false, iv 0, iv 0]) (api_Stitch.mk 2 false 0 0)) rfl
  have S := S.learn (fRep r_api_Stitch (.agg #[.int .u8 10, .bool false, iv 1, iv 0]) (api_Stitch.mk 10 false 1 0)) rfl
  refine sLit (r := r_api_Stitch) (T := 61) (xs := [(api_Stitch.mk 3 false 2 0), (api_Stitch.mk 2 false 0 0), (api_Stitch.mk 10 false 1 0)]) [(0, .agg #[.int .u8 3, .bool false, iv 2, iv 0]), (1, .agg #[.int .u8 2, .bool false, iv 0, iv 0]), (2, .agg #[.int .u8 10, .bool false, iv 1, iv 0])] 3 [.agg #[.int .u8 3, .bool false, iv 2, iv 0], .agg #[.int .u8 2, .bool false, iv 0, iv 0], .agg #[.int .u8 10, .bool false, iv 1, iv 0]] [.int .u8 3, .bool false, iv 2, iv 0, .int .u8 2, .bool false, iv 0, iv 0, .int .u8 10, .bool false, iv 1, iv 0] (.agg #[.int .u8 0, .bool false, iv 0, iv 0]) 24 S (wN rfl) rfl rfl Try.underlying62 rfl (by decide) (by decide) (by kernel_rfl) rfl (fun E1 w1 hE => All.cons (r_api_Stitch.mono hE (S.mem.know (i := 2) (e := fRep r_api_Stitch (.agg #[.int .u8 3, .bool false, iv 2, iv 0]) (api_Stitch.mk 3 false 2 0)) rfl)) (All.cons (r_api_Stitch.mono hE (S.mem.know (i := 1) (e := fRep r_api_Stitch (.agg #[.int .u8 2, .bool false, iv 0, iv 0]) (api_Stitch.mk 2 false 0 0)) rfl)) (All.cons (r_api_Stitch.mono hE (S.mem.know (i := 0) (e := fRep r_api_Stitch (.agg #[.int .u8 10, .bool false, iv 1, iv 0]) (api_Stitch.mk 10 false 1 0)) rfl)) (All.nil _ _ _)))) rfl rfl (lb rfl) fun a w ad26 cp27 S => ?_
  obtain ⟨r28, hx29, h⟩ := bindSome h
  have hv_r28 : r28 = (api_Chart.mk 3 [(api_Row.mk false [(api_Stitch.mk 3 false 2 0), (api_Stitch.mk 2 false 0 0), (api_Stitch.mk 10 false 1 0)])]) := Option.some.inj (hx29.symm.trans (by exact kc_raddlelaw27_alive_3))
  have S := S.shutR (r := r_api_Stitch) (T := 61) (v := .slice ad26 [(api_Stitch.mk 3 false 2 0), (api_Stitch.mk 2 false 0 0), (api_Stitch.mk 10 false 1 0)].length cp27) (xs := [(api_Stitch.mk 3 false 2 0), (api_Stitch.mk 2 false 0 0), (api_Stitch.mk 10 false 1 0)]) 0 rfl
  refine sCall (X := Value) (f := 30) (vs := [iv 3, .slice ad26 [(api_Stitch.mk 3 false 2 0), (api_Stitch.mk 2 false 0 0), (api_Stitch.mk 10 false 1 0)].length cp27]) (val := c_raddlelaw27_one_val r28) (B' := fun _ => []) (D' := c_raddlelaw27_one_D r28) [] [eBox b12 24 [iv r5.Start, .slice ad10 r5.Rows.length cp11]] [fRep (rL r_api_Stitch) (.slice ad26 [(api_Stitch.mk 3 false 2 0), (api_Stitch.mk 2 false 0 0), (api_Stitch.mk 10 false 1 0)].length cp27) [(api_Stitch.mk 3 false 2 0), (api_Stitch.mk 2 false 0 0), (api_Stitch.mk 10 false 1 0)]] [0] [0] S (wN rfl) rfl callee30 rfl (by decide) rfl rfl (fun E1 w1 S1 => c_raddlelaw27_one E1 w1 3 [(api_Stitch.mk 3 false 2 0), (api_Stitch.mk 2 false 0 0), (api_Stitch.mk 10 false 1 0)] (.slice ad26 [(api_Stitch.mk 3 false 2 0), (api_Stitch.mk 2 false 0 0), (api_Stitch.mk 10 false 1 0)].length cp27) r28 hx29 S1) rfl (lb rfl) fun u30 a w S => ?_
  obtain ⟨u31, rfl, hu32⟩ := S.mem.know (i := 0) (e := fRep r_api_Chart (u30) r28) rfl
  have S := S.learn (fRep (rL r_api_Row) u31 r28.Rows) hu32
  obtain ⟨ad33, cp34, _, rfl, _⟩ := hu32
  refine sAlloc (.agg #[iv 0, .slice none 0 0]) S (wN rfl) rfl rfl [iv 0, .slice none 0 0] rfl rfl (lb rfl) fun a b35 w S => ?_
  refine sStore (p := b35) (off := 0) (T := 24) (vs := [iv 0, .slice none 0 0]) (v := .agg #[iv r28.Start, .slice ad33 r28.Rows.length cp34]) 0 [iv r28.Start, .slice ad33 r28.Rows.length cp34] S (wN rfl) rfl rfl rfl rfl rfl rfl rfl (by simp) rfl fun a w S => ?_
  refine leafL (leafT (hK25 _ _ ?_))
  refine sSeq (fun K36 hK36 => ?_)
  refine sRegion ?_
  refine sLoadN (p := b35) (off := 0) (T := 24) (vs := [iv r28.Start, .slice ad33 r28.Rows.length cp34]) 0 [iv r28.Start, .slice ad33 r28.Rows.length cp34] S (wN rfl) rfl rfl rfl rfl rfl rfl rfl (lb rfl) fun a S => ?_
  obtain ⟨r37, hx38, h⟩ := bindSome h
  have hv_r37 : r37 = ([(api_Loop.mk 0 0 [] false), (api_Loop.mk 0 1 [] false), (api_Loop.mk 0 2 [] false), (api_Loop.mk 1 0 [0, 1] false), (api_Loop.mk 1 1 [] false)], 0) := Option.some.inj (hx38.symm.trans (by rw [hv_r28]; exact kc_raddlelaw27_alive_4))
  refine sCall (X := Value) (f := 11) (vs := [.agg #[iv r28.Start, .slice ad33 r28.Rows.length cp34]]) (val := c_loops_Of_val r37) (B' := fun _ => []) (D' := c_loops_Of_D r37) [] [eBox b35 24 [iv r28.Start, .slice ad33 r28.Rows.length cp34], eBox b12 24 [iv r5.Start, .slice ad10 r5.Rows.length cp11]] [fRep r_api_Chart (.agg #[iv r28.Start, .slice ad33 r28.Rows.length cp34]) r28] [0, 1] [1] S (wN rfl) rfl callee11 rfl (by decide) rfl rfl (fun E1 w1 S1 => c_loops_Of E1 w1 r28 (.agg #[iv r28.Start, .slice ad33 r28.Rows.length cp34]) r37 hx38 S1) rfl (lb rfl) fun u39 a w S => ?_
  obtain ⟨ad40, cp41, _, rfl, _⟩ := S.mem.know (i := 0) (e := fRep (rL r_api_Loop) (u39) r37.1) rfl
  refine sMove (.tuple #[.slice ad40 r37.1.length cp41, iv r37.2]) S (wN rfl) (.inl rfl) rfl rfl (lb rfl) fun a S => ?_
  refine sExtract (vs := [.slice ad40 r37.1.length cp41, iv r37.2]) (.slice ad40 r37.1.length cp41) S (wN rfl) rfl rfl rfl rfl (lb rfl) fun a S => ?_
  refine sExtract (vs := [.slice ad40 r37.1.length cp41, iv r37.2]) (iv r37.2) S (wN rfl) rfl rfl rfl rfl (lb rfl) fun a S => ?_
  refine sMove (.slice ad40 r37.1.length cp41) S (wN rfl) (.inr rfl) rfl rfl (lb rfl) fun a S => ?_
  refine sMove (iv r37.2) S (wN rfl) (.inr rfl) rfl rfl (lb rfl) fun a S => ?_
  refine leafL (leafT (hK36 _ _ ?_))
  refine sSeq (fun K42 hK42 => ?_)
  refine sRegion ?_
  refine sLoadN (p := b35) (off := 0) (T := 24) (vs := [iv r28.Start, .slice ad33 r28.Rows.length cp34]) 0 [iv r28.Start, .slice ad33 r28.Rows.length cp34] S (wN rfl) rfl rfl rfl rfl rfl rfl rfl (lb rfl) fun a S => ?_
  obtain ⟨r43, hx44, h⟩ := bindSome h
  have hv_r43 : r43 = ([2], 0) := Option.some.inj (hx44.symm.trans (by rw [hv_r28]; exact kc_raddlelaw27_alive_5))
  refine sCall (X := Value) (f := 13) (vs := [.agg #[iv r28.Start, .slice ad33 r28.Rows.length cp34]]) (val := c_loops_Bound_val r43) (B' := fun _ => []) (D' := c_loops_Bound_D r43) [] [eBox b35 24 [iv r28.Start, .slice ad33 r28.Rows.length cp34], eBox b12 24 [iv r5.Start, .slice ad10 r5.Rows.length cp11]] [fRep r_api_Chart (.agg #[iv r28.Start, .slice ad33 r28.Rows.length cp34]) r28] [0, 1] [2] S (wN rfl) rfl callee13 rfl (by decide) rfl rfl (fun E1 w1 S1 => c_loops_Bound E1 w1 r28 (.agg #[iv r28.Start, .slice ad33 r28.Rows.length cp34]) r43 hx44 S1) rfl (lb rfl) fun u45 a w S => ?_
  obtain ⟨ad46, cp47, _, rfl, _⟩ := S.mem.know (i := 0) (e := fRep (rL (rI .i64)) (u45) r43.1) rfl
  refine sMove (.tuple #[.slice ad46 r43.1.length cp47, iv r43.2]) S (wN rfl) (.inl rfl) rfl rfl (lb rfl) fun a S => ?_
  refine sExtract (vs := [.slice ad46 r43.1.length cp47, iv r43.2]) (.slice ad46 r43.1.length cp47) S (wN rfl) rfl rfl rfl rfl (lb rfl) fun a S => ?_
  refine sExtract (vs := [.slice ad46 r43.1.length cp47, iv r43.2]) (iv r43.2) S (wN rfl) rfl rfl rfl rfl (lb rfl) fun a S => ?_
  refine sMove (.slice ad46 r43.1.length cp47) S (wN rfl) (.inr rfl) rfl rfl (lb rfl) fun a S => ?_
  refine sMove (iv r43.2) S (wN rfl) (.inr rfl) rfl rfl (lb rfl) fun a S => ?_
  refine leafL (leafT (hK42 _ _ ?_))
  refine sSeq (fun K48 hK48 => ?_)
  refine sSeq (fun K49 hK49 => ?_)
  refine sRegion ?_
  refine sMove (iv r14.2) S (wN rfl) (.inl rfl) rfl rfl (lb rfl) fun a S => ?_
  refine sBin (.bool (r14.2 != 0)) S (wN rfl) rfl rfl rfl (bNe _ _ _ _ .i64 r14.2 0) rfl (lb rfl) fun a S => ?_
  refine sMove (.bool (r14.2 != 0)) S (wN rfl) (.inl rfl) rfl rfl (lb rfl) fun a S => ?_
  rcases iteSome h with ⟨hc50, h⟩ | ⟨hc50, h⟩
  · exact absurd hc50 (by rw [hv_r14]; decide)
  refine sMove (iv r20.2) S (wG 2 false 42 rfl rfl rfl hc50) (.inl rfl) rfl rfl (lb rfl) fun a S => ?_
  refine sBin (.bool (r20.2 != 0)) S (wG 2 false 42 rfl rfl rfl hc50) rfl rfl rfl (bNe _ _ _ _ .i64 r20.2 0) rfl (lb rfl) fun a S => ?_
  refine sPickF (.bool (r20.2 != 0)) S (wN rfl) rfl rfl hc50 rfl rfl (lb rfl) fun a S => ?_
  refine sMove (.bool (r20.2 != 0)) S (wN rfl) (.inl rfl) rfl rfl (lb rfl) fun a S => ?_
  rcases iteSome h with ⟨hc51, h⟩ | ⟨hc51, h⟩
  · exact absurd hc51 (by rw [hv_r20]; decide)
  refine sMove (iv r37.2) S (wG 6 false 46 rfl rfl rfl hc51) (.inl rfl) rfl rfl (lb rfl) fun a S => ?_
  refine sBin (.bool (r37.2 != 0)) S (wG 6 false 46 rfl rfl rfl hc51) rfl rfl rfl (bNe _ _ _ _ .i64 r37.2 0) rfl (lb rfl) fun a S => ?_
  refine sPickF (.bool (r37.2 != 0)) S (wN rfl) rfl rfl hc51 rfl rfl (lb rfl) fun a S => ?_
  refine sMove (.bool (r37.2 != 0)) S (wN rfl) (.inl rfl) rfl rfl (lb rfl) fun a S => ?_
  rcases iteSome h with ⟨hc52, h⟩ | ⟨hc52, h⟩
  · exact absurd hc52 (by rw [hv_r37]; decide)
  refine sMove (iv r43.2) S (wG 10 false 50 rfl rfl rfl hc52) (.inl rfl) rfl rfl (lb rfl) fun a S => ?_
  refine sBin (.bool (r43.2 != 0)) S (wG 10 false 50 rfl rfl rfl hc52) rfl rfl rfl (bNe _ _ _ _ .i64 r43.2 0) rfl (lb rfl) fun a S => ?_
  refine sPickF (.bool (r43.2 != 0)) S (wN rfl) rfl rfl hc52 rfl rfl (lb rfl) fun a S => ?_
  refine sMove (.bool (r43.2 != 0)) S (wN rfl) (.inl rfl) rfl rfl (lb rfl) fun a S => ?_
  rcases iteSome h with ⟨hc53, h⟩ | ⟨hc53, h⟩
  · exact absurd hc53 (by rw [hv_r43]; decide)
  refine sMove (.slice ad17 r14.1.length cp18) S (wG 14 false 54 rfl rfl rfl hc53) (.inl rfl) rfl rfl (lb rfl) fun a S => ?_
  refine sLen (ad := ad17) (m := r14.1.length) (c := cp18) S (wG 14 false 54 rfl rfl rfl hc53) rfl Try.underlying26 rfl rfl (lb rfl) fun a S => ?_
  refine sBin (.bool ((r14.1.length : Int) != 6)) S (wG 14 false 54 rfl rfl rfl hc53) rfl rfl rfl (bNe _ _ _ _ .i64 (r14.1.length : Int) 6) rfl (lb rfl) fun a S => ?_
  refine sPickF (.bool ((r14.1.length : Int) != 6)) S (wN rfl) rfl rfl hc53 rfl rfl (lb rfl) fun a S => ?_
  refine sMove (.bool ((r14.1.length : Int) != 6)) S (wN rfl) (.inl rfl) rfl rfl (lb rfl) fun a S => ?_
  rcases iteSome h with ⟨hc54, h⟩ | ⟨hc54, h⟩
  · exact absurd hc54 (by rw [hv_r14]; decide)
  refine sMove (.slice ad40 r37.1.length cp41) S (wG 19 false 59 rfl rfl rfl hc54) (.inl rfl) rfl rfl (lb rfl) fun a S => ?_
  refine sLen (ad := ad40) (m := r37.1.length) (c := cp41) S (wG 19 false 59 rfl rfl rfl hc54) rfl Try.underlying26 rfl rfl (lb rfl) fun a S => ?_
  refine sBin (.bool ((r37.1.length : Int) != 5)) S (wG 19 false 59 rfl rfl rfl hc54) rfl rfl rfl (bNe _ _ _ _ .i64 (r37.1.length : Int) 5) rfl (lb rfl) fun a S => ?_
  refine sPickF (.bool ((r37.1.length : Int) != 5)) S (wN rfl) rfl rfl hc54 rfl rfl (lb rfl) fun a S => ?_
  refine leafL (leafT (hK49 _ _ ?_))
  rcases iteSome h with ⟨hc55, h⟩ | ⟨hc55, h⟩
  · refine sCondT S rfl hc55 ?_
    refine sSeq (fun K56 hK56 => ?_)
    refine sRegion ?_
    refine sMove (.bool false) S (wN rfl) (.inr rfl) rfl rfl (lb rfl) fun a S => ?_
    refine leafL (leafT (hK56 _ _ ?_))
    obtain rfl := Option.some.inj h
    exact wp_ret (rThen (sRet (.bool false) S (rsl1 rfl (rvT (t := 0) (v := .bool false) S rfl)) ⟨(), rfl, S.mem.sel [] [] (by decide) rfl rfl⟩))
  refine sCondF S rfl hc55 ?_
  refine wp_skip (leafT (hK48 _ _ ?_))
  refine sSeq (fun K57 hK57 => ?_)
  refine sRegion ?_
  refine sMove (.slice ad17 r14.1.length cp18) S (wN rfl) (.inl rfl) rfl rfl (lb rfl) fun a S => ?_
  obtain ⟨x58, hx59, h⟩ := bindSome h
  have hv_x58 : x58 = (api_Loop.mk 1 0 [1] false) := Option.some.inj (hx59.symm.trans (by rw [hv_r14]; kernel_rfl))
  obtain ⟨q60, hq61, S⟩ := pIdx (P := Try.prog) (r := r_api_Loop) (v := .slice ad17 r14.1.length cp18) (xs := r14.1) (j := 3) 26 48 9 S Try.underlying26 rfl rfl hx59
  refine sIdxV (v := .slice ad17 r14.1.length cp18) (k := .i64) (j := 3) S (wN rfl) rfl rfl rfl hq61 rfl (lb rfl) fun a S => ?_
  obtain ⟨q62, hq63, S⟩ := pFld (P := Try.prog) (r := r_api_Loop) (s2 := (rL (rI .i64))) (g := (·.Parents)) (q := q60) (z := x58) 48 2 0 2 S rfl rfl comp_api_Loop_Parents
  refine sFldV (q := q60) S (wN rfl) rfl rfl hq63 rfl (lb rfl) fun a S => ?_
  obtain ⟨u64, S⟩ := pLoad (r := (rL (rI .i64))) (q := q62) (x := x58.Parents) 0 S rfl
  obtain ⟨ad65, cp66, _, rfl, _⟩ := S.mem.know (i := 1) (e := fRep (rL (rI .i64)) (u64) x58.Parents) rfl
  refine sLoadV1 (vq := q62) 0 (.slice ad65 x58.Parents.length cp66) S (wN rfl) rfl rfl rfl rfl rfl (lb rfl) fun a S => ?_
  refine sLit (r := (rI .i64)) (T := 3) (xs := ([1] : List Int)) [(0, iv 1)] 1 [iv 1] [iv 1] (iv 0) 8 S (wN rfl) rfl rfl Try.underlying32 rfl (by decide) (by decide) (by kernel_rfl) rfl (fun E1 w1 hE => All.cons rfl (All.nil _ _ _)) rfl rfl (lb rfl) fun a w ad67 cp68 S => ?_
  obtain ⟨r69, hx70, h⟩ := bindSome h
  have hv_r69 : r69 = true := Option.some.inj (hx70.symm.trans (by rw [hv_x58]; exact kc_raddlelaw27_alive_6))
  have S1 := S.mem
  have S1 := S1.shutR (r := (rI .i64)) (T := 3) (v := .slice ad67 ([1] : List Int).length cp68) (xs := ([1] : List Int)) 0 rfl
  refine sCallQ (X := Unit) (f := 18) (vs := [.slice ad65 x58.Parents.length cp66, .slice ad67 ([1] : List Int).length cp68]) (val := fun _ => .bool r69) S (wN rfl) rfl callee18 rfl (S1.quiet [2, 0] rfl) (fun E1 w1 S1 => c_raddleref26_SameInts E1 w1 x58.Parents (.slice ad65 x58.Parents.length cp66) ([1] : List Int) (.slice ad67 ([1] : List Int).length cp68) r69 hx70 S1) rfl (lb rfl) fun _ a w S => ?_
  refine sMove (.bool r69) S (wN rfl) (.inl rfl) rfl rfl (lb rfl) fun a S => ?_
  rcases iteSome h with ⟨hc71, h⟩ | ⟨hc71, h⟩
  rotate_left
  · exact absurd hc71 (by rw [hv_r69]; decide)
  refine sMove (.slice ad17 r14.1.length cp18) S (wG 6 true 70 rfl rfl rfl hc71) (.inl rfl) rfl rfl (lb rfl) fun a S => ?_
  obtain ⟨x72, hx73, h⟩ := bindSome h
  have hv_x72 : x72 = (api_Loop.mk 1 0 [2] false) := Option.some.inj (hx73.symm.trans (by rw [hv_r14]; kernel_rfl))
  obtain ⟨q74, hq75, S⟩ := pIdx (P := Try.prog) (r := r_api_Loop) (v := .slice ad17 r14.1.length cp18) (xs := r14.1) (j := 4) 26 48 13 S Try.underlying26 rfl rfl hx73
  refine sIdxV (v := .slice ad17 r14.1.length cp18) (k := .i64) (j := 4) S (wG 6 true 70 rfl rfl rfl hc71) rfl rfl rfl hq75 rfl (lb rfl) fun a S => ?_
  obtain ⟨q76, hq77, S⟩ := pFld (P := Try.prog) (r := r_api_Loop) (s2 := (rL (rI .i64))) (g := (·.Parents)) (q := q74) (z := x72) 48 2 0 2 S rfl rfl comp_api_Loop_Parents
  refine sFldV (q := q74) S (wG 6 true 70 rfl rfl rfl hc71) rfl rfl hq77 rfl (lb rfl) fun a S => ?_
  obtain ⟨u78, S⟩ := pLoad (r := (rL (rI .i64))) (q := q76) (x := x72.Parents) 0 S rfl
  obtain ⟨ad79, cp80, _, rfl, _⟩ := S.mem.know (i := 1) (e := fRep (rL (rI .i64)) (u78) x72.Parents) rfl
  refine sLoadV1 (vq := q76) 0 (.slice ad79 x72.Parents.length cp80) S (wG 6 true 70 rfl rfl rfl hc71) rfl rfl rfl rfl rfl (lb rfl) fun a S => ?_
  refine sLit (r := (rI .i64)) (T := 3) (xs := ([2] : List Int)) [(0, iv 2)] 1 [iv 2] [iv 2] (iv 0) 8 S (wG 6 true 70 rfl rfl rfl hc71) rfl rfl Try.underlying32 rfl (by decide) (by decide) (by kernel_rfl) rfl (fun E1 w1 hE => All.cons rfl (All.nil _ _ _)) rfl rfl (lb rfl) fun a w ad81 cp82 S => ?_
  obtain ⟨r83, hx84, h⟩ := bindSome h
  have hv_r83 : r83 = true := Option.some.inj (hx84.symm.trans (by rw [hv_x72]; exact kc_raddlelaw27_alive_7))
  have S1 := S.mem
  have S1 := S1.shutR (r := (rI .i64)) (T := 3) (v := .slice ad81 ([2] : List Int).length cp82) (xs := ([2] : List Int)) 0 rfl
  refine sCallQ (X := Unit) (f := 18) (vs := [.slice ad79 x72.Parents.length cp80, .slice ad81 ([2] : List Int).length cp82]) (val := fun _ => .bool r83) S (wG 6 true 70 rfl rfl rfl hc71) rfl callee18 rfl (S1.quiet [2, 0] rfl) (fun E1 w1 S1 => c_raddleref26_SameInts E1 w1 x72.Parents (.slice ad79 x72.Parents.length cp80) ([2] : List Int) (.slice ad81 ([2] : List Int).length cp82) r83 hx84 S1) rfl (lb rfl) fun _ a w S => ?_
  refine sPickT (.bool r83) S (wN rfl) rfl rfl hc71 rfl rfl (lb rfl) fun a S => ?_
  refine sMove (.bool r83) S (wN rfl) (.inl rfl) rfl rfl (lb rfl) fun a S => ?_
  rcases iteSome h with ⟨hc85, h⟩ | ⟨hc85, h⟩
  rotate_left
  · exact absurd hc85 (by rw [hv_r83]; decide)
  refine sMove (.slice ad17 r14.1.length cp18) S (wG 14 true 78 rfl rfl rfl hc85) (.inl rfl) rfl rfl (lb rfl) fun a S => ?_
  obtain ⟨x86, hx87, h⟩ := bindSome h
  have hv_x86 : x86 = (api_Loop.mk 1 0 [0] false) := Option.some.inj (hx87.symm.trans (by rw [hv_r14]; kernel_rfl))
  obtain ⟨q88, hq89, S⟩ := pIdx (P := Try.prog) (r := r_api_Loop) (v := .slice ad17 r14.1.length cp18) (xs := r14.1) (j := 5) 26 48 17 S Try.underlying26 rfl rfl hx87
  refine sIdxV (v := .slice ad17 r14.1.length cp18) (k := .i64) (j := 5) S (wG 14 true 78 rfl rfl rfl hc85) rfl rfl rfl hq89 rfl (lb rfl) fun a S => ?_
  obtain ⟨q90, hq91, S⟩ := pFld (P := Try.prog) (r := r_api_Loop) (s2 := (rL (rI .i64))) (g := (·.Parents)) (q := q88) (z := x86) 48 2 0 2 S rfl rfl comp_api_Loop_Parents
  refine sFldV (q := q88) S (wG 14 true 78 rfl rfl rfl hc85) rfl rfl hq91 rfl (lb rfl) fun a S => ?_
  obtain ⟨u92, S⟩ := pLoad (r := (rL (rI .i64))) (q := q90) (x := x86.Parents) 0 S rfl
  obtain ⟨ad93, cp94, _, rfl, _⟩ := S.mem.know (i := 1) (e := fRep (rL (rI .i64)) (u92) x86.Parents) rfl
  refine sLoadV1 (vq := q90) 0 (.slice ad93 x86.Parents.length cp94) S (wG 14 true 78 rfl rfl rfl hc85) rfl rfl rfl rfl rfl (lb rfl) fun a S => ?_
  refine sLit (r := (rI .i64)) (T := 3) (xs := ([0] : List Int)) [(0, iv 0)] 1 [iv 0] [iv 0] (iv 0) 8 S (wG 14 true 78 rfl rfl rfl hc85) rfl rfl Try.underlying32 rfl (by decide) (by decide) (by kernel_rfl) rfl (fun E1 w1 hE => All.cons rfl (All.nil _ _ _)) rfl rfl (lb rfl) fun a w ad95 cp96 S => ?_
  obtain ⟨r97, hx98, h⟩ := bindSome h
  have hv_r97 : r97 = true := Option.some.inj (hx98.symm.trans (by rw [hv_x86]; exact kc_raddlelaw27_alive_8))
  have S1 := S.mem
  have S1 := S1.shutR (r := (rI .i64)) (T := 3) (v := .slice ad95 ([0] : List Int).length cp96) (xs := ([0] : List Int)) 0 rfl
  refine sCallQ (X := Unit) (f := 18) (vs := [.slice ad93 x86.Parents.length cp94, .slice ad95 ([0] : List Int).length cp96]) (val := fun _ => .bool r97) S (wG 14 true 78 rfl rfl rfl hc85) rfl callee18 rfl (S1.quiet [2, 0] rfl) (fun E1 w1 S1 => c_raddleref26_SameInts E1 w1 x86.Parents (.slice ad93 x86.Parents.length cp94) ([0] : List Int) (.slice ad95 ([0] : List Int).length cp96) r97 hx98 S1) rfl (lb rfl) fun _ a w S => ?_
  refine sPickT (.bool r97) S (wN rfl) rfl rfl hc85 rfl rfl (lb rfl) fun a S => ?_
  refine sMove (.bool r97) S (wN rfl) (.inl rfl) rfl rfl (lb rfl) fun a S => ?_
  rcases iteSome h with ⟨hc99, h⟩ | ⟨hc99, h⟩
  rotate_left
  · exact absurd hc99 (by rw [hv_r97]; decide)
  refine sMove (.slice ad23 r20.1.length cp24) S (wG 22 true 86 rfl rfl rfl hc99) (.inl rfl) rfl rfl (lb rfl) fun a S => ?_
  refine sBuild [(0, iv 5), (1, iv 3)] [iv 5, iv 3] S (wG 22 true 86 rfl rfl rfl hc99) rfl rfl rfl rfl (lb rfl) fun a S => ?_
  refine sBuild [(0, iv 5), (1, iv 4)] [iv 5, iv 4] S (wG 22 true 86 rfl rfl rfl hc99) rfl rfl rfl rfl (lb rfl) fun a S => ?_
  have S := S.learn (fRep r_A2_Int (.agg #[iv 5, iv 3]) (5, 3)) rfl
  have S := S.learn (fRep r_A2_Int (.agg #[iv 5, iv 4]) (5, 4)) rfl
  refine sLit (r := r_A2_Int) (T := 49) (xs := [(5, 3), (5, 4)]) [(0, .agg #[iv 5, iv 3]), (1, .agg #[iv 5, iv 4])] 2 [.agg #[iv 5, iv 3], .agg #[iv 5, iv 4]] [iv 5, iv 3, iv 5, iv 4] (.agg #[iv 0, iv 0]) 16 S (wG 22 true 86 rfl rfl rfl hc99) rfl rfl Try.underlying37 rfl (by decide) (by decide) (by kernel_rfl) rfl (fun E1 w1 hE => All.cons (r_A2_Int.mono hE (S.mem.know (i := 1) (e := fRep r_A2_Int (.agg #[iv 5, iv 3]) (5, 3)) rfl)) (All.cons (r_A2_Int.mono hE (S.mem.know (i := 0) (e := fRep r_A2_Int (.agg #[iv 5, iv 4]) (5, 4)) rfl)) (All.nil _ _ _))) rfl rfl (lb rfl) fun a w ad100 cp101 S => ?_
  obtain ⟨r102, hx103, h⟩ := bindSome h
  have hv_r102 : r102 = true := Option.some.inj (hx103.symm.trans (by rw [hv_r20]; exact kc_raddlelaw27_alive_9))
  have S1 := S.mem
  have S1 := S1.shutR (r := r_A2_Int) (T := 49) (v := .slice ad100 [(5, 3), (5, 4)].length cp101) (xs := [(5, 3), (5, 4)]) 0 rfl
  refine sCallQ (X := Unit) (f := 19) (vs := [.slice ad23 r20.1.length cp24, .slice ad100 [(5, 3), (5, 4)].length cp101]) (val := fun _ => .bool r102) S (wG 22 true 86 rfl rfl rfl hc99) rfl callee19 rfl (S1.quiet [23, 0] rfl) (fun E1 w1 S1 => c_raddleref27_SamePairs E1 w1 r20.1 (.slice ad23 r20.1.length cp24) [(5, 3), (5, 4)] (.slice ad100 [(5, 3), (5, 4)].length cp101) r102 hx103 S1) rfl (lb rfl) fun _ a w S => ?_
  refine sPickT (.bool r102) S (wN rfl) rfl rfl hc99 rfl rfl (lb rfl) fun a S => ?_
  refine sMove (.bool r102) S (wN rfl) (.inr rfl) rfl rfl (lb rfl) fun a S => ?_
  refine leafL (leafT (hK57 _ _ ?_))
  refine sSeq (fun K104 hK104 => ?_)
  refine sRegion ?_
  refine sMove (.bool r102) S (wN rfl) (.inl rfl) rfl rfl (lb rfl) fun a S => ?_
  refine sMove (.bool r102) S (wN rfl) (.inl rfl) rfl rfl (lb rfl) fun a S => ?_
  rcases iteSome h with ⟨hc105, h⟩ | ⟨hc105, h⟩
  rotate_left
  · exact absurd hc105 (by rw [hv_r102]; decide)
  refine sMove (.slice ad40 r37.1.length cp41) S (wG 1 true 94 rfl rfl rfl hc105) (.inl rfl) rfl rfl (lb rfl) fun a S => ?_
  obtain ⟨x106, hx107, h⟩ := bindSome h
  have hv_x106 : x106 = (api_Loop.mk 1 0 [0, 1] false) := Option.some.inj (hx107.symm.trans (by rw [hv_r37]; kernel_rfl))
  obtain ⟨q108, hq109, S⟩ := pIdx (P := Try.prog) (r := r_api_Loop) (v := .slice ad40 r37.1.length cp41) (xs := r37.1) (j := 3) 26 48 15 S Try.underlying26 rfl rfl hx107
  refine sIdxV (v := .slice ad40 r37.1.length cp41) (k := .i64) (j := 3) S (wG 1 true 94 rfl rfl rfl hc105) rfl rfl rfl hq109 rfl (lb rfl) fun a S => ?_
  obtain ⟨q110, hq111, S⟩ := pFld (P := Try.prog) (r := r_api_Loop) (s2 := (rL (rI .i64))) (g := (·.Parents)) (q := q108) (z := x106) 48 2 0 2 S rfl rfl comp_api_Loop_Parents
  refine sFldV (q := q108) S (wG 1 true 94 rfl rfl rfl hc105) rfl rfl hq111 rfl (lb rfl) fun a S => ?_
  obtain ⟨u112, S⟩ := pLoad (r := (rL (rI .i64))) (q := q110) (x := x106.Parents) 0 S rfl
  obtain ⟨ad113, cp114, _, rfl, _⟩ := S.mem.know (i := 1) (e := fRep (rL (rI .i64)) (u112) x106.Parents) rfl
  refine sLoadV1 (vq := q110) 0 (.slice ad113 x106.Parents.length cp114) S (wG 1 true 94 rfl rfl rfl hc105) rfl rfl rfl rfl rfl (lb rfl) fun a S => ?_
  refine sLit (r := (rI .i64)) (T := 3) (xs := ([0, 1] : List Int)) [(0, iv 0), (1, iv 1)] 2 [iv 0, iv 1] [iv 0, iv 1] (iv 0) 8 S (wG 1 true 94 rfl rfl rfl hc105) rfl rfl Try.underlying32 rfl (by decide) (by decide) (by kernel_rfl) rfl (fun E1 w1 hE => All.cons rfl (All.cons rfl (All.nil _ _ _))) rfl rfl (lb rfl) fun a w ad115 cp116 S => ?_
  obtain ⟨r117, hx118, h⟩ := bindSome h
  have hv_r117 : r117 = true := Option.some.inj (hx118.symm.trans (by rw [hv_x106]; exact kc_raddlelaw27_alive_10))
  have S1 := S.mem
  have S1 := S1.shutR (r := (rI .i64)) (T := 3) (v := .slice ad115 ([0, 1] : List Int).length cp116) (xs := ([0, 1] : List Int)) 0 rfl
  refine sCallQ (X := Unit) (f := 18) (vs := [.slice ad113 x106.Parents.length cp114, .slice ad115 ([0, 1] : List Int).length cp116]) (val := fun _ => .bool r117) S (wG 1 true 94 rfl rfl rfl hc105) rfl callee18 rfl (S1.quiet [2, 0] rfl) (fun E1 w1 S1 => c_raddleref26_SameInts E1 w1 x106.Parents (.slice ad113 x106.Parents.length cp114) ([0, 1] : List Int) (.slice ad115 ([0, 1] : List Int).length cp116) r117 hx118 S1) rfl (lb rfl) fun _ a w S => ?_
  refine sPickT (.bool r117) S (wN rfl) rfl rfl hc105 rfl rfl (lb rfl) fun a S => ?_
  refine sMove (.bool r117) S (wN rfl) (.inl rfl) rfl rfl (lb rfl) fun a S => ?_
  rcases iteSome h with ⟨hc119, h⟩ | ⟨hc119, h⟩
  rotate_left
  · exact absurd hc119 (by rw [hv_r117]; decide)
  refine sMove (.slice ad40 r37.1.length cp41) S (wG 9 true 102 rfl rfl rfl hc119) (.inl rfl) rfl rfl (lb rfl) fun a S => ?_
  obtain ⟨x120, hx121, h⟩ := bindSome h
  have hv_x120 : x120 = (api_Loop.mk 1 1 [] false) := Option.some.inj (hx121.symm.trans (by rw [hv_r37]; kernel_rfl))
  obtain ⟨q122, hq123, S⟩ := pIdx (P := Try.prog) (r := r_api_Loop) (v := .slice ad40 r37.1.length cp41) (xs := r37.1) (j := 4) 26 48 19 S Try.underlying26 rfl rfl hx121
  refine sIdxV (v := .slice ad40 r37.1.length cp41) (k := .i64) (j := 4) S (wG 9 true 102 rfl rfl rfl hc119) rfl rfl rfl hq123 rfl (lb rfl) fun a S => ?_
  obtain ⟨q124, hq125, S⟩ := pFld (P := Try.prog) (r := r_api_Loop) (s2 := (rL (rI .i64))) (g := (·.Parents)) (q := q122) (z := x120) 48 2 0 2 S rfl rfl comp_api_Loop_Parents
  refine sFldV (q := q122) S (wG 9 true 102 rfl rfl rfl hc119) rfl rfl hq125 rfl (lb rfl) fun a S => ?_
  obtain ⟨u126, S⟩ := pLoad (r := (rL (rI .i64))) (q := q124) (x := x120.Parents) 0 S rfl
  obtain ⟨ad127, cp128, _, rfl, _⟩ := S.mem.know (i := 1) (e := fRep (rL (rI .i64)) (u126) x120.Parents) rfl
  refine sLoadV1 (vq := q124) 0 (.slice ad127 x120.Parents.length cp128) S (wG 9 true 102 rfl rfl rfl hc119) rfl rfl rfl rfl rfl (lb rfl) fun a S => ?_
  refine sLen (ad := ad127) (m := x120.Parents.length) (c := cp128) S (wG 9 true 102 rfl rfl rfl hc119) rfl Try.underlying32 rfl rfl (lb rfl) fun a S => ?_
  refine sBin (.bool ((x120.Parents.length : Int) == 0)) S (wG 9 true 102 rfl rfl rfl hc119) rfl rfl rfl (bEq _ _ _ _ .i64 (x120.Parents.length : Int) 0) rfl (lb rfl) fun a S => ?_
  refine sPickT (.bool ((x120.Parents.length : Int) == 0)) S (wN rfl) rfl rfl hc119 rfl rfl (lb rfl) fun a S => ?_
  refine sMove (.bool ((x120.Parents.length : Int) == 0)) S (wN rfl) (.inl rfl) rfl rfl (lb rfl) fun a S => ?_
  rcases iteSome h with ⟨hc129, h⟩ | ⟨hc129, h⟩
  rotate_left
  · exact absurd hc129 (by rw [hv_x120]; decide)
  refine sMove (.slice ad46 r43.1.length cp47) S (wG 17 true 110 rfl rfl rfl hc129) (.inl rfl) rfl rfl (lb rfl) fun a S => ?_
  refine sLit (r := (rI .i64)) (T := 3) (xs := ([2] : List Int)) [(0, iv 2)] 1 [iv 2] [iv 2] (iv 0) 8 S (wG 17 true 110 rfl rfl rfl hc129) rfl rfl Try.underlying32 rfl (by decide) (by decide) (by kernel_rfl) rfl (fun E1 w1 hE => All.cons rfl (All.nil _ _ _)) rfl rfl (lb rfl) fun a w ad130 cp131 S => ?_
  obtain ⟨r132, hx133, h⟩ := bindSome h
  have hv_r132 : r132 = true := Option.some.inj (hx133.symm.trans (by rw [hv_r43]; exact kc_raddlelaw27_alive_11))
  have S1 := S.mem
  have S1 := S1.shutR (r := (rI .i64)) (T := 3) (v := .slice ad130 ([2] : List Int).length cp131) (xs := ([2] : List Int)) 0 rfl
  refine sCallQ (X := Unit) (f := 18) (vs := [.slice ad46 r43.1.length cp47, .slice ad130 ([2] : List Int).length cp131]) (val := fun _ => .bool r132) S (wG 17 true 110 rfl rfl rfl hc129) rfl callee18 rfl (S1.quiet [23, 0] rfl) (fun E1 w1 S1 => c_raddleref26_SameInts E1 w1 r43.1 (.slice ad46 r43.1.length cp47) ([2] : List Int) (.slice ad130 ([2] : List Int).length cp131) r132 hx133 S1) rfl (lb rfl) fun _ a w S => ?_
  refine sPickT (.bool r132) S (wN rfl) rfl rfl hc129 rfl rfl (lb rfl) fun a S => ?_
  refine sMove (.bool r132) S (wN rfl) (.inr rfl) rfl rfl (lb rfl) fun a S => ?_
  refine leafL (leafT (hK104 _ _ ?_))
  obtain rfl := Option.some.inj h
  exact wp_ret (sRet (.bool r132) S (rsl1 rfl (rvT (t := 0) (v := .bool r132) S rfl)) ⟨(), rfl, S.mem.sel [] [] (by decide) rfl rfl⟩)

end Go.Proofs.Yticjoiolfibmlaa
