/- Several texts in one: G18 G43 G23 G19 PlN G14 G15 G20 G21 -/
import Derived.WalkKit
import Derived.Maps.AppendAt
import Derived.Deep.AppendLies
import Derived.KernelRfl
import Derived.Laws.OwnMore
import Derived.Great.BuildSlice
import Derived.Orders
import Derived.Laws.StructEq
import Derived.ChangeKeysEq
import Derived.Defers
import Derived.Laws.BytesString
import Derived.RangeFuncNested
import Derived.RangeFuncBound
import Derived.RangeFuncCalls
import Derived.RangeFuncLeaves
import Derived.OrdersIn
import Derived.LoopNIn
import Derived.Test.YtdbgkakmhlmpbaaProg
import Derived.ProofKit
import Derived.OpenShut
import Derived.ChangeOld
import Derived.Deep.Slices
import Derived.Lib.SmallJoins
import Derived.JoinedOf
import Derived.JoinedAt
import Derived.Below
import Derived.Test.YtdbgkakmhlmpbaaRows
import Derived.Test.YtdbgkakmhlmpbaaMCostNeeds3
namespace Go.Proofs.Ytdbgkakmhlmpbaa
open Go.RowKit
set_option linter.unusedVariables false

def anc_cost_Need_0 : List (List Nat) := [[], [0], [], [], [2, 3], [2, 3, 4], [], [2, 3, 4, 5, 6], [0, 1, 2, 3, 4, 5, 6, 7], [0, 1, 2, 3, 4, 5, 6, 7, 8], [0, 1, 2, 3, 4, 5, 6, 7, 8, 9]]
def anc_cost_Need_1 : List (List Nat) := [[], [0], [], [2], [], [2, 3, 4], [2, 3, 4, 5], [], [7], [2, 3, 4, 5, 6, 7, 8], [0, 1, 2, 3, 4, 5, 6, 7, 8, 9], [0, 1, 2, 3, 4, 5, 6, 7, 8, 9, 10], [0, 1, 2, 3, 4, 5, 6, 7, 8, 9, 10, 11]]
noncomputable def cost_Need_l1 (r10 : ((Int × Int × Int × Int × Int × Int × Int × Int × Int × Int × Int) × Int)) (p1 : api_Rates) : (Int × Int) → Option ((Int × Int) ⊕ Int) := fun s0 => match s0 with
  | (s31, s32) =>
    if decide (s31 < 11) then
      Option.bind (idxO ([r10.1.1, r10.1.2.1, r10.1.2.2.1, r10.1.2.2.2.1, r10.1.2.2.2.2.1, r10.1.2.2.2.2.2.1, r10.1.2.2.2.2.2.2.1, r10.1.2.2.2.2.2.2.2.1, r10.1.2.2.2.2.2.2.2.2.1, r10.1.2.2.2.2.2.2.2.2.2.1, r10.1.2.2.2.2.2.2.2.2.2.2] : List Int) s31) fun x42 =>
      Option.bind (idxO ([p1.Time.1, p1.Time.2.1, p1.Time.2.2.1, p1.Time.2.2.2.1, p1.Time.2.2.2.2.1, p1.Time.2.2.2.2.2.1, p1.Time.2.2.2.2.2.2.1, p1.Time.2.2.2.2.2.2.2.1, p1.Time.2.2.2.2.2.2.2.2.1, p1.Time.2.2.2.2.2.2.2.2.2.1, p1.Time.2.2.2.2.2.2.2.2.2.2] : List Int) s31) fun x44 =>
      some (.inl (w64 (s31 + 1), w64 (s32 + (w64 (x44 * x42)))))
    else
      some (.inr s32)
noncomputable def cost_Need_l2 (x63 : api_Row) (p1 : api_Rates) : (Int × Int) → Option ((Int × Int) ⊕ Int) := fun s0 => match s0 with
  | (s74, s75) =>
    if decide (s74 < (x63.Cells.length : Int)) then
      Option.bind (idxO x63.Cells s74) fun x85 =>
      Option.bind (F_stitch_Makes [x85]) fun r94 =>
      Option.bind (idxO ([p1.Length.1, p1.Length.2.1, p1.Length.2.2.1, p1.Length.2.2.2.1, p1.Length.2.2.2.2.1, p1.Length.2.2.2.2.2.1, p1.Length.2.2.2.2.2.2.1, p1.Length.2.2.2.2.2.2.2.1, p1.Length.2.2.2.2.2.2.2.2.1, p1.Length.2.2.2.2.2.2.2.2.2.1, p1.Length.2.2.2.2.2.2.2.2.2.2] : List Int) x85.Kind) fun x96 =>
      some (.inl (w64 (s74 + 1), w64 (s75 + (w64 (x96 * (if (1 : Int) < r94.1 then r94.1 else 1))))))
    else
      some (.inr s75)
noncomputable def cost_Need_l3 (p0 : api_Chart) (p1 : api_Rates) : (Int × Int) → Option ((Int × Int) ⊕ Int) := fun s0 => match s0 with
  | (s50, s51) =>
    if decide (s50 < (p0.Rows.length : Int)) then
      Option.bind (α := Int) (
        Option.bind (idxO p0.Rows s50) fun x63 =>
        Option.bind (whileO (cost_Need_l2 x63 p1) (0, s51)) fun e79 =>
          some e79) fun o59 =>
      some (.inl (w64 (s50 + 1), o59))
    else
      some (.inr s51)
noncomputable def F_cost_Need (p0 : api_Chart) (p1 : api_Rates) : Option (api_Bill × Int) :=
  Option.bind (F_cost_Count p0) fun r10 =>
  if r10.2 != 0 then
    some ((api_Bill.mk 0 0), r10.2)
  else
    Option.bind (F_cost_Check p1) fun r20 =>
    if r20 != 0 then
      some ((api_Bill.mk 0 0), r20)
    else
      Option.bind (α := Int) (
        Option.bind (whileO (cost_Need_l1 r10 p1) (0, w64 (p1.Turn * (p0.Rows.length : Int)))) fun e36 =>
          some e36) fun o27 =>
      Option.bind (α := Int) (
        Option.bind (whileO (cost_Need_l3 p0 p1) (0, 0)) fun e55 =>
          some e55) fun o46 =>
      some ((api_Bill.mk o46 o27), 0)
def c_cost_Need_val (r : (api_Bill × Int)) (x : Value) : Value := .tuple #[x, .int .i64 r.2]
def c_cost_Need_D (r : (api_Bill × Int)) (x : Value) : List Fact := [fRep r_api_Bill x r.1]
set_option maxHeartbeats 4000000 in
set_option maxRecDepth 100000 in
theorem c_cost_Need (E : Nat → Prop) (w0 : World) (p0 : api_Chart) (v0 : Value) (p1 : api_Rates) (v1 : Value) (r : (api_Bill × Int)) (h : F_cost_Need p0 p1 = some r) (S : St0 E [] w0 w0 [] [fRep r_api_Chart (v0) p0, fRep r_api_Rates (v1) p1]) :
    Calls Try.prog 18 #[v0, v1] w0 (Ret (X := Value) E [] w0 (c_cost_Need_val r) (fun _ => []) (c_cost_Need_D r)) := by
  unfold F_cost_Need at h
  obtain ⟨u1, rfl, hu2⟩ := S.know (i := 0) (e := fRep r_api_Chart (v0) p0) rfl
  have S := S.learn (fRep (rL r_api_Row) u1 p0.Rows) hu2
  obtain ⟨ad3, cp4, _, rfl, _⟩ := hu2
  obtain rfl : v1 = gv_api_Rates p1 := S.know (i := 2) (e := fRep r_api_Rates (v1) p1) rfl
  refine sEnter (args := [.agg #[iv p0.Start, .slice ad3 p0.Rows.length cp4], gv_api_Rates p1]) 91 Try.func18 rfl rfl (by simp) S (fun a S => ?_)
  refine sSeq (fun K5 hK5 => ?_)
  refine sRegion ?_
  refine sBox (v := .agg #[iv p0.Start, .slice ad3 p0.Rows.length cp4]) S (wN rfl) rfl rfl [iv p0.Start, .slice ad3 p0.Rows.length cp4] rfl rfl (lb rfl) fun a b6 w S => ?_
  refine sBox (v := gv_api_Rates p1) S (wN rfl) rfl rfl (gl_api_Rates p1) rfl rfl (lb rfl) fun a b7 w S => ?_
  refine sAlloc (.agg #[iv 0, iv 0]) S (wN rfl) rfl rfl [iv 0, iv 0] rfl rfl (lb rfl) fun a b8 w S => ?_
  refine sMove (iv 0) S (wN rfl) (.inr rfl) rfl rfl (lb rfl) fun a S => ?_
  refine leafL (leafT (hK5 _ _ ?_))
  refine sSeq (fun K9 hK9 => ?_)
  refine sRegion ?_
  refine sLoadN (p := b6) (off := 0) (T := 41) (vs := [iv p0.Start, .slice ad3 p0.Rows.length cp4]) 2 [iv p0.Start, .slice ad3 p0.Rows.length cp4] S (wN rfl) rfl rfl rfl rfl rfl rfl rfl (lb rfl) fun a S => ?_
  obtain ⟨r10, hx11, h⟩ := bindSome h
  refine sCall (X := Value) (f := 16) (vs := [.agg #[iv p0.Start, .slice ad3 p0.Rows.length cp4]]) (val := c_cost_Count_val r10) (B' := fun _ => []) (D' := c_cost_Count_D r10) [] [eBox b8 23 [iv 0, iv 0], eBox b7 44 (gl_api_Rates p1), eBox b6 41 [iv p0.Start, .slice ad3 p0.Rows.length cp4]] [fRep r_api_Chart (.agg #[iv p0.Start, .slice ad3 p0.Rows.length cp4]) p0] [0, 1, 2] [1] S (wN rfl) rfl callee16 rfl (by decide) rfl rfl (fun E1 w1 S1 => c_cost_Count E1 w1 p0 (.agg #[iv p0.Start, .slice ad3 p0.Rows.length cp4]) r10 hx11 S1) rfl (lb rfl) fun u12 a w S => ?_
  obtain rfl : u12 = gv_A11_Int r10.1 := S.mem.know (i := 0) (e := fRep r_A11_Int (u12) r10.1) rfl
  refine sMove (.tuple #[gv_A11_Int r10.1, iv r10.2]) S (wN rfl) (.inl rfl) rfl rfl (lb rfl) fun a S => ?_
  refine sExtract (vs := [gv_A11_Int r10.1, iv r10.2]) (gv_A11_Int r10.1) S (wN rfl) rfl rfl rfl rfl (lb rfl) fun a S => ?_
  refine sExtract (vs := [gv_A11_Int r10.1, iv r10.2]) (iv r10.2) S (wN rfl) rfl rfl rfl rfl (lb rfl) fun a S => ?_
  refine sAlloc (gv_A11_Int (0, 0, 0, 0, 0, 0, 0, 0, 0, 0, 0)) S (wN rfl) rfl rfl (gl_A11_Int (0, 0, 0, 0, 0, 0, 0, 0, 0, 0, 0)) rfl rfl (lb rfl) fun a b13 w S => ?_
  refine sStore (p := b13) (off := 0) (T := 42) (vs := [iv 0, iv 0, iv 0, iv 0, iv 0, iv 0, iv 0, iv 0, iv 0, iv 0, iv 0]) (v := gv_A11_Int r10.1) 0 [iv r10.1.1, iv r10.1.2.1, iv r10.1.2.2.1, iv r10.1.2.2.2.1, iv r10.1.2.2.2.2.1, iv r10.1.2.2.2.2.2.1, iv r10.1.2.2.2.2.2.2.1, iv r10.1.2.2.2.2.2.2.2.1, iv r10.1.2.2.2.2.2.2.2.2.1, iv r10.1.2.2.2.2.2.2.2.2.2.1, iv r10.1.2.2.2.2.2.2.2.2.2.2] S (wN rfl) rfl rfl rfl rfl rfl rfl rfl (by simp) rfl fun a w S => ?_
  refine sMove (iv r10.2) S (wN rfl) (.inr rfl) rfl rfl (lb rfl) fun a S => ?_
  refine leafL (leafT (hK9 _ _ ?_))
  refine sSeq (fun K14 hK14 => ?_)
  refine sSeq (fun K15 hK15 => ?_)
  refine sRegion ?_
  refine sMove (iv r10.2) S (wN rfl) (.inl rfl) rfl rfl (lb rfl) fun a S => ?_
  refine sBin (.bool (r10.2 != 0)) S (wN rfl) rfl rfl rfl (bNe _ _ _ _ .i64 r10.2 0) rfl (lb rfl) fun a S => ?_
  refine leafL (leafT (hK15 _ _ ?_))
  rcases iteSome h with ⟨hc16, h⟩ | ⟨hc16, h⟩
  · refine sCondT S rfl hc16 ?_
    refine sSeq (fun K17 hK17 => ?_)
    refine sRegion ?_
    refine sBuild [] [iv 0, iv 0] S (wN rfl) rfl rfl rfl rfl (lb rfl) fun a S => ?_
    refine sMove (iv r10.2) S (wN rfl) (.inl rfl) rfl rfl (lb rfl) fun a S => ?_
    refine sStore (p := b8) (off := 0) (T := 23) (vs := [iv 0, iv 0]) (v := .agg #[iv 0, iv 0]) 1 [iv 0, iv 0] S (wN rfl) rfl rfl rfl rfl rfl rfl rfl (by simp) rfl fun a w S => ?_
    refine sMove (iv r10.2) S (wN rfl) (.inr rfl) rfl rfl (lb rfl) fun a S => ?_
    refine leafL (leafT (hK17 _ _ ?_))
    obtain rfl := Option.some.inj h
    have S := S.learn (fRep r_api_Bill (.agg #[iv 0, iv 0]) (api_Bill.mk 0 0)) rfl
    exact wp_ret (rThen (sRet (.tuple #[.agg #[iv 0, iv 0], iv r10.2]) S (rsl2 rfl (rvN (c := 4) (t := 23) (T := 23) (p := b8) 0 [iv 0, iv 0] S rfl rfl rfl rfl) (rvT (t := 5) (v := iv r10.2) S rfl)) ⟨(.agg #[iv 0, iv 0]), rfl, S.mem.sel [] [0] (by decide) rfl rfl⟩))
  refine sCondF S rfl hc16 ?_
  refine wp_skip (leafT (hK14 _ _ ?_))
  refine sSeq (fun K18 hK18 => ?_)
  refine sSeq (fun K19 hK19 => ?_)
  refine sRegion ?_
  refine sLoadN (p := b7) (off := 0) (T := 44) (vs := (gl_api_Rates p1)) 2 (gl_api_Rates p1) S (wN rfl) rfl rfl rfl rfl rfl rfl rfl (lb rfl) fun a S => ?_
  obtain ⟨r20, hx21, h⟩ := bindSome h
  have S1 := S.mem
  refine sCallQ (X := Unit) (f := 22) (vs := [gv_api_Rates p1]) (val := fun _ => iv r20) S (wN rfl) rfl callee22 rfl (S1.quiet [3] rfl) (fun E1 w1 S1 => c_cost_Check E1 w1 p1 (gv_api_Rates p1) r20 hx21 S1) rfl (lb rfl) fun _ a w S => ?_
  refine sMove (iv r20) S (wN rfl) (.inr rfl) rfl rfl (lb rfl) fun a S => ?_
  refine leafL (leafT (hK19 _ _ ?_))
  refine sSeq (fun K22 hK22 => ?_)
  refine sRegion ?_
  refine sMove (iv r20) S (wN rfl) (.inl rfl) rfl rfl (lb rfl) fun a S => ?_
  refine sBin (.bool (r20 != 0)) S (wN rfl) rfl rfl rfl (bNe _ _ _ _ .i64 r20 0) rfl (lb rfl) fun a S => ?_
  refine leafL (leafT (hK22 _ _ ?_))
  rcases iteSome h with ⟨hc23, h⟩ | ⟨hc23, h⟩
  · refine sCondT S rfl hc23 ?_
    refine sSeq (fun K24 hK24 => ?_)
    refine sRegion ?_
    refine sBuild [] [iv 0, iv 0] S (wN rfl) rfl rfl rfl rfl (lb rfl) fun a S => ?_
    refine sMove (iv r20) S (wN rfl) (.inl rfl) rfl rfl (lb rfl) fun a S => ?_
    refine sStore (p := b8) (off := 0) (T := 23) (vs := [iv 0, iv 0]) (v := .agg #[iv 0, iv 0]) 1 [iv 0, iv 0] S (wN rfl) rfl rfl rfl rfl rfl rfl rfl (by simp) rfl fun a w S => ?_
    refine sMove (iv r20) S (wN rfl) (.inr rfl) rfl rfl (lb rfl) fun a S => ?_
    refine leafL (leafT (hK24 _ _ ?_))
    obtain rfl := Option.some.inj h
    have S := S.learn (fRep r_api_Bill (.agg #[iv 0, iv 0]) (api_Bill.mk 0 0)) rfl
    exact wp_ret (rThen (sRet (.tuple #[.agg #[iv 0, iv 0], iv r20]) S (rsl2 rfl (rvN (c := 4) (t := 23) (T := 23) (p := b8) 0 [iv 0, iv 0] S rfl rfl rfl rfl) (rvT (t := 5) (v := iv r20) S rfl)) ⟨(.agg #[iv 0, iv 0]), rfl, S.mem.sel [] [0] (by decide) rfl rfl⟩))
  refine sCondF S rfl hc23 ?_
  refine wp_skip (leafT (hK18 _ _ ?_))
  refine sSeq (fun K25 hK25 => ?_)
  refine sRegion ?_
  refine sField (b := b7) (off := 0) 22 22 S (wN rfl) rfl rfl rfl rfl rfl (lb rfl) fun a S => ?_
  refine sLoad1 (p := b7) (off := 22) (T := 44) (vs := (gl_api_Rates p1)) 2 (iv p1.Turn) S (wN rfl) rfl rfl rfl rfl rfl rfl (lb rfl) fun a S => ?_
  refine sField (b := b6) (off := 0) 1 1 S (wN rfl) rfl rfl rfl rfl rfl (lb rfl) fun a S => ?_
  refine sLoad1 (p := b6) (off := 1) (T := 41) (vs := [iv p0.Start, .slice ad3 p0.Rows.length cp4]) 3 (.slice ad3 p0.Rows.length cp4) S (wN rfl) rfl rfl rfl rfl rfl rfl (lb rfl) fun a S => ?_
  refine sLen (ad := ad3) (m := p0.Rows.length) (c := cp4) S (wN rfl) rfl Try.underlying39 rfl rfl (lb rfl) fun a S => ?_
  refine sBin (iv (w64 (p1.Turn * (p0.Rows.length : Int)))) S (wN rfl) rfl rfl rfl (bMul _ _ _ _ p1.Turn (p0.Rows.length : Int)) rfl (lb rfl) fun a S => ?_
  refine sBuild [(1, iv (w64 (p1.Turn * (p0.Rows.length : Int))))] [iv 0, iv (w64 (p1.Turn * (p0.Rows.length : Int)))] S (wN rfl) rfl rfl rfl rfl (lb rfl) fun a S => ?_
  refine sAlloc (.agg #[iv 0, iv 0]) S (wN rfl) rfl rfl [iv 0, iv 0] rfl rfl (lb rfl) fun a b26 w S => ?_
  refine sStore (p := b26) (off := 0) (T := 23) (vs := [iv 0, iv 0]) (v := .agg #[iv 0, iv (w64 (p1.Turn * (p0.Rows.length : Int)))]) 0 [iv 0, iv (w64 (p1.Turn * (p0.Rows.length : Int)))] S (wN rfl) rfl rfl rfl rfl rfl rfl rfl (by simp) rfl fun a w S => ?_
  refine leafL (leafT (hK25 _ _ ?_))
  obtain ⟨t28, h, g29⟩ := bindSome h
  refine sCut (fun a w => ∃ o27, o27 = t28 ∧ St [] E [] w0 91 a w [(2, .pointer (some ⟨b6, 0, none⟩)), (3, .pointer (some ⟨b7, 0, none⟩)), (4, .pointer (some ⟨b8, 0, none⟩)), (9, .pointer (some ⟨b26, 0, none⟩))] [eBox b6 41 [iv p0.Start, .slice ad3 p0.Rows.length cp4], eBox b7 44 (gl_api_Rates p1), eBox b8 23 [iv 0, iv 0], eBox b26 23 [iv 0, iv o27]] [fRep (rL r_api_Row) (.slice ad3 p0.Rows.length cp4) p0.Rows]) ?_ (fun a w hI => ?_)
  · refine sSeq (fun K30 hK30 => ?_)
    refine sRegion ?_
    refine sLoadN (p := b13) (off := 0) (T := 42) (vs := (gl_A11_Int r10.1)) 1 (gl_A11_Int r10.1) S (wN rfl) rfl rfl rfl rfl rfl rfl rfl (lb rfl) fun a S => ?_
    refine sMove (iv 0) S (wN rfl) (.inl rfl) rfl rfl (lb rfl) fun a S => ?_
    refine leafL (leafT (hK30 _ _ ?_))
    refine wp_block ?_
    obtain ⟨t35, hl, g34⟩ := bindSome h
    refine sLoop hl (fun s0 a w => match s0 with | (s31, s32) => St [] E [] w0 91 a w [(2, .pointer (some ⟨b6, 0, none⟩)), (3, .pointer (some ⟨b7, 0, none⟩)), (4, .pointer (some ⟨b8, 0, none⟩)), (9, .pointer (some ⟨b26, 0, none⟩)), (40, gv_A11_Int r10.1), (41, iv s31)] [eBox b6 41 [iv p0.Start, .slice ad3 p0.Rows.length cp4], eBox b7 44 (gl_api_Rates p1), eBox b8 23 [iv 0, iv 0], eBox b26 23 [iv 0, iv s32]] [fRep (rL r_api_Row) (.slice ad3 p0.Rows.length cp4) p0.Rows]) (S.fix [4, 3, 2, 0] [1] (by decide) rfl rfl rfl) ?_
    clear hl h
    intro s0 a w c0 hI h hu33
    obtain ⟨s31, s32⟩ := s0
    unfold cost_Need_l1 at h
    dsimp only at h hI
    have S := hI
    refine sSeq (fun K37 hK37 => ?_)
    refine sRegion ?_
    refine sBin (.bool (decide (s31 < 11))) S (wN rfl) rfl rfl rfl (bLt _ _ _ _ .i64 s31 11) rfl (lb rfl) fun a S => ?_
    refine leafL (leafT (hK37 _ _ ?_))
    refine sSeq (fun K38 hK38 => ?_)
    rcases iteSome h with ⟨hc39, h⟩ | ⟨hc39, h⟩
    rotate_left
    · refine sCondF S rfl hc39 ?_
      obtain rfl := Option.some.inj h
      obtain rfl := hu33 _ rfl
      have h := g34
      clear g34
      try dsimp only at h
      exact wp_exit (xThen (xThen (xHit (leafT (⟨s32, Option.some.inj h, S.fix [0, 1, 2, 3] [0] (by decide) rfl rfl rfl⟩)))))
    refine sCondT S rfl hc39 ?_
    refine wp_skip (leafT (hK38 _ _ ?_))
    refine sSeq (fun K40 hK40 => ?_)
    refine wp_block ?_
    refine sSeq (fun K41 hK41 => ?_)
    refine sRegion ?_
    refine sMove (iv s31) S (wN rfl) (.inl rfl) rfl rfl (lb rfl) fun a S => ?_
    obtain ⟨x42, hx43, h⟩ := bindSome h
    refine sIndexA (g := fun z => .int .i64 z) (xs := ([r10.1.1, r10.1.2.1, r10.1.2.2.1, r10.1.2.2.2.1, r10.1.2.2.2.2.1, r10.1.2.2.2.2.2.1, r10.1.2.2.2.2.2.2.1, r10.1.2.2.2.2.2.2.2.1, r10.1.2.2.2.2.2.2.2.2.1, r10.1.2.2.2.2.2.2.2.2.2.1, r10.1.2.2.2.2.2.2.2.2.2.2] : List Int)) (j := s31) (k := .i64) 11 [iv r10.1.1, iv r10.1.2.1, iv r10.1.2.2.1, iv r10.1.2.2.2.1, iv r10.1.2.2.2.2.1, iv r10.1.2.2.2.2.2.1, iv r10.1.2.2.2.2.2.2.1, iv r10.1.2.2.2.2.2.2.2.1, iv r10.1.2.2.2.2.2.2.2.2.1, iv r10.1.2.2.2.2.2.2.2.2.2.1, iv r10.1.2.2.2.2.2.2.2.2.2.2] S (wN rfl) rfl Try.underlying42 rfl rfl rfl rfl rfl rfl hx43 rfl (lb rfl) fun a S => ?_
    refine sMove (iv s31) S (wN rfl) (.inr rfl) rfl rfl (lb rfl) fun a S => ?_
    refine sMove (iv x42) S (wN rfl) (.inr rfl) rfl rfl (lb rfl) fun a S => ?_
    refine leafL (leafT (hK41 _ _ ?_))
    obtain ⟨x44, hx45, h⟩ := bindSome h
    refine sDraw (nf := [10]) (W := [(0, 45, .pointer (some ⟨b26, 1, none⟩)), (1, 46, iv s32), (2, 47, iv s31), (3, 48, .pointer (some ⟨b7, 11, none⟩)), (4, 49, .pointer (some ⟨b7, 11 + (s31).toNat * 1, none⟩)), (5, 50, iv x44), (6, 51, iv x42), (7, 52, iv (w64 (x44 * x42))), (8, 53, iv (w64 (s32 + (w64 (x44 * x42))))), (9, 54, .pointer (some ⟨b26, 1, none⟩))]) rfl S ?_
    refine node_by (A := anc_cost_Need_0) (nf := [10]) (Y := []) (W := [(0, 45, .pointer (some ⟨b26, 1, none⟩)), (1, 46, iv s32), (2, 47, iv s31), (3, 48, .pointer (some ⟨b7, 11, none⟩)), (4, 49, .pointer (some ⟨b7, 11 + (s31).toNat * 1, none⟩)), (5, 50, iv x44), (6, 51, iv x42), (7, 52, iv (w64 (x44 * x42))), (8, 53, iv (w64 (s32 + (w64 (x44 * x42))))), (9, 54, .pointer (some ⟨b26, 1, none⟩))]) 11 (by kernel_rfl) (by kernel_rfl) (by kernel_rfl) (by kernel_rfl) (by kernel_rfl) [0, 1, 2, 3, 4, 5, 6, 7, 8, 9] (by kernel_rfl) (by decide) (by decide) (aF 0 10 (by decide) ?_ (aF 1 9 (by decide) ?_ (aF 2 8 (by decide) ?_ (aF 3 7 (by decide) ?_ (aF 4 6 (by decide) ?_ (aF 5 5 (by decide) ?_ (aF 6 4 (by decide) ?_ (aF 7 3 (by decide) ?_ (aF 8 2 (by decide) ?_ (aF 9 1 (by decide) ?_ (aN 10 0 (by decide) ?_ (trivial)))))))))))) [] (fun q hq => by cases hq) (fun hY => absurd (hY 10 (by decide)) (by decide))
    · refine fI 45 (.pointer (some ⟨b26, 1, none⟩)) [(9, .pointer (some ⟨b26, 0, none⟩))] 0 [none] rfl rfl rfl rfl rfl rfl fun G a w S => ?_
      refine sField (b := b26) (off := 0) 1 1 S (wN rfl) rfl rfl rfl rfl rfl (lb rfl) fun a S => ?_
      exact leafL ⟨rfl, S⟩
    · refine fI 46 (iv s32) [(45, .pointer (some ⟨b26, 1, none⟩))] 1 [some 0] rfl rfl rfl rfl rfl rfl fun G a w S => ?_
      refine sLoad1 (p := b26) (off := 1) (T := 23) (vs := [iv 0, iv s32]) 3 (iv s32) S (wN rfl) rfl rfl rfl rfl rfl rfl (lb rfl) fun a S => ?_
      exact leafL ⟨rfl, S⟩
    · refine fI 47 (iv s31) [(10, iv s31)] 2 [none] rfl rfl rfl rfl rfl rfl fun G a w S => ?_
      refine sMove (iv s31) S (wN rfl) (.inl rfl) rfl rfl (lb rfl) fun a S => ?_
      exact leafL ⟨rfl, S⟩
    · refine fI 48 (.pointer (some ⟨b7, 11, none⟩)) [(3, .pointer (some ⟨b7, 0, none⟩))] 3 [none] rfl rfl rfl rfl rfl rfl fun G a w S => ?_
      refine sField (b := b7) (off := 0) 11 11 S (wN rfl) rfl rfl rfl rfl rfl (lb rfl) fun a S => ?_
      exact leafL ⟨rfl, S⟩
    · refine fI 49 (.pointer (some ⟨b7, 11 + (s31).toNat * 1, none⟩)) [(47, iv s31), (48, .pointer (some ⟨b7, 11, none⟩))] 4 [some 2, some 3] rfl rfl rfl rfl rfl rfl fun G a w S => ?_
      refine sIdxV (v := .pointer (some ⟨b7, 11, none⟩)) (k := .i64) (j := s31) (q := .pointer (some ⟨b7, 11 + (s31).toNat * 1, none⟩)) S (wN rfl) rfl rfl rfl (idxV_arr (m := 11) (sz := 1) Try.underlying42 rfl (idxO_rng (m := 11) hx45 rfl).1 (idxO_rng (m := 11) hx45 rfl).2 11) rfl (lb rfl) fun a S => ?_
      exact leafL ⟨rfl, S⟩
    · refine fI 50 (iv x44) [(49, .pointer (some ⟨b7, 11 + (s31).toNat * 1, none⟩))] 5 [some 4] rfl rfl rfl rfl rfl rfl fun G a w S => ?_
      refine sLoad1 (p := b7) (off := 11 + (s31).toNat * 1) (T := 44) (vs := [iv p1.Length.1, iv p1.Length.2.1, iv p1.Length.2.2.1, iv p1.Length.2.2.2.1, iv p1.Length.2.2.2.2.1, iv p1.Length.2.2.2.2.2.1, iv p1.Length.2.2.2.2.2.2.1, iv p1.Length.2.2.2.2.2.2.2.1, iv p1.Length.2.2.2.2.2.2.2.2.1, iv p1.Length.2.2.2.2.2.2.2.2.2.1, iv p1.Length.2.2.2.2.2.2.2.2.2.2, iv p1.Time.1, iv p1.Time.2.1, iv p1.Time.2.2.1, iv p1.Time.2.2.2.1, iv p1.Time.2.2.2.2.1, iv p1.Time.2.2.2.2.2.1, iv p1.Time.2.2.2.2.2.2.1, iv p1.Time.2.2.2.2.2.2.2.1, iv p1.Time.2.2.2.2.2.2.2.2.1, iv p1.Time.2.2.2.2.2.2.2.2.2.1, iv p1.Time.2.2.2.2.2.2.2.2.2.2, iv p1.Turn]) 1 (iv x44) S (wN rfl) rfl rfl rfl rfl (box_at (g := (fun z => .int .i64 z)) [iv p1.Length.1, iv p1.Length.2.1, iv p1.Length.2.2.1, iv p1.Length.2.2.2.1, iv p1.Length.2.2.2.2.1, iv p1.Length.2.2.2.2.2.1, iv p1.Length.2.2.2.2.2.2.1, iv p1.Length.2.2.2.2.2.2.2.1, iv p1.Length.2.2.2.2.2.2.2.2.1, iv p1.Length.2.2.2.2.2.2.2.2.2.1, iv p1.Length.2.2.2.2.2.2.2.2.2.2] [iv p1.Turn] 11 hx45 rfl rfl) rfl (lb rfl) fun a S => ?_
      exact leafL ⟨rfl, S⟩
    · refine fI 51 (iv x42) [(11, iv x42)] 6 [none] rfl rfl rfl rfl rfl rfl fun G a w S => ?_
      refine sMove (iv x42) S (wN rfl) (.inl rfl) rfl rfl (lb rfl) fun a S => ?_
      exact leafL ⟨rfl, S⟩
    · refine fI 52 (iv (w64 (x44 * x42))) [(50, iv x44), (51, iv x42)] 7 [some 5, some 6] rfl rfl rfl rfl rfl rfl fun G a w S => ?_
      refine sBin (iv (w64 (x44 * x42))) S (wN rfl) rfl rfl rfl (bMul _ _ _ _ x44 x42) rfl (lb rfl) fun a S => ?_
      exact leafL ⟨rfl, S⟩
    · refine fI 53 (iv (w64 (s32 + (w64 (x44 * x42))))) [(46, iv s32), (52, iv (w64 (x44 * x42)))] 8 [some 1, some 7] rfl rfl rfl rfl rfl rfl fun G a w S => ?_
      refine sBin (iv (w64 (s32 + (w64 (x44 * x42))))) S (wN rfl) rfl rfl rfl (bAdd _ _ _ _ s32 (w64 (x44 * x42))) rfl (lb rfl) fun a S => ?_
      exact leafL ⟨rfl, S⟩
    · refine fI 54 (.pointer (some ⟨b26, 1, none⟩)) [(9, .pointer (some ⟨b26, 0, none⟩))] 9 [none] rfl rfl rfl rfl rfl rfl fun G a w S => ?_
      refine sField (b := b26) (off := 0) 1 1 S (wN rfl) rfl rfl rfl rfl rfl (lb rfl) fun a S => ?_
      exact leafL ⟨rfl, S⟩
    refine ⟨_, [(53, iv (w64 (s32 + (w64 (x44 * x42))))), (54, .pointer (some ⟨b26, 1, none⟩))], rfl, (srcs_of [some 8, some 9] rfl rfl rfl), fun G a w S => ?_⟩
    refine sStore (p := b26) (off := 1) (T := 23) (vs := [iv 0, iv s32]) (v := iv (w64 (s32 + (w64 (x44 * x42))))) 3 [iv (w64 (s32 + (w64 (x44 * x42))))] S (wN rfl) rfl rfl rfl rfl rfl rfl rfl (by simp) rfl fun a w S => ?_
    refine leafL ⟨rfl, _, _, .inr ⟨[], rfl, S, hz_of rfl, ?_⟩⟩
    refine node_by (A := anc_cost_Need_0) (nf := [10]) (Y := [10]) 11 (by kernel_rfl) (by kernel_rfl) (by kernel_rfl) (by kernel_rfl) (by kernel_rfl) [0, 1, 2, 3, 4, 5, 6, 7, 8, 9] (by kernel_rfl) (by decide) (by decide) (aD 0 10 10 (by decide) (aD 1 9 10 (by decide) (aD 2 8 10 (by decide) (aD 3 7 10 (by decide) (aD 4 6 10 (by decide) (aD 5 5 10 (by decide) (aD 6 4 10 (by decide) (aD 7 3 10 (by decide) (aD 8 2 10 (by decide) (aD 9 1 10 (by decide) (aY 10 0 (by decide) (trivial)))))))))))) [(2, .pointer (some ⟨b6, 0, none⟩)), (3, .pointer (some ⟨b7, 0, none⟩)), (4, .pointer (some ⟨b8, 0, none⟩)), (9, .pointer (some ⟨b26, 0, none⟩)), (40, gv_A11_Int r10.1), (41, iv s31)] (fin_of [none, none, none, none, none, none] rfl (by kernel_rfl) (by kernel_rfl)) (fun _ a w S => ?_)
    refine leafB (leafT (hK40 _ _ ?_))
    refine sRegion ?_
    refine sBin (iv (w64 (s31 + 1))) S (wN rfl) rfl rfl rfl (bAdd _ _ _ _ s31 1) rfl (lb rfl) fun a S => ?_
    refine sMove (iv (w64 (s31 + 1))) S (wN rfl) (.inl rfl) rfl rfl (lb rfl) fun a S => ?_
    exact leafL (leafT (⟨(w64 (s31 + 1), w64 (s32 + (w64 (x44 * x42)))), (Option.some.inj h).symm, (S.fix [1, 2, 3, 0] [0] (by decide) rfl rfl rfl)⟩))
  obtain ⟨o27, rfl, S⟩ := hI
  have h := g29
  clear g29
  try dsimp only at h
  obtain ⟨t47, h, g48⟩ := bindSome h
  refine sCut (fun a w => ∃ o46, o46 = t47 ∧ St [] E [] w0 91 a w [(4, .pointer (some ⟨b8, 0, none⟩)), (9, .pointer (some ⟨b26, 0, none⟩))] [eBox b8 23 [iv 0, iv 0], eBox b26 23 [iv o46, iv o27]] []) ?_ (fun a w hI => ?_)
  rotate_left
  · obtain ⟨o46, rfl, S⟩ := hI
    have h := g48
    clear g48
    try dsimp only at h
    refine sSeq (fun K98 hK98 => ?_)
    refine sRegion ?_
    refine sLoadN (p := b26) (off := 0) (T := 23) (vs := [iv o46, iv o27]) 1 [iv o46, iv o27] S (wN rfl) rfl rfl rfl rfl rfl rfl rfl (lb rfl) fun a S => ?_
    refine sStore (p := b8) (off := 0) (T := 23) (vs := [iv 0, iv 0]) (v := .agg #[iv o46, iv o27]) 0 [iv o46, iv o27] S (wN rfl) rfl rfl rfl rfl rfl rfl rfl (by simp) rfl fun a w S => ?_
    refine sMove (iv 0) S (wN rfl) (.inr rfl) rfl rfl (lb rfl) fun a S => ?_
    refine leafL (leafT (hK98 _ _ ?_))
    obtain rfl := Option.some.inj h
    have S := S.learn (fRep r_api_Bill (.agg #[iv o46, iv o27]) (api_Bill.mk o46 o27)) rfl
    exact wp_ret (sRet (.tuple #[.agg #[iv o46, iv o27], iv 0]) S (rsl2 rfl (rvN (c := 4) (t := 23) (T := 23) (p := b8) 0 [iv o46, iv o27] S rfl rfl rfl rfl) (rvT (t := 5) (v := iv 0) S rfl)) ⟨(.agg #[iv o46, iv o27]), rfl, S.mem.sel [] [0] (by decide) rfl rfl⟩)
  refine sSeq (fun K49 hK49 => ?_)
  refine sRegion ?_
  refine sField (b := b6) (off := 0) 1 1 S (wN rfl) rfl rfl rfl rfl rfl (lb rfl) fun a S => ?_
  refine sLoad1 (p := b6) (off := 1) (T := 41) (vs := [iv p0.Start, .slice ad3 p0.Rows.length cp4]) 0 (.slice ad3 p0.Rows.length cp4) S (wN rfl) rfl rfl rfl rfl rfl rfl (lb rfl) fun a S => ?_
  refine sLen (ad := ad3) (m := p0.Rows.length) (c := cp4) S (wN rfl) rfl Try.underlying39 rfl rfl (lb rfl) fun a S => ?_
  refine sMove (iv 0) S (wN rfl) (.inl rfl) rfl rfl (lb rfl) fun a S => ?_
  refine leafL (leafT (hK49 _ _ ?_))
  refine wp_block ?_
  obtain ⟨t54, hl, g53⟩ := bindSome h
  refine sLoop hl (fun s0 a w => match s0 with | (s50, s51) => St [] E [] w0 91 a w [(3, .pointer (some ⟨b7, 0, none⟩)), (4, .pointer (some ⟨b8, 0, none⟩)), (9, .pointer (some ⟨b26, 0, none⟩)), (57, .slice ad3 p0.Rows.length cp4), (58, iv (p0.Rows.length : Int)), (59, iv s50)] [eBox b7 44 (gl_api_Rates p1), eBox b8 23 [iv 0, iv 0], eBox b26 23 [iv s51, iv o27]] [fRep (rL r_api_Row) (.slice ad3 p0.Rows.length cp4) p0.Rows]) (S.fix [1, 2, 3] [0] (by decide) rfl rfl rfl) ?_
  clear hl h
  intro s0 a w c0 hI h hu52
  obtain ⟨s50, s51⟩ := s0
  unfold cost_Need_l3 at h
  dsimp only at h hI
  have S := hI
  refine sSeq (fun K56 hK56 => ?_)
  refine sRegion ?_
  refine sBin (.bool (decide (s50 < (p0.Rows.length : Int)))) S (wN rfl) rfl rfl rfl (bLt _ _ _ _ .i64 s50 (p0.Rows.length : Int)) rfl (lb rfl) fun a S => ?_
  refine leafL (leafT (hK56 _ _ ?_))
  refine sSeq (fun K57 hK57 => ?_)
  rcases iteSome h with ⟨hc58, h⟩ | ⟨hc58, h⟩
  rotate_left
  · refine sCondF S rfl hc58 ?_
    obtain rfl := Option.some.inj h
    obtain rfl := hu52 _ rfl
    have h := g53
    clear g53
    try dsimp only at h
    exact wp_exit (xThen (xThen (xHit (leafT (⟨s51, Option.some.inj h, S.fix [1, 2] [] (by decide) rfl rfl rfl⟩)))))
  refine sCondT S rfl hc58 ?_
  refine wp_skip (leafT (hK57 _ _ ?_))
  obtain ⟨t60, h, g61⟩ := bindSome h
  refine sCut (fun a w => ∃ o59, o59 = t60 ∧ St [] E [] w0 91 a w [(3, .pointer (some ⟨b7, 0, none⟩)), (4, .pointer (some ⟨b8, 0, none⟩)), (9, .pointer (some ⟨b26, 0, none⟩)), (57, .slice ad3 p0.Rows.length cp4), (58, iv (p0.Rows.length : Int)), (59, iv s50)] [eBox b7 44 (gl_api_Rates p1), eBox b8 23 [iv 0, iv 0], eBox b26 23 [iv o59, iv o27]] [fRep (rL r_api_Row) (.slice ad3 p0.Rows.length cp4) p0.Rows]) ?_ (fun a w hI => ?_)
  rotate_left
  · obtain ⟨o59, rfl, S⟩ := hI
    have h := g61
    clear g61
    try dsimp only at h
    refine sRegion ?_
    refine sBin (iv (w64 (s50 + 1))) S (wN rfl) rfl rfl rfl (bAdd _ _ _ _ s50 1) rfl (lb rfl) fun a S => ?_
    refine sMove (iv (w64 (s50 + 1))) S (wN rfl) (.inl rfl) rfl rfl (lb rfl) fun a S => ?_
    exact leafL (leafT (⟨(w64 (s50 + 1), o59), (Option.some.inj h).symm, (S.fix [0, 1, 2] [0] (by decide) rfl rfl rfl)⟩))
  refine wp_block ?_
  refine sSeq (fun K62 hK62 => ?_)
  refine sRegion ?_
  obtain ⟨x63, hx64, h⟩ := bindSome h
  obtain ⟨q65, hq66, S⟩ := pIdx (P := Try.prog) (r := r_api_Row) (v := .slice ad3 p0.Rows.length cp4) (xs := p0.Rows) (j := s50) 39 72 0 S Try.underlying39 rfl rfl hx64
  refine sIdxV (v := .slice ad3 p0.Rows.length cp4) (k := .i64) (j := s50) S (wN rfl) rfl rfl rfl hq66 rfl (lb rfl) fun a S => ?_
  obtain ⟨u67, S⟩ := pLoad (r := r_api_Row) (q := q65) (x := x63) 0 S rfl
  obtain ⟨u68, rfl, hu69⟩ := S.mem.know (i := 1) (e := fRep r_api_Row (u67) x63) rfl
  have S := S.learn (fRep (rL r_api_Stitch) u68 x63.Cells) hu69
  obtain ⟨ad70, cp71, _, rfl, _⟩ := hu69
  refine sLoadVN (vq := q65) 1 [.bool x63.Back, .slice ad70 x63.Cells.length cp71] S (wN rfl) rfl rfl rfl rfl rfl rfl (lb rfl) fun a S => ?_
  refine sAlloc (.agg #[.bool false, .slice none 0 0]) S (wN rfl) rfl rfl [.bool false, .slice none 0 0] rfl rfl (lb rfl) fun a b72 w S => ?_
  refine sStore (p := b72) (off := 0) (T := 72) (vs := [.bool false, .slice none 0 0]) (v := .agg #[.bool x63.Back, .slice ad70 x63.Cells.length cp71]) 0 [.bool x63.Back, .slice ad70 x63.Cells.length cp71] S (wN rfl) rfl rfl rfl rfl rfl rfl rfl (by simp) rfl fun a w S => ?_
  refine leafL (leafT (hK62 _ _ ?_))
  refine sSeq (fun K73 hK73 => ?_)
  refine sRegion ?_
  refine sField (b := b72) (off := 0) 1 1 S (wN rfl) rfl rfl rfl rfl rfl (lb rfl) fun a S => ?_
  refine sLoad1 (p := b72) (off := 1) (T := 72) (vs := [.bool x63.Back, .slice ad70 x63.Cells.length cp71]) 0 (.slice ad70 x63.Cells.length cp71) S (wN rfl) rfl rfl rfl rfl rfl rfl (lb rfl) fun a S => ?_
  refine sLen (ad := ad70) (m := x63.Cells.length) (c := cp71) S (wN rfl) rfl Try.underlying70 rfl rfl (lb rfl) fun a S => ?_
  refine sMove (iv 0) S (wN rfl) (.inl rfl) rfl rfl (lb rfl) fun a S => ?_
  refine leafL (leafT (hK73 _ _ ?_))
  refine wp_block ?_
  obtain ⟨t78, hl, g77⟩ := bindSome h
  refine sLoop hl (fun s0 a w => match s0 with | (s74, s75) => St [] E [] w0 91 a w [(3, .pointer (some ⟨b7, 0, none⟩)), (4, .pointer (some ⟨b8, 0, none⟩)), (9, .pointer (some ⟨b26, 0, none⟩)), (57, .slice ad3 p0.Rows.length cp4), (58, iv (p0.Rows.length : Int)), (59, iv s50), (64, .slice ad70 x63.Cells.length cp71), (65, iv (x63.Cells.length : Int)), (66, iv s74)] [eBox b7 44 (gl_api_Rates p1), eBox b8 23 [iv 0, iv 0], eBox b26 23 [iv s75, iv o27]] [fRep (rL r_api_Row) (.slice ad3 p0.Rows.length cp4) p0.Rows, fRep (rL r_api_Stitch) (.slice ad70 x63.Cells.length cp71) x63.Cells]) (S.fix [1, 2, 3] [4, 0] (by decide) rfl rfl rfl) ?_
  clear hl h
  intro s0 a w c0 hI h hu76
  obtain ⟨s74, s75⟩ := s0
  unfold cost_Need_l2 at h
  dsimp only at h hI
  have S := hI
  refine sSeq (fun K80 hK80 => ?_)
  refine sRegion ?_
  refine sBin (.bool (decide (s74 < (x63.Cells.length : Int)))) S (wN rfl) rfl rfl rfl (bLt _ _ _ _ .i64 s74 (x63.Cells.length : Int)) rfl (lb rfl) fun a S => ?_
  refine leafL (leafT (hK80 _ _ ?_))
  refine sSeq (fun K81 hK81 => ?_)
  rcases iteSome h with ⟨hc82, h⟩ | ⟨hc82, h⟩
  rotate_left
  · refine sCondF S rfl hc82 ?_
    obtain rfl := Option.some.inj h
    obtain rfl := hu76 _ rfl
    have h := g77
    clear g77
    try dsimp only at h
    exact wp_exit (xThen (xThen (xHit (leafB (leafT (⟨s75, Option.some.inj h, S.fix [0, 1, 2] [0] (by decide) rfl rfl rfl⟩))))))
  refine sCondT S rfl hc82 ?_
  refine wp_skip (leafT (hK81 _ _ ?_))
  refine sSeq (fun K83 hK83 => ?_)
  refine wp_block ?_
  refine sSeq (fun K84 hK84 => ?_)
  refine sRegion ?_
  obtain ⟨x85, hx86, h⟩ := bindSome h
  obtain ⟨q87, hq88, S⟩ := pIdx (P := Try.prog) (r := r_api_Stitch) (v := .slice ad70 x63.Cells.length cp71) (xs := x63.Cells) (j := s74) 70 74 1 S Try.underlying70 rfl rfl hx86
  refine sIdxV (v := .slice ad70 x63.Cells.length cp71) (k := .i64) (j := s74) S (wN rfl) rfl rfl rfl hq88 rfl (lb rfl) fun a S => ?_
  obtain ⟨u89, S⟩ := pLoad (r := r_api_Stitch) (q := q87) (x := x85) 0 S rfl
  obtain rfl : u89 = .agg #[.int .u8 x85.Kind, .bool x85.Purl, iv x85.A, iv x85.B] := S.mem.know (i := 1) (e := fRep r_api_Stitch (u89) x85) rfl
  refine sLoadVN (vq := q87) 0 [.int .u8 x85.Kind, .bool x85.Purl, iv x85.A, iv x85.B] S (wN rfl) rfl rfl rfl rfl rfl rfl (lb rfl) fun a S => ?_
  refine sAlloc (.agg #[.int .u8 0, .bool false, iv 0, iv 0]) S (wN rfl) rfl rfl [.int .u8 0, .bool false, iv 0, iv 0] rfl rfl (lb rfl) fun a b90 w S => ?_
  refine sStore (p := b90) (off := 0) (T := 74) (vs := [.int .u8 0, .bool false, iv 0, iv 0]) (v := .agg #[.int .u8 x85.Kind, .bool x85.Purl, iv x85.A, iv x85.B]) 0 [.int .u8 x85.Kind, .bool x85.Purl, iv x85.A, iv x85.B] S (wN rfl) rfl rfl rfl rfl rfl rfl rfl (by simp) rfl fun a w S => ?_
  refine leafL (leafT (hK84 _ _ ?_))
  refine sSeq (fun K91 hK91 => ?_)
  refine sRegion ?_
  refine sLoadN (p := b90) (off := 0) (T := 74) (vs := [.int .u8 x85.Kind, .bool x85.Purl, iv x85.A, iv x85.B]) 0 [.int .u8 x85.Kind, .bool x85.Purl, iv x85.A, iv x85.B] S (wN rfl) rfl rfl rfl rfl rfl rfl rfl (lb rfl) fun a S => ?_
  refine sLit (r := r_api_Stitch) (T := 74) (xs := [x85]) [(0, .agg #[.int .u8 x85.Kind, .bool x85.Purl, iv x85.A, iv x85.B])] 1 [.agg #[.int .u8 x85.Kind, .bool x85.Purl, iv x85.A, iv x85.B]] [.int .u8 x85.Kind, .bool x85.Purl, iv x85.A, iv x85.B] (.agg #[.int .u8 0, .bool false, iv 0, iv 0]) 24 S (wN rfl) rfl rfl Try.underlying70 rfl (by decide) (by decide) (by kernel_rfl) rfl (fun E1 w1 hE => All.cons (r_api_Stitch.mono hE (S.mem.know (i := 1) (e := fRep r_api_Stitch (.agg #[.int .u8 x85.Kind, .bool x85.Purl, iv x85.A, iv x85.B]) x85) rfl)) (All.nil _ _ _)) rfl rfl (lb rfl) fun a w ad92 cp93 S => ?_
  obtain ⟨r94, hx95, h⟩ := bindSome h
  have S1 := S.mem
  have S1 := S1.shutR (r := r_api_Stitch) (T := 74) (v := .slice ad92 [x85].length cp93) (xs := [x85]) 0 rfl
  refine sCallQ (X := Unit) (f := 33) (vs := [.slice ad92 [x85].length cp93]) (val := fun _ => .tuple #[iv r94.1, iv r94.2]) S (wN rfl) rfl callee33 rfl (S1.quiet [0] rfl) (fun E1 w1 S1 => c_stitch_Makes E1 w1 [x85] (.slice ad92 [x85].length cp93) r94 hx95 S1) rfl (lb rfl) fun _ a w S => ?_
  refine sMove (.tuple #[iv r94.1, iv r94.2]) S (wN rfl) (.inl rfl) rfl rfl (lb rfl) fun a S => ?_
  refine sExtract (vs := [iv r94.1, iv r94.2]) (iv r94.1) S (wN rfl) rfl rfl rfl rfl (lb rfl) fun a S => ?_
  refine sExtract (vs := [iv r94.1, iv r94.2]) (iv r94.2) S (wN rfl) rfl rfl rfl rfl (lb rfl) fun a S => ?_
  refine sMove (iv r94.1) S (wN rfl) (.inr rfl) rfl rfl (lb rfl) fun a S => ?_
  refine sMove (iv r94.2) S (wN rfl) (.inr rfl) rfl rfl (lb rfl) fun a S => ?_
  refine leafL (leafT (hK91 _ _ ?_))
  obtain ⟨x96, hx97, h⟩ := bindSome h
  refine sDraw (nf := [12]) (W := [(0, 76, .pointer (some ⟨b26, 0, none⟩)), (1, 77, iv s75), (2, 78, .pointer (some ⟨b90, 0, none⟩)), (3, 79, .int .u8 x85.Kind), (4, 80, .pointer (some ⟨b7, 0, none⟩)), (5, 81, .pointer (some ⟨b7, 0 + (x85.Kind).toNat * 1, none⟩)), (6, 82, iv x96), (7, 83, iv r94.1), (8, 84, iv (if (1 : Int) < r94.1 then r94.1 else 1)), (9, 85, iv (w64 (x96 * (if (1 : Int) < r94.1 then r94.1 else 1)))), (10, 86, iv (w64 (s75 + (w64 (x96 * (if (1 : Int) < r94.1 then r94.1 else 1)))))), (11, 87, .pointer (some ⟨b26, 0, none⟩))]) rfl S ?_
  refine node_by (A := anc_cost_Need_1) (nf := [12]) (Y := []) (W := [(0, 76, .pointer (some ⟨b26, 0, none⟩)), (1, 77, iv s75), (2, 78, .pointer (some ⟨b90, 0, none⟩)), (3, 79, .int .u8 x85.Kind), (4, 80, .pointer (some ⟨b7, 0, none⟩)), (5, 81, .pointer (some ⟨b7, 0 + (x85.Kind).toNat * 1, none⟩)), (6, 82, iv x96), (7, 83, iv r94.1), (8, 84, iv (if (1 : Int) < r94.1 then r94.1 else 1)), (9, 85, iv (w64 (x96 * (if (1 : Int) < r94.1 then r94.1 else 1)))), (10, 86, iv (w64 (s75 + (w64 (x96 * (if (1 : Int) < r94.1 then r94.1 else 1)))))), (11, 87, .pointer (some ⟨b26, 0, none⟩))]) 13 (by kernel_rfl) (by kernel_rfl) (by kernel_rfl) (by kernel_rfl) (by kernel_rfl) [0, 1, 2, 3, 4, 5, 6, 7, 8, 9, 10, 11] (by kernel_rfl) (by decide) (by decide) (aF 0 12 (by decide) ?_ (aF 1 11 (by decide) ?_ (aF 2 10 (by decide) ?_ (aF 3 9 (by decide) ?_ (aF 4 8 (by decide) ?_ (aF 5 7 (by decide) ?_ (aF 6 6 (by decide) ?_ (aF 7 5 (by decide) ?_ (aF 8 4 (by decide) ?_ (aF 9 3 (by decide) ?_ (aF 10 2 (by decide) ?_ (aF 11 1 (by decide) ?_ (aN 12 0 (by decide) ?_ (trivial)))))))))))))) [] (fun q hq => by cases hq) (fun hY => absurd (hY 12 (by decide)) (by decide))
  · refine fI 76 (.pointer (some ⟨b26, 0, none⟩)) [(9, .pointer (some ⟨b26, 0, none⟩))] 0 [none] rfl rfl rfl rfl rfl rfl fun G a w S => ?_
    refine sField (b := b26) (off := 0) 0 0 S (wN rfl) rfl rfl rfl rfl rfl (lb rfl) fun a S => ?_
    exact leafL ⟨rfl, S⟩
  · refine fI 77 (iv s75) [(76, .pointer (some ⟨b26, 0, none⟩))] 1 [some 0] rfl rfl rfl rfl rfl rfl fun G a w S => ?_
    refine sLoad1 (p := b26) (off := 0) (T := 23) (vs := [iv s75, iv o27]) 4 (iv s75) S (wN rfl) rfl rfl rfl rfl rfl rfl (lb rfl) fun a S => ?_
    exact leafL ⟨rfl, S⟩
  · refine fI 78 (.pointer (some ⟨b90, 0, none⟩)) [(15, .pointer (some ⟨b90, 0, none⟩))] 2 [none] rfl rfl rfl rfl rfl rfl fun G a w S => ?_
    refine sField (b := b90) (off := 0) 0 0 S (wN rfl) rfl rfl rfl rfl rfl (lb rfl) fun a S => ?_
    exact leafL ⟨rfl, S⟩
  · refine fI 79 (.int .u8 x85.Kind) [(78, .pointer (some ⟨b90, 0, none⟩))] 3 [some 2] rfl rfl rfl rfl rfl rfl fun G a w S => ?_
    refine sLoad1 (p := b90) (off := 0) (T := 74) (vs := [.int .u8 x85.Kind, .bool x85.Purl, iv x85.A, iv x85.B]) 1 (.int .u8 x85.Kind) S (wN rfl) rfl rfl rfl rfl rfl rfl (lb rfl) fun a S => ?_
    exact leafL ⟨rfl, S⟩
  · refine fI 80 (.pointer (some ⟨b7, 0, none⟩)) [(3, .pointer (some ⟨b7, 0, none⟩))] 4 [none] rfl rfl rfl rfl rfl rfl fun G a w S => ?_
    refine sField (b := b7) (off := 0) 0 0 S (wN rfl) rfl rfl rfl rfl rfl (lb rfl) fun a S => ?_
    exact leafL ⟨rfl, S⟩
  · refine fI 81 (.pointer (some ⟨b7, 0 + (x85.Kind).toNat * 1, none⟩)) [(79, .int .u8 x85.Kind), (80, .pointer (some ⟨b7, 0, none⟩))] 5 [some 3, some 4] rfl rfl rfl rfl rfl rfl fun G a w S => ?_
    refine sIdxV (v := .pointer (some ⟨b7, 0, none⟩)) (k := .u8) (j := x85.Kind) (q := .pointer (some ⟨b7, 0 + (x85.Kind).toNat * 1, none⟩)) S (wN rfl) rfl rfl rfl (idxV_arr (m := 11) (sz := 1) Try.underlying42 rfl (idxO_rng (m := 11) hx97 rfl).1 (idxO_rng (m := 11) hx97 rfl).2 0) rfl (lb rfl) fun a S => ?_
    exact leafL ⟨rfl, S⟩
  · refine fI 82 (iv x96) [(81, .pointer (some ⟨b7, 0 + (x85.Kind).toNat * 1, none⟩))] 6 [some 5] rfl rfl rfl rfl rfl rfl fun G a w S => ?_
    refine sLoad1 (p := b7) (off := 0 + (x85.Kind).toNat * 1) (T := 44) (vs := [iv p1.Length.1, iv p1.Length.2.1, iv p1.Length.2.2.1, iv p1.Length.2.2.2.1, iv p1.Length.2.2.2.2.1, iv p1.Length.2.2.2.2.2.1, iv p1.Length.2.2.2.2.2.2.1, iv p1.Length.2.2.2.2.2.2.2.1, iv p1.Length.2.2.2.2.2.2.2.2.1, iv p1.Length.2.2.2.2.2.2.2.2.2.1, iv p1.Length.2.2.2.2.2.2.2.2.2.2, iv p1.Time.1, iv p1.Time.2.1, iv p1.Time.2.2.1, iv p1.Time.2.2.2.1, iv p1.Time.2.2.2.2.1, iv p1.Time.2.2.2.2.2.1, iv p1.Time.2.2.2.2.2.2.1, iv p1.Time.2.2.2.2.2.2.2.1, iv p1.Time.2.2.2.2.2.2.2.2.1, iv p1.Time.2.2.2.2.2.2.2.2.2.1, iv p1.Time.2.2.2.2.2.2.2.2.2.2, iv p1.Turn]) 2 (iv x96) S (wN rfl) rfl rfl rfl rfl (box_at (g := (fun z => .int .i64 z)) [] [iv p1.Time.1, iv p1.Time.2.1, iv p1.Time.2.2.1, iv p1.Time.2.2.2.1, iv p1.Time.2.2.2.2.1, iv p1.Time.2.2.2.2.2.1, iv p1.Time.2.2.2.2.2.2.1, iv p1.Time.2.2.2.2.2.2.2.1, iv p1.Time.2.2.2.2.2.2.2.2.1, iv p1.Time.2.2.2.2.2.2.2.2.2.1, iv p1.Time.2.2.2.2.2.2.2.2.2.2, iv p1.Turn] 0 hx97 rfl rfl) rfl (lb rfl) fun a S => ?_
    exact leafL ⟨rfl, S⟩
  · refine fI 83 (iv r94.1) [(16, iv r94.1)] 7 [none] rfl rfl rfl rfl rfl rfl fun G a w S => ?_
    refine sMove (iv r94.1) S (wN rfl) (.inl rfl) rfl rfl (lb rfl) fun a S => ?_
    exact leafL ⟨rfl, S⟩
  · refine fI 84 (iv (if (1 : Int) < r94.1 then r94.1 else 1)) [(83, iv r94.1)] 8 [some 7] rfl rfl rfl rfl rfl rfl fun G a w S => ?_
    refine sMax2 (p := 1) (q := r94.1) S (wN rfl) rfl rfl rfl rfl (lb rfl) fun a S => ?_
    exact leafL ⟨rfl, S⟩
  · refine fI 85 (iv (w64 (x96 * (if (1 : Int) < r94.1 then r94.1 else 1)))) [(82, iv x96), (84, iv (if (1 : Int) < r94.1 then r94.1 else 1))] 9 [some 6, some 8] rfl rfl rfl rfl rfl rfl fun G a w S => ?_
    refine sBin (iv (w64 (x96 * (if (1 : Int) < r94.1 then r94.1 else 1)))) S (wN rfl) rfl rfl rfl (bMul _ _ _ _ x96 (if (1 : Int) < r94.1 then r94.1 else 1)) rfl (lb rfl) fun a S => ?_
    exact leafL ⟨rfl, S⟩
  · refine fI 86 (iv (w64 (s75 + (w64 (x96 * (if (1 : Int) < r94.1 then r94.1 else 1)))))) [(77, iv s75), (85, iv (w64 (x96 * (if (1 : Int) < r94.1 then r94.1 else 1))))] 10 [some 1, some 9] rfl rfl rfl rfl rfl rfl fun G a w S => ?_
    refine sBin (iv (w64 (s75 + (w64 (x96 * (if (1 : Int) < r94.1 then r94.1 else 1)))))) S (wN rfl) rfl rfl rfl (bAdd _ _ _ _ s75 (w64 (x96 * (if (1 : Int) < r94.1 then r94.1 else 1)))) rfl (lb rfl) fun a S => ?_
    exact leafL ⟨rfl, S⟩
  · refine fI 87 (.pointer (some ⟨b26, 0, none⟩)) [(9, .pointer (some ⟨b26, 0, none⟩))] 11 [none] rfl rfl rfl rfl rfl rfl fun G a w S => ?_
    refine sField (b := b26) (off := 0) 0 0 S (wN rfl) rfl rfl rfl rfl rfl (lb rfl) fun a S => ?_
    exact leafL ⟨rfl, S⟩
  refine ⟨_, [(86, iv (w64 (s75 + (w64 (x96 * (if (1 : Int) < r94.1 then r94.1 else 1)))))), (87, .pointer (some ⟨b26, 0, none⟩))], rfl, (srcs_of [some 10, some 11] rfl rfl rfl), fun G a w S => ?_⟩
  refine sStore (p := b26) (off := 0) (T := 23) (vs := [iv s75, iv o27]) (v := iv (w64 (s75 + (w64 (x96 * (if (1 : Int) < r94.1 then r94.1 else 1)))))) 4 [iv (w64 (s75 + (w64 (x96 * (if (1 : Int) < r94.1 then r94.1 else 1)))))] S (wN rfl) rfl rfl rfl rfl rfl rfl rfl (by simp) rfl fun a w S => ?_
  refine leafL ⟨rfl, _, _, .inr ⟨[], rfl, S, hz_of rfl, ?_⟩⟩
  refine node_by (A := anc_cost_Need_1) (nf := [12]) (Y := [12]) 13 (by kernel_rfl) (by kernel_rfl) (by kernel_rfl) (by kernel_rfl) (by kernel_rfl) [0, 1, 2, 3, 4, 5, 6, 7, 8, 9, 10, 11] (by kernel_rfl) (by decide) (by decide) (aD 0 12 12 (by decide) (aD 1 11 12 (by decide) (aD 2 10 12 (by decide) (aD 3 9 12 (by decide) (aD 4 8 12 (by decide) (aD 5 7 12 (by decide) (aD 6 6 12 (by decide) (aD 7 5 12 (by decide) (aD 8 4 12 (by decide) (aD 9 3 12 (by decide) (aD 10 2 12 (by decide) (aD 11 1 12 (by decide) (aY 12 0 (by decide) (trivial)))))))))))))) [(3, .pointer (some ⟨b7, 0, none⟩)), (4, .pointer (some ⟨b8, 0, none⟩)), (9, .pointer (some ⟨b26, 0, none⟩)), (57, .slice ad3 p0.Rows.length cp4), (58, iv (p0.Rows.length : Int)), (59, iv s50), (64, .slice ad70 x63.Cells.length cp71), (65, iv (x63.Cells.length : Int)), (66, iv s74)] (fin_of [none, none, none, none, none, none, none, none, none] rfl (by kernel_rfl) (by kernel_rfl)) (fun _ a w S => ?_)
  refine leafB (leafT (hK83 _ _ ?_))
  refine sRegion ?_
  refine sBin (iv (w64 (s74 + 1))) S (wN rfl) rfl rfl rfl (bAdd _ _ _ _ s74 1) rfl (lb rfl) fun a S => ?_
  refine sMove (iv (w64 (s74 + 1))) S (wN rfl) (.inl rfl) rfl rfl (lb rfl) fun a S => ?_
  exact leafL (leafT (⟨(w64 (s74 + 1), w64 (s75 + (w64 (x96 * (if (1 : Int) < r94.1 then r94.1 else 1))))), (Option.some.inj h).symm, (S.fix [3, 4, 0] [3, 4] (by decide) rfl rfl rfl)⟩))

end Go.Proofs.Ytdbgkakmhlmpbaa
namespace Go.Proofs.Ytdbgkakmhlmpbaa
open Go.RowKit
set_option linter.unusedVariables false

noncomputable def F_raddleref45_in (p0 : Int) : Option Bool :=
  Option.bind (α := Bool) (
    if decide (0 ≤ p0) then
      some (decide (p0 ≤ 1000000))
    else
      some false) fun o2 =>
  some o2
set_option maxHeartbeats 4000000 in
set_option maxRecDepth 100000 in
theorem c_raddleref45_in (E : Nat → Prop) (w0 : World) (p0 : Int) (r : Bool) (h : F_raddleref45_in p0 = some r) (S : St0 E [] w0 w0 [] []) :
    Calls Try.prog 43 #[iv p0] w0 (Ret (X := Unit) E [] w0 (fun _ => .bool r) (fun _ => []) (fun _ => [])) := by
  unfold F_raddleref45_in at h
  refine sEnter (args := [iv p0]) 9 Try.func43 rfl rfl (by simp) S (fun a S => ?_)
  refine sSeq (fun K1 hK1 => ?_)
  refine sRegion ?_
  refine sMove (.bool false) S (wN rfl) (.inr rfl) rfl rfl (lb rfl) fun a S => ?_
  refine leafL (leafT (hK1 _ _ ?_))
  obtain ⟨t3, h, g4⟩ := bindSome h
  refine sCut (fun a w => ∃ o2, o2 = t3 ∧ St [] E [] w0 9 a w [(2, .bool o2)] [] []) ?_ (fun a w hI => ?_)
  rotate_left
  · obtain ⟨o2, rfl, S⟩ := hI
    have h := g4
    clear g4
    try dsimp only at h
    obtain rfl := Option.some.inj h
    exact wp_ret (sRet (.bool o2) S (rsl1 rfl (rvT (t := 2) (v := .bool o2) S rfl)) ⟨(), rfl, S.mem.sel [] [] (by decide) rfl rfl⟩)
  refine sRegion ?_
  refine sMove (iv p0) S (wN rfl) (.inl rfl) rfl rfl (lb rfl) fun a S => ?_
  refine sBin (.bool (decide (0 ≤ p0))) S (wN rfl) rfl rfl rfl (bGe _ _ _ _ .i64 p0 0) rfl (lb rfl) fun a S => ?_
  refine sMove (.bool (decide (0 ≤ p0))) S (wN rfl) (.inl rfl) rfl rfl (lb rfl) fun a S => ?_
  rcases iteSome h with ⟨hc5, h⟩ | ⟨hc5, h⟩
  rotate_left
  · refine sSkip 2 true 5 6 S rfl rfl rfl hc5 rfl (lb rfl) fun a S => ?_
    refine sSkip 2 true 5 7 S rfl rfl rfl hc5 rfl (lb rfl) fun a S => ?_
    refine sPickF (.bool false) S (wN rfl) rfl rfl hc5 rfl rfl (lb rfl) fun a S => ?_
    refine sMove (.bool false) S (wN rfl) (.inr rfl) rfl rfl (lb rfl) fun a S => ?_
    exact leafL (leafT (⟨false, Option.some.inj h, S.fix [] [] (by decide) rfl rfl rfl⟩))
  refine sMove (iv p0) S (wG 2 true 5 rfl rfl rfl hc5) (.inl rfl) rfl rfl (lb rfl) fun a S => ?_
  refine sBin (.bool (decide (p0 ≤ 1000000))) S (wG 2 true 5 rfl rfl rfl hc5) rfl rfl rfl (bLe _ _ _ _ .i64 p0 1000000) rfl (lb rfl) fun a S => ?_
  refine sPickT (.bool (decide (p0 ≤ 1000000))) S (wN rfl) rfl rfl hc5 rfl rfl (lb rfl) fun a S => ?_
  refine sMove (.bool (decide (p0 ≤ 1000000))) S (wN rfl) (.inr rfl) rfl rfl (lb rfl) fun a S => ?_
  exact leafL (leafT (⟨decide (p0 ≤ 1000000), Option.some.inj h, S.fix [] [] (by decide) rfl rfl rfl⟩))

end Go.Proofs.Ytdbgkakmhlmpbaa
namespace Go.Proofs.Ytdbgkakmhlmpbaa
open Go.RowKit
set_option linter.unusedVariables false

noncomputable def raddleref45_Check_l1 (p0 : api_Rates) : Int → Option (Int ⊕ (Int ⊕ Unit)) := fun s0 => match s0 with
  | s6 =>
    if decide (s6 < 11) then
      Option.bind (α := Bool) (
        Option.bind (idxO ([p0.Length.1, p0.Length.2.1, p0.Length.2.2.1, p0.Length.2.2.2.1, p0.Length.2.2.2.2.1, p0.Length.2.2.2.2.2.1, p0.Length.2.2.2.2.2.2.1, p0.Length.2.2.2.2.2.2.2.1, p0.Length.2.2.2.2.2.2.2.2.1, p0.Length.2.2.2.2.2.2.2.2.2.1, p0.Length.2.2.2.2.2.2.2.2.2.2] : List Int) s6) fun x17 =>
        Option.bind (F_raddleref45_in x17) fun r19 =>
        if !r19 then
          some true
        else
          Option.bind (idxO ([p0.Time.1, p0.Time.2.1, p0.Time.2.2.1, p0.Time.2.2.2.1, p0.Time.2.2.2.2.1, p0.Time.2.2.2.2.2.1, p0.Time.2.2.2.2.2.2.1, p0.Time.2.2.2.2.2.2.2.1, p0.Time.2.2.2.2.2.2.2.2.1, p0.Time.2.2.2.2.2.2.2.2.2.1, p0.Time.2.2.2.2.2.2.2.2.2.2] : List Int) s6) fun x22 =>
          Option.bind (F_raddleref45_in x22) fun r24 =>
          some (!r24)) fun o14 =>
      if o14 then
        some (.inr (.inl 8))
      else
        some (.inl (w64 (s6 + 1)))
    else
      some (.inr (.inr ()))
noncomputable def F_raddleref45_Check (p0 : api_Rates) : Option Int :=
  Option.bind (α := Unit ⊕ Int) (
    Option.bind (whileO (raddleref45_Check_l1 p0) 0) fun z0 => match z0 with
      | .inl z =>
        some (.inr z)
      | .inr _ =>
        some (.inl ())) fun z0 => match z0 with
    | .inl _ =>
      Option.bind (α := Bool) (
        Option.bind (F_raddleref45_in p0.Turn) fun r32 =>
        if !r32 then
          some true
        else
          if p0.Length.1 != 0 then
            some true
          else
            some (p0.Time.1 != 0)) fun o29 =>
      if o29 then
        some 8
      else
        some 0
    | .inr z =>
      some z
set_option maxHeartbeats 4000000 in
set_option maxRecDepth 100000 in
theorem c_raddleref45_Check (E : Nat → Prop) (w0 : World) (p0 : api_Rates) (v0 : Value) (r : Int) (h : F_raddleref45_Check p0 = some r) (S : St0 E [] w0 w0 [] [fRep r_api_Rates (v0) p0]) :
    Calls Try.prog 23 #[v0] w0 (Ret (X := Unit) E [] w0 (fun _ => .int .i64 r) (fun _ => []) (fun _ => [])) := by
  unfold F_raddleref45_Check at h
  obtain rfl : v0 = gv_api_Rates p0 := S.know (i := 0) (e := fRep r_api_Rates (v0) p0) rfl
  refine sEnter (args := [gv_api_Rates p0]) 38 Try.func23 rfl rfl (by simp) S (fun a S => ?_)
  refine sSeq (fun K1 hK1 => ?_)
  refine sRegion ?_
  refine sBox (v := gv_api_Rates p0) S (wN rfl) rfl rfl (gl_api_Rates p0) rfl rfl (lb rfl) fun a b2 w S => ?_
  refine sMove (iv 0) S (wN rfl) (.inr rfl) rfl rfl (lb rfl) fun a S => ?_
  refine leafL (leafT (hK1 _ _ ?_))
  obtain ⟨t3, h, g4⟩ := bindSome h
  refine sCut (fun a w => .inl () = t3 ∧ St [] E [] w0 38 a w [(1, .pointer (some ⟨b2, 0, none⟩))] [eBox b2 44 (gl_api_Rates p0)] []) ?_ (fun a w hI => ?_)
  rotate_left
  · obtain ⟨rfl, S⟩ := hI
    have h := g4
    clear g4
    try dsimp only at h
    refine sSeq (fun K28 hK28 => ?_)
    obtain ⟨t30, h, g31⟩ := bindSome h
    refine sCut (fun a w => ∃ o29, o29 = t30 ∧ St [] E [] w0 38 a w [(37, .bool o29)] [] []) ?_ (fun a w hI => ?_)
    rotate_left
    · obtain ⟨o29, rfl, S⟩ := hI
      have h := g31
      clear g31
      try dsimp only at h
      rcases iteSome h with ⟨hc36, h⟩ | ⟨hc36, h⟩
      · refine sCondT S rfl hc36 ?_
        refine sSeq (fun K37 hK37 => ?_)
        refine sRegion ?_
        refine sMove (iv 8) S (wN rfl) (.inr rfl) rfl rfl (lb rfl) fun a S => ?_
        refine leafL (leafT (hK37 _ _ ?_))
        obtain rfl := Option.some.inj h
        exact wp_ret (rThen (sRet (iv 8) S (rsl1 rfl (rvT (t := 2) (v := iv 8) S rfl)) ⟨(), rfl, S.mem.sel [] [] (by decide) rfl rfl⟩))
      refine sCondF S rfl hc36 ?_
      refine wp_skip (leafT (hK28 _ _ ?_))
      refine sSeq (fun K38 hK38 => ?_)
      refine sRegion ?_
      refine sMove (iv 0) S (wN rfl) (.inr rfl) rfl rfl (lb rfl) fun a S => ?_
      refine leafL (leafT (hK38 _ _ ?_))
      obtain rfl := Option.some.inj h
      exact wp_ret (sRet (iv 0) S (rsl1 rfl (rvT (t := 2) (v := iv 0) S rfl)) ⟨(), rfl, S.mem.sel [] [] (by decide) rfl rfl⟩)
    refine sRegion ?_
    refine sField (b := b2) (off := 0) 22 22 S (wN rfl) rfl rfl rfl rfl rfl (lb rfl) fun a S => ?_
    refine sLoad1 (p := b2) (off := 22) (T := 44) (vs := (gl_api_Rates p0)) 0 (iv p0.Turn) S (wN rfl) rfl rfl rfl rfl rfl rfl (lb rfl) fun a S => ?_
    obtain ⟨r32, hx33, h⟩ := bindSome h
    have S1 := S.mem
    refine sCallQ (X := Unit) (f := 43) (vs := [iv p0.Turn]) (val := fun _ => .bool r32) S (wN rfl) rfl callee43 rfl (S1.quiet [] rfl) (fun E1 w1 S1 => c_raddleref45_in E1 w1 p0.Turn r32 hx33 S1) rfl (lb rfl) fun _ a w S => ?_
    refine sNot (b := r32) S (wN rfl) rfl rfl rfl (lb rfl) fun a S => ?_
    refine sMove (.bool (!r32)) S (wN rfl) (.inl rfl) rfl rfl (lb rfl) fun a S => ?_
    rcases iteSome h with ⟨hc34, h⟩ | ⟨hc34, h⟩
    · refine sSkip 4 false 26 27 S rfl rfl rfl hc34 rfl (lb rfl) fun a S => ?_
      refine sSkip 4 false 26 28 S rfl rfl rfl hc34 rfl (lb rfl) fun a S => ?_
      refine sSkip 4 false 26 29 S rfl rfl rfl hc34 rfl (lb rfl) fun a S => ?_
      refine sSkip 4 false 26 30 S rfl rfl rfl hc34 rfl (lb rfl) fun a S => ?_
      refine sPickT (.bool true) S (wN rfl) rfl rfl hc34 rfl rfl (lb rfl) fun a S => ?_
      refine sMove (.bool true) S (wN rfl) (.inl rfl) rfl rfl (lb rfl) fun a S => ?_
      refine sSkip 10 false 32 33 S rfl rfl rfl rfl rfl (lb rfl) fun a S => ?_
      refine sSkip 10 false 32 34 S rfl rfl rfl rfl rfl (lb rfl) fun a S => ?_
      refine sSkip 10 false 32 35 S rfl rfl rfl rfl rfl (lb rfl) fun a S => ?_
      refine sSkip 10 false 32 36 S rfl rfl rfl rfl rfl (lb rfl) fun a S => ?_
      refine sPickT (.bool true) S (wN rfl) rfl rfl rfl rfl rfl (lb rfl) fun a S => ?_
      exact leafL (leafT (⟨true, Option.some.inj h, S.fix [] [] (by decide) rfl rfl rfl⟩))
    refine sField (b := b2) (off := 0) 0 0 S (wG 4 false 26 rfl rfl rfl hc34) rfl rfl rfl rfl rfl (lb rfl) fun a S => ?_
    refine sIdxV (v := .pointer (some ⟨b2, 0, none⟩)) (k := .i64) (j := 0) (q := .pointer (some ⟨b2, 0, none⟩)) S (wG 4 false 26 rfl rfl rfl hc34) rfl rfl rfl (idxV_arr (m := 11) (sz := 1) Try.underlying42 rfl (by decide) (by decide) 0) rfl (lb rfl) fun a S => ?_
    refine sLoad1 (p := b2) (off := 0) (T := 44) (vs := (gl_api_Rates p0)) 0 (iv p0.Length.1) S (wG 4 false 26 rfl rfl rfl hc34) rfl rfl rfl rfl rfl rfl (lb rfl) fun a S => ?_
    refine sBin (.bool (p0.Length.1 != 0)) S (wG 4 false 26 rfl rfl rfl hc34) rfl rfl rfl (bNe _ _ _ _ .i64 p0.Length.1 0) rfl (lb rfl) fun a S => ?_
    refine sPickF (.bool (p0.Length.1 != 0)) S (wN rfl) rfl rfl hc34 rfl rfl (lb rfl) fun a S => ?_
    refine sMove (.bool (p0.Length.1 != 0)) S (wN rfl) (.inl rfl) rfl rfl (lb rfl) fun a S => ?_
    rcases iteSome h with ⟨hc35, h⟩ | ⟨hc35, h⟩
    · refine sSkip 10 false 32 33 S rfl rfl rfl hc35 rfl (lb rfl) fun a S => ?_
      refine sSkip 10 false 32 34 S rfl rfl rfl hc35 rfl (lb rfl) fun a S => ?_
      refine sSkip 10 false 32 35 S rfl rfl rfl hc35 rfl (lb rfl) fun a S => ?_
      refine sSkip 10 false 32 36 S rfl rfl rfl hc35 rfl (lb rfl) fun a S => ?_
      refine sPickT (.bool true) S (wN rfl) rfl rfl hc35 rfl rfl (lb rfl) fun a S => ?_
      exact leafL (leafT (⟨true, Option.some.inj h, S.fix [] [] (by decide) rfl rfl rfl⟩))
    refine sField (b := b2) (off := 0) 11 11 S (wG 10 false 32 rfl rfl rfl hc35) rfl rfl rfl rfl rfl (lb rfl) fun a S => ?_
    refine sIdxV (v := .pointer (some ⟨b2, 11, none⟩)) (k := .i64) (j := 0) (q := .pointer (some ⟨b2, 11, none⟩)) S (wG 10 false 32 rfl rfl rfl hc35) rfl rfl rfl (idxV_arr (m := 11) (sz := 1) Try.underlying42 rfl (by decide) (by decide) 11) rfl (lb rfl) fun a S => ?_
    refine sLoad1 (p := b2) (off := 11) (T := 44) (vs := (gl_api_Rates p0)) 0 (iv p0.Time.1) S (wG 10 false 32 rfl rfl rfl hc35) rfl rfl rfl rfl rfl rfl (lb rfl) fun a S => ?_
    refine sBin (.bool (p0.Time.1 != 0)) S (wG 10 false 32 rfl rfl rfl hc35) rfl rfl rfl (bNe _ _ _ _ .i64 p0.Time.1 0) rfl (lb rfl) fun a S => ?_
    refine sPickF (.bool (p0.Time.1 != 0)) S (wN rfl) rfl rfl hc35 rfl rfl (lb rfl) fun a S => ?_
    exact leafL (leafT (⟨p0.Time.1 != 0, Option.some.inj h, S.fix [] [] (by decide) rfl rfl rfl⟩))
  refine sSeq (fun K5 hK5 => ?_)
  refine sRegion ?_
  refine sMove (iv 0) S (wN rfl) (.inr rfl) rfl rfl (lb rfl) fun a S => ?_
  refine leafL (leafT (hK5 _ _ ?_))
  refine wp_block ?_
  obtain ⟨t9, hl, g8⟩ := bindSome h
  refine sLoop hl (fun s0 a w => match s0 with | s6 => St [] E [] w0 38 a w [(1, .pointer (some ⟨b2, 0, none⟩)), (3, iv s6)] [eBox b2 44 (gl_api_Rates p0)] []) (S.fix [0] [] (by decide) rfl rfl rfl) ?_
  clear hl h
  intro s6 a w c0 hI h hu7
  unfold raddleref45_Check_l1 at h
  dsimp only at h hI
  have S := hI
  refine sSeq (fun K10 hK10 => ?_)
  refine sSeq (fun K11 hK11 => ?_)
  refine sRegion ?_
  refine sMove (iv s6) S (wN rfl) (.inl rfl) rfl rfl (lb rfl) fun a S => ?_
  refine sBin (.bool (decide (s6 < 11))) S (wN rfl) rfl rfl rfl (bLt _ _ _ _ .i64 s6 11) rfl (lb rfl) fun a S => ?_
  refine leafL (leafT (hK11 _ _ ?_))
  rcases iteSome h with ⟨hc12, h⟩ | ⟨hc12, h⟩
  rotate_left
  · refine sCondF S rfl hc12 ?_
    obtain rfl := Option.some.inj h
    obtain rfl := hu7 _ rfl
    have h := g8
    clear g8
    try dsimp only at h
    exact wp_exit (xThen (xThen (xHit (leafT (⟨Option.some.inj h, S.fix [0] [] (by decide) rfl rfl rfl⟩)))))
  refine sCondT S rfl hc12 ?_
  refine wp_skip (leafT (hK10 _ _ ?_))
  refine sSeq (fun K13 hK13 => ?_)
  refine wp_block ?_
  obtain ⟨t15, h, g16⟩ := bindSome h
  refine sCut (fun a w => ∃ o14, o14 = t15 ∧ St [] E [] w0 38 a w [(1, .pointer (some ⟨b2, 0, none⟩)), (3, iv s6), (21, .bool o14)] [eBox b2 44 (gl_api_Rates p0)] []) ?_ (fun a w hI => ?_)
  rotate_left
  · obtain ⟨o14, rfl, S⟩ := hI
    have h := g16
    clear g16
    try dsimp only at h
    rcases iteSome h with ⟨hc26, h⟩ | ⟨hc26, h⟩
    rotate_left
    · refine sCondF S rfl hc26 ?_
      refine wp_skip (leafB (leafT (hK13 _ _ ?_)))
      refine sRegion ?_
      refine sMove (iv s6) S (wN rfl) (.inl rfl) rfl rfl (lb rfl) fun a S => ?_
      refine sBin (iv (w64 (s6 + 1))) S (wN rfl) rfl rfl rfl (bAdd _ _ _ _ s6 1) rfl (lb rfl) fun a S => ?_
      refine sMove (iv (w64 (s6 + 1))) S (wN rfl) (.inr rfl) rfl rfl (lb rfl) fun a S => ?_
      exact leafL (leafT (⟨w64 (s6 + 1), (Option.some.inj h).symm, (S.fix [0] [] (by decide) rfl rfl rfl)⟩))
    refine sCondT S rfl hc26 ?_
    refine sSeq (fun K27 hK27 => ?_)
    refine sRegion ?_
    refine sMove (iv 8) S (wN rfl) (.inr rfl) rfl rfl (lb rfl) fun a S => ?_
    refine leafL (leafT (hK27 _ _ ?_))
    obtain rfl := Option.some.inj h
    obtain rfl := hu7 _ rfl
    have h := g8
    clear g8
    try dsimp only at h
    obtain rfl := Option.some.inj h
    have h := g4
    clear g4
    try dsimp only at h
    obtain rfl := Option.some.inj h
    exact wp_ret (rBlock (rThen (rThen (rBlock (rThen (sRet (iv 8) S (rsl1 rfl (rvT (t := 2) (v := iv 8) S rfl)) ⟨(), rfl, S.mem.sel [] [] (by decide) rfl rfl⟩))))))
  refine sRegion ?_
  refine sMove (iv s6) S (wN rfl) (.inl rfl) rfl rfl (lb rfl) fun a S => ?_
  refine sField (b := b2) (off := 0) 0 0 S (wN rfl) rfl rfl rfl rfl rfl (lb rfl) fun a S => ?_
  obtain ⟨x17, hx18, h⟩ := bindSome h
  refine sIdxV (v := .pointer (some ⟨b2, 0, none⟩)) (k := .i64) (j := s6) (q := .pointer (some ⟨b2, 0 + (s6).toNat * 1, none⟩)) S (wN rfl) rfl rfl rfl (idxV_arr (m := 11) (sz := 1) Try.underlying42 rfl (idxO_rng (m := 11) hx18 rfl).1 (idxO_rng (m := 11) hx18 rfl).2 0) rfl (lb rfl) fun a S => ?_
  refine sLoad1 (p := b2) (off := 0 + (s6).toNat * 1) (T := 44) (vs := [iv p0.Length.1, iv p0.Length.2.1, iv p0.Length.2.2.1, iv p0.Length.2.2.2.1, iv p0.Length.2.2.2.2.1, iv p0.Length.2.2.2.2.2.1, iv p0.Length.2.2.2.2.2.2.1, iv p0.Length.2.2.2.2.2.2.2.1, iv p0.Length.2.2.2.2.2.2.2.2.1, iv p0.Length.2.2.2.2.2.2.2.2.2.1, iv p0.Length.2.2.2.2.2.2.2.2.2.2, iv p0.Time.1, iv p0.Time.2.1, iv p0.Time.2.2.1, iv p0.Time.2.2.2.1, iv p0.Time.2.2.2.2.1, iv p0.Time.2.2.2.2.2.1, iv p0.Time.2.2.2.2.2.2.1, iv p0.Time.2.2.2.2.2.2.2.1, iv p0.Time.2.2.2.2.2.2.2.2.1, iv p0.Time.2.2.2.2.2.2.2.2.2.1, iv p0.Time.2.2.2.2.2.2.2.2.2.2, iv p0.Turn]) 0 (iv x17) S (wN rfl) rfl rfl rfl rfl (box_at (g := (fun z => .int .i64 z)) [] [iv p0.Time.1, iv p0.Time.2.1, iv p0.Time.2.2.1, iv p0.Time.2.2.2.1, iv p0.Time.2.2.2.2.1, iv p0.Time.2.2.2.2.2.1, iv p0.Time.2.2.2.2.2.2.1, iv p0.Time.2.2.2.2.2.2.2.1, iv p0.Time.2.2.2.2.2.2.2.2.1, iv p0.Time.2.2.2.2.2.2.2.2.2.1, iv p0.Time.2.2.2.2.2.2.2.2.2.2, iv p0.Turn] 0 hx18 rfl rfl) rfl (lb rfl) fun a S => ?_
  obtain ⟨r19, hx20, h⟩ := bindSome h
  have S1 := S.mem
  refine sCallQ (X := Unit) (f := 43) (vs := [iv x17]) (val := fun _ => .bool r19) S (wN rfl) rfl callee43 rfl (S1.quiet [] rfl) (fun E1 w1 S1 => c_raddleref45_in E1 w1 x17 r19 hx20 S1) rfl (lb rfl) fun _ a w S => ?_
  refine sNot (b := r19) S (wN rfl) rfl rfl rfl (lb rfl) fun a S => ?_
  refine sMove (.bool (!r19)) S (wN rfl) (.inl rfl) rfl rfl (lb rfl) fun a S => ?_
  rcases iteSome h with ⟨hc21, h⟩ | ⟨hc21, h⟩
  · refine sSkip 6 false 14 15 S rfl rfl rfl hc21 rfl (lb rfl) fun a S => ?_
    refine sSkip 6 false 14 16 S rfl rfl rfl hc21 rfl (lb rfl) fun a S => ?_
    refine sSkip 6 false 14 17 S rfl rfl rfl hc21 rfl (lb rfl) fun a S => ?_
    refine sSkip 6 false 14 18 S rfl rfl rfl hc21 rfl (lb rfl) fun a S => ?_
    refine sSkip 6 false 14 19 S rfl rfl rfl hc21 rfl (lb rfl) fun a S => ?_
    refine sSkip 6 false 14 20 S rfl rfl rfl hc21 rfl (lb rfl) fun a S => ?_
    refine sPickT (.bool true) S (wN rfl) rfl rfl hc21 rfl rfl (lb rfl) fun a S => ?_
    exact leafL (leafT (⟨true, Option.some.inj h, S.fix [0] [] (by decide) rfl rfl rfl⟩))
  refine sMove (iv s6) S (wG 6 false 14 rfl rfl rfl hc21) (.inl rfl) rfl rfl (lb rfl) fun a S => ?_
  refine sField (b := b2) (off := 0) 11 11 S (wG 6 false 14 rfl rfl rfl hc21) rfl rfl rfl rfl rfl (lb rfl) fun a S => ?_
  obtain ⟨x22, hx23, h⟩ := bindSome h
  refine sIdxV (v := .pointer (some ⟨b2, 11, none⟩)) (k := .i64) (j := s6) (q := .pointer (some ⟨b2, 11 + (s6).toNat * 1, none⟩)) S (wG 6 false 14 rfl rfl rfl hc21) rfl rfl rfl (idxV_arr (m := 11) (sz := 1) Try.underlying42 rfl (idxO_rng (m := 11) hx23 rfl).1 (idxO_rng (m := 11) hx23 rfl).2 11) rfl (lb rfl) fun a S => ?_
  refine sLoad1 (p := b2) (off := 11 + (s6).toNat * 1) (T := 44) (vs := [iv p0.Length.1, iv p0.Length.2.1, iv p0.Length.2.2.1, iv p0.Length.2.2.2.1, iv p0.Length.2.2.2.2.1, iv p0.Length.2.2.2.2.2.1, iv p0.Length.2.2.2.2.2.2.1, iv p0.Length.2.2.2.2.2.2.2.1, iv p0.Length.2.2.2.2.2.2.2.2.1, iv p0.Length.2.2.2.2.2.2.2.2.2.1, iv p0.Length.2.2.2.2.2.2.2.2.2.2, iv p0.Time.1, iv p0.Time.2.1, iv p0.Time.2.2.1, iv p0.Time.2.2.2.1, iv p0.Time.2.2.2.2.1, iv p0.Time.2.2.2.2.2.1, iv p0.Time.2.2.2.2.2.2.1, iv p0.Time.2.2.2.2.2.2.2.1, iv p0.Time.2.2.2.2.2.2.2.2.1, iv p0.Time.2.2.2.2.2.2.2.2.2.1, iv p0.Time.2.2.2.2.2.2.2.2.2.2, iv p0.Turn]) 0 (iv x22) S (wG 6 false 14 rfl rfl rfl hc21) rfl rfl rfl rfl (box_at (g := (fun z => .int .i64 z)) [iv p0.Length.1, iv p0.Length.2.1, iv p0.Length.2.2.1, iv p0.Length.2.2.2.1, iv p0.Length.2.2.2.2.1, iv p0.Length.2.2.2.2.2.1, iv p0.Length.2.2.2.2.2.2.1, iv p0.Length.2.2.2.2.2.2.2.1, iv p0.Length.2.2.2.2.2.2.2.2.1, iv p0.Length.2.2.2.2.2.2.2.2.2.1, iv p0.Length.2.2.2.2.2.2.2.2.2.2] [iv p0.Turn] 11 hx23 rfl rfl) rfl (lb rfl) fun a S => ?_
  obtain ⟨r24, hx25, h⟩ := bindSome h
  have S1 := S.mem
  refine sCallQ (X := Unit) (f := 43) (vs := [iv x22]) (val := fun _ => .bool r24) S (wG 6 false 14 rfl rfl rfl hc21) rfl callee43 rfl (S1.quiet [] rfl) (fun E1 w1 S1 => c_raddleref45_in E1 w1 x22 r24 hx25 S1) rfl (lb rfl) fun _ a w S => ?_
  refine sNot (b := r24) S (wG 6 false 14 rfl rfl rfl hc21) rfl rfl rfl (lb rfl) fun a S => ?_
  refine sPickF (.bool (!r24)) S (wN rfl) rfl rfl hc21 rfl rfl (lb rfl) fun a S => ?_
  exact leafL (leafT (⟨!r24, Option.some.inj h, S.fix [0] [] (by decide) rfl rfl rfl⟩))

end Go.Proofs.Ytdbgkakmhlmpbaa
namespace Go.Proofs.Ytdbgkakmhlmpbaa
open Go.RowKit
set_option linter.unusedVariables false

def anc_raddleref45_Need_0 : List (List Nat) := [[], [0], [], [2], [], [2, 3, 4], [2, 3, 4, 5], [], [7], [7, 8], [2, 3, 4, 5, 6, 7, 8, 9], [0, 1, 2, 3, 4, 5, 6, 7, 8, 9, 10], [0, 1, 2, 3, 4, 5, 6, 7, 8, 9, 10, 11], [0, 1, 2, 3, 4, 5, 6, 7, 8, 9, 10, 11, 12]]
def anc_raddleref45_Need_1 : List (List Nat) := [[], [0], [], [2], [], [2, 3, 4], [2, 3, 4, 5], [0, 1, 2, 3, 4, 5, 6], [0, 1, 2, 3, 4, 5, 6, 7], [0, 1, 2, 3, 4, 5, 6, 7, 8]]
noncomputable def raddleref45_Need_l1 (p0 : api_Chart) (s29 : Int) (p1 : api_Rates) : (Int × Int × Int) → Option ((Int × Int × Int) ⊕ (Int × Int)) := fun s0 => match s0 with
  | (s46, s47, s48) =>
    Option.bind (idxO p0.Rows s29) fun x56 =>
    if decide (s46 < (x56.Cells.length : Int)) then
      Option.bind (idxO x56.Cells s46) fun x75 =>
      Option.bind (idxO ([p1.Length.1, p1.Length.2.1, p1.Length.2.2.1, p1.Length.2.2.2.1, p1.Length.2.2.2.2.1, p1.Length.2.2.2.2.2.1, p1.Length.2.2.2.2.2.2.1, p1.Length.2.2.2.2.2.2.2.1, p1.Length.2.2.2.2.2.2.2.2.1, p1.Length.2.2.2.2.2.2.2.2.2.1, p1.Length.2.2.2.2.2.2.2.2.2.2] : List Int) x75.Kind) fun x82 =>
      Option.bind (F_raddleref25_Gives x75) fun r84 =>
      Option.bind (idxO ([p1.Time.1, p1.Time.2.1, p1.Time.2.2.1, p1.Time.2.2.2.1, p1.Time.2.2.2.2.1, p1.Time.2.2.2.2.2.1, p1.Time.2.2.2.2.2.2.1, p1.Time.2.2.2.2.2.2.2.1, p1.Time.2.2.2.2.2.2.2.2.1, p1.Time.2.2.2.2.2.2.2.2.2.1, p1.Time.2.2.2.2.2.2.2.2.2.2] : List Int) x75.Kind) fun x86 =>
      some (.inl (w64 (s46 + 1), w64 (s47 + (w64 (x82 * (if (1 : Int) < r84 then r84 else 1)))), w64 (s48 + x86)))
    else
      some (.inr (s47, s48))
noncomputable def raddleref45_Need_l2 (p0 : api_Chart) (p1 : api_Rates) : (Int × Int × Int) → Option ((Int × Int × Int) ⊕ (Int × Int)) := fun s0 => match s0 with
  | (s29, s30, s31) =>
    if decide (s29 < (p0.Rows.length : Int)) then
      Option.bind (α := (Int × Int)) (
        Option.bind (whileO (raddleref45_Need_l1 p0 s29 p1) (0, s30, w64 (s31 + p1.Turn))) fun (e52, e53) =>
          some (e52, e53)) fun (o40, o41) =>
      some (.inl (w64 (s29 + 1), o40, o41))
    else
      some (.inr (s30, s31))
noncomputable def F_raddleref45_Need (p0 : api_Chart) (p1 : api_Rates) : Option (api_Bill × Int) :=
  Option.bind (F_raddleref26_Check p0) fun r11 =>
  if r11 != 0 then
    some ((api_Bill.mk 0 0), r11)
  else
    Option.bind (F_raddleref45_Check p1) fun r18 =>
    if r18 != 0 then
      some ((api_Bill.mk 0 0), 8)
    else
      Option.bind (α := (Int × Int)) (
        Option.bind (whileO (raddleref45_Need_l2 p0 p1) (0, 0, 0)) fun (e35, e36) =>
          some (e35, e36)) fun (o24, o25) =>
      some ((api_Bill.mk o24 o25), 0)
def c_raddleref45_Need_val (r : (api_Bill × Int)) (x : Value) : Value := .tuple #[x, .int .i64 r.2]
def c_raddleref45_Need_D (r : (api_Bill × Int)) (x : Value) : List Fact := [fRep r_api_Bill x r.1]
set_option maxHeartbeats 4000000 in
set_option maxRecDepth 100000 in
theorem c_raddleref45_Need (E : Nat → Prop) (w0 : World) (p0 : api_Chart) (v0 : Value) (p1 : api_Rates) (v1 : Value) (r : (api_Bill × Int)) (h : F_raddleref45_Need p0 p1 = some r) (S : St0 E [] w0 w0 [] [fRep r_api_Chart (v0) p0, fRep r_api_Rates (v1) p1]) :
    Calls Try.prog 19 #[v0, v1] w0 (Ret (X := Value) E [] w0 (c_raddleref45_Need_val r) (fun _ => []) (c_raddleref45_Need_D r)) := by
  unfold F_raddleref45_Need at h
  obtain ⟨u1, rfl, hu2⟩ := S.know (i := 0) (e := fRep r_api_Chart (v0) p0) rfl
  have S := S.learn (fRep (rL r_api_Row) u1 p0.Rows) hu2
  obtain ⟨ad3, cp4, _, rfl, _⟩ := hu2
  obtain rfl : v1 = gv_api_Rates p1 := S.know (i := 2) (e := fRep r_api_Rates (v1) p1) rfl
  refine sEnter (args := [.agg #[iv p0.Start, .slice ad3 p0.Rows.length cp4], gv_api_Rates p1]) 77 Try.func19 rfl rfl (by simp) S (fun a S => ?_)
  refine sSeq (fun K5 hK5 => ?_)
  refine sRegion ?_
  refine sBox (v := .agg #[iv p0.Start, .slice ad3 p0.Rows.length cp4]) S (wN rfl) rfl rfl [iv p0.Start, .slice ad3 p0.Rows.length cp4] rfl rfl (lb rfl) fun a b6 w S => ?_
  refine sBox (v := gv_api_Rates p1) S (wN rfl) rfl rfl (gl_api_Rates p1) rfl rfl (lb rfl) fun a b7 w S => ?_
  refine sAlloc (.agg #[iv 0, iv 0]) S (wN rfl) rfl rfl [iv 0, iv 0] rfl rfl (lb rfl) fun a b8 w S => ?_
  refine sMove (iv 0) S (wN rfl) (.inr rfl) rfl rfl (lb rfl) fun a S => ?_
  refine leafL (leafT (hK5 _ _ ?_))
  refine sSeq (fun K9 hK9 => ?_)
  refine sSeq (fun K10 hK10 => ?_)
  refine sRegion ?_
  refine sLoadN (p := b6) (off := 0) (T := 41) (vs := [iv p0.Start, .slice ad3 p0.Rows.length cp4]) 2 [iv p0.Start, .slice ad3 p0.Rows.length cp4] S (wN rfl) rfl rfl rfl rfl rfl rfl rfl (lb rfl) fun a S => ?_
  obtain ⟨r11, hx12, h⟩ := bindSome h
  have S1 := S.mem
  refine sCallQ (X := Unit) (f := 30) (vs := [.agg #[iv p0.Start, .slice ad3 p0.Rows.length cp4]]) (val := fun _ => iv r11) S (wN rfl) rfl callee30 rfl (S1.quiet [1] rfl) (fun E1 w1 S1 => c_raddleref26_Check E1 w1 p0 (.agg #[iv p0.Start, .slice ad3 p0.Rows.length cp4]) r11 hx12 S1) rfl (lb rfl) fun _ a w S => ?_
  refine sMove (iv r11) S (wN rfl) (.inr rfl) rfl rfl (lb rfl) fun a S => ?_
  refine leafL (leafT (hK10 _ _ ?_))
  refine sSeq (fun K13 hK13 => ?_)
  refine sRegion ?_
  refine sMove (iv r11) S (wN rfl) (.inl rfl) rfl rfl (lb rfl) fun a S => ?_
  refine sBin (.bool (r11 != 0)) S (wN rfl) rfl rfl rfl (bNe _ _ _ _ .i64 r11 0) rfl (lb rfl) fun a S => ?_
  refine leafL (leafT (hK13 _ _ ?_))
  rcases iteSome h with ⟨hc14, h⟩ | ⟨hc14, h⟩
  · refine sCondT S rfl hc14 ?_
    refine sSeq (fun K15 hK15 => ?_)
    refine sRegion ?_
    refine sBuild [] [iv 0, iv 0] S (wN rfl) rfl rfl rfl rfl (lb rfl) fun a S => ?_
    refine sMove (iv r11) S (wN rfl) (.inl rfl) rfl rfl (lb rfl) fun a S => ?_
    refine sStore (p := b8) (off := 0) (T := 23) (vs := [iv 0, iv 0]) (v := .agg #[iv 0, iv 0]) 0 [iv 0, iv 0] S (wN rfl) rfl rfl rfl rfl rfl rfl rfl (by simp) rfl fun a w S => ?_
    refine sMove (iv r11) S (wN rfl) (.inr rfl) rfl rfl (lb rfl) fun a S => ?_
    refine leafL (leafT (hK15 _ _ ?_))
    obtain rfl := Option.some.inj h
    have S := S.learn (fRep r_api_Bill (.agg #[iv 0, iv 0]) (api_Bill.mk 0 0)) rfl
    exact wp_ret (rThen (sRet (.tuple #[.agg #[iv 0, iv 0], iv r11]) S (rsl2 rfl (rvN (c := 4) (t := 23) (T := 23) (p := b8) 0 [iv 0, iv 0] S rfl rfl rfl rfl) (rvT (t := 5) (v := iv r11) S rfl)) ⟨(.agg #[iv 0, iv 0]), rfl, S.mem.sel [] [0] (by decide) rfl rfl⟩))
  refine sCondF S rfl hc14 ?_
  refine wp_skip (leafT (hK9 _ _ ?_))
  refine sSeq (fun K16 hK16 => ?_)
  refine sSeq (fun K17 hK17 => ?_)
  refine sRegion ?_
  refine sLoadN (p := b7) (off := 0) (T := 44) (vs := (gl_api_Rates p1)) 1 (gl_api_Rates p1) S (wN rfl) rfl rfl rfl rfl rfl rfl rfl (lb rfl) fun a S => ?_
  obtain ⟨r18, hx19, h⟩ := bindSome h
  have S1 := S.mem
  refine sCallQ (X := Unit) (f := 23) (vs := [gv_api_Rates p1]) (val := fun _ => iv r18) S (wN rfl) rfl callee23 rfl (S1.quiet [2] rfl) (fun E1 w1 S1 => c_raddleref45_Check E1 w1 p1 (gv_api_Rates p1) r18 hx19 S1) rfl (lb rfl) fun _ a w S => ?_
  refine sBin (.bool (r18 != 0)) S (wN rfl) rfl rfl rfl (bNe _ _ _ _ .i64 r18 0) rfl (lb rfl) fun a S => ?_
  refine leafL (leafT (hK17 _ _ ?_))
  rcases iteSome h with ⟨hc20, h⟩ | ⟨hc20, h⟩
  · refine sCondT S rfl hc20 ?_
    refine sSeq (fun K21 hK21 => ?_)
    refine sRegion ?_
    refine sBuild [] [iv 0, iv 0] S (wN rfl) rfl rfl rfl rfl (lb rfl) fun a S => ?_
    refine sStore (p := b8) (off := 0) (T := 23) (vs := [iv 0, iv 0]) (v := .agg #[iv 0, iv 0]) 0 [iv 0, iv 0] S (wN rfl) rfl rfl rfl rfl rfl rfl rfl (by simp) rfl fun a w S => ?_
    refine sMove (iv 8) S (wN rfl) (.inr rfl) rfl rfl (lb rfl) fun a S => ?_
    refine leafL (leafT (hK21 _ _ ?_))
    obtain rfl := Option.some.inj h
    have S := S.learn (fRep r_api_Bill (.agg #[iv 0, iv 0]) (api_Bill.mk 0 0)) rfl
    exact wp_ret (rThen (sRet (.tuple #[.agg #[iv 0, iv 0], iv 8]) S (rsl2 rfl (rvN (c := 4) (t := 23) (T := 23) (p := b8) 0 [iv 0, iv 0] S rfl rfl rfl rfl) (rvT (t := 5) (v := iv 8) S rfl)) ⟨(.agg #[iv 0, iv 0]), rfl, S.mem.sel [] [0] (by decide) rfl rfl⟩))
  refine sCondF S rfl hc20 ?_
  refine wp_skip (leafT (hK16 _ _ ?_))
  refine sSeq (fun K22 hK22 => ?_)
  refine sRegion ?_
  refine sAlloc (.agg #[iv 0, iv 0]) S (wN rfl) rfl rfl [iv 0, iv 0] rfl rfl (lb rfl) fun a b23 w S => ?_
  refine leafL (leafT (hK22 _ _ ?_))
  obtain ⟨t26, h, g27⟩ := bindSome h
  refine sCut (fun a w => ∃ o24, ∃ o25, (o24, o25) = t26 ∧ St [] E [] w0 77 a w [(4, .pointer (some ⟨b8, 0, none⟩)), (7, .pointer (some ⟨b23, 0, none⟩))] [eBox b8 23 [iv 0, iv 0], eBox b23 23 [iv o24, iv o25]] []) ?_ (fun a w hI => ?_)
  rotate_left
  · obtain ⟨o24, o25, rfl, S⟩ := hI
    have h := g27
    clear g27
    try dsimp only at h
    refine sSeq (fun K88 hK88 => ?_)
    refine sRegion ?_
    refine sLoadN (p := b23) (off := 0) (T := 23) (vs := [iv o24, iv o25]) 1 [iv o24, iv o25] S (wN rfl) rfl rfl rfl rfl rfl rfl rfl (lb rfl) fun a S => ?_
    refine sStore (p := b8) (off := 0) (T := 23) (vs := [iv 0, iv 0]) (v := .agg #[iv o24, iv o25]) 0 [iv o24, iv o25] S (wN rfl) rfl rfl rfl rfl rfl rfl rfl (by simp) rfl fun a w S => ?_
    refine sMove (iv 0) S (wN rfl) (.inr rfl) rfl rfl (lb rfl) fun a S => ?_
    refine leafL (leafT (hK88 _ _ ?_))
    obtain rfl := Option.some.inj h
    have S := S.learn (fRep r_api_Bill (.agg #[iv o24, iv o25]) (api_Bill.mk o24 o25)) rfl
    exact wp_ret (sRet (.tuple #[.agg #[iv o24, iv o25], iv 0]) S (rsl2 rfl (rvN (c := 4) (t := 23) (T := 23) (p := b8) 0 [iv o24, iv o25] S rfl rfl rfl rfl) (rvT (t := 5) (v := iv 0) S rfl)) ⟨(.agg #[iv o24, iv o25]), rfl, S.mem.sel [] [0] (by decide) rfl rfl⟩)
  refine sSeq (fun K28 hK28 => ?_)
  refine sRegion ?_
  refine sMove (iv 0) S (wN rfl) (.inr rfl) rfl rfl (lb rfl) fun a S => ?_
  refine leafL (leafT (hK28 _ _ ?_))
  refine wp_block ?_
  obtain ⟨t34, hl, g33⟩ := bindSome h
  refine sLoop hl (fun s0 a w => match s0 with | (s29, s30, s31) => St [] E [] w0 77 a w [(2, .pointer (some ⟨b6, 0, none⟩)), (3, .pointer (some ⟨b7, 0, none⟩)), (4, .pointer (some ⟨b8, 0, none⟩)), (7, .pointer (some ⟨b23, 0, none⟩)), (8, iv s29)] [eBox b6 41 [iv p0.Start, .slice ad3 p0.Rows.length cp4], eBox b7 44 (gl_api_Rates p1), eBox b8 23 [iv 0, iv 0], eBox b23 23 [iv s30, iv s31]] [fRep (rL r_api_Row) (.slice ad3 p0.Rows.length cp4) p0.Rows]) (S.fix [3, 2, 1, 0] [0] (by decide) rfl rfl rfl) ?_
  clear hl h
  intro s0 a w c0 hI h hu32
  obtain ⟨s29, s30, s31⟩ := s0
  unfold raddleref45_Need_l2 at h
  dsimp only at h hI
  have S := hI
  refine sSeq (fun K37 hK37 => ?_)
  refine sSeq (fun K38 hK38 => ?_)
  refine sRegion ?_
  refine sMove (iv s29) S (wN rfl) (.inl rfl) rfl rfl (lb rfl) fun a S => ?_
  refine sField (b := b6) (off := 0) 1 1 S (wN rfl) rfl rfl rfl rfl rfl (lb rfl) fun a S => ?_
  refine sLoad1 (p := b6) (off := 1) (T := 41) (vs := [iv p0.Start, .slice ad3 p0.Rows.length cp4]) 0 (.slice ad3 p0.Rows.length cp4) S (wN rfl) rfl rfl rfl rfl rfl rfl (lb rfl) fun a S => ?_
  refine sLen (ad := ad3) (m := p0.Rows.length) (c := cp4) S (wN rfl) rfl Try.underlying39 rfl rfl (lb rfl) fun a S => ?_
  refine sBin (.bool (decide (s29 < (p0.Rows.length : Int)))) S (wN rfl) rfl rfl rfl (bLt _ _ _ _ .i64 s29 (p0.Rows.length : Int)) rfl (lb rfl) fun a S => ?_
  refine leafL (leafT (hK38 _ _ ?_))
  rcases iteSome h with ⟨hc39, h⟩ | ⟨hc39, h⟩
  rotate_left
  · refine sCondF S rfl hc39 ?_
    obtain rfl := Option.some.inj h
    obtain rfl := hu32 _ rfl
    have h := g33
    clear g33
    try dsimp only at h
    exact wp_exit (xThen (xThen (xHit (leafT (⟨s30, s31, Option.some.inj h, S.fix [2, 3] [] (by decide) rfl rfl rfl⟩)))))
  refine sCondT S rfl hc39 ?_
  refine wp_skip (leafT (hK37 _ _ ?_))
  obtain ⟨t42, h, g43⟩ := bindSome h
  refine sCut (fun a w => ∃ o40, ∃ o41, (o40, o41) = t42 ∧ St [] E [] w0 77 a w [(2, .pointer (some ⟨b6, 0, none⟩)), (3, .pointer (some ⟨b7, 0, none⟩)), (4, .pointer (some ⟨b8, 0, none⟩)), (7, .pointer (some ⟨b23, 0, none⟩)), (8, iv s29)] [eBox b6 41 [iv p0.Start, .slice ad3 p0.Rows.length cp4], eBox b7 44 (gl_api_Rates p1), eBox b8 23 [iv 0, iv 0], eBox b23 23 [iv o40, iv o41]] [fRep (rL r_api_Row) (.slice ad3 p0.Rows.length cp4) p0.Rows]) ?_ (fun a w hI => ?_)
  rotate_left
  · obtain ⟨o40, o41, rfl, S⟩ := hI
    have h := g43
    clear g43
    try dsimp only at h
    refine sRegion ?_
    refine sMove (iv s29) S (wN rfl) (.inl rfl) rfl rfl (lb rfl) fun a S => ?_
    refine sBin (iv (w64 (s29 + 1))) S (wN rfl) rfl rfl rfl (bAdd _ _ _ _ s29 1) rfl (lb rfl) fun a S => ?_
    refine sMove (iv (w64 (s29 + 1))) S (wN rfl) (.inr rfl) rfl rfl (lb rfl) fun a S => ?_
    exact leafL (leafT (⟨(w64 (s29 + 1), o40, o41), (Option.some.inj h).symm, (S.fix [0, 1, 2, 3] [0] (by decide) rfl rfl rfl)⟩))
  refine wp_block ?_
  refine sSeq (fun K44 hK44 => ?_)
  refine sRegion ?_
  refine sField (b := b23) (off := 0) 1 1 S (wN rfl) rfl rfl rfl rfl rfl (lb rfl) fun a S => ?_
  refine sLoad1 (p := b23) (off := 1) (T := 23) (vs := [iv s30, iv s31]) 3 (iv s31) S (wN rfl) rfl rfl rfl rfl rfl rfl (lb rfl) fun a S => ?_
  refine sField (b := b7) (off := 0) 22 22 S (wN rfl) rfl rfl rfl rfl rfl (lb rfl) fun a S => ?_
  refine sLoad1 (p := b7) (off := 22) (T := 44) (vs := (gl_api_Rates p1)) 1 (iv p1.Turn) S (wN rfl) rfl rfl rfl rfl rfl rfl (lb rfl) fun a S => ?_
  refine sBin (iv (w64 (s31 + p1.Turn))) S (wN rfl) rfl rfl rfl (bAdd _ _ _ _ s31 p1.Turn) rfl (lb rfl) fun a S => ?_
  refine sField (b := b23) (off := 0) 1 1 S (wN rfl) rfl rfl rfl rfl rfl (lb rfl) fun a S => ?_
  refine sStore (p := b23) (off := 1) (T := 23) (vs := [iv s30, iv s31]) (v := iv (w64 (s31 + p1.Turn))) 3 [iv (w64 (s31 + p1.Turn))] S (wN rfl) rfl rfl rfl rfl rfl rfl rfl (by simp) rfl fun a w S => ?_
  refine leafL (leafT (hK44 _ _ ?_))
  refine sSeq (fun K45 hK45 => ?_)
  refine sRegion ?_
  refine sMove (iv 0) S (wN rfl) (.inr rfl) rfl rfl (lb rfl) fun a S => ?_
  refine leafL (leafT (hK45 _ _ ?_))
  refine wp_block ?_
  obtain ⟨t51, hl, g50⟩ := bindSome h
  refine sLoop hl (fun s0 a w => match s0 with | (s46, s47, s48) => St [] E [] w0 77 a w [(2, .pointer (some ⟨b6, 0, none⟩)), (3, .pointer (some ⟨b7, 0, none⟩)), (4, .pointer (some ⟨b8, 0, none⟩)), (7, .pointer (some ⟨b23, 0, none⟩)), (8, iv s29), (9, iv s46)] [eBox b6 41 [iv p0.Start, .slice ad3 p0.Rows.length cp4], eBox b7 44 (gl_api_Rates p1), eBox b8 23 [iv 0, iv 0], eBox b23 23 [iv s47, iv s48]] [fRep (rL r_api_Row) (.slice ad3 p0.Rows.length cp4) p0.Rows]) (S.fix [1, 2, 3, 0] [0] (by decide) rfl rfl rfl) ?_
  clear hl h
  intro s0 a w c0 hI h hu49
  obtain ⟨s46, s47, s48⟩ := s0
  unfold raddleref45_Need_l1 at h
  dsimp only at h hI
  have S := hI
  refine sSeq (fun K54 hK54 => ?_)
  refine sSeq (fun K55 hK55 => ?_)
  refine sRegion ?_
  refine sMove (iv s46) S (wN rfl) (.inl rfl) rfl rfl (lb rfl) fun a S => ?_
  refine sField (b := b6) (off := 0) 1 1 S (wN rfl) rfl rfl rfl rfl rfl (lb rfl) fun a S => ?_
  refine sLoad1 (p := b6) (off := 1) (T := 41) (vs := [iv p0.Start, .slice ad3 p0.Rows.length cp4]) 0 (.slice ad3 p0.Rows.length cp4) S (wN rfl) rfl rfl rfl rfl rfl rfl (lb rfl) fun a S => ?_
  refine sMove (iv s29) S (wN rfl) (.inl rfl) rfl rfl (lb rfl) fun a S => ?_
  obtain ⟨x56, hx57, h⟩ := bindSome h
  obtain ⟨q58, hq59, S⟩ := pIdx (P := Try.prog) (r := r_api_Row) (v := .slice ad3 p0.Rows.length cp4) (xs := p0.Rows) (j := s29) 39 72 0 S Try.underlying39 rfl rfl hx57
  refine sIdxV (v := .slice ad3 p0.Rows.length cp4) (k := .i64) (j := s29) S (wN rfl) rfl rfl rfl hq59 rfl (lb rfl) fun a S => ?_
  obtain ⟨q60, hq61, S⟩ := pFld (P := Try.prog) (r := r_api_Row) (s2 := (rL r_api_Stitch)) (g := (·.Cells)) (q := q58) (z := x56) 72 1 0 1 S rfl rfl comp_api_Row_Cells
  refine sFldV (q := q58) S (wN rfl) rfl rfl hq61 rfl (lb rfl) fun a S => ?_
  obtain ⟨u62, S⟩ := pLoad (r := (rL r_api_Stitch)) (q := q60) (x := x56.Cells) 0 S rfl
  obtain ⟨ad63, cp64, _, rfl, _⟩ := S.mem.know (i := 1) (e := fRep (rL r_api_Stitch) (u62) x56.Cells) rfl
  refine sLoadV1 (vq := q60) 0 (.slice ad63 x56.Cells.length cp64) S (wN rfl) rfl rfl rfl rfl rfl (lb rfl) fun a S => ?_
  refine sLen (ad := ad63) (m := x56.Cells.length) (c := cp64) S (wN rfl) rfl Try.underlying70 rfl rfl (lb rfl) fun a S => ?_
  refine sBin (.bool (decide (s46 < (x56.Cells.length : Int)))) S (wN rfl) rfl rfl rfl (bLt _ _ _ _ .i64 s46 (x56.Cells.length : Int)) rfl (lb rfl) fun a S => ?_
  refine leafL (leafT (hK55 _ _ ?_))
  rcases iteSome h with ⟨hc65, h⟩ | ⟨hc65, h⟩
  rotate_left
  · refine sCondF S rfl hc65 ?_
    obtain rfl := Option.some.inj h
    obtain rfl := hu49 _ rfl
    have h := g50
    clear g50
    try dsimp only at h
    exact wp_exit (xThen (xThen (xHit (leafB (leafT (⟨s47, s48, Option.some.inj h, S.fix [0, 1, 2, 3] [4] (by decide) rfl rfl rfl⟩))))))
  refine sCondT S rfl hc65 ?_
  refine wp_skip (leafT (hK54 _ _ ?_))
  refine sSeq (fun K66 hK66 => ?_)
  refine wp_block ?_
  refine sSeq (fun K67 hK67 => ?_)
  refine sRegion ?_
  refine sField (b := b6) (off := 0) 1 1 S (wN rfl) rfl rfl rfl rfl rfl (lb rfl) fun a S => ?_
  refine sLoad1 (p := b6) (off := 1) (T := 41) (vs := [iv p0.Start, .slice ad3 p0.Rows.length cp4]) 0 (.slice ad3 p0.Rows.length cp4) S (wN rfl) rfl rfl rfl rfl rfl rfl (lb rfl) fun a S => ?_
  refine sMove (iv s29) S (wN rfl) (.inl rfl) rfl rfl (lb rfl) fun a S => ?_
  obtain ⟨q68, hq69, S⟩ := pIdx (P := Try.prog) (r := r_api_Row) (v := .slice ad3 p0.Rows.length cp4) (xs := p0.Rows) (j := s29) 39 72 4 S Try.underlying39 rfl rfl hx57
  refine sIdxV (v := .slice ad3 p0.Rows.length cp4) (k := .i64) (j := s29) S (wN rfl) rfl rfl rfl hq69 rfl (lb rfl) fun a S => ?_
  obtain ⟨q70, hq71, S⟩ := pFld (P := Try.prog) (r := r_api_Row) (s2 := (rL r_api_Stitch)) (g := (·.Cells)) (q := q68) (z := x56) 72 1 0 1 S rfl rfl comp_api_Row_Cells
  refine sFldV (q := q68) S (wN rfl) rfl rfl hq71 rfl (lb rfl) fun a S => ?_
  obtain ⟨u72, S⟩ := pLoad (r := (rL r_api_Stitch)) (q := q70) (x := x56.Cells) 0 S rfl
  obtain ⟨ad73, cp74, _, rfl, _⟩ := S.mem.know (i := 1) (e := fRep (rL r_api_Stitch) (u72) x56.Cells) rfl
  refine sLoadV1 (vq := q70) 0 (.slice ad73 x56.Cells.length cp74) S (wN rfl) rfl rfl rfl rfl rfl (lb rfl) fun a S => ?_
  refine sMove (iv s46) S (wN rfl) (.inl rfl) rfl rfl (lb rfl) fun a S => ?_
  obtain ⟨x75, hx76, h⟩ := bindSome h
  obtain ⟨q77, hq78, S⟩ := pIdx (P := Try.prog) (r := r_api_Stitch) (v := .slice ad73 x56.Cells.length cp74) (xs := x56.Cells) (j := s46) 70 74 1 S Try.underlying70 rfl rfl hx76
  refine sIdxV (v := .slice ad73 x56.Cells.length cp74) (k := .i64) (j := s46) S (wN rfl) rfl rfl rfl hq78 rfl (lb rfl) fun a S => ?_
  obtain ⟨u79, S⟩ := pLoad (r := r_api_Stitch) (q := q77) (x := x75) 0 S rfl
  obtain rfl : u79 = .agg #[.int .u8 x75.Kind, .bool x75.Purl, iv x75.A, iv x75.B] := S.mem.know (i := 1) (e := fRep r_api_Stitch (u79) x75) rfl
  refine sLoadVN (vq := q77) 0 [.int .u8 x75.Kind, .bool x75.Purl, iv x75.A, iv x75.B] S (wN rfl) rfl rfl rfl rfl rfl rfl (lb rfl) fun a S => ?_
  refine sAlloc (.agg #[.int .u8 0, .bool false, iv 0, iv 0]) S (wN rfl) rfl rfl [.int .u8 0, .bool false, iv 0, iv 0] rfl rfl (lb rfl) fun a b80 w S => ?_
  refine sStore (p := b80) (off := 0) (T := 74) (vs := [.int .u8 0, .bool false, iv 0, iv 0]) (v := .agg #[.int .u8 x75.Kind, .bool x75.Purl, iv x75.A, iv x75.B]) 0 [.int .u8 x75.Kind, .bool x75.Purl, iv x75.A, iv x75.B] S (wN rfl) rfl rfl rfl rfl rfl rfl rfl (by simp) rfl fun a w S => ?_
  refine leafL (leafT (hK67 _ _ ?_))
  refine sSeq (fun K81 hK81 => ?_)
  obtain ⟨x82, hx83, h⟩ := bindSome h
  obtain ⟨r84, hx85, h⟩ := bindSome h
  refine sDraw (nf := [13]) (W := [(0, 54, .pointer (some ⟨b23, 0, none⟩)), (1, 55, iv s47), (2, 56, .pointer (some ⟨b80, 0, none⟩)), (3, 57, .int .u8 x75.Kind), (4, 58, .pointer (some ⟨b7, 0, none⟩)), (5, 59, .pointer (some ⟨b7, 0 + (x75.Kind).toNat * 1, none⟩)), (6, 60, iv x82), (7, 61, .agg #[.int .u8 x75.Kind, .bool x75.Purl, iv x75.A, iv x75.B]), (8, 62, iv r84), (9, 63, iv (if (1 : Int) < r84 then r84 else 1)), (10, 64, iv (w64 (x82 * (if (1 : Int) < r84 then r84 else 1)))), (11, 65, iv (w64 (s47 + (w64 (x82 * (if (1 : Int) < r84 then r84 else 1)))))), (12, 66, .pointer (some ⟨b23, 0, none⟩))]) rfl S ?_
  refine node_by (A := anc_raddleref45_Need_0) (nf := [13]) (Y := []) (W := [(0, 54, .pointer (some ⟨b23, 0, none⟩)), (1, 55, iv s47), (2, 56, .pointer (some ⟨b80, 0, none⟩)), (3, 57, .int .u8 x75.Kind), (4, 58, .pointer (some ⟨b7, 0, none⟩)), (5, 59, .pointer (some ⟨b7, 0 + (x75.Kind).toNat * 1, none⟩)), (6, 60, iv x82), (7, 61, .agg #[.int .u8 x75.Kind, .bool x75.Purl, iv x75.A, iv x75.B]), (8, 62, iv r84), (9, 63, iv (if (1 : Int) < r84 then r84 else 1)), (10, 64, iv (w64 (x82 * (if (1 : Int) < r84 then r84 else 1)))), (11, 65, iv (w64 (s47 + (w64 (x82 * (if (1 : Int) < r84 then r84 else 1)))))), (12, 66, .pointer (some ⟨b23, 0, none⟩))]) 14 (by kernel_rfl) (by kernel_rfl) (by kernel_rfl) (by kernel_rfl) (by kernel_rfl) [0, 1, 2, 3, 4, 5, 6, 7, 8, 9, 10, 11, 12] (by kernel_rfl) (by decide) (by decide) (aF 0 13 (by decide) ?_ (aF 1 12 (by decide) ?_ (aF 2 11 (by decide) ?_ (aF 3 10 (by decide) ?_ (aF 4 9 (by decide) ?_ (aF 5 8 (by decide) ?_ (aF 6 7 (by decide) ?_ (aF 7 6 (by decide) ?_ (aF 8 5 (by decide) ?_ (aF 9 4 (by decide) ?_ (aF 10 3 (by decide) ?_ (aF 11 2 (by decide) ?_ (aF 12 1 (by decide) ?_ (aN 13 0 (by decide) ?_ (trivial))))))))))))))) [] (fun q hq => by cases hq) (fun hY => absurd (hY 13 (by decide)) (by decide))
  · refine fI 54 (.pointer (some ⟨b23, 0, none⟩)) [(7, .pointer (some ⟨b23, 0, none⟩))] 0 [none] rfl rfl rfl rfl rfl rfl fun G a w S => ?_
    refine sField (b := b23) (off := 0) 0 0 S (wN rfl) rfl rfl rfl rfl rfl (lb rfl) fun a S => ?_
    exact leafL ⟨rfl, S⟩
  · refine fI 55 (iv s47) [(54, .pointer (some ⟨b23, 0, none⟩))] 1 [some 0] rfl rfl rfl rfl rfl rfl fun G a w S => ?_
    refine sLoad1 (p := b23) (off := 0) (T := 23) (vs := [iv s47, iv s48]) 4 (iv s47) S (wN rfl) rfl rfl rfl rfl rfl rfl (lb rfl) fun a S => ?_
    exact leafL ⟨rfl, S⟩
  · refine fI 56 (.pointer (some ⟨b80, 0, none⟩)) [(10, .pointer (some ⟨b80, 0, none⟩))] 2 [none] rfl rfl rfl rfl rfl rfl fun G a w S => ?_
    refine sField (b := b80) (off := 0) 0 0 S (wN rfl) rfl rfl rfl rfl rfl (lb rfl) fun a S => ?_
    exact leafL ⟨rfl, S⟩
  · refine fI 57 (.int .u8 x75.Kind) [(56, .pointer (some ⟨b80, 0, none⟩))] 3 [some 2] rfl rfl rfl rfl rfl rfl fun G a w S => ?_
    refine sLoad1 (p := b80) (off := 0) (T := 74) (vs := [.int .u8 x75.Kind, .bool x75.Purl, iv x75.A, iv x75.B]) 0 (.int .u8 x75.Kind) S (wN rfl) rfl rfl rfl rfl rfl rfl (lb rfl) fun a S => ?_
    exact leafL ⟨rfl, S⟩
  · refine fI 58 (.pointer (some ⟨b7, 0, none⟩)) [(3, .pointer (some ⟨b7, 0, none⟩))] 4 [none] rfl rfl rfl rfl rfl rfl fun G a w S => ?_
    refine sField (b := b7) (off := 0) 0 0 S (wN rfl) rfl rfl rfl rfl rfl (lb rfl) fun a S => ?_
    exact leafL ⟨rfl, S⟩
  · refine fI 59 (.pointer (some ⟨b7, 0 + (x75.Kind).toNat * 1, none⟩)) [(57, .int .u8 x75.Kind), (58, .pointer (some ⟨b7, 0, none⟩))] 5 [some 3, some 4] rfl rfl rfl rfl rfl rfl fun G a w S => ?_
    refine sIdxV (v := .pointer (some ⟨b7, 0, none⟩)) (k := .u8) (j := x75.Kind) (q := .pointer (some ⟨b7, 0 + (x75.Kind).toNat * 1, none⟩)) S (wN rfl) rfl rfl rfl (idxV_arr (m := 11) (sz := 1) Try.underlying42 rfl (idxO_rng (m := 11) hx83 rfl).1 (idxO_rng (m := 11) hx83 rfl).2 0) rfl (lb rfl) fun a S => ?_
    exact leafL ⟨rfl, S⟩
  · refine fI 60 (iv x82) [(59, .pointer (some ⟨b7, 0 + (x75.Kind).toNat * 1, none⟩))] 6 [some 5] rfl rfl rfl rfl rfl rfl fun G a w S => ?_
    refine sLoad1 (p := b7) (off := 0 + (x75.Kind).toNat * 1) (T := 44) (vs := [iv p1.Length.1, iv p1.Length.2.1, iv p1.Length.2.2.1, iv p1.Length.2.2.2.1, iv p1.Length.2.2.2.2.1, iv p1.Length.2.2.2.2.2.1, iv p1.Length.2.2.2.2.2.2.1, iv p1.Length.2.2.2.2.2.2.2.1, iv p1.Length.2.2.2.2.2.2.2.2.1, iv p1.Length.2.2.2.2.2.2.2.2.2.1, iv p1.Length.2.2.2.2.2.2.2.2.2.2, iv p1.Time.1, iv p1.Time.2.1, iv p1.Time.2.2.1, iv p1.Time.2.2.2.1, iv p1.Time.2.2.2.2.1, iv p1.Time.2.2.2.2.2.1, iv p1.Time.2.2.2.2.2.2.1, iv p1.Time.2.2.2.2.2.2.2.1, iv p1.Time.2.2.2.2.2.2.2.2.1, iv p1.Time.2.2.2.2.2.2.2.2.2.1, iv p1.Time.2.2.2.2.2.2.2.2.2.2, iv p1.Turn]) 2 (iv x82) S (wN rfl) rfl rfl rfl rfl (box_at (g := (fun z => .int .i64 z)) [] [iv p1.Time.1, iv p1.Time.2.1, iv p1.Time.2.2.1, iv p1.Time.2.2.2.1, iv p1.Time.2.2.2.2.1, iv p1.Time.2.2.2.2.2.1, iv p1.Time.2.2.2.2.2.2.1, iv p1.Time.2.2.2.2.2.2.2.1, iv p1.Time.2.2.2.2.2.2.2.2.1, iv p1.Time.2.2.2.2.2.2.2.2.2.1, iv p1.Time.2.2.2.2.2.2.2.2.2.2, iv p1.Turn] 0 hx83 rfl rfl) rfl (lb rfl) fun a S => ?_
    exact leafL ⟨rfl, S⟩
  · refine fI 61 (.agg #[.int .u8 x75.Kind, .bool x75.Purl, iv x75.A, iv x75.B]) [(10, .pointer (some ⟨b80, 0, none⟩))] 7 [none] rfl rfl rfl rfl rfl rfl fun G a w S => ?_
    refine sLoadN (p := b80) (off := 0) (T := 74) (vs := [.int .u8 x75.Kind, .bool x75.Purl, iv x75.A, iv x75.B]) 0 [.int .u8 x75.Kind, .bool x75.Purl, iv x75.A, iv x75.B] S (wN rfl) rfl rfl rfl rfl rfl rfl rfl (lb rfl) fun a S => ?_
    exact leafL ⟨rfl, S⟩
  · refine fI 62 (iv r84) [(61, .agg #[.int .u8 x75.Kind, .bool x75.Purl, iv x75.A, iv x75.B])] 8 [some 7] rfl rfl rfl rfl rfl rfl fun G a w S => ?_
    have S1 := S.mem
    refine sCallQ (X := Unit) (f := 32) (vs := [.agg #[.int .u8 x75.Kind, .bool x75.Purl, iv x75.A, iv x75.B]]) (val := fun _ => iv r84) S (wN rfl) rfl callee32 rfl (S1.quiet [1] rfl) (fun E1 w1 S1 => c_raddleref25_Gives E1 w1 x75 (.agg #[.int .u8 x75.Kind, .bool x75.Purl, iv x75.A, iv x75.B]) r84 hx85 S1) rfl (lb rfl) fun _ a w S => ?_
    exact leafL ⟨rfl, S⟩
  · refine fI 63 (iv (if (1 : Int) < r84 then r84 else 1)) [(62, iv r84)] 9 [some 8] rfl rfl rfl rfl rfl rfl fun G a w S => ?_
    refine sMax2 (p := 1) (q := r84) S (wN rfl) rfl rfl rfl rfl (lb rfl) fun a S => ?_
    exact leafL ⟨rfl, S⟩
  · refine fI 64 (iv (w64 (x82 * (if (1 : Int) < r84 then r84 else 1)))) [(60, iv x82), (63, iv (if (1 : Int) < r84 then r84 else 1))] 10 [some 6, some 9] rfl rfl rfl rfl rfl rfl fun G a w S => ?_
    refine sBin (iv (w64 (x82 * (if (1 : Int) < r84 then r84 else 1)))) S (wN rfl) rfl rfl rfl (bMul _ _ _ _ x82 (if (1 : Int) < r84 then r84 else 1)) rfl (lb rfl) fun a S => ?_
    exact leafL ⟨rfl, S⟩
  · refine fI 65 (iv (w64 (s47 + (w64 (x82 * (if (1 : Int) < r84 then r84 else 1)))))) [(55, iv s47), (64, iv (w64 (x82 * (if (1 : Int) < r84 then r84 else 1))))] 11 [some 1, some 10] rfl rfl rfl rfl rfl rfl fun G a w S => ?_
    refine sBin (iv (w64 (s47 + (w64 (x82 * (if (1 : Int) < r84 then r84 else 1)))))) S (wN rfl) rfl rfl rfl (bAdd _ _ _ _ s47 (w64 (x82 * (if (1 : Int) < r84 then r84 else 1)))) rfl (lb rfl) fun a S => ?_
    exact leafL ⟨rfl, S⟩
  · refine fI 66 (.pointer (some ⟨b23, 0, none⟩)) [(7, .pointer (some ⟨b23, 0, none⟩))] 12 [none] rfl rfl rfl rfl rfl rfl fun G a w S => ?_
    refine sField (b := b23) (off := 0) 0 0 S (wN rfl) rfl rfl rfl rfl rfl (lb rfl) fun a S => ?_
    exact leafL ⟨rfl, S⟩
  refine ⟨_, [(65, iv (w64 (s47 + (w64 (x82 * (if (1 : Int) < r84 then r84 else 1)))))), (66, .pointer (some ⟨b23, 0, none⟩))], rfl, (srcs_of [some 11, some 12] rfl rfl rfl), fun G a w S => ?_⟩
  refine sStore (p := b23) (off := 0) (T := 23) (vs := [iv s47, iv s48]) (v := iv (w64 (s47 + (w64 (x82 * (if (1 : Int) < r84 then r84 else 1)))))) 4 [iv (w64 (s47 + (w64 (x82 * (if (1 : Int) < r84 then r84 else 1)))))] S (wN rfl) rfl rfl rfl rfl rfl rfl rfl (by simp) rfl fun a w S => ?_
  refine leafL ⟨rfl, _, _, .inr ⟨[], rfl, S, hz_of rfl, ?_⟩⟩
  refine node_by (A := anc_raddleref45_Need_0) (nf := [13]) (Y := [13]) 14 (by kernel_rfl) (by kernel_rfl) (by kernel_rfl) (by kernel_rfl) (by kernel_rfl) [0, 1, 2, 3, 4, 5, 6, 7, 8, 9, 10, 11, 12] (by kernel_rfl) (by decide) (by decide) (aD 0 13 13 (by decide) (aD 1 12 13 (by decide) (aD 2 11 13 (by decide) (aD 3 10 13 (by decide) (aD 4 9 13 (by decide) (aD 5 8 13 (by decide) (aD 6 7 13 (by decide) (aD 7 6 13 (by decide) (aD 8 5 13 (by decide) (aD 9 4 13 (by decide) (aD 10 3 13 (by decide) (aD 11 2 13 (by decide) (aD 12 1 13 (by decide) (aY 13 0 (by decide) (trivial))))))))))))))) [(2, .pointer (some ⟨b6, 0, none⟩)), (3, .pointer (some ⟨b7, 0, none⟩)), (4, .pointer (some ⟨b8, 0, none⟩)), (7, .pointer (some ⟨b23, 0, none⟩)), (8, iv s29), (9, iv s46), (10, .pointer (some ⟨b80, 0, none⟩))] (fin_of [none, none, none, none, none, none, none] rfl (by kernel_rfl) (by kernel_rfl)) (fun _ a w S => ?_)
  refine leafT (hK81 _ _ ?_)
  obtain ⟨x86, hx87, h⟩ := bindSome h
  refine sDraw (nf := [9]) (W := [(0, 67, .pointer (some ⟨b23, 1, none⟩)), (1, 68, iv s48), (2, 69, .pointer (some ⟨b80, 0, none⟩)), (3, 70, .int .u8 x75.Kind), (4, 71, .pointer (some ⟨b7, 11, none⟩)), (5, 72, .pointer (some ⟨b7, 11 + (x75.Kind).toNat * 1, none⟩)), (6, 73, iv x86), (7, 74, iv (w64 (s48 + x86))), (8, 75, .pointer (some ⟨b23, 1, none⟩))]) rfl S ?_
  refine node_by (A := anc_raddleref45_Need_1) (nf := [9]) (Y := []) (W := [(0, 67, .pointer (some ⟨b23, 1, none⟩)), (1, 68, iv s48), (2, 69, .pointer (some ⟨b80, 0, none⟩)), (3, 70, .int .u8 x75.Kind), (4, 71, .pointer (some ⟨b7, 11, none⟩)), (5, 72, .pointer (some ⟨b7, 11 + (x75.Kind).toNat * 1, none⟩)), (6, 73, iv x86), (7, 74, iv (w64 (s48 + x86))), (8, 75, .pointer (some ⟨b23, 1, none⟩))]) 10 (by kernel_rfl) (by kernel_rfl) (by kernel_rfl) (by kernel_rfl) (by kernel_rfl) [0, 1, 2, 3, 4, 5, 6, 7, 8] (by kernel_rfl) (by decide) (by decide) (aF 0 9 (by decide) ?_ (aF 1 8 (by decide) ?_ (aF 2 7 (by decide) ?_ (aF 3 6 (by decide) ?_ (aF 4 5 (by decide) ?_ (aF 5 4 (by decide) ?_ (aF 6 3 (by decide) ?_ (aF 7 2 (by decide) ?_ (aF 8 1 (by decide) ?_ (aN 9 0 (by decide) ?_ (trivial))))))))))) [] (fun q hq => by cases hq) (fun hY => absurd (hY 9 (by decide)) (by decide))
  · refine fI 67 (.pointer (some ⟨b23, 1, none⟩)) [(7, .pointer (some ⟨b23, 0, none⟩))] 0 [none] rfl rfl rfl rfl rfl rfl fun G a w S => ?_
    refine sField (b := b23) (off := 0) 1 1 S (wN rfl) rfl rfl rfl rfl rfl (lb rfl) fun a S => ?_
    exact leafL ⟨rfl, S⟩
  · refine fI 68 (iv s48) [(67, .pointer (some ⟨b23, 1, none⟩))] 1 [some 0] rfl rfl rfl rfl rfl rfl fun G a w S => ?_
    refine sLoad1 (p := b23) (off := 1) (T := 23) (vs := [iv (w64 (s47 + (w64 (x82 * (if (1 : Int) < r84 then r84 else 1))))), iv s48]) 0 (iv s48) S (wN rfl) rfl rfl rfl rfl rfl rfl (lb rfl) fun a S => ?_
    exact leafL ⟨rfl, S⟩
  · refine fI 69 (.pointer (some ⟨b80, 0, none⟩)) [(10, .pointer (some ⟨b80, 0, none⟩))] 2 [none] rfl rfl rfl rfl rfl rfl fun G a w S => ?_
    refine sField (b := b80) (off := 0) 0 0 S (wN rfl) rfl rfl rfl rfl rfl (lb rfl) fun a S => ?_
    exact leafL ⟨rfl, S⟩
  · refine fI 70 (.int .u8 x75.Kind) [(69, .pointer (some ⟨b80, 0, none⟩))] 3 [some 2] rfl rfl rfl rfl rfl rfl fun G a w S => ?_
    refine sLoad1 (p := b80) (off := 0) (T := 74) (vs := [.int .u8 x75.Kind, .bool x75.Purl, iv x75.A, iv x75.B]) 1 (.int .u8 x75.Kind) S (wN rfl) rfl rfl rfl rfl rfl rfl (lb rfl) fun a S => ?_
    exact leafL ⟨rfl, S⟩
  · refine fI 71 (.pointer (some ⟨b7, 11, none⟩)) [(3, .pointer (some ⟨b7, 0, none⟩))] 4 [none] rfl rfl rfl rfl rfl rfl fun G a w S => ?_
    refine sField (b := b7) (off := 0) 11 11 S (wN rfl) rfl rfl rfl rfl rfl (lb rfl) fun a S => ?_
    exact leafL ⟨rfl, S⟩
  · refine fI 72 (.pointer (some ⟨b7, 11 + (x75.Kind).toNat * 1, none⟩)) [(70, .int .u8 x75.Kind), (71, .pointer (some ⟨b7, 11, none⟩))] 5 [some 3, some 4] rfl rfl rfl rfl rfl rfl fun G a w S => ?_
    refine sIdxV (v := .pointer (some ⟨b7, 11, none⟩)) (k := .u8) (j := x75.Kind) (q := .pointer (some ⟨b7, 11 + (x75.Kind).toNat * 1, none⟩)) S (wN rfl) rfl rfl rfl (idxV_arr (m := 11) (sz := 1) Try.underlying42 rfl (idxO_rng (m := 11) hx87 rfl).1 (idxO_rng (m := 11) hx87 rfl).2 11) rfl (lb rfl) fun a S => ?_
    exact leafL ⟨rfl, S⟩
  · refine fI 73 (iv x86) [(72, .pointer (some ⟨b7, 11 + (x75.Kind).toNat * 1, none⟩))] 6 [some 5] rfl rfl rfl rfl rfl rfl fun G a w S => ?_
    refine sLoad1 (p := b7) (off := 11 + (x75.Kind).toNat * 1) (T := 44) (vs := [iv p1.Length.1, iv p1.Length.2.1, iv p1.Length.2.2.1, iv p1.Length.2.2.2.1, iv p1.Length.2.2.2.2.1, iv p1.Length.2.2.2.2.2.1, iv p1.Length.2.2.2.2.2.2.1, iv p1.Length.2.2.2.2.2.2.2.1, iv p1.Length.2.2.2.2.2.2.2.2.1, iv p1.Length.2.2.2.2.2.2.2.2.2.1, iv p1.Length.2.2.2.2.2.2.2.2.2.2, iv p1.Time.1, iv p1.Time.2.1, iv p1.Time.2.2.1, iv p1.Time.2.2.2.1, iv p1.Time.2.2.2.2.1, iv p1.Time.2.2.2.2.2.1, iv p1.Time.2.2.2.2.2.2.1, iv p1.Time.2.2.2.2.2.2.2.1, iv p1.Time.2.2.2.2.2.2.2.2.1, iv p1.Time.2.2.2.2.2.2.2.2.2.1, iv p1.Time.2.2.2.2.2.2.2.2.2.2, iv p1.Turn]) 3 (iv x86) S (wN rfl) rfl rfl rfl rfl (box_at (g := (fun z => .int .i64 z)) [iv p1.Length.1, iv p1.Length.2.1, iv p1.Length.2.2.1, iv p1.Length.2.2.2.1, iv p1.Length.2.2.2.2.1, iv p1.Length.2.2.2.2.2.1, iv p1.Length.2.2.2.2.2.2.1, iv p1.Length.2.2.2.2.2.2.2.1, iv p1.Length.2.2.2.2.2.2.2.2.1, iv p1.Length.2.2.2.2.2.2.2.2.2.1, iv p1.Length.2.2.2.2.2.2.2.2.2.2] [iv p1.Turn] 11 hx87 rfl rfl) rfl (lb rfl) fun a S => ?_
    exact leafL ⟨rfl, S⟩
  · refine fI 74 (iv (w64 (s48 + x86))) [(68, iv s48), (73, iv x86)] 7 [some 1, some 6] rfl rfl rfl rfl rfl rfl fun G a w S => ?_
    refine sBin (iv (w64 (s48 + x86))) S (wN rfl) rfl rfl rfl (bAdd _ _ _ _ s48 x86) rfl (lb rfl) fun a S => ?_
    exact leafL ⟨rfl, S⟩
  · refine fI 75 (.pointer (some ⟨b23, 1, none⟩)) [(7, .pointer (some ⟨b23, 0, none⟩))] 8 [none] rfl rfl rfl rfl rfl rfl fun G a w S => ?_
    refine sField (b := b23) (off := 0) 1 1 S (wN rfl) rfl rfl rfl rfl rfl (lb rfl) fun a S => ?_
    exact leafL ⟨rfl, S⟩
  refine ⟨_, [(74, iv (w64 (s48 + x86))), (75, .pointer (some ⟨b23, 1, none⟩))], rfl, (srcs_of [some 7, some 8] rfl rfl rfl), fun G a w S => ?_⟩
  refine sStore (p := b23) (off := 1) (T := 23) (vs := [iv (w64 (s47 + (w64 (x82 * (if (1 : Int) < r84 then r84 else 1))))), iv s48]) (v := iv (w64 (s48 + x86))) 0 [iv (w64 (s48 + x86))] S (wN rfl) rfl rfl rfl rfl rfl rfl rfl (by simp) rfl fun a w S => ?_
  refine leafL ⟨rfl, _, _, .inr ⟨[], rfl, S, hz_of rfl, ?_⟩⟩
  refine node_by (A := anc_raddleref45_Need_1) (nf := [9]) (Y := [9]) 10 (by kernel_rfl) (by kernel_rfl) (by kernel_rfl) (by kernel_rfl) (by kernel_rfl) [0, 1, 2, 3, 4, 5, 6, 7, 8] (by kernel_rfl) (by decide) (by decide) (aD 0 9 9 (by decide) (aD 1 8 9 (by decide) (aD 2 7 9 (by decide) (aD 3 6 9 (by decide) (aD 4 5 9 (by decide) (aD 5 4 9 (by decide) (aD 6 3 9 (by decide) (aD 7 2 9 (by decide) (aD 8 1 9 (by decide) (aY 9 0 (by decide) (trivial))))))))))) [(2, .pointer (some ⟨b6, 0, none⟩)), (3, .pointer (some ⟨b7, 0, none⟩)), (4, .pointer (some ⟨b8, 0, none⟩)), (7, .pointer (some ⟨b23, 0, none⟩)), (8, iv s29), (9, iv s46)] (fin_of [none, none, none, none, none, none] rfl (by kernel_rfl) (by kernel_rfl)) (fun _ a w S => ?_)
  refine leafB (leafT (hK66 _ _ ?_))
  refine sRegion ?_
  refine sMove (iv s46) S (wN rfl) (.inl rfl) rfl rfl (lb rfl) fun a S => ?_
  refine sBin (iv (w64 (s46 + 1))) S (wN rfl) rfl rfl rfl (bAdd _ _ _ _ s46 1) rfl (lb rfl) fun a S => ?_
  refine sMove (iv (w64 (s46 + 1))) S (wN rfl) (.inr rfl) rfl rfl (lb rfl) fun a S => ?_
  exact leafL (leafT (⟨(w64 (s46 + 1), w64 (s47 + (w64 (x82 * (if (1 : Int) < r84 then r84 else 1)))), w64 (s48 + x86)), (Option.some.inj h).symm, (S.fix [2, 3, 4, 0] [11] (by decide) rfl rfl rfl)⟩))

end Go.Proofs.Ytdbgkakmhlmpbaa
namespace Go.Proofs.Ytdbgkakmhlmpbaa
open Go.RowKit
set_option linter.unusedVariables false

abbrev C11 := Int × Int × Int × Int × Int × Int × Int × Int × Int × Int × Int
def dot (t v : C11) : Int := t.1 * v.1 + (t.2.1 * v.2.1 + (t.2.2.1 * v.2.2.1 + (t.2.2.2.1 * v.2.2.2.1 + (t.2.2.2.2.1 * v.2.2.2.2.1 + (t.2.2.2.2.2.1 * v.2.2.2.2.2.1 + (t.2.2.2.2.2.2.1 * v.2.2.2.2.2.2.1 + (t.2.2.2.2.2.2.2.1 * v.2.2.2.2.2.2.2.1 + (t.2.2.2.2.2.2.2.2.1 * v.2.2.2.2.2.2.2.2.1 + (t.2.2.2.2.2.2.2.2.2.1 * v.2.2.2.2.2.2.2.2.2.1 + t.2.2.2.2.2.2.2.2.2.2 * v.2.2.2.2.2.2.2.2.2.2)))))))))
def l11 (t : C11) : List Int := [t.1, t.2.1, t.2.2.1, t.2.2.2.1, t.2.2.2.2.1, t.2.2.2.2.2.1, t.2.2.2.2.2.2.1, t.2.2.2.2.2.2.2.1, t.2.2.2.2.2.2.2.2.1, t.2.2.2.2.2.2.2.2.2.1, t.2.2.2.2.2.2.2.2.2.2]
def bd11 (b : Int) (v : C11) : Prop := (0 ≤ v.1 ∧ v.1 ≤ b) ∧ (0 ≤ v.2.1 ∧ v.2.1 ≤ b) ∧ (0 ≤ v.2.2.1 ∧ v.2.2.1 ≤ b) ∧ (0 ≤ v.2.2.2.1 ∧ v.2.2.2.1 ≤ b) ∧ (0 ≤ v.2.2.2.2.1 ∧ v.2.2.2.2.1 ≤ b) ∧ (0 ≤ v.2.2.2.2.2.1 ∧ v.2.2.2.2.2.1 ≤ b) ∧ (0 ≤ v.2.2.2.2.2.2.1 ∧ v.2.2.2.2.2.2.1 ≤ b) ∧ (0 ≤ v.2.2.2.2.2.2.2.1 ∧ v.2.2.2.2.2.2.2.1 ≤ b) ∧ (0 ≤ v.2.2.2.2.2.2.2.2.1 ∧ v.2.2.2.2.2.2.2.2.1 ≤ b) ∧ (0 ≤ v.2.2.2.2.2.2.2.2.2.1 ∧ v.2.2.2.2.2.2.2.2.2.1 ≤ b) ∧ (0 ≤ v.2.2.2.2.2.2.2.2.2.2 ∧ v.2.2.2.2.2.2.2.2.2.2 ≤ b)
/-- what a tuple says of a kind -/
def at11 (t : C11) (k : Int) : Int := if k = 0 then t.1 else if k = 1 then t.2.1 else if k = 2 then t.2.2.1 else if k = 3 then t.2.2.2.1 else if k = 4 then t.2.2.2.2.1 else if k = 5 then t.2.2.2.2.2.1 else if k = 6 then t.2.2.2.2.2.2.1 else if k = 7 then t.2.2.2.2.2.2.2.1 else if k = 8 then t.2.2.2.2.2.2.2.2.1 else if k = 9 then t.2.2.2.2.2.2.2.2.2.1 else t.2.2.2.2.2.2.2.2.2.2
theorem idx11 (t : C11) {k : Int} (h : 0 ≤ k ∧ k ≤ 10) : idxO (l11 t) k = some (at11 t k) := by
  rcases kinds (x := k) (by omega) with h | h | h | h | h | h | h | h | h | h | h | h <;> first | omega | (subst h; rfl)
theorem at11_bd {b : Int} {t : C11} (h : bd11 b t) (k : Int) : 0 ≤ at11 t k ∧ at11 t k ≤ b := by
  obtain ⟨h0, h1, h2, h3, h4, h5, h6, h7, h8, h9, h10⟩ := h
  unfold at11
  repeat' split
  all_goals assumption
/-- two loops side by side -/
theorem loop_two {S S' σ τ τ' : Type} {B : S → Option (S ⊕ τ)} {B' : S' → Option (S' ⊕ τ')} (n : Nat) (st : Nat → σ → S) (st' : Nat → σ → S') (I : Nat → σ → Prop) (Pt : τ → τ' → Prop) {s0 : σ} (h0 : I 0 s0)
    (step : ∀ k s, k < n → I k s → (∃ s', B (st k s) = some (.inl (st (k + 1) s')) ∧ B' (st' k s) = some (.inl (st' (k + 1) s')) ∧ I (k + 1) s') ∨ (∃ t t', B (st k s) = some (.inr t) ∧ B' (st' k s) = some (.inr t') ∧ Pt t t'))
    (last : ∀ s, I n s → ∃ t t', B (st n s) = some (.inr t) ∧ B' (st' n s) = some (.inr t') ∧ Pt t t') : ∃ t t', whileO B (st 0 s0) = some t ∧ whileO B' (st' 0 s0) = some t' ∧ Pt t t' := by
  have key : ∀ j k s, j + k = n → I k s → ∃ t t', whileO B (st k s) = some t ∧ whileO B' (st' k s) = some t' ∧ Pt t t' := by
    intro j
    induction j with
    | zero =>
      intro k s hk hI
      obtain rfl : k = n := by omega
      obtain ⟨t, t', h1, h2, h3⟩ := last s hI
      exact ⟨t, t', whileO_done h1, whileO_done h2, h3⟩
    | succ j ih =>
      intro k s hk hI
      rcases step k s (by omega) hI with ⟨s', h1, h2, h3⟩ | ⟨t, t', h1, h2, h3⟩
      · rw [whileO_step h1, whileO_step h2]; exact ih _ _ (by omega) h3
      · exact ⟨t, t', whileO_done h1, whileO_done h2, h3⟩
  exact key n 0 s0 (by omega) h0
/-- one cell more -/
theorem cnt_step (t v : C11) (b : Int) (hb : bd11 b v) (hb1 : b ≤ 1000000000) {p : api_Stitch} (hp : okS p) :
    ∃ v', bd11 (b + 1) v' ∧ dot t v' = dot t v + at11 t p.Kind ∧ ∀ i : Nat,
      (some (Sum.inl (((i + 1 : Nat) : Int), (if p.Kind = 0 then w64 (at11 v p.Kind + 1) else v.1), (if p.Kind = 1 then w64 (at11 v p.Kind + 1) else v.2.1), (if p.Kind = 2 then w64 (at11 v p.Kind + 1) else v.2.2.1), (if p.Kind = 3 then w64 (at11 v p.Kind + 1) else v.2.2.2.1), (if p.Kind = 4 then w64 (at11 v p.Kind + 1) else v.2.2.2.2.1), (if p.Kind = 5 then w64 (at11 v p.Kind + 1) else v.2.2.2.2.2.1), (if p.Kind = 6 then w64 (at11 v p.Kind + 1) else v.2.2.2.2.2.2.1), (if p.Kind = 7 then w64 (at11 v p.Kind + 1) else v.2.2.2.2.2.2.2.1), (if p.Kind = 8 then w64 (at11 v p.Kind + 1) else v.2.2.2.2.2.2.2.2.1), (if p.Kind = 9 then w64 (at11 v p.Kind + 1) else v.2.2.2.2.2.2.2.2.2.1), (if p.Kind = 10 then w64 (at11 v p.Kind + 1) else v.2.2.2.2.2.2.2.2.2.2))) : Option ((Int × C11) ⊕ C11)) = some (.inl (((i + 1 : Nat) : Int), v')) := by
  have hk := okS_bd hp
  have ha := at11_bd hb p.Kind
  have hw : w64 (at11 v p.Kind + 1) = at11 v p.Kind + 1 := w64_of (by omega) (by omega)
  rw [hw]
  refine ⟨_, ?_, ?_, fun i => rfl⟩
  · obtain ⟨h0, h1, h2, h3, h4, h5, h6, h7, h8, h9, h10⟩ := hb
    refine ⟨?_, ?_, ?_, ?_, ?_, ?_, ?_, ?_, ?_, ?_, ?_⟩ <;> (dsimp only; split <;> omega)
  · rcases kinds (x := p.Kind) (by omega) with h | h | h | h | h | h | h | h | h | h | h | h <;> first | omega | (simp only [h, at11, dot]; simp [Int.mul_add]; omega)
def rowT (f : api_Stitch → Int) (r : api_Row) : Int := sm f r.Cells
/-- the counts of a chart -/
theorem count_loop (t : C11) (c : api_Chart) (hk : chk c = 0) : ∃ v : C11, whileO (cost_Count_l2 c) (0, 0, 0, 0, 0, 0, 0, 0, 0, 0, 0, 0) = some v ∧ whileO (raddleref45_Count_l2 c) (0, 0, 0, 0, 0, 0, 0, 0, 0, 0, 0, 0) = some v ∧ bd11 20000 v ∧ dot t v = sm (rowT fun p => at11 t p.Kind) c.Rows := by
  obtain ⟨hl, _, _, hr⟩ := chk_ok hk
  have hinner : ∀ (i : Nat) (hi : i < c.Rows.length) (v : C11), bd11 (200 * i) v → ∃ v' : C11, whileO (cost_Count_l1 c.Rows[i]) (0, v) = some v' ∧ whileO (raddleref45_Count_l1 c (i : Int)) (0, v) = some v' ∧ bd11 (200 * (i + 1)) v' ∧ dot t v' = dot t v + rowT (fun p => at11 t p.Kind) c.Rows[i] := by
    intro i hi v hv
    have hal := allS_ok (chkR_mem hr _ (List.getElem_mem hi))
    have hn := hal.1
    have key : ∃ t1 t2, whileO (cost_Count_l1 c.Rows[i]) (0, v) = some t1 ∧ whileO (raddleref45_Count_l1 c (i : Int)) (0, v) = some t2 ∧ (t1 = t2 ∧ bd11 (200 * (i + 1)) t1 ∧ dot t t1 = dot t v + rowT (fun p => at11 t p.Kind) c.Rows[i]) := by
      refine loop_two (σ := C11) c.Rows[i].Cells.length (fun k v => ((k : Int), v)) (fun k v => ((k : Int), v)) (fun k s => bd11 (200 * i + k) s ∧ dot t s = dot t v + sm (fun p => at11 t p.Kind) (c.Rows[i].Cells.take k)) _ (s0 := v) ⟨by simpa using hv, by simp [sm]⟩ ?_ ?_
      · rintro k s hk2 ⟨hs, hd⟩
        have hp := hal.2.1 _ (List.getElem_mem hk2)
        have hkd := okS_bd hp
        obtain ⟨v', h1, h2, h3⟩ := cnt_step t s _ hs (by omega) hp
        have hix := idx11 s (k := c.Rows[i].Cells[k].Kind) (by omega)
        obtain ⟨s0, s1, s2, s3, s4, s5, s6, s7, s8, s9, s10⟩ := s
        simp only [l11] at hix
        refine .inl ⟨v', ?_, ?_, ?_, ?_⟩
        · unfold cost_Count_l1
          simp only [dT (show (k : Int) < (c.Rows[i].Cells.length : Int) by omega), if_true, idxO_nat hk2, Option.bind_some, hix, w64_succ (show k < 9223372036854775807 by omega)]
          exact h3 k
        · unfold raddleref45_Count_l1
          simp only [idxO_nat hi, Option.bind_some, dT (show (k : Int) < (c.Rows[i].Cells.length : Int) by omega), if_true, idxO_nat hk2, hix, w64_succ (show k < 9223372036854775807 by omega)]
          exact h3 k
        · have e : (200 : Int) * i + ((k + 1 : Nat) : Int) = 200 * i + k + 1 := by omega
          rw [e]; exact h1
        · rw [h2, hd, sm_take _ _ hk2]; omega
      · rintro s ⟨hs, hd⟩
        obtain ⟨s0, s1, s2, s3, s4, s5, s6, s7, s8, s9, s10⟩ := s
        refine ⟨(s0, s1, s2, s3, s4, s5, s6, s7, s8, s9, s10), (s0, s1, s2, s3, s4, s5, s6, s7, s8, s9, s10), ?_, ?_, rfl, ?_, ?_⟩
        · unfold cost_Count_l1
          simp only [dF (show ¬ (c.Rows[i].Cells.length : Int) < (c.Rows[i].Cells.length : Int) by omega), Bool.false_eq_true, if_false]
        · unfold raddleref45_Count_l1
          simp only [idxO_nat hi, Option.bind_some, dF (show ¬ (c.Rows[i].Cells.length : Int) < (c.Rows[i].Cells.length : Int) by omega), Bool.false_eq_true, if_false]
        · simp only [bd11] at hs ⊢
          omega
        · rw [hd, List.take_length]; rfl
    obtain ⟨t1, t2, h1, h2, rfl, h3, h4⟩ := key
    exact ⟨t1, h1, h2, h3, h4⟩
  have key : ∃ t1 t2, whileO (cost_Count_l2 c) (0, 0, 0, 0, 0, 0, 0, 0, 0, 0, 0, 0) = some t1 ∧ whileO (raddleref45_Count_l2 c) (0, 0, 0, 0, 0, 0, 0, 0, 0, 0, 0, 0) = some t2 ∧ (t1 = t2 ∧ bd11 20000 t1 ∧ dot t t1 = sm (rowT fun p => at11 t p.Kind) c.Rows) := by
    refine loop_two (σ := C11) c.Rows.length (fun k v => ((k : Int), v)) (fun k v => ((k : Int), v)) (fun k s => bd11 (200 * k) s ∧ dot t s = sm (rowT fun p => at11 t p.Kind) (c.Rows.take k)) _ (s0 := (0, 0, 0, 0, 0, 0, 0, 0, 0, 0, 0)) ⟨by simp [bd11], by simp [sm, dot]⟩ ?_ ?_
    · rintro k s hk2 ⟨hs, hd⟩
      obtain ⟨v', h1, h2, h3, h4⟩ := hinner k hk2 s hs
      obtain ⟨s0, s1, s2, s3, s4, s5, s6, s7, s8, s9, s10⟩ := s
      refine .inl ⟨v', ?_, ?_, ?_, ?_⟩
      · unfold cost_Count_l2
        simp only [dT (show (k : Int) < (c.Rows.length : Int) by omega), if_true, idxO_nat hk2, Option.bind_some, h1, w64_succ (show k < 9223372036854775807 by omega)]
      · unfold raddleref45_Count_l2
        simp only [dT (show (k : Int) < (c.Rows.length : Int) by omega), if_true, Option.bind_some, h2, w64_succ (show k < 9223372036854775807 by omega)]
      · have e : (200 : Int) * ((k + 1 : Nat) : Int) = 200 * (k + 1) := by omega
        rw [e]; exact h3
      · rw [h4, hd, sm_take _ _ hk2]
    · rintro s ⟨hs, hd⟩
      obtain ⟨s0, s1, s2, s3, s4, s5, s6, s7, s8, s9, s10⟩ := s
      refine ⟨(s0, s1, s2, s3, s4, s5, s6, s7, s8, s9, s10), (s0, s1, s2, s3, s4, s5, s6, s7, s8, s9, s10), ?_, ?_, rfl, ?_, ?_⟩
      · unfold cost_Count_l2
        simp only [dF (show ¬ (c.Rows.length : Int) < (c.Rows.length : Int) by omega), Bool.false_eq_true, if_false]
      · unfold raddleref45_Count_l2
        simp only [dF (show ¬ (c.Rows.length : Int) < (c.Rows.length : Int) by omega), Bool.false_eq_true, if_false]
      · simp only [bd11] at hs ⊢
        omega
      · rw [hd, List.take_length]
  obtain ⟨t1, t2, h1, h2, rfl, h3, h4⟩ := key
  exact ⟨t1, h1, h2, h3, h4⟩
theorem sm_nn {α : Type} {f : α → Int} {l : List α} (h : ∀ x, x ∈ l → 0 ≤ f x) : 0 ≤ sm f l := by
  induction l with
  | nil => simp [sm]
  | cons x l ih =>
    have h1 := h x (by simp)
    have h2 := ih fun y hy => h y (by simp [hy])
    simp only [sm]; omega
theorem sm_take_le {α : Type} {f : α → Int} {l : List α} (h : ∀ x, x ∈ l → 0 ≤ f x) (k : Nat) : sm f (l.take k) ≤ sm f l := by
  have e : sm f l = sm f (l.take k) + sm f (l.drop k) := by rw [← sm_append, List.take_append_drop]
  have := sm_nn (l := l.drop k) fun x hx => h x (List.mem_of_mem_drop hx)
  omega
/-- a loop that sums -/
theorem loop_acc {α τ : Type} {B : Int × Int → Option ((Int × Int) ⊕ τ)} (l : List α) (f : α → Int) (a0 : Int) {t : τ} (hf : ∀ x, x ∈ l → 0 ≤ f x)
    (h : ∀ k (hk : k < l.length) (a : Int), a0 ≤ a → a + f l[k] ≤ a0 + sm f l → B ((k : Int), a) = some (.inl (((k + 1 : Nat) : Int), a + f l[k]))) (hn : B ((l.length : Int), a0 + sm f l) = some (.inr t)) : whileO B (0, a0) = some t := by
  have key : ∃ u, whileO B ((fun (k : Nat) (_ : Unit) => ((k : Int), a0 + sm f (l.take k))) 0 ()) = some u ∧ u = t := by
    refine loop_at (σ := Unit) l.length (fun k _ => ((k : Int), a0 + sm f (l.take k))) (fun _ _ => True) _ (s0 := ()) trivial ?_ ?_
    · intro k _ hk _
      refine .inl ⟨(), ?_, trivial⟩
      have h1 := sm_take_le hf (k + 1)
      have h2 := sm_nn (l := l.take k) fun x hx => hf x (List.mem_of_mem_take hx)
      rw [sm_take _ _ hk] at h1
      rw [h k hk _ (by omega) (by omega), sm_take _ _ hk, Int.add_assoc]
    · intro _ _
      exact ⟨t, by rw [List.take_length]; exact hn, rfl⟩
  obtain ⟨u, h1, rfl⟩ := key
  simpa [sm] using h1
theorem loop_acc2 {α τ : Type} {B : Int × Int × Int → Option ((Int × Int × Int) ⊕ τ)} (l : List α) (f g : α → Int) (a0 b0 : Int) {t : τ} (hf : ∀ x, x ∈ l → 0 ≤ f x) (hg : ∀ x, x ∈ l → 0 ≤ g x)
    (h : ∀ k (hk : k < l.length) (a b : Int), a0 ≤ a → a + f l[k] ≤ a0 + sm f l → b0 ≤ b → b + g l[k] ≤ b0 + sm g l → B ((k : Int), a, b) = some (.inl (((k + 1 : Nat) : Int), a + f l[k], b + g l[k]))) (hn : B ((l.length : Int), a0 + sm f l, b0 + sm g l) = some (.inr t)) : whileO B (0, a0, b0) = some t := by
  have key : ∃ u, whileO B ((fun (k : Nat) (_ : Unit) => ((k : Int), a0 + sm f (l.take k), b0 + sm g (l.take k))) 0 ()) = some u ∧ u = t := by
    refine loop_at (σ := Unit) l.length (fun k _ => ((k : Int), a0 + sm f (l.take k), b0 + sm g (l.take k))) (fun _ _ => True) _ (s0 := ()) trivial ?_ ?_
    · intro k _ hk _
      refine .inl ⟨(), ?_, trivial⟩
      have h1 := sm_take_le hf (k + 1)
      have h2 := sm_nn (l := l.take k) fun x hx => hf x (List.mem_of_mem_take hx)
      have h3 := sm_take_le hg (k + 1)
      have h4 := sm_nn (l := l.take k) fun x hx => hg x (List.mem_of_mem_take hx)
      rw [sm_take _ _ hk] at h1 h3
      rw [h k hk _ _ (by omega) (by omega) (by omega) (by omega), sm_take _ _ hk, sm_take _ _ hk, Int.add_assoc, Int.add_assoc]
    · intro _ _
      exact ⟨t, by rw [List.take_length]; exact hn, rfl⟩
  obtain ⟨u, h1, rfl⟩ := key
  simpa [sm] using h1
/-- rates -/
def okR (r : api_Rates) : Prop := bd11 1000000 r.Length ∧ bd11 1000000 r.Time ∧ 0 ≤ r.Turn ∧ r.Turn ≤ 1000000 ∧ r.Length.1 = 0 ∧ r.Time.1 = 0
instance (b : Int) (v : C11) : Decidable (bd11 b v) := by unfold bd11; infer_instance
instance (r : api_Rates) : Decidable (okR r) := by unfold okR; infer_instance
theorem rate_eq (x : Int) : F_cost_rate x = some (decide (0 ≤ x ∧ x ≤ 1000000)) := by
  unfold F_cost_rate
  by_cases h : 0 ≤ x <;> simp [h]
theorem rin_eq (x : Int) : F_raddleref45_in x = some (decide (0 ≤ x ∧ x ≤ 1000000)) := by
  unfold F_raddleref45_in
  by_cases h : 0 ≤ x <;> simp [h]
theorem range11 (r : api_Rates) : (List.range 11).all (fun k => decide ((0 ≤ at11 r.Length (k : Int) ∧ at11 r.Length (k : Int) ≤ 1000000) ∧ (0 ≤ at11 r.Time (k : Int) ∧ at11 r.Time (k : Int) ≤ 1000000))) = true ↔ bd11 1000000 r.Length ∧ bd11 1000000 r.Time := by
  rw [List.all_eq_true]
  constructor
  · intro h
    have g : ∀ k : Nat, k < 11 → (0 ≤ at11 r.Length (k : Int) ∧ at11 r.Length (k : Int) ≤ 1000000) ∧ (0 ≤ at11 r.Time (k : Int) ∧ at11 r.Time (k : Int) ≤ 1000000) := fun k hk => by simpa using h k (List.mem_range.2 hk)
    have g0 := g 0 (by decide)
    have g1 := g 1 (by decide)
    have g2 := g 2 (by decide)
    have g3 := g 3 (by decide)
    have g4 := g 4 (by decide)
    have g5 := g 5 (by decide)
    have g6 := g 6 (by decide)
    have g7 := g 7 (by decide)
    have g8 := g 8 (by decide)
    have g9 := g 9 (by decide)
    have g10 := g 10 (by decide)
    exact ⟨⟨g0.1, g1.1, g2.1, g3.1, g4.1, g5.1, g6.1, g7.1, g8.1, g9.1, g10.1⟩, ⟨g0.2, g1.2, g2.2, g3.2, g4.2, g5.2, g6.2, g7.2, g8.2, g9.2, g10.2⟩⟩
  · rintro ⟨h1, h2⟩ k _
    simpa using ⟨at11_bd h1 (k : Int), at11_bd h2 (k : Int)⟩
theorem rcheck_tail (r : api_Rates) (b : Bool) (hb : b = true ↔ bd11 1000000 r.Length ∧ bd11 1000000 r.Time) : (if b = true then (if (0 ≤ r.Turn ∧ r.Turn ≤ 1000000) ∧ r.Length.1 = 0 ∧ r.Time.1 = 0 then (0 : Int) else 8) else 8) = if okR r then 0 else 8 := by
  cases b with
  | true =>
    obtain ⟨h1, h2⟩ := hb.1 rfl
    rw [if_pos rfl]
    exact ifc ⟨fun h => ⟨h1, h2, h.1.1, h.1.2, h.2.1, h.2.2⟩, fun h => ⟨⟨h.2.2.1, h.2.2.2.1⟩, h.2.2.2.2.1, h.2.2.2.2.2⟩⟩
  | false =>
    have hn : ¬ okR r := fun h => by have := hb.2 ⟨h.1, h.2.1⟩; cases this
    rw [if_neg (by simp), if_neg hn]
theorem rates_eq (r : api_Rates) : F_cost_Check r = some (if okR r then 0 else 8) := by
  have hloop : whileO (cost_Check_l1 r) 0 = some (if (List.range 11).all (fun k => decide ((0 ≤ at11 r.Length (k : Int) ∧ at11 r.Length (k : Int) ≤ 1000000) ∧ (0 ≤ at11 r.Time (k : Int) ∧ at11 r.Time (k : Int) ≤ 1000000))) = true then .inr () else .inl 8) := by
    refine loop_all 11 _ _ _ ?_ rfl
    intro k hk
    have e1 := idx11 r.Length (k := (k : Int)) (by omega)
    have e2 := idx11 r.Time (k := (k : Int)) (by omega)
    simp only [l11] at e1 e2
    unfold cost_Check_l1
    simp only [dT (show (k : Int) < 11 by omega), if_true, e1, e2, Option.bind_some, rate_eq, w64_succ (show k < 9223372036854775807 by omega)]
    by_cases c1 : 0 ≤ at11 r.Length (k : Int) ∧ at11 r.Length (k : Int) ≤ 1000000 <;> by_cases c2 : 0 ≤ at11 r.Time (k : Int) ∧ at11 r.Time (k : Int) ≤ 1000000 <;> simp [c1, c2]
  unfold F_cost_Check
  rw [hloop, ← rcheck_tail r _ (range11 r)]
  cases (List.range 11).all (fun k => decide ((0 ≤ at11 r.Length (k : Int) ∧ at11 r.Length (k : Int) ≤ 1000000) ∧ (0 ≤ at11 r.Time (k : Int) ∧ at11 r.Time (k : Int) ≤ 1000000))) with
  | true =>
    simp only [if_true, Option.bind_some, rate_eq]
    by_cases c1 : 0 ≤ r.Turn ∧ r.Turn ≤ 1000000 <;> by_cases c2 : r.Length.1 = 0 <;> by_cases c3 : r.Time.1 = 0 <;> simp [c1, c2, c3]
  | false => simp
theorem rrates_eq (r : api_Rates) : F_raddleref45_Check r = some (if okR r then 0 else 8) := by
  have hloop : whileO (raddleref45_Check_l1 r) 0 = some (if (List.range 11).all (fun k => decide ((0 ≤ at11 r.Length (k : Int) ∧ at11 r.Length (k : Int) ≤ 1000000) ∧ (0 ≤ at11 r.Time (k : Int) ∧ at11 r.Time (k : Int) ≤ 1000000))) = true then .inr () else .inl 8) := by
    refine loop_all 11 _ _ _ ?_ rfl
    intro k hk
    have e1 := idx11 r.Length (k := (k : Int)) (by omega)
    have e2 := idx11 r.Time (k := (k : Int)) (by omega)
    simp only [l11] at e1 e2
    unfold raddleref45_Check_l1
    simp only [dT (show (k : Int) < 11 by omega), if_true, e1, e2, Option.bind_some, rin_eq, w64_succ (show k < 9223372036854775807 by omega)]
    by_cases c1 : 0 ≤ at11 r.Length (k : Int) ∧ at11 r.Length (k : Int) ≤ 1000000 <;> by_cases c2 : 0 ≤ at11 r.Time (k : Int) ∧ at11 r.Time (k : Int) ≤ 1000000 <;> simp [c1, c2]
  unfold F_raddleref45_Check
  rw [hloop, ← rcheck_tail r _ (range11 r)]
  cases (List.range 11).all (fun k => decide ((0 ≤ at11 r.Length (k : Int) ∧ at11 r.Length (k : Int) ≤ 1000000) ∧ (0 ≤ at11 r.Time (k : Int) ∧ at11 r.Time (k : Int) ≤ 1000000))) with
  | true =>
    simp only [if_true, Option.bind_some, rin_eq]
    by_cases c1 : 0 ≤ r.Turn ∧ r.Turn ≤ 1000000 <;> by_cases c2 : r.Length.1 = 0 <;> by_cases c3 : r.Time.1 = 0 <;> simp [c1, c2, c3]
  | false => simp
def lenS (r : api_Rates) (p : api_Stitch) : Int := at11 r.Length p.Kind * (if (1 : Int) < madeS p then madeS p else 1)
def timS (r : api_Rates) (p : api_Stitch) : Int := at11 r.Time p.Kind
def billOf (c : api_Chart) (r : api_Rates) : api_Bill := ⟨sm (rowT (lenS r)) c.Rows, r.Turn * (c.Rows.length : Int) + sm (rowT (timS r)) c.Rows⟩
def needOf (c : api_Chart) (r : api_Rates) : api_Bill × Int := if chk c = 0 then (if okR r then (billOf c r, 0) else (⟨0, 0⟩, 8)) else (⟨0, 0⟩, chk c)
theorem lenS_bd {r : api_Rates} (h : okR r) {p : api_Stitch} (hp : okS p) : 0 ≤ lenS r p ∧ lenS r p ≤ 200000000 := by
  have h1 := at11_bd h.1 p.Kind
  have h2 := madeS_bd hp
  exact mul_bd h1.1 h1.2 (b := 200) (by split <;> omega) (by split <;> omega)
theorem timS_bd {r : api_Rates} (h : okR r) (p : api_Stitch) : 0 ≤ timS r p ∧ timS r p ≤ 1000000 := at11_bd h.2.1 p.Kind
theorem rowT_bd {f : api_Stitch → Int} {b : Int} {r : api_Row} (hb : 0 ≤ b) (hr : allS r.Cells = 0) (hf : ∀ p, okS p → 0 ≤ f p ∧ f p ≤ b) : 0 ≤ rowT f r ∧ rowT f r ≤ b * 200 := by
  have h := allS_ok hr
  have h1 := sm_bd (f := f) (b := b) (l := r.Cells) fun p hp => hf p (h.2.1 p hp)
  have h2 : b * (r.Cells.length : Int) ≤ b * 200 := Int.mul_le_mul_of_nonneg_left (by omega) hb
  exact ⟨h1.1, by unfold rowT; omega⟩
theorem rows_bd {f : api_Stitch → Int} {b : Int} {c : api_Chart} (hb : 0 ≤ b) (hc : chk c = 0) (hf : ∀ p, okS p → 0 ≤ f p ∧ f p ≤ b) : 0 ≤ sm (rowT f) c.Rows ∧ sm (rowT f) c.Rows ≤ b * 20000 := by
  have h := chk_ok hc
  have h1 := sm_bd (f := rowT f) (b := b * 200) (l := c.Rows) fun r hr => rowT_bd hb (chkR_mem h.2.2.2 r hr) hf
  have h2 : b * 200 * (c.Rows.length : Int) ≤ b * 200 * 100 := Int.mul_le_mul_of_nonneg_left (by omega) (by omega)
  exact ⟨h1.1, by omega⟩
/-- the sum of the counts' times -/
def pd (t v : C11) : Nat → Int
  | 0 => 0
  | k + 1 => pd t v k + at11 t (k : Int) * at11 v (k : Int)
theorem pd_dot (t v : C11) : pd t v 11 = dot t v := by
  simp only [pd]
  simp [at11, dot]
  omega
theorem need_times (c : api_Chart) (r : api_Rates) (v : C11) (hr : okR r) (hv : bd11 20000 v) (e : Int) (a0 : Int) (ha : 0 ≤ a0 ∧ a0 ≤ 1000000000) : whileO (cost_Need_l1 (v, e) r) (0, a0) = some (a0 + dot r.Time v) := by
  have hb : ∀ k : Nat, 0 ≤ pd r.Time v k ∧ pd r.Time v k ≤ 20000000000 * k := by
    intro k
    induction k with
    | zero => simp [pd]
    | succ k ih =>
      have h1 := at11_bd hr.2.1 (k : Int)
      have h2 := at11_bd hv (k : Int)
      have h3 := mul_bd h1.1 h1.2 h2.1 h2.2
      simp only [pd]
      omega
  have key : ∃ u, whileO (cost_Need_l1 (v, e) r) ((fun (k : Nat) (_ : Unit) => ((k : Int), a0 + pd r.Time v k)) 0 ()) = some u ∧ u = a0 + dot r.Time v := by
    refine loop_at (σ := Unit) 11 (fun k _ => ((k : Int), a0 + pd r.Time v k)) (fun _ _ => True) _ (s0 := ()) trivial ?_ ?_
    · intro k _ hk _
      refine .inl ⟨(), ?_, trivial⟩
      have e1 := idx11 r.Time (k := (k : Int)) (by omega)
      have e2 := idx11 v (k := (k : Int)) (by omega)
      simp only [l11] at e1 e2
      have h1 := at11_bd hr.2.1 (k : Int)
      have h2 := at11_bd hv (k : Int)
      have h3 := mul_bd h1.1 h1.2 h2.1 h2.2
      have h4 := hb k
      have w1 : w64 (at11 r.Time (k : Int) * at11 v (k : Int)) = at11 r.Time (k : Int) * at11 v (k : Int) := w64_of (by omega) (by omega)
      have w2 : w64 (a0 + pd r.Time v k + at11 r.Time (k : Int) * at11 v (k : Int)) = a0 + pd r.Time v (k + 1) := by
        rw [w64_of (by omega) (by omega)]; simp only [pd]; omega
      unfold cost_Need_l1
      simp only [dT (show (k : Int) < 11 by omega), if_true, e1, e2, Option.bind_some, w1, w2, w64_succ (show k < 9223372036854775807 by omega)]
    · intro _ _
      refine ⟨_, ?_, rfl⟩
      rw [← pd_dot]
      rfl
  obtain ⟨u, h1, rfl⟩ := key
  simpa [pd] using h1
theorem makes_one {p : api_Stitch} (hp : okS p) : F_stitch_Makes [p] = some (madeS p, 0) := by
  have hb := okS_bd hp
  have h0 : allS [p] = 0 := by
    have h1 := usedS_bd hp
    have h2 := madeS_bd hp
    have ho : allOk [p] := fun q hq => by simp at hq; subst hq; exact hp
    unfold allS
    rw [if_neg (by simp), if_pos ho, if_neg (by simp [sm]; omega)]
  rw [makes_eq (l := [p]) (fun q hq => by simp at hq; subst hq; unfold wfS; omega), if_pos h0]
  simp [sm]
theorem need_eq (c : api_Chart) (r : api_Rates) (hw : wfR c.Rows) : F_cost_Need c r = some (needOf c r) := by
  unfold F_cost_Need needOf F_cost_Count
  rw [chart_check_eq c hw]
  by_cases hc : chk c = 0
  case neg => simp only [Option.bind_some, nT hc, if_true, if_neg hc]
  obtain ⟨v, h1, h2, h3, h4⟩ := count_loop r.Time c hc
  obtain ⟨v0, v1, v2, v3, v4, v5, v6, v7, v8, v9, v10⟩ := v
  simp only [Option.bind_some, nF hc, Bool.false_eq_true, if_false, h1, bne_self_eq_false, rates_eq, if_pos hc]
  by_cases hr : okR r
  case neg => simp only [if_neg hr, nT (show ¬ (8 : Int) = 0 by omega), if_true]
  simp only [if_pos hr, bne_self_eq_false, Bool.false_eq_true, if_false]
  obtain ⟨hl, _, _, hcr⟩ := chk_ok hc
  have ht : 0 ≤ r.Turn * (c.Rows.length : Int) ∧ r.Turn * (c.Rows.length : Int) ≤ 1000000 * 100 := mul_bd hr.2.2.1 hr.2.2.2.1 (by omega) (by omega)
  rw [w64_of (by omega) (by omega), need_times c r _ hr h3 0 _ (by omega)]
  have hinner : ∀ (x : api_Row), x ∈ c.Rows → ∀ a, 0 ≤ a → a + rowT (lenS r) x ≤ 4000000000000 → whileO (cost_Need_l2 x r) (0, a) = some (a + rowT (lenS r) x) := by
    intro x hx a ha hb
    have hal := allS_ok (chkR_mem hcr x hx)
    refine loop_acc x.Cells (lenS r) a (fun p hp => (lenS_bd hr (hal.2.1 p hp)).1) ?_ ?_
    · intro k hk a' ha1 ha2
      have hp := hal.2.1 _ (List.getElem_mem hk)
      have hkd := okS_bd hp
      have e1 := idx11 r.Length (k := x.Cells[k].Kind) (by omega)
      simp only [l11] at e1
      have hb2 := lenS_bd hr hp
      have hb3 : sm (lenS r) x.Cells = rowT (lenS r) x := rfl
      unfold lenS at hb2
      have w1 : w64 (at11 r.Length x.Cells[k].Kind * (if (1 : Int) < madeS x.Cells[k] then madeS x.Cells[k] else 1)) = lenS r x.Cells[k] := w64_of (by omega) (by omega)
      have w2 : w64 (a' + lenS r x.Cells[k]) = a' + lenS r x.Cells[k] := w64_of (by unfold lenS; omega) (by omega)
      unfold cost_Need_l2
      simp only [dT (show (k : Int) < (x.Cells.length : Int) by omega), if_true, idxO_nat hk, Option.bind_some, makes_one hp, e1, w1, w2, w64_succ (show k < 9223372036854775807 by omega)]
    · unfold cost_Need_l2
      simp only [dF (show ¬ (x.Cells.length : Int) < (x.Cells.length : Int) by omega), Bool.false_eq_true, if_false]
      rfl
  have hrb := rows_bd (f := lenS r) (b := 200000000) (by omega) hc fun p hp => lenS_bd hr hp
  have houter : whileO (cost_Need_l3 c r) (0, 0) = some (0 + sm (rowT (lenS r)) c.Rows) := by
    refine loop_acc c.Rows (rowT (lenS r)) 0 (fun x hx => (rowT_bd (b := 200000000) (by omega) (chkR_mem hcr x hx) fun p hp => lenS_bd hr hp).1) ?_ ?_
    · intro k hk a ha1 ha2
      unfold cost_Need_l3
      simp only [dT (show (k : Int) < (c.Rows.length : Int) by omega), if_true, idxO_nat hk, Option.bind_some, hinner _ (List.getElem_mem hk) a ha1 (by omega), w64_succ (show k < 9223372036854775807 by omega)]
    · unfold cost_Need_l3
      simp only [dF (show ¬ (c.Rows.length : Int) < (c.Rows.length : Int) by omega), Bool.false_eq_true, if_false]
  simp only [Option.bind_some, houter, h4, Int.zero_add]
  rfl
theorem rneed_eq (c : api_Chart) (r : api_Rates) : F_raddleref45_Need c r = some (needOf c r) := by
  unfold F_raddleref45_Need needOf
  rw [rchart_check_eq c]
  by_cases hc : chk c = 0
  case neg => simp only [Option.bind_some, nT hc, if_true, if_neg hc]
  simp only [Option.bind_some, nF hc, Bool.false_eq_true, if_false, rrates_eq, if_pos hc]
  by_cases hr : okR r
  case neg => simp only [if_neg hr, nT (show ¬ (8 : Int) = 0 by omega), if_true]
  simp only [if_pos hr, bne_self_eq_false, Bool.false_eq_true, if_false]
  obtain ⟨hl, _, _, hcr⟩ := chk_ok hc
  have hinner : ∀ (i : Nat) (hi : i < c.Rows.length) (a b : Int), 0 ≤ a → a + rowT (lenS r) c.Rows[i] ≤ 4000000000000 → 0 ≤ b → b + rowT (timS r) c.Rows[i] ≤ 4000000000000 → whileO (raddleref45_Need_l1 c (i : Int) r) (0, a, b) = some (a + rowT (lenS r) c.Rows[i], b + rowT (timS r) c.Rows[i]) := by
    intro i hi a b ha hb ha' hb'
    have hal := allS_ok (chkR_mem hcr _ (List.getElem_mem hi))
    refine loop_acc2 c.Rows[i].Cells (lenS r) (timS r) a b (fun p hp => (lenS_bd hr (hal.2.1 p hp)).1) (fun p _ => (timS_bd hr p).1) ?_ ?_
    · intro k hk a' b' ha1 ha2 hb1 hb2
      have hp := hal.2.1 _ (List.getElem_mem hk)
      have hkd := okS_bd hp
      have e1 := idx11 r.Length (k := c.Rows[i].Cells[k].Kind) (by omega)
      have e2 := idx11 r.Time (k := c.Rows[i].Cells[k].Kind) (by omega)
      simp only [l11] at e1 e2
      have hb3 := lenS_bd hr hp
      have hb4 := timS_bd hr c.Rows[i].Cells[k]
      have hb5 : sm (lenS r) c.Rows[i].Cells = rowT (lenS r) c.Rows[i] := rfl
      have hb6 : sm (timS r) c.Rows[i].Cells = rowT (timS r) c.Rows[i] := rfl
      have w1 : w64 (at11 r.Length c.Rows[i].Cells[k].Kind * (if (1 : Int) < madeS c.Rows[i].Cells[k] then madeS c.Rows[i].Cells[k] else 1)) = lenS r c.Rows[i].Cells[k] := w64_of (by unfold lenS at hb3; omega) (by unfold lenS at hb3; omega)
      have w2 : w64 (a' + lenS r c.Rows[i].Cells[k]) = a' + lenS r c.Rows[i].Cells[k] := w64_of (by omega) (by omega)
      have w3 : w64 (b' + at11 r.Time c.Rows[i].Cells[k].Kind) = b' + timS r c.Rows[i].Cells[k] := by
        have ht : at11 r.Time c.Rows[i].Cells[k].Kind = timS r c.Rows[i].Cells[k] := rfl
        rw [ht]
        exact w64_of (by omega) (by omega)
      unfold raddleref45_Need_l1
      simp only [idxO_nat hi, Option.bind_some, dT (show (k : Int) < (c.Rows[i].Cells.length : Int) by omega), if_true, idxO_nat hk, rgives_eq hp, e1, e2, w1, w2, w3, w64_succ (show k < 9223372036854775807 by omega)]
    · unfold raddleref45_Need_l1
      simp only [idxO_nat hi, Option.bind_some, dF (show ¬ (c.Rows[i].Cells.length : Int) < (c.Rows[i].Cells.length : Int) by omega), Bool.false_eq_true, if_false]
      rfl
  have hrb := rows_bd (f := lenS r) (b := 200000000) (by omega) hc fun p hp => lenS_bd hr hp
  have hrt := rows_bd (f := timS r) (b := 1000000) (by omega) hc fun p _ => timS_bd hr p
  have hsum : ∀ l : List api_Row, sm (fun x => r.Turn + rowT (timS r) x) l = r.Turn * (l.length : Int) + sm (rowT (timS r)) l := by
    intro l
    induction l with
    | nil => simp [sm]
    | cons x l ih =>
      simp only [sm, ih, List.length_cons, Int.natCast_add, Int.mul_add]
      simp
      omega
  have ht : 0 ≤ r.Turn * (c.Rows.length : Int) ∧ r.Turn * (c.Rows.length : Int) ≤ 1000000 * 100 := mul_bd hr.2.2.1 hr.2.2.2.1 (by omega) (by omega)
  have houter : whileO (raddleref45_Need_l2 c r) (0, 0, 0) = some (0 + sm (rowT (lenS r)) c.Rows, 0 + sm (fun x => r.Turn + rowT (timS r) x) c.Rows) := by
    have hT := hr.2.2
    refine loop_acc2 c.Rows (rowT (lenS r)) (fun x => r.Turn + rowT (timS r) x) 0 0 (fun x hx => (rowT_bd (b := 200000000) (by omega) (chkR_mem hcr x hx) fun p hp => lenS_bd hr hp).1)
      (fun x hx => by have := (rowT_bd (b := 1000000) (by omega) (chkR_mem hcr x hx) fun p _ => timS_bd hr p).1; omega) ?_ ?_
    · intro k hk a b ha1 ha2 hb1 hb2
      rw [hsum] at hb2
      have hrow := (rowT_bd (b := 1000000) (by omega) (chkR_mem hcr _ (List.getElem_mem hk)) fun p _ => timS_bd hr p)
      have w1 : w64 (b + r.Turn) = b + r.Turn := w64_of (by omega) (by omega)
      unfold raddleref45_Need_l2
      simp only [dT (show (k : Int) < (c.Rows.length : Int) by omega), if_true, Option.bind_some, w1, hinner k hk a (b + r.Turn) ha1 (by omega) (by omega) (by omega), w64_succ (show k < 9223372036854775807 by omega), Int.add_assoc]
    · unfold raddleref45_Need_l2
      simp only [dF (show ¬ (c.Rows.length : Int) < (c.Rows.length : Int) by omega), Bool.false_eq_true, if_false]
  simp only [Option.bind_some, houter, hsum, Int.zero_add]
  rfl

end Go.Proofs.Ytdbgkakmhlmpbaa
namespace Go.Proofs.Ytdbgkakmhlmpbaa
open Go.RowKit
set_option linter.unusedVariables false

noncomputable def raddleref45_Great_l1 (p0 : api_Chart) : Int → Option (Int ⊕ (Bool ⊕ Unit)) := fun s0 => match s0 with
  | s10 =>
    if decide (s10 < (p0.Rows.length : Int)) then
      Option.bind (idxO p0.Rows s10) fun x19 =>
      if decide (60 < (x19.Cells.length : Int)) then
        some (.inr (.inl true))
      else
        some (.inl (w64 (s10 + 1)))
    else
      some (.inr (.inr ()))
noncomputable def F_raddleref45_Great (p0 : api_Chart) : Option Bool :=
  Option.bind (α := Unit ⊕ Bool) (
    Option.bind (whileO (raddleref45_Great_l1 p0) 0) fun z0 => match z0 with
      | .inl z =>
        some (.inr z)
      | .inr _ =>
        some (.inl ())) fun z0 => match z0 with
    | .inl _ =>
      Option.bind (α := Bool) (
        if decide (20 < (p0.Rows.length : Int)) then
          if decide ((p0.Rows.length : Int) ≤ 100) then
            some true
          else
            some (decide (110 < (p0.Rows.length : Int)))
        else
          some (decide (110 < (p0.Rows.length : Int)))) fun o30 =>
      some o30
    | .inr z =>
      some z
set_option maxHeartbeats 4000000 in
set_option maxRecDepth 100000 in
theorem c_raddleref45_Great (E : Nat → Prop) (w0 : World) (p0 : api_Chart) (v0 : Value) (r : Bool) (h : F_raddleref45_Great p0 = some r) (S : St0 E [] w0 w0 [] [fRep r_api_Chart (v0) p0]) :
    Calls Try.prog 14 #[v0] w0 (Ret (X := Unit) E [] w0 (fun _ => .bool r) (fun _ => []) (fun _ => [])) := by
  unfold F_raddleref45_Great at h
  obtain ⟨u1, rfl, hu2⟩ := S.know (i := 0) (e := fRep r_api_Chart (v0) p0) rfl
  have S := S.learn (fRep (rL r_api_Row) u1 p0.Rows) hu2
  obtain ⟨ad3, cp4, _, rfl, _⟩ := hu2
  refine sEnter (args := [.agg #[iv p0.Start, .slice ad3 p0.Rows.length cp4]]) 35 Try.func14 rfl rfl (by simp) S (fun a S => ?_)
  refine sSeq (fun K5 hK5 => ?_)
  refine sRegion ?_
  refine sBox (v := .agg #[iv p0.Start, .slice ad3 p0.Rows.length cp4]) S (wN rfl) rfl rfl [iv p0.Start, .slice ad3 p0.Rows.length cp4] rfl rfl (lb rfl) fun a b6 w S => ?_
  refine sMove (.bool false) S (wN rfl) (.inr rfl) rfl rfl (lb rfl) fun a S => ?_
  refine leafL (leafT (hK5 _ _ ?_))
  obtain ⟨t7, h, g8⟩ := bindSome h
  refine sCut (fun a w => .inl () = t7 ∧ St [] E [] w0 35 a w [(1, .pointer (some ⟨b6, 0, none⟩))] [eBox b6 41 [iv p0.Start, .slice ad3 p0.Rows.length cp4]] [fRep (rL r_api_Row) (.slice ad3 p0.Rows.length cp4) p0.Rows]) ?_ (fun a w hI => ?_)
  · refine sSeq (fun K9 hK9 => ?_)
    refine sRegion ?_
    refine sMove (iv 0) S (wN rfl) (.inr rfl) rfl rfl (lb rfl) fun a S => ?_
    refine leafL (leafT (hK9 _ _ ?_))
    refine wp_block ?_
    obtain ⟨t13, hl, g12⟩ := bindSome h
    refine sLoop hl (fun s0 a w => match s0 with | s10 => St [] E [] w0 35 a w [(1, .pointer (some ⟨b6, 0, none⟩)), (3, iv s10)] [eBox b6 41 [iv p0.Start, .slice ad3 p0.Rows.length cp4]] [fRep (rL r_api_Row) (.slice ad3 p0.Rows.length cp4) p0.Rows]) (S.fix [0] [0] (by decide) rfl rfl rfl) ?_
    clear hl h
    intro s10 a w c0 hI h hu11
    unfold raddleref45_Great_l1 at h
    dsimp only at h hI
    have S := hI
    refine sSeq (fun K14 hK14 => ?_)
    refine sSeq (fun K15 hK15 => ?_)
    refine sRegion ?_
    refine sMove (iv s10) S (wN rfl) (.inl rfl) rfl rfl (lb rfl) fun a S => ?_
    refine sField (b := b6) (off := 0) 1 1 S (wN rfl) rfl rfl rfl rfl rfl (lb rfl) fun a S => ?_
    refine sLoad1 (p := b6) (off := 1) (T := 41) (vs := [iv p0.Start, .slice ad3 p0.Rows.length cp4]) 0 (.slice ad3 p0.Rows.length cp4) S (wN rfl) rfl rfl rfl rfl rfl rfl (lb rfl) fun a S => ?_
    refine sLen (ad := ad3) (m := p0.Rows.length) (c := cp4) S (wN rfl) rfl Try.underlying39 rfl rfl (lb rfl) fun a S => ?_
    refine sBin (.bool (decide (s10 < (p0.Rows.length : Int)))) S (wN rfl) rfl rfl rfl (bLt _ _ _ _ .i64 s10 (p0.Rows.length : Int)) rfl (lb rfl) fun a S => ?_
    refine leafL (leafT (hK15 _ _ ?_))
    rcases iteSome h with ⟨hc16, h⟩ | ⟨hc16, h⟩
    rotate_left
    · refine sCondF S rfl hc16 ?_
      obtain rfl := Option.some.inj h
      obtain rfl := hu11 _ rfl
      have h := g12
      clear g12
      try dsimp only at h
      exact wp_exit (xThen (xThen (xHit (leafT (⟨Option.some.inj h, S.fix [0] [0] (by decide) rfl rfl rfl⟩)))))
    refine sCondT S rfl hc16 ?_
    refine wp_skip (leafT (hK14 _ _ ?_))
    refine sSeq (fun K17 hK17 => ?_)
    refine wp_block ?_
    refine sSeq (fun K18 hK18 => ?_)
    refine sRegion ?_
    refine sField (b := b6) (off := 0) 1 1 S (wN rfl) rfl rfl rfl rfl rfl (lb rfl) fun a S => ?_
    refine sLoad1 (p := b6) (off := 1) (T := 41) (vs := [iv p0.Start, .slice ad3 p0.Rows.length cp4]) 0 (.slice ad3 p0.Rows.length cp4) S (wN rfl) rfl rfl rfl rfl rfl rfl (lb rfl) fun a S => ?_
    refine sMove (iv s10) S (wN rfl) (.inl rfl) rfl rfl (lb rfl) fun a S => ?_
    obtain ⟨x19, hx20, h⟩ := bindSome h
    obtain ⟨q21, hq22, S⟩ := pIdx (P := Try.prog) (r := r_api_Row) (v := .slice ad3 p0.Rows.length cp4) (xs := p0.Rows) (j := s10) 39 72 0 S Try.underlying39 rfl rfl hx20
    refine sIdxV (v := .slice ad3 p0.Rows.length cp4) (k := .i64) (j := s10) S (wN rfl) rfl rfl rfl hq22 rfl (lb rfl) fun a S => ?_
    obtain ⟨q23, hq24, S⟩ := pFld (P := Try.prog) (r := r_api_Row) (s2 := (rL r_api_Stitch)) (g := (·.Cells)) (q := q21) (z := x19) 72 1 0 1 S rfl rfl comp_api_Row_Cells
    refine sFldV (q := q21) S (wN rfl) rfl rfl hq24 rfl (lb rfl) fun a S => ?_
    obtain ⟨u25, S⟩ := pLoad (r := (rL r_api_Stitch)) (q := q23) (x := x19.Cells) 0 S rfl
    obtain ⟨ad26, cp27, _, rfl, _⟩ := S.mem.know (i := 1) (e := fRep (rL r_api_Stitch) (u25) x19.Cells) rfl
    refine sLoadV1 (vq := q23) 0 (.slice ad26 x19.Cells.length cp27) S (wN rfl) rfl rfl rfl rfl rfl (lb rfl) fun a S => ?_
    refine sLen (ad := ad26) (m := x19.Cells.length) (c := cp27) S (wN rfl) rfl Try.underlying70 rfl rfl (lb rfl) fun a S => ?_
    refine sBin (.bool (decide (60 < (x19.Cells.length : Int)))) S (wN rfl) rfl rfl rfl (bGt _ _ _ _ .i64 (x19.Cells.length : Int) 60) rfl (lb rfl) fun a S => ?_
    refine leafL (leafT (hK18 _ _ ?_))
    rcases iteSome h with ⟨hc28, h⟩ | ⟨hc28, h⟩
    rotate_left
    · refine sCondF S rfl hc28 ?_
      refine wp_skip (leafB (leafT (hK17 _ _ ?_)))
      refine sRegion ?_
      refine sMove (iv s10) S (wN rfl) (.inl rfl) rfl rfl (lb rfl) fun a S => ?_
      refine sBin (iv (w64 (s10 + 1))) S (wN rfl) rfl rfl rfl (bAdd _ _ _ _ s10 1) rfl (lb rfl) fun a S => ?_
      refine sMove (iv (w64 (s10 + 1))) S (wN rfl) (.inr rfl) rfl rfl (lb rfl) fun a S => ?_
      exact leafL (leafT (⟨w64 (s10 + 1), (Option.some.inj h).symm, (S.fix [0] [4] (by decide) rfl rfl rfl)⟩))
    refine sCondT S rfl hc28 ?_
    refine sSeq (fun K29 hK29 => ?_)
    refine sRegion ?_
    refine sMove (.bool true) S (wN rfl) (.inr rfl) rfl rfl (lb rfl) fun a S => ?_
    refine leafL (leafT (hK29 _ _ ?_))
    obtain rfl := Option.some.inj h
    obtain rfl := hu11 _ rfl
    have h := g12
    clear g12
    try dsimp only at h
    obtain rfl := Option.some.inj h
    have h := g8
    clear g8
    try dsimp only at h
    obtain rfl := Option.some.inj h
    exact wp_ret (rBlock (rThen (rThen (rBlock (rThen (sRet (.bool true) S (rsl1 rfl (rvT (t := 2) (v := .bool true) S rfl)) ⟨(), rfl, S.mem.sel [] [] (by decide) rfl rfl⟩))))))
  obtain ⟨rfl, S⟩ := hI
  have h := g8
  clear g8
  try dsimp only at h
  obtain ⟨t31, h, g32⟩ := bindSome h
  refine sCut (fun a w => ∃ o30, o30 = t31 ∧ St [] E [] w0 35 a w [(2, .bool o30)] [] []) ?_ (fun a w hI => ?_)
  rotate_left
  · obtain ⟨o30, rfl, S⟩ := hI
    have h := g32
    clear g32
    try dsimp only at h
    obtain rfl := Option.some.inj h
    exact wp_ret (sRet (.bool o30) S (rsl1 rfl (rvT (t := 2) (v := .bool o30) S rfl)) ⟨(), rfl, S.mem.sel [] [] (by decide) rfl rfl⟩)
  refine sRegion ?_
  refine sField (b := b6) (off := 0) 1 1 S (wN rfl) rfl rfl rfl rfl rfl (lb rfl) fun a S => ?_
  refine sLoad1 (p := b6) (off := 1) (T := 41) (vs := [iv p0.Start, .slice ad3 p0.Rows.length cp4]) 0 (.slice ad3 p0.Rows.length cp4) S (wN rfl) rfl rfl rfl rfl rfl rfl (lb rfl) fun a S => ?_
  refine sLen (ad := ad3) (m := p0.Rows.length) (c := cp4) S (wN rfl) rfl Try.underlying39 rfl rfl (lb rfl) fun a S => ?_
  refine sBin (.bool (decide (20 < (p0.Rows.length : Int)))) S (wN rfl) rfl rfl rfl (bGt _ _ _ _ .i64 (p0.Rows.length : Int) 20) rfl (lb rfl) fun a S => ?_
  refine sMove (.bool (decide (20 < (p0.Rows.length : Int)))) S (wN rfl) (.inl rfl) rfl rfl (lb rfl) fun a S => ?_
  rcases iteSome h with ⟨hc33, h⟩ | ⟨hc33, h⟩
  rotate_left
  · refine sSkip 4 true 23 24 S rfl rfl rfl hc33 rfl (lb rfl) fun a S => ?_
    refine sSkip 4 true 23 25 S rfl rfl rfl hc33 rfl (lb rfl) fun a S => ?_
    refine sSkip 4 true 23 26 S rfl rfl rfl hc33 rfl (lb rfl) fun a S => ?_
    refine sSkip 4 true 23 27 S rfl rfl rfl hc33 rfl (lb rfl) fun a S => ?_
    refine sPickF (.bool false) S (wN rfl) rfl rfl hc33 rfl rfl (lb rfl) fun a S => ?_
    refine sMove (.bool false) S (wN rfl) (.inl rfl) rfl rfl (lb rfl) fun a S => ?_
    refine sField (b := b6) (off := 0) 1 1 S (wG 10 false 29 rfl rfl rfl rfl) rfl rfl rfl rfl rfl (lb rfl) fun a S => ?_
    refine sLoad1 (p := b6) (off := 1) (T := 41) (vs := [iv p0.Start, .slice ad3 p0.Rows.length cp4]) 0 (.slice ad3 p0.Rows.length cp4) S (wG 10 false 29 rfl rfl rfl rfl) rfl rfl rfl rfl rfl rfl (lb rfl) fun a S => ?_
    refine sLen (ad := ad3) (m := p0.Rows.length) (c := cp4) S (wG 10 false 29 rfl rfl rfl rfl) rfl Try.underlying39 rfl rfl (lb rfl) fun a S => ?_
    refine sBin (.bool (decide (110 < (p0.Rows.length : Int)))) S (wG 10 false 29 rfl rfl rfl rfl) rfl rfl rfl (bGt _ _ _ _ .i64 (p0.Rows.length : Int) 110) rfl (lb rfl) fun a S => ?_
    refine sPickF (.bool (decide (110 < (p0.Rows.length : Int)))) S (wN rfl) rfl rfl rfl rfl rfl (lb rfl) fun a S => ?_
    refine sMove (.bool (decide (110 < (p0.Rows.length : Int)))) S (wN rfl) (.inr rfl) rfl rfl (lb rfl) fun a S => ?_
    exact leafL (leafT (⟨decide (110 < (p0.Rows.length : Int)), Option.some.inj h, S.fix [] [] (by decide) rfl rfl rfl⟩))
  refine sField (b := b6) (off := 0) 1 1 S (wG 4 true 23 rfl rfl rfl hc33) rfl rfl rfl rfl rfl (lb rfl) fun a S => ?_
  refine sLoad1 (p := b6) (off := 1) (T := 41) (vs := [iv p0.Start, .slice ad3 p0.Rows.length cp4]) 0 (.slice ad3 p0.Rows.length cp4) S (wG 4 true 23 rfl rfl rfl hc33) rfl rfl rfl rfl rfl rfl (lb rfl) fun a S => ?_
  refine sLen (ad := ad3) (m := p0.Rows.length) (c := cp4) S (wG 4 true 23 rfl rfl rfl hc33) rfl Try.underlying39 rfl rfl (lb rfl) fun a S => ?_
  refine sBin (.bool (decide ((p0.Rows.length : Int) ≤ 100))) S (wG 4 true 23 rfl rfl rfl hc33) rfl rfl rfl (bLe _ _ _ _ .i64 (p0.Rows.length : Int) 100) rfl (lb rfl) fun a S => ?_
  refine sPickT (.bool (decide ((p0.Rows.length : Int) ≤ 100))) S (wN rfl) rfl rfl hc33 rfl rfl (lb rfl) fun a S => ?_
  refine sMove (.bool (decide ((p0.Rows.length : Int) ≤ 100))) S (wN rfl) (.inl rfl) rfl rfl (lb rfl) fun a S => ?_
  rcases iteSome h with ⟨hc34, h⟩ | ⟨hc34, h⟩
  · refine sSkip 10 false 29 30 S rfl rfl rfl hc34 rfl (lb rfl) fun a S => ?_
    refine sSkip 10 false 29 31 S rfl rfl rfl hc34 rfl (lb rfl) fun a S => ?_
    refine sSkip 10 false 29 32 S rfl rfl rfl hc34 rfl (lb rfl) fun a S => ?_
    refine sSkip 10 false 29 33 S rfl rfl rfl hc34 rfl (lb rfl) fun a S => ?_
    refine sPickT (.bool true) S (wN rfl) rfl rfl hc34 rfl rfl (lb rfl) fun a S => ?_
    refine sMove (.bool true) S (wN rfl) (.inr rfl) rfl rfl (lb rfl) fun a S => ?_
    exact leafL (leafT (⟨true, Option.some.inj h, S.fix [] [] (by decide) rfl rfl rfl⟩))
  refine sField (b := b6) (off := 0) 1 1 S (wG 10 false 29 rfl rfl rfl hc34) rfl rfl rfl rfl rfl (lb rfl) fun a S => ?_
  refine sLoad1 (p := b6) (off := 1) (T := 41) (vs := [iv p0.Start, .slice ad3 p0.Rows.length cp4]) 0 (.slice ad3 p0.Rows.length cp4) S (wG 10 false 29 rfl rfl rfl hc34) rfl rfl rfl rfl rfl rfl (lb rfl) fun a S => ?_
  refine sLen (ad := ad3) (m := p0.Rows.length) (c := cp4) S (wG 10 false 29 rfl rfl rfl hc34) rfl Try.underlying39 rfl rfl (lb rfl) fun a S => ?_
  refine sBin (.bool (decide (110 < (p0.Rows.length : Int)))) S (wG 10 false 29 rfl rfl rfl hc34) rfl rfl rfl (bGt _ _ _ _ .i64 (p0.Rows.length : Int) 110) rfl (lb rfl) fun a S => ?_
  refine sPickF (.bool (decide (110 < (p0.Rows.length : Int)))) S (wN rfl) rfl rfl hc34 rfl rfl (lb rfl) fun a S => ?_
  refine sMove (.bool (decide (110 < (p0.Rows.length : Int)))) S (wN rfl) (.inr rfl) rfl rfl (lb rfl) fun a S => ?_
  exact leafL (leafT (⟨decide (110 < (p0.Rows.length : Int)), Option.some.inj h, S.fix [] [] (by decide) rfl rfl rfl⟩))

end Go.Proofs.Ytdbgkakmhlmpbaa
namespace Go.Proofs.Ytdbgkakmhlmpbaa
open Go.RowKit
set_option linter.unusedVariables false

noncomputable def raddleref45_GreatAll_l1 (p0 : (List api_Chart)) : Int → Option (Int ⊕ (Bool ⊕ Unit)) := fun s0 => match s0 with
  | s7 =>
    if decide (s7 < (p0.length : Int)) then
      Option.bind (idxO p0 s7) fun x16 =>
      Option.bind (F_raddleref45_Great x16) fun r25 =>
      if r25 then
        some (.inr (.inl true))
      else
        some (.inl (w64 (s7 + 1)))
    else
      some (.inr (.inr ()))
noncomputable def F_raddleref45_GreatAll (p0 : (List api_Chart)) : Option Bool :=
  Option.bind (α := Unit ⊕ Bool) (
    Option.bind (whileO (raddleref45_GreatAll_l1 p0) 0) fun z0 => match z0 with
      | .inl z =>
        some (.inr z)
      | .inr _ =>
        some (.inl ())) fun z0 => match z0 with
    | .inl _ =>
      Option.bind (α := Bool) (
        if decide (5 < (p0.length : Int)) then
          if decide ((p0.length : Int) ≤ 20) then
            some true
          else
            some (decide (25 < (p0.length : Int)))
        else
          some (decide (25 < (p0.length : Int)))) fun o29 =>
      some o29
    | .inr z =>
      some z
set_option maxHeartbeats 4000000 in
set_option maxRecDepth 100000 in
theorem c_raddleref45_GreatAll (E : Nat → Prop) (w0 : World) (p0 : (List api_Chart)) (v0 : Value) (r : Bool) (h : F_raddleref45_GreatAll p0 = some r) (S : St0 E [] w0 w0 [] [fRep (rL r_api_Chart) (v0) p0]) :
    Calls Try.prog 15 #[v0] w0 (Ret (X := Unit) E [] w0 (fun _ => .bool r) (fun _ => []) (fun _ => [])) := by
  unfold F_raddleref45_GreatAll at h
  obtain ⟨ad1, cp2, _, rfl, _⟩ := S.know (i := 0) (e := fRep (rL r_api_Chart) (v0) p0) rfl
  refine sEnter (args := [.slice ad1 p0.length cp2]) 28 Try.func15 rfl rfl (by simp) S (fun a S => ?_)
  refine sSeq (fun K3 hK3 => ?_)
  refine sRegion ?_
  refine sMove (.bool false) S (wN rfl) (.inr rfl) rfl rfl (lb rfl) fun a S => ?_
  refine leafL (leafT (hK3 _ _ ?_))
  obtain ⟨t4, h, g5⟩ := bindSome h
  refine sCut (fun a w => .inl () = t4 ∧ St [] E [] w0 28 a w [(0, .slice ad1 p0.length cp2)] [] [fRep (rL r_api_Chart) (.slice ad1 p0.length cp2) p0]) ?_ (fun a w hI => ?_)
  · refine sSeq (fun K6 hK6 => ?_)
    refine sRegion ?_
    refine sMove (iv 0) S (wN rfl) (.inr rfl) rfl rfl (lb rfl) fun a S => ?_
    refine leafL (leafT (hK6 _ _ ?_))
    refine wp_block ?_
    obtain ⟨t10, hl, g9⟩ := bindSome h
    refine sLoop hl (fun s0 a w => match s0 with | s7 => St [] E [] w0 28 a w [(0, .slice ad1 p0.length cp2), (3, iv s7)] [] [fRep (rL r_api_Chart) (.slice ad1 p0.length cp2) p0]) (S.fix [] [0] (by decide) rfl rfl rfl) ?_
    clear hl h
    intro s7 a w c0 hI h hu8
    unfold raddleref45_GreatAll_l1 at h
    dsimp only at h hI
    have S := hI
    refine sSeq (fun K11 hK11 => ?_)
    refine sSeq (fun K12 hK12 => ?_)
    refine sRegion ?_
    refine sMove (iv s7) S (wN rfl) (.inl rfl) rfl rfl (lb rfl) fun a S => ?_
    refine sMove (.slice ad1 p0.length cp2) S (wN rfl) (.inl rfl) rfl rfl (lb rfl) fun a S => ?_
    refine sLen (ad := ad1) (m := p0.length) (c := cp2) S (wN rfl) rfl Try.underlying38 rfl rfl (lb rfl) fun a S => ?_
    refine sBin (.bool (decide (s7 < (p0.length : Int)))) S (wN rfl) rfl rfl rfl (bLt _ _ _ _ .i64 s7 (p0.length : Int)) rfl (lb rfl) fun a S => ?_
    refine leafL (leafT (hK12 _ _ ?_))
    rcases iteSome h with ⟨hc13, h⟩ | ⟨hc13, h⟩
    rotate_left
    · refine sCondF S rfl hc13 ?_
      obtain rfl := Option.some.inj h
      obtain rfl := hu8 _ rfl
      have h := g9
      clear g9
      try dsimp only at h
      exact wp_exit (xThen (xThen (xHit (leafT (⟨Option.some.inj h, S.fix [] [0] (by decide) rfl rfl rfl⟩)))))
    refine sCondT S rfl hc13 ?_
    refine wp_skip (leafT (hK11 _ _ ?_))
    refine sSeq (fun K14 hK14 => ?_)
    refine wp_block ?_
    refine sSeq (fun K15 hK15 => ?_)
    refine sRegion ?_
    refine sMove (.slice ad1 p0.length cp2) S (wN rfl) (.inl rfl) rfl rfl (lb rfl) fun a S => ?_
    refine sMove (iv s7) S (wN rfl) (.inl rfl) rfl rfl (lb rfl) fun a S => ?_
    obtain ⟨x16, hx17, h⟩ := bindSome h
    obtain ⟨q18, hq19, S⟩ := pIdx (P := Try.prog) (r := r_api_Chart) (v := .slice ad1 p0.length cp2) (xs := p0) (j := s7) 38 41 0 S Try.underlying38 rfl rfl hx17
    refine sIdxV (v := .slice ad1 p0.length cp2) (k := .i64) (j := s7) S (wN rfl) rfl rfl rfl hq19 rfl (lb rfl) fun a S => ?_
    obtain ⟨u20, S⟩ := pLoad (r := r_api_Chart) (q := q18) (x := x16) 0 S rfl
    obtain ⟨u21, rfl, hu22⟩ := S.mem.know (i := 1) (e := fRep r_api_Chart (u20) x16) rfl
    have S := S.learn (fRep (rL r_api_Row) u21 x16.Rows) hu22
    obtain ⟨ad23, cp24, _, rfl, _⟩ := hu22
    refine sLoadVN (vq := q18) 1 [iv x16.Start, .slice ad23 x16.Rows.length cp24] S (wN rfl) rfl rfl rfl rfl rfl rfl (lb rfl) fun a S => ?_
    obtain ⟨r25, hx26, h⟩ := bindSome h
    have S1 := S.mem
    refine sCallQ (X := Unit) (f := 14) (vs := [.agg #[iv x16.Start, .slice ad23 x16.Rows.length cp24]]) (val := fun _ => .bool r25) S (wN rfl) rfl callee14 rfl (S1.quiet [2] rfl) (fun E1 w1 S1 => c_raddleref45_Great E1 w1 x16 (.agg #[iv x16.Start, .slice ad23 x16.Rows.length cp24]) r25 hx26 S1) rfl (lb rfl) fun _ a w S => ?_
    refine leafL (leafT (hK15 _ _ ?_))
    rcases iteSome h with ⟨hc27, h⟩ | ⟨hc27, h⟩
    rotate_left
    · refine sCondF S rfl hc27 ?_
      refine wp_skip (leafB (leafT (hK14 _ _ ?_)))
      refine sRegion ?_
      refine sMove (iv s7) S (wN rfl) (.inl rfl) rfl rfl (lb rfl) fun a S => ?_
      refine sBin (iv (w64 (s7 + 1))) S (wN rfl) rfl rfl rfl (bAdd _ _ _ _ s7 1) rfl (lb rfl) fun a S => ?_
      refine sMove (iv (w64 (s7 + 1))) S (wN rfl) (.inr rfl) rfl rfl (lb rfl) fun a S => ?_
      exact leafL (leafT (⟨w64 (s7 + 1), (Option.some.inj h).symm, (S.fix [] [4] (by decide) rfl rfl rfl)⟩))
    refine sCondT S rfl hc27 ?_
    refine sSeq (fun K28 hK28 => ?_)
    refine sRegion ?_
    refine sMove (.bool true) S (wN rfl) (.inr rfl) rfl rfl (lb rfl) fun a S => ?_
    refine leafL (leafT (hK28 _ _ ?_))
    obtain rfl := Option.some.inj h
    obtain rfl := hu8 _ rfl
    have h := g9
    clear g9
    try dsimp only at h
    obtain rfl := Option.some.inj h
    have h := g5
    clear g5
    try dsimp only at h
    obtain rfl := Option.some.inj h
    exact wp_ret (rBlock (rThen (rThen (rBlock (rThen (sRet (.bool true) S (rsl1 rfl (rvT (t := 2) (v := .bool true) S rfl)) ⟨(), rfl, S.mem.sel [] [] (by decide) rfl rfl⟩))))))
  obtain ⟨rfl, S⟩ := hI
  have h := g5
  clear g5
  try dsimp only at h
  obtain ⟨t30, h, g31⟩ := bindSome h
  refine sCut (fun a w => ∃ o29, o29 = t30 ∧ St [] E [] w0 28 a w [(2, .bool o29)] [] []) ?_ (fun a w hI => ?_)
  rotate_left
  · obtain ⟨o29, rfl, S⟩ := hI
    have h := g31
    clear g31
    try dsimp only at h
    obtain rfl := Option.some.inj h
    exact wp_ret (sRet (.bool o29) S (rsl1 rfl (rvT (t := 2) (v := .bool o29) S rfl)) ⟨(), rfl, S.mem.sel [] [] (by decide) rfl rfl⟩)
  refine sRegion ?_
  refine sMove (.slice ad1 p0.length cp2) S (wN rfl) (.inl rfl) rfl rfl (lb rfl) fun a S => ?_
  refine sLen (ad := ad1) (m := p0.length) (c := cp2) S (wN rfl) rfl Try.underlying38 rfl rfl (lb rfl) fun a S => ?_
  refine sBin (.bool (decide (5 < (p0.length : Int)))) S (wN rfl) rfl rfl rfl (bGt _ _ _ _ .i64 (p0.length : Int) 5) rfl (lb rfl) fun a S => ?_
  refine sMove (.bool (decide (5 < (p0.length : Int)))) S (wN rfl) (.inl rfl) rfl rfl (lb rfl) fun a S => ?_
  rcases iteSome h with ⟨hc32, h⟩ | ⟨hc32, h⟩
  rotate_left
  · refine sSkip 3 true 18 19 S rfl rfl rfl hc32 rfl (lb rfl) fun a S => ?_
    refine sSkip 3 true 18 20 S rfl rfl rfl hc32 rfl (lb rfl) fun a S => ?_
    refine sSkip 3 true 18 21 S rfl rfl rfl hc32 rfl (lb rfl) fun a S => ?_
    refine sPickF (.bool false) S (wN rfl) rfl rfl hc32 rfl rfl (lb rfl) fun a S => ?_
    refine sMove (.bool false) S (wN rfl) (.inl rfl) rfl rfl (lb rfl) fun a S => ?_
    refine sMove (.slice ad1 p0.length cp2) S (wG 8 false 23 rfl rfl rfl rfl) (.inl rfl) rfl rfl (lb rfl) fun a S => ?_
    refine sLen (ad := ad1) (m := p0.length) (c := cp2) S (wG 8 false 23 rfl rfl rfl rfl) rfl Try.underlying38 rfl rfl (lb rfl) fun a S => ?_
    refine sBin (.bool (decide (25 < (p0.length : Int)))) S (wG 8 false 23 rfl rfl rfl rfl) rfl rfl rfl (bGt _ _ _ _ .i64 (p0.length : Int) 25) rfl (lb rfl) fun a S => ?_
    refine sPickF (.bool (decide (25 < (p0.length : Int)))) S (wN rfl) rfl rfl rfl rfl rfl (lb rfl) fun a S => ?_
    refine sMove (.bool (decide (25 < (p0.length : Int)))) S (wN rfl) (.inr rfl) rfl rfl (lb rfl) fun a S => ?_
    exact leafL (leafT (⟨decide (25 < (p0.length : Int)), Option.some.inj h, S.fix [] [] (by decide) rfl rfl rfl⟩))
  refine sMove (.slice ad1 p0.length cp2) S (wG 3 true 18 rfl rfl rfl hc32) (.inl rfl) rfl rfl (lb rfl) fun a S => ?_
  refine sLen (ad := ad1) (m := p0.length) (c := cp2) S (wG 3 true 18 rfl rfl rfl hc32) rfl Try.underlying38 rfl rfl (lb rfl) fun a S => ?_
  refine sBin (.bool (decide ((p0.length : Int) ≤ 20))) S (wG 3 true 18 rfl rfl rfl hc32) rfl rfl rfl (bLe _ _ _ _ .i64 (p0.length : Int) 20) rfl (lb rfl) fun a S => ?_
  refine sPickT (.bool (decide ((p0.length : Int) ≤ 20))) S (wN rfl) rfl rfl hc32 rfl rfl (lb rfl) fun a S => ?_
  refine sMove (.bool (decide ((p0.length : Int) ≤ 20))) S (wN rfl) (.inl rfl) rfl rfl (lb rfl) fun a S => ?_
  rcases iteSome h with ⟨hc33, h⟩ | ⟨hc33, h⟩
  · refine sSkip 8 false 23 24 S rfl rfl rfl hc33 rfl (lb rfl) fun a S => ?_
    refine sSkip 8 false 23 25 S rfl rfl rfl hc33 rfl (lb rfl) fun a S => ?_
    refine sSkip 8 false 23 26 S rfl rfl rfl hc33 rfl (lb rfl) fun a S => ?_
    refine sPickT (.bool true) S (wN rfl) rfl rfl hc33 rfl rfl (lb rfl) fun a S => ?_
    refine sMove (.bool true) S (wN rfl) (.inr rfl) rfl rfl (lb rfl) fun a S => ?_
    exact leafL (leafT (⟨true, Option.some.inj h, S.fix [] [] (by decide) rfl rfl rfl⟩))
  refine sMove (.slice ad1 p0.length cp2) S (wG 8 false 23 rfl rfl rfl hc33) (.inl rfl) rfl rfl (lb rfl) fun a S => ?_
  refine sLen (ad := ad1) (m := p0.length) (c := cp2) S (wG 8 false 23 rfl rfl rfl hc33) rfl Try.underlying38 rfl rfl (lb rfl) fun a S => ?_
  refine sBin (.bool (decide (25 < (p0.length : Int)))) S (wG 8 false 23 rfl rfl rfl hc33) rfl rfl rfl (bGt _ _ _ _ .i64 (p0.length : Int) 25) rfl (lb rfl) fun a S => ?_
  refine sPickF (.bool (decide (25 < (p0.length : Int)))) S (wN rfl) rfl rfl hc33 rfl rfl (lb rfl) fun a S => ?_
  refine sMove (.bool (decide (25 < (p0.length : Int)))) S (wN rfl) (.inr rfl) rfl rfl (lb rfl) fun a S => ?_
  exact leafL (leafT (⟨decide (25 < (p0.length : Int)), Option.some.inj h, S.fix [] [] (by decide) rfl rfl rfl⟩))

end Go.Proofs.Ytdbgkakmhlmpbaa
namespace Go.Proofs.Ytdbgkakmhlmpbaa
open Go.RowKit
set_option linter.unusedVariables false

noncomputable def cost_Total_l1 (p0 : (List api_Chart)) (p1 : api_Rates) : (Int × Int × Int) → Option ((Int × Int × Int) ⊕ ((api_Bill × Int) ⊕ (Int × Int))) := fun s0 => match s0 with
  | (s17, s18, s19) =>
    if decide (s17 < (p0.length : Int)) then
      Option.bind (idxO p0 s17) fun x30 =>
      Option.bind (F_cost_Need x30 p1) fun r41 =>
      if r41.2 != 0 then
        some (.inr (.inl ((api_Bill.mk 0 0), r41.2)))
      else
        some (.inl (w64 (s17 + 1), w64 (s18 + r41.1.Length), w64 (s19 + r41.1.Time)))
    else
      some (.inr (.inr (s18, s19)))
noncomputable def F_cost_Total (p0 : (List api_Chart)) (p1 : api_Rates) : Option (api_Bill × Int) :=
  if decide (20 < (p0.length : Int)) then
    some ((api_Bill.mk 0 0), 4)
  else
    Option.bind (α := (Int × Int) ⊕ (api_Bill × Int)) (
      Option.bind (whileO (cost_Total_l1 p0 p1) (0, 0, 0)) fun z0 => match z0 with
        | .inl z =>
          some (.inr z)
        | .inr (e23, e24) =>
          some (.inl (e23, e24))) fun z0 => match z0 with
      | .inl (o12, o13) =>
        if (p0.length : Int) == 0 then
          Option.bind (F_cost_Check p1) fun r54 =>
          some ((api_Bill.mk o12 o13), r54)
        else
          some ((api_Bill.mk o12 o13), 0)
      | .inr z =>
        some z
def c_cost_Total_val (r : (api_Bill × Int)) (x : Value) : Value := .tuple #[x, .int .i64 r.2]
def c_cost_Total_D (r : (api_Bill × Int)) (x : Value) : List Fact := [fRep r_api_Bill x r.1]
set_option maxHeartbeats 4000000 in
set_option maxRecDepth 100000 in
theorem c_cost_Total (E : Nat → Prop) (w0 : World) (p0 : (List api_Chart)) (v0 : Value) (p1 : api_Rates) (v1 : Value) (r : (api_Bill × Int)) (h : F_cost_Total p0 p1 = some r) (S : St0 E [] w0 w0 [] [fRep (rL r_api_Chart) (v0) p0, fRep r_api_Rates (v1) p1]) :
    Calls Try.prog 20 #[v0, v1] w0 (Ret (X := Value) E [] w0 (c_cost_Total_val r) (fun _ => []) (c_cost_Total_D r)) := by
  unfold F_cost_Total at h
  obtain ⟨ad1, cp2, _, rfl, _⟩ := S.know (i := 0) (e := fRep (rL r_api_Chart) (v0) p0) rfl
  obtain rfl : v1 = gv_api_Rates p1 := S.know (i := 1) (e := fRep r_api_Rates (v1) p1) rfl
  refine sEnter (args := [.slice ad1 p0.length cp2, gv_api_Rates p1]) 51 Try.func20 rfl rfl (by simp) S (fun a S => ?_)
  refine sSeq (fun K3 hK3 => ?_)
  refine sRegion ?_
  refine sBox (v := gv_api_Rates p1) S (wN rfl) rfl rfl (gl_api_Rates p1) rfl rfl (lb rfl) fun a b4 w S => ?_
  refine sAlloc (.agg #[iv 0, iv 0]) S (wN rfl) rfl rfl [iv 0, iv 0] rfl rfl (lb rfl) fun a b5 w S => ?_
  refine sMove (iv 0) S (wN rfl) (.inr rfl) rfl rfl (lb rfl) fun a S => ?_
  refine leafL (leafT (hK3 _ _ ?_))
  refine sSeq (fun K6 hK6 => ?_)
  refine sSeq (fun K7 hK7 => ?_)
  refine sRegion ?_
  refine sMove (.slice ad1 p0.length cp2) S (wN rfl) (.inl rfl) rfl rfl (lb rfl) fun a S => ?_
  refine sLen (ad := ad1) (m := p0.length) (c := cp2) S (wN rfl) rfl Try.underlying38 rfl rfl (lb rfl) fun a S => ?_
  refine sBin (.bool (decide (20 < (p0.length : Int)))) S (wN rfl) rfl rfl rfl (bGt _ _ _ _ .i64 (p0.length : Int) 20) rfl (lb rfl) fun a S => ?_
  refine leafL (leafT (hK7 _ _ ?_))
  rcases iteSome h with ⟨hc8, h⟩ | ⟨hc8, h⟩
  · refine sCondT S rfl hc8 ?_
    refine sSeq (fun K9 hK9 => ?_)
    refine sRegion ?_
    refine sBuild [] [iv 0, iv 0] S (wN rfl) rfl rfl rfl rfl (lb rfl) fun a S => ?_
    refine sStore (p := b5) (off := 0) (T := 23) (vs := [iv 0, iv 0]) (v := .agg #[iv 0, iv 0]) 0 [iv 0, iv 0] S (wN rfl) rfl rfl rfl rfl rfl rfl rfl (by simp) rfl fun a w S => ?_
    refine sMove (iv 4) S (wN rfl) (.inr rfl) rfl rfl (lb rfl) fun a S => ?_
    refine leafL (leafT (hK9 _ _ ?_))
    obtain rfl := Option.some.inj h
    have S := S.learn (fRep r_api_Bill (.agg #[iv 0, iv 0]) (api_Bill.mk 0 0)) rfl
    exact wp_ret (rThen (sRet (.tuple #[.agg #[iv 0, iv 0], iv 4]) S (rsl2 rfl (rvN (c := 4) (t := 23) (T := 23) (p := b5) 0 [iv 0, iv 0] S rfl rfl rfl rfl) (rvT (t := 5) (v := iv 4) S rfl)) ⟨(.agg #[iv 0, iv 0]), rfl, S.mem.sel [] [0] (by decide) rfl rfl⟩))
  refine sCondF S rfl hc8 ?_
  refine wp_skip (leafT (hK6 _ _ ?_))
  refine sSeq (fun K10 hK10 => ?_)
  refine sRegion ?_
  refine sAlloc (.agg #[iv 0, iv 0]) S (wN rfl) rfl rfl [iv 0, iv 0] rfl rfl (lb rfl) fun a b11 w S => ?_
  refine leafL (leafT (hK10 _ _ ?_))
  obtain ⟨t14, h, g15⟩ := bindSome h
  refine sCut (fun a w => ∃ o12, ∃ o13, .inl (o12, o13) = t14 ∧ St [] E [] w0 51 a w [(0, .slice ad1 p0.length cp2), (3, .pointer (some ⟨b4, 0, none⟩)), (4, .pointer (some ⟨b5, 0, none⟩)), (6, .pointer (some ⟨b11, 0, none⟩))] [eBox b4 44 (gl_api_Rates p1), eBox b5 23 [iv 0, iv 0], eBox b11 23 [iv o12, iv o13]] [fRep (rL r_api_Chart) (.slice ad1 p0.length cp2) p0]) ?_ (fun a w hI => ?_)
  rotate_left
  · obtain ⟨o12, o13, rfl, S⟩ := hI
    have h := g15
    clear g15
    try dsimp only at h
    refine sSeq (fun K50 hK50 => ?_)
    refine sSeq (fun K51 hK51 => ?_)
    refine sRegion ?_
    refine sMove (.slice ad1 p0.length cp2) S (wN rfl) (.inl rfl) rfl rfl (lb rfl) fun a S => ?_
    refine sLen (ad := ad1) (m := p0.length) (c := cp2) S (wN rfl) rfl Try.underlying38 rfl rfl (lb rfl) fun a S => ?_
    refine sBin (.bool ((p0.length : Int) == 0)) S (wN rfl) rfl rfl rfl (bEq _ _ _ _ .i64 (p0.length : Int) 0) rfl (lb rfl) fun a S => ?_
    refine leafL (leafT (hK51 _ _ ?_))
    rcases iteSome h with ⟨hc52, h⟩ | ⟨hc52, h⟩
    rotate_left
    · refine sCondF S rfl hc52 ?_
      refine wp_skip (leafT (hK50 _ _ ?_))
      refine sSeq (fun K56 hK56 => ?_)
      refine sRegion ?_
      refine sLoadN (p := b11) (off := 0) (T := 23) (vs := [iv o12, iv o13]) 2 [iv o12, iv o13] S (wN rfl) rfl rfl rfl rfl rfl rfl rfl (lb rfl) fun a S => ?_
      refine sStore (p := b5) (off := 0) (T := 23) (vs := [iv 0, iv 0]) (v := .agg #[iv o12, iv o13]) 1 [iv o12, iv o13] S (wN rfl) rfl rfl rfl rfl rfl rfl rfl (by simp) rfl fun a w S => ?_
      refine sMove (iv 0) S (wN rfl) (.inr rfl) rfl rfl (lb rfl) fun a S => ?_
      refine leafL (leafT (hK56 _ _ ?_))
      obtain rfl := Option.some.inj h
      have S := S.learn (fRep r_api_Bill (.agg #[iv o12, iv o13]) (api_Bill.mk o12 o13)) rfl
      exact wp_ret (sRet (.tuple #[.agg #[iv o12, iv o13], iv 0]) S (rsl2 rfl (rvN (c := 4) (t := 23) (T := 23) (p := b5) 0 [iv o12, iv o13] S rfl rfl rfl rfl) (rvT (t := 5) (v := iv 0) S rfl)) ⟨(.agg #[iv o12, iv o13]), rfl, S.mem.sel [] [0] (by decide) rfl rfl⟩)
    refine sCondT S rfl hc52 ?_
    refine sSeq (fun K53 hK53 => ?_)
    obtain ⟨r54, hx55, h⟩ := bindSome h
    refine sDraw (nf := [3]) (W := [(0, 47, .agg #[iv o12, iv o13]), (1, 48, gv_api_Rates p1), (2, 49, iv r54)]) rfl S ?_
    refine node_by (A := [[], [], [1], [0, 1, 2], [0, 1, 2, 3]]) (nf := [3]) (Y := []) (W := [(0, 47, .agg #[iv o12, iv o13]), (1, 48, gv_api_Rates p1), (2, 49, iv r54)]) 5 (by kernel_rfl) (by kernel_rfl) (by kernel_rfl) (by kernel_rfl) (by kernel_rfl) [0, 1, 2] (by kernel_rfl) (by decide) (by decide) (aF 0 4 (by decide) ?_ (aF 1 3 (by decide) ?_ (aF 2 2 (by decide) ?_ (aN 3 1 (by decide) ?_ (aE 4 0 3 (by decide) (trivial)))))) [] (fun q hq => by cases hq) (fun hY => absurd (hY 3 (by decide)) (by decide))
    · refine fI 47 (.agg #[iv o12, iv o13]) [(6, .pointer (some ⟨b11, 0, none⟩))] 0 [none] rfl rfl rfl rfl rfl rfl fun G a w S => ?_
      refine sLoadN (p := b11) (off := 0) (T := 23) (vs := [iv o12, iv o13]) 2 [iv o12, iv o13] S (wN rfl) rfl rfl rfl rfl rfl rfl rfl (lb rfl) fun a S => ?_
      exact leafL ⟨rfl, S⟩
    · refine fI 48 (gv_api_Rates p1) [(3, .pointer (some ⟨b4, 0, none⟩))] 1 [none] rfl rfl rfl rfl rfl rfl fun G a w S => ?_
      refine sLoadN (p := b4) (off := 0) (T := 44) (vs := (gl_api_Rates p1)) 0 (gl_api_Rates p1) S (wN rfl) rfl rfl rfl rfl rfl rfl rfl (lb rfl) fun a S => ?_
      exact leafL ⟨rfl, S⟩
    · refine fI 49 (iv r54) [(48, gv_api_Rates p1)] 2 [some 1] rfl rfl rfl rfl rfl rfl fun G a w S => ?_
      have S1 := S.mem
      have S1 := S1.learn (fRep r_api_Rates (gv_api_Rates p1) p1) rfl
      refine sCallQ (X := Unit) (f := 22) (vs := [gv_api_Rates p1]) (val := fun _ => iv r54) S (wN rfl) rfl callee22 rfl (S1.quiet [0] rfl) (fun E1 w1 S1 => c_cost_Check E1 w1 p1 (gv_api_Rates p1) r54 hx55 S1) rfl (lb rfl) fun _ a w S => ?_
      exact leafL ⟨rfl, S⟩
    refine ⟨_, [(4, .pointer (some ⟨b5, 0, none⟩)), (47, .agg #[iv o12, iv o13])], rfl, (srcs_of [none, some 0] rfl rfl rfl), fun G a w S => ?_⟩
    refine sStore (p := b5) (off := 0) (T := 23) (vs := [iv 0, iv 0]) (v := .agg #[iv o12, iv o13]) 1 [iv o12, iv o13] S (wN rfl) rfl rfl rfl rfl rfl rfl rfl (by simp) rfl fun a w S => ?_
    refine leafL ⟨rfl, _, _, .inr ⟨[(4, 5, iv r54)], rfl, S, hz_of rfl, ?_⟩⟩
    refine node_by (A := [[], [], [1], [0, 1, 2], [0, 1, 2, 3]]) (nf := [3]) (Y := [3]) 5 (by kernel_rfl) (by kernel_rfl) (by kernel_rfl) (by kernel_rfl) (by kernel_rfl) [4, 0, 1, 2] (by kernel_rfl) (by decide) (by decide) (aD 0 4 3 (by decide) (aD 1 3 3 (by decide) (aD 2 2 3 (by decide) (aY 3 1 (by decide) (aF 4 0 (by decide) ?_ (trivial)))))) [(4, .pointer (some ⟨b5, 0, none⟩)), (5, iv r54)] (fin_of [none, some 0] rfl (by kernel_rfl) (by kernel_rfl)) (fun _ a w S => ?_)
    · refine fI 5 (iv r54) [(49, iv r54)] 0 [some 3] rfl rfl rfl rfl rfl rfl fun G a w S => ?_
      refine sMove (iv r54) S (wN rfl) (.inr rfl) rfl rfl (lb rfl) fun a S => ?_
      exact leafL ⟨rfl, S⟩
    refine leafT (hK53 _ _ ?_)
    obtain rfl := Option.some.inj h
    have S := S.learn (fRep r_api_Bill (.agg #[iv o12, iv o13]) (api_Bill.mk o12 o13)) rfl
    exact wp_ret (rThen (sRet (.tuple #[.agg #[iv o12, iv o13], iv r54]) S (rsl2 rfl (rvN (c := 4) (t := 23) (T := 23) (p := b5) 0 [iv o12, iv o13] S rfl rfl rfl rfl) (rvT (t := 5) (v := iv r54) S rfl)) ⟨(.agg #[iv o12, iv o13]), rfl, S.mem.sel [] [0] (by decide) rfl rfl⟩))
  refine sSeq (fun K16 hK16 => ?_)
  refine sRegion ?_
  refine sMove (.slice ad1 p0.length cp2) S (wN rfl) (.inl rfl) rfl rfl (lb rfl) fun a S => ?_
  refine sLen (ad := ad1) (m := p0.length) (c := cp2) S (wN rfl) rfl Try.underlying38 rfl rfl (lb rfl) fun a S => ?_
  refine sMove (iv 0) S (wN rfl) (.inl rfl) rfl rfl (lb rfl) fun a S => ?_
  refine leafL (leafT (hK16 _ _ ?_))
  refine wp_block ?_
  obtain ⟨t22, hl, g21⟩ := bindSome h
  refine sLoop hl (fun s0 a w => match s0 with | (s17, s18, s19) => St [] E [] w0 51 a w [(0, .slice ad1 p0.length cp2), (3, .pointer (some ⟨b4, 0, none⟩)), (4, .pointer (some ⟨b5, 0, none⟩)), (6, .pointer (some ⟨b11, 0, none⟩)), (15, .slice ad1 p0.length cp2), (16, iv (p0.length : Int)), (17, iv s17)] [eBox b4 44 (gl_api_Rates p1), eBox b5 23 [iv 0, iv 0], eBox b11 23 [iv s18, iv s19]] [fRep (rL r_api_Chart) (.slice ad1 p0.length cp2) p0]) (S.fix [2, 1, 0] [0] (by decide) rfl rfl rfl) ?_
  clear hl h
  intro s0 a w c0 hI h hu20
  obtain ⟨s17, s18, s19⟩ := s0
  unfold cost_Total_l1 at h
  dsimp only at h hI
  have S := hI
  refine sSeq (fun K25 hK25 => ?_)
  refine sRegion ?_
  refine sBin (.bool (decide (s17 < (p0.length : Int)))) S (wN rfl) rfl rfl rfl (bLt _ _ _ _ .i64 s17 (p0.length : Int)) rfl (lb rfl) fun a S => ?_
  refine leafL (leafT (hK25 _ _ ?_))
  refine sSeq (fun K26 hK26 => ?_)
  rcases iteSome h with ⟨hc27, h⟩ | ⟨hc27, h⟩
  rotate_left
  · refine sCondF S rfl hc27 ?_
    obtain rfl := Option.some.inj h
    obtain rfl := hu20 _ rfl
    have h := g21
    clear g21
    try dsimp only at h
    exact wp_exit (xThen (xThen (xHit (leafT (⟨s18, s19, Option.some.inj h, S.fix [0, 1, 2] [0] (by decide) rfl rfl rfl⟩)))))
  refine sCondT S rfl hc27 ?_
  refine wp_skip (leafT (hK26 _ _ ?_))
  refine sSeq (fun K28 hK28 => ?_)
  refine wp_block ?_
  refine sSeq (fun K29 hK29 => ?_)
  refine sRegion ?_
  obtain ⟨x30, hx31, h⟩ := bindSome h
  obtain ⟨q32, hq33, S⟩ := pIdx (P := Try.prog) (r := r_api_Chart) (v := .slice ad1 p0.length cp2) (xs := p0) (j := s17) 38 41 0 S Try.underlying38 rfl rfl hx31
  refine sIdxV (v := .slice ad1 p0.length cp2) (k := .i64) (j := s17) S (wN rfl) rfl rfl rfl hq33 rfl (lb rfl) fun a S => ?_
  obtain ⟨u34, S⟩ := pLoad (r := r_api_Chart) (q := q32) (x := x30) 0 S rfl
  obtain ⟨u35, rfl, hu36⟩ := S.mem.know (i := 1) (e := fRep r_api_Chart (u34) x30) rfl
  have S := S.learn (fRep (rL r_api_Row) u35 x30.Rows) hu36
  obtain ⟨ad37, cp38, _, rfl, _⟩ := hu36
  refine sLoadVN (vq := q32) 1 [iv x30.Start, .slice ad37 x30.Rows.length cp38] S (wN rfl) rfl rfl rfl rfl rfl rfl (lb rfl) fun a S => ?_
  refine sAlloc (.agg #[iv 0, .slice none 0 0]) S (wN rfl) rfl rfl [iv 0, .slice none 0 0] rfl rfl (lb rfl) fun a b39 w S => ?_
  refine sStore (p := b39) (off := 0) (T := 41) (vs := [iv 0, .slice none 0 0]) (v := .agg #[iv x30.Start, .slice ad37 x30.Rows.length cp38]) 0 [iv x30.Start, .slice ad37 x30.Rows.length cp38] S (wN rfl) rfl rfl rfl rfl rfl rfl rfl (by simp) rfl fun a w S => ?_
  refine leafL (leafT (hK29 _ _ ?_))
  refine sSeq (fun K40 hK40 => ?_)
  refine sRegion ?_
  refine sLoadN (p := b39) (off := 0) (T := 41) (vs := [iv x30.Start, .slice ad37 x30.Rows.length cp38]) 0 [iv x30.Start, .slice ad37 x30.Rows.length cp38] S (wN rfl) rfl rfl rfl rfl rfl rfl rfl (lb rfl) fun a S => ?_
  refine sLoadN (p := b4) (off := 0) (T := 44) (vs := (gl_api_Rates p1)) 1 (gl_api_Rates p1) S (wN rfl) rfl rfl rfl rfl rfl rfl rfl (lb rfl) fun a S => ?_
  obtain ⟨r41, hx42, h⟩ := bindSome h
  have S := S.learn (fRep r_api_Rates (gv_api_Rates p1) p1) rfl
  refine sCall (X := Value) (f := 18) (vs := [.agg #[iv x30.Start, .slice ad37 x30.Rows.length cp38], gv_api_Rates p1]) (val := c_cost_Need_val r41) (B' := fun _ => []) (D' := c_cost_Need_D r41) [] [eBox b39 41 [iv x30.Start, .slice ad37 x30.Rows.length cp38], eBox b4 44 (gl_api_Rates p1), eBox b5 23 [iv 0, iv 0], eBox b11 23 [iv s18, iv s19]] [fRep r_api_Chart (.agg #[iv x30.Start, .slice ad37 x30.Rows.length cp38]) x30, fRep r_api_Rates (gv_api_Rates p1) p1] [0, 1, 2, 3] [3, 0] S (wN rfl) rfl callee18 rfl (by decide) rfl rfl (fun E1 w1 S1 => c_cost_Need E1 w1 x30 (.agg #[iv x30.Start, .slice ad37 x30.Rows.length cp38]) p1 (gv_api_Rates p1) r41 hx42 S1) rfl (lb rfl) fun u43 a w S => ?_
  obtain rfl : u43 = .agg #[iv r41.1.Length, iv r41.1.Time] := S.mem.know (i := 0) (e := fRep r_api_Bill (u43) r41.1) rfl
  refine sMove (.tuple #[.agg #[iv r41.1.Length, iv r41.1.Time], iv r41.2]) S (wN rfl) (.inl rfl) rfl rfl (lb rfl) fun a S => ?_
  refine sExtract (vs := [.agg #[iv r41.1.Length, iv r41.1.Time], iv r41.2]) (.agg #[iv r41.1.Length, iv r41.1.Time]) S (wN rfl) rfl rfl rfl rfl (lb rfl) fun a S => ?_
  refine sExtract (vs := [.agg #[iv r41.1.Length, iv r41.1.Time], iv r41.2]) (iv r41.2) S (wN rfl) rfl rfl rfl rfl (lb rfl) fun a S => ?_
  refine sAlloc (.agg #[iv 0, iv 0]) S (wN rfl) rfl rfl [iv 0, iv 0] rfl rfl (lb rfl) fun a b44 w S => ?_
  refine sStore (p := b44) (off := 0) (T := 23) (vs := [iv 0, iv 0]) (v := .agg #[iv r41.1.Length, iv r41.1.Time]) 0 [iv r41.1.Length, iv r41.1.Time] S (wN rfl) rfl rfl rfl rfl rfl rfl rfl (by simp) rfl fun a w S => ?_
  refine sMove (iv r41.2) S (wN rfl) (.inr rfl) rfl rfl (lb rfl) fun a S => ?_
  refine leafL (leafT (hK40 _ _ ?_))
  refine sSeq (fun K45 hK45 => ?_)
  refine sSeq (fun K46 hK46 => ?_)
  refine sRegion ?_
  refine sMove (iv r41.2) S (wN rfl) (.inl rfl) rfl rfl (lb rfl) fun a S => ?_
  refine sBin (.bool (r41.2 != 0)) S (wN rfl) rfl rfl rfl (bNe _ _ _ _ .i64 r41.2 0) rfl (lb rfl) fun a S => ?_
  refine leafL (leafT (hK46 _ _ ?_))
  rcases iteSome h with ⟨hc47, h⟩ | ⟨hc47, h⟩
  · refine sCondT S rfl hc47 ?_
    refine sSeq (fun K48 hK48 => ?_)
    refine sRegion ?_
    refine sBuild [] [iv 0, iv 0] S (wN rfl) rfl rfl rfl rfl (lb rfl) fun a S => ?_
    refine sMove (iv r41.2) S (wN rfl) (.inl rfl) rfl rfl (lb rfl) fun a S => ?_
    refine sStore (p := b5) (off := 0) (T := 23) (vs := [iv 0, iv 0]) (v := .agg #[iv 0, iv 0]) 3 [iv 0, iv 0] S (wN rfl) rfl rfl rfl rfl rfl rfl rfl (by simp) rfl fun a w S => ?_
    refine sMove (iv r41.2) S (wN rfl) (.inr rfl) rfl rfl (lb rfl) fun a S => ?_
    refine leafL (leafT (hK48 _ _ ?_))
    obtain rfl := Option.some.inj h
    obtain rfl := hu20 _ rfl
    have h := g21
    clear g21
    try dsimp only at h
    obtain rfl := Option.some.inj h
    have h := g15
    clear g15
    try dsimp only at h
    obtain rfl := Option.some.inj h
    have S := S.learn (fRep r_api_Bill (.agg #[iv 0, iv 0]) (api_Bill.mk 0 0)) rfl
    exact wp_ret (rThen (rBlock (rThen (rThen (rBlock (rThen (sRet (.tuple #[.agg #[iv 0, iv 0], iv r41.2]) S (rsl2 rfl (rvN (c := 4) (t := 23) (T := 23) (p := b5) 0 [iv 0, iv 0] S rfl rfl rfl rfl) (rvT (t := 5) (v := iv r41.2) S rfl)) ⟨(.agg #[iv 0, iv 0]), rfl, S.mem.sel [] [0] (by decide) rfl rfl⟩)))))))
  refine sCondF S rfl hc47 ?_
  refine wp_skip (leafT (hK45 _ _ ?_))
  refine sSeq (fun K49 hK49 => ?_)
  refine sRegion ?_
  refine sField (b := b11) (off := 0) 0 0 S (wN rfl) rfl rfl rfl rfl rfl (lb rfl) fun a S => ?_
  refine sLoad1 (p := b11) (off := 0) (T := 23) (vs := [iv s18, iv s19]) 4 (iv s18) S (wN rfl) rfl rfl rfl rfl rfl rfl (lb rfl) fun a S => ?_
  refine sField (b := b44) (off := 0) 0 0 S (wN rfl) rfl rfl rfl rfl rfl (lb rfl) fun a S => ?_
  refine sLoad1 (p := b44) (off := 0) (T := 23) (vs := [iv r41.1.Length, iv r41.1.Time]) 0 (iv r41.1.Length) S (wN rfl) rfl rfl rfl rfl rfl rfl (lb rfl) fun a S => ?_
  refine sBin (iv (w64 (s18 + r41.1.Length))) S (wN rfl) rfl rfl rfl (bAdd _ _ _ _ s18 r41.1.Length) rfl (lb rfl) fun a S => ?_
  refine sField (b := b11) (off := 0) 0 0 S (wN rfl) rfl rfl rfl rfl rfl (lb rfl) fun a S => ?_
  refine sStore (p := b11) (off := 0) (T := 23) (vs := [iv s18, iv s19]) (v := iv (w64 (s18 + r41.1.Length))) 4 [iv (w64 (s18 + r41.1.Length))] S (wN rfl) rfl rfl rfl rfl rfl rfl rfl (by simp) rfl fun a w S => ?_
  refine leafL (leafT (hK49 _ _ ?_))
  refine sRegion ?_
  refine sField (b := b11) (off := 0) 1 1 S (wN rfl) rfl rfl rfl rfl rfl (lb rfl) fun a S => ?_
  refine sLoad1 (p := b11) (off := 1) (T := 23) (vs := [iv (w64 (s18 + r41.1.Length)), iv s19]) 0 (iv s19) S (wN rfl) rfl rfl rfl rfl rfl rfl (lb rfl) fun a S => ?_
  refine sField (b := b44) (off := 0) 1 1 S (wN rfl) rfl rfl rfl rfl rfl (lb rfl) fun a S => ?_
  refine sLoad1 (p := b44) (off := 1) (T := 23) (vs := [iv r41.1.Length, iv r41.1.Time]) 1 (iv r41.1.Time) S (wN rfl) rfl rfl rfl rfl rfl rfl (lb rfl) fun a S => ?_
  refine sBin (iv (w64 (s19 + r41.1.Time))) S (wN rfl) rfl rfl rfl (bAdd _ _ _ _ s19 r41.1.Time) rfl (lb rfl) fun a S => ?_
  refine sField (b := b11) (off := 0) 1 1 S (wN rfl) rfl rfl rfl rfl rfl (lb rfl) fun a S => ?_
  refine sStore (p := b11) (off := 1) (T := 23) (vs := [iv (w64 (s18 + r41.1.Length)), iv s19]) (v := iv (w64 (s19 + r41.1.Time))) 0 [iv (w64 (s19 + r41.1.Time))] S (wN rfl) rfl rfl rfl rfl rfl rfl rfl (by simp) rfl fun a w S => ?_
  refine leafL (leafB (leafT (hK28 _ _ ?_)))
  refine sRegion ?_
  refine sBin (iv (w64 (s17 + 1))) S (wN rfl) rfl rfl rfl (bAdd _ _ _ _ s17 1) rfl (lb rfl) fun a S => ?_
  refine sMove (iv (w64 (s17 + 1))) S (wN rfl) (.inl rfl) rfl rfl (lb rfl) fun a S => ?_
  exact leafL (leafT (⟨(w64 (s17 + 1), w64 (s18 + r41.1.Length), w64 (s19 + r41.1.Time)), (Option.some.inj h).symm, (S.fix [3, 4, 0] [6] (by decide) rfl rfl rfl)⟩))

end Go.Proofs.Ytdbgkakmhlmpbaa
namespace Go.Proofs.Ytdbgkakmhlmpbaa
open Go.RowKit
set_option linter.unusedVariables false

def anc_raddleref45_Total_0 : List (List Nat) := [[], [], [0, 1], [0, 1, 2], [], [0, 1, 2, 3, 4], [0, 1, 2, 3, 4, 5], [0, 1, 2, 3, 4, 5, 6], [0, 1, 2, 3, 4, 5, 6], [], [0, 1, 2, 3, 4, 5, 6, 7, 9], [0, 1, 2, 3, 4, 5, 6, 7, 8, 9, 10]]
noncomputable def raddleref45_Total_l1 (p0 : (List api_Chart)) (p1 : api_Rates) : (Int × Int × Int) → Option ((Int × Int × Int) ⊕ ((api_Bill × Int) ⊕ (Int × Int))) := fun s0 => match s0 with
  | (s23, s24, s25) =>
    if decide (s23 < (p0.length : Int)) then
      Option.bind (α := (Int × Int × Int)) (
        Option.bind (idxO p0 s23) fun x41 =>
        Option.bind (F_raddleref45_Need x41 p1) fun r50 =>
        some (r50.2, r50.1.Length, r50.1.Time)) fun (o36, o37, o38) =>
      if o36 != 0 then
        some (.inr (.inl ((api_Bill.mk 0 0), o36)))
      else
        some (.inl (w64 (s23 + 1), w64 (s24 + o37), w64 (s25 + o38)))
    else
      some (.inr (.inr (s24, s25)))
noncomputable def F_raddleref45_Total (p0 : (List api_Chart)) (p1 : api_Rates) : Option (api_Bill × Int) :=
  if decide (20 < (p0.length : Int)) then
    some ((api_Bill.mk 0 0), 4)
  else
    if (p0.length : Int) == 0 then
      Option.bind (F_raddleref45_Check p1) fun r14 =>
      some ((api_Bill.mk 0 0), r14)
    else
      Option.bind (α := (Int × Int) ⊕ (api_Bill × Int)) (
        Option.bind (whileO (raddleref45_Total_l1 p0 p1) (0, 0, 0)) fun z0 => match z0 with
          | .inl z =>
            some (.inr z)
          | .inr (e29, e30) =>
            some (.inl (e29, e30))) fun z0 => match z0 with
        | .inl (o18, o19) =>
          some ((api_Bill.mk o18 o19), 0)
        | .inr z =>
          some z
def c_raddleref45_Total_val (r : (api_Bill × Int)) (x : Value) : Value := .tuple #[x, .int .i64 r.2]
def c_raddleref45_Total_D (r : (api_Bill × Int)) (x : Value) : List Fact := [fRep r_api_Bill x r.1]
set_option maxHeartbeats 4000000 in
set_option maxRecDepth 100000 in
theorem c_raddleref45_Total (E : Nat → Prop) (w0 : World) (p0 : (List api_Chart)) (v0 : Value) (p1 : api_Rates) (v1 : Value) (r : (api_Bill × Int)) (h : F_raddleref45_Total p0 p1 = some r) (S : St0 E [] w0 w0 [] [fRep (rL r_api_Chart) (v0) p0, fRep r_api_Rates (v1) p1]) :
    Calls Try.prog 21 #[v0, v1] w0 (Ret (X := Value) E [] w0 (c_raddleref45_Total_val r) (fun _ => []) (c_raddleref45_Total_D r)) := by
  unfold F_raddleref45_Total at h
  obtain ⟨ad1, cp2, _, rfl, _⟩ := S.know (i := 0) (e := fRep (rL r_api_Chart) (v0) p0) rfl
  obtain rfl : v1 = gv_api_Rates p1 := S.know (i := 1) (e := fRep r_api_Rates (v1) p1) rfl
  refine sEnter (args := [.slice ad1 p0.length cp2, gv_api_Rates p1]) 52 Try.func21 rfl rfl (by simp) S (fun a S => ?_)
  refine sSeq (fun K3 hK3 => ?_)
  refine sRegion ?_
  refine sBox (v := gv_api_Rates p1) S (wN rfl) rfl rfl (gl_api_Rates p1) rfl rfl (lb rfl) fun a b4 w S => ?_
  refine sAlloc (.agg #[iv 0, iv 0]) S (wN rfl) rfl rfl [iv 0, iv 0] rfl rfl (lb rfl) fun a b5 w S => ?_
  refine sMove (iv 0) S (wN rfl) (.inr rfl) rfl rfl (lb rfl) fun a S => ?_
  refine leafL (leafT (hK3 _ _ ?_))
  refine sSeq (fun K6 hK6 => ?_)
  refine sSeq (fun K7 hK7 => ?_)
  refine sRegion ?_
  refine sMove (.slice ad1 p0.length cp2) S (wN rfl) (.inl rfl) rfl rfl (lb rfl) fun a S => ?_
  refine sLen (ad := ad1) (m := p0.length) (c := cp2) S (wN rfl) rfl Try.underlying38 rfl rfl (lb rfl) fun a S => ?_
  refine sBin (.bool (decide (20 < (p0.length : Int)))) S (wN rfl) rfl rfl rfl (bGt _ _ _ _ .i64 (p0.length : Int) 20) rfl (lb rfl) fun a S => ?_
  refine leafL (leafT (hK7 _ _ ?_))
  rcases iteSome h with ⟨hc8, h⟩ | ⟨hc8, h⟩
  · refine sCondT S rfl hc8 ?_
    refine sSeq (fun K9 hK9 => ?_)
    refine sRegion ?_
    refine sBuild [] [iv 0, iv 0] S (wN rfl) rfl rfl rfl rfl (lb rfl) fun a S => ?_
    refine sStore (p := b5) (off := 0) (T := 23) (vs := [iv 0, iv 0]) (v := .agg #[iv 0, iv 0]) 0 [iv 0, iv 0] S (wN rfl) rfl rfl rfl rfl rfl rfl rfl (by simp) rfl fun a w S => ?_
    refine sMove (iv 4) S (wN rfl) (.inr rfl) rfl rfl (lb rfl) fun a S => ?_
    refine leafL (leafT (hK9 _ _ ?_))
    obtain rfl := Option.some.inj h
    have S := S.learn (fRep r_api_Bill (.agg #[iv 0, iv 0]) (api_Bill.mk 0 0)) rfl
    exact wp_ret (rThen (sRet (.tuple #[.agg #[iv 0, iv 0], iv 4]) S (rsl2 rfl (rvN (c := 4) (t := 23) (T := 23) (p := b5) 0 [iv 0, iv 0] S rfl rfl rfl rfl) (rvT (t := 5) (v := iv 4) S rfl)) ⟨(.agg #[iv 0, iv 0]), rfl, S.mem.sel [] [0] (by decide) rfl rfl⟩))
  refine sCondF S rfl hc8 ?_
  refine wp_skip (leafT (hK6 _ _ ?_))
  refine sSeq (fun K10 hK10 => ?_)
  refine sSeq (fun K11 hK11 => ?_)
  refine sRegion ?_
  refine sMove (.slice ad1 p0.length cp2) S (wN rfl) (.inl rfl) rfl rfl (lb rfl) fun a S => ?_
  refine sLen (ad := ad1) (m := p0.length) (c := cp2) S (wN rfl) rfl Try.underlying38 rfl rfl (lb rfl) fun a S => ?_
  refine sBin (.bool ((p0.length : Int) == 0)) S (wN rfl) rfl rfl rfl (bEq _ _ _ _ .i64 (p0.length : Int) 0) rfl (lb rfl) fun a S => ?_
  refine leafL (leafT (hK11 _ _ ?_))
  rcases iteSome h with ⟨hc12, h⟩ | ⟨hc12, h⟩
  · refine sCondT S rfl hc12 ?_
    refine sSeq (fun K13 hK13 => ?_)
    refine sRegion ?_
    refine sBuild [] [iv 0, iv 0] S (wN rfl) rfl rfl rfl rfl (lb rfl) fun a S => ?_
    refine sLoadN (p := b4) (off := 0) (T := 44) (vs := (gl_api_Rates p1)) 1 (gl_api_Rates p1) S (wN rfl) rfl rfl rfl rfl rfl rfl rfl (lb rfl) fun a S => ?_
    obtain ⟨r14, hx15, h⟩ := bindSome h
    have S1 := S.mem
    refine sCallQ (X := Unit) (f := 23) (vs := [gv_api_Rates p1]) (val := fun _ => iv r14) S (wN rfl) rfl callee23 rfl (S1.quiet [1] rfl) (fun E1 w1 S1 => c_raddleref45_Check E1 w1 p1 (gv_api_Rates p1) r14 hx15 S1) rfl (lb rfl) fun _ a w S => ?_
    refine sStore (p := b5) (off := 0) (T := 23) (vs := [iv 0, iv 0]) (v := .agg #[iv 0, iv 0]) 0 [iv 0, iv 0] S (wN rfl) rfl rfl rfl rfl rfl rfl rfl (by simp) rfl fun a w S => ?_
    refine sMove (iv r14) S (wN rfl) (.inr rfl) rfl rfl (lb rfl) fun a S => ?_
    refine leafL (leafT (hK13 _ _ ?_))
    obtain rfl := Option.some.inj h
    have S := S.learn (fRep r_api_Bill (.agg #[iv 0, iv 0]) (api_Bill.mk 0 0)) rfl
    exact wp_ret (rThen (sRet (.tuple #[.agg #[iv 0, iv 0], iv r14]) S (rsl2 rfl (rvN (c := 4) (t := 23) (T := 23) (p := b5) 0 [iv 0, iv 0] S rfl rfl rfl rfl) (rvT (t := 5) (v := iv r14) S rfl)) ⟨(.agg #[iv 0, iv 0]), rfl, S.mem.sel [] [0] (by decide) rfl rfl⟩))
  refine sCondF S rfl hc12 ?_
  refine wp_skip (leafT (hK10 _ _ ?_))
  refine sSeq (fun K16 hK16 => ?_)
  refine sRegion ?_
  refine sAlloc (.agg #[iv 0, iv 0]) S (wN rfl) rfl rfl [iv 0, iv 0] rfl rfl (lb rfl) fun a b17 w S => ?_
  refine leafL (leafT (hK16 _ _ ?_))
  obtain ⟨t20, h, g21⟩ := bindSome h
  refine sCut (fun a w => ∃ o18, ∃ o19, .inl (o18, o19) = t20 ∧ St [] E [] w0 52 a w [(4, .pointer (some ⟨b5, 0, none⟩)), (6, .pointer (some ⟨b17, 0, none⟩))] [eBox b5 23 [iv 0, iv 0], eBox b17 23 [iv o18, iv o19]] []) ?_ (fun a w hI => ?_)
  rotate_left
  · obtain ⟨o18, o19, rfl, S⟩ := hI
    have h := g21
    clear g21
    try dsimp only at h
    refine sSeq (fun K70 hK70 => ?_)
    refine sRegion ?_
    refine sLoadN (p := b17) (off := 0) (T := 23) (vs := [iv o18, iv o19]) 1 [iv o18, iv o19] S (wN rfl) rfl rfl rfl rfl rfl rfl rfl (lb rfl) fun a S => ?_
    refine sStore (p := b5) (off := 0) (T := 23) (vs := [iv 0, iv 0]) (v := .agg #[iv o18, iv o19]) 0 [iv o18, iv o19] S (wN rfl) rfl rfl rfl rfl rfl rfl rfl (by simp) rfl fun a w S => ?_
    refine sMove (iv 0) S (wN rfl) (.inr rfl) rfl rfl (lb rfl) fun a S => ?_
    refine leafL (leafT (hK70 _ _ ?_))
    obtain rfl := Option.some.inj h
    have S := S.learn (fRep r_api_Bill (.agg #[iv o18, iv o19]) (api_Bill.mk o18 o19)) rfl
    exact wp_ret (sRet (.tuple #[.agg #[iv o18, iv o19], iv 0]) S (rsl2 rfl (rvN (c := 4) (t := 23) (T := 23) (p := b5) 0 [iv o18, iv o19] S rfl rfl rfl rfl) (rvT (t := 5) (v := iv 0) S rfl)) ⟨(.agg #[iv o18, iv o19]), rfl, S.mem.sel [] [0] (by decide) rfl rfl⟩)
  refine sSeq (fun K22 hK22 => ?_)
  refine sRegion ?_
  refine sMove (iv 0) S (wN rfl) (.inr rfl) rfl rfl (lb rfl) fun a S => ?_
  refine leafL (leafT (hK22 _ _ ?_))
  refine wp_block ?_
  obtain ⟨t28, hl, g27⟩ := bindSome h
  refine sLoop hl (fun s0 a w => match s0 with | (s23, s24, s25) => St [] E [] w0 52 a w [(0, .slice ad1 p0.length cp2), (3, .pointer (some ⟨b4, 0, none⟩)), (4, .pointer (some ⟨b5, 0, none⟩)), (6, .pointer (some ⟨b17, 0, none⟩)), (7, iv s23)] [eBox b4 44 (gl_api_Rates p1), eBox b5 23 [iv 0, iv 0], eBox b17 23 [iv s24, iv s25]] [fRep (rL r_api_Chart) (.slice ad1 p0.length cp2) p0]) (S.fix [2, 1, 0] [0] (by decide) rfl rfl rfl) ?_
  clear hl h
  intro s0 a w c0 hI h hu26
  obtain ⟨s23, s24, s25⟩ := s0
  unfold raddleref45_Total_l1 at h
  dsimp only at h hI
  have S := hI
  refine sSeq (fun K31 hK31 => ?_)
  refine sSeq (fun K32 hK32 => ?_)
  refine sRegion ?_
  refine sMove (iv s23) S (wN rfl) (.inl rfl) rfl rfl (lb rfl) fun a S => ?_
  refine sMove (.slice ad1 p0.length cp2) S (wN rfl) (.inl rfl) rfl rfl (lb rfl) fun a S => ?_
  refine sLen (ad := ad1) (m := p0.length) (c := cp2) S (wN rfl) rfl Try.underlying38 rfl rfl (lb rfl) fun a S => ?_
  refine sBin (.bool (decide (s23 < (p0.length : Int)))) S (wN rfl) rfl rfl rfl (bLt _ _ _ _ .i64 s23 (p0.length : Int)) rfl (lb rfl) fun a S => ?_
  refine leafL (leafT (hK32 _ _ ?_))
  rcases iteSome h with ⟨hc33, h⟩ | ⟨hc33, h⟩
  rotate_left
  · refine sCondF S rfl hc33 ?_
    obtain rfl := Option.some.inj h
    obtain rfl := hu26 _ rfl
    have h := g27
    clear g27
    try dsimp only at h
    exact wp_exit (xThen (xThen (xHit (leafT (⟨s24, s25, Option.some.inj h, S.fix [1, 2] [] (by decide) rfl rfl rfl⟩)))))
  refine sCondT S rfl hc33 ?_
  refine wp_skip (leafT (hK31 _ _ ?_))
  refine sSeq (fun K34 hK34 => ?_)
  refine wp_block ?_
  obtain ⟨t39, h, g40⟩ := bindSome h
  refine sCut (fun a w => ∃ o36, ∃ o37, ∃ o38, (o36, o37, o38) = t39 ∧ ∃ b35, St [] E [] w0 52 a w [(0, .slice ad1 p0.length cp2), (3, .pointer (some ⟨b4, 0, none⟩)), (4, .pointer (some ⟨b5, 0, none⟩)), (6, .pointer (some ⟨b17, 0, none⟩)), (7, iv s23), (8, .pointer (some ⟨b35, 0, none⟩)), (9, iv o36)] [eBox b4 44 (gl_api_Rates p1), eBox b5 23 [iv 0, iv 0], eBox b17 23 [iv s24, iv s25], eBox b35 23 [iv o37, iv o38]] [fRep (rL r_api_Chart) (.slice ad1 p0.length cp2) p0]) ?_ (fun a w hI => ?_)
  rotate_left
  · obtain ⟨o36, o37, o38, rfl, b35, S⟩ := hI
    have h := g40
    clear g40
    try dsimp only at h
    refine sSeq (fun K65 hK65 => ?_)
    refine sSeq (fun K66 hK66 => ?_)
    refine sRegion ?_
    refine sMove (iv o36) S (wN rfl) (.inl rfl) rfl rfl (lb rfl) fun a S => ?_
    refine sBin (.bool (o36 != 0)) S (wN rfl) rfl rfl rfl (bNe _ _ _ _ .i64 o36 0) rfl (lb rfl) fun a S => ?_
    refine leafL (leafT (hK66 _ _ ?_))
    rcases iteSome h with ⟨hc67, h⟩ | ⟨hc67, h⟩
    · refine sCondT S rfl hc67 ?_
      refine sSeq (fun K68 hK68 => ?_)
      refine sRegion ?_
      refine sBuild [] [iv 0, iv 0] S (wN rfl) rfl rfl rfl rfl (lb rfl) fun a S => ?_
      refine sMove (iv o36) S (wN rfl) (.inl rfl) rfl rfl (lb rfl) fun a S => ?_
      refine sStore (p := b5) (off := 0) (T := 23) (vs := [iv 0, iv 0]) (v := .agg #[iv 0, iv 0]) 1 [iv 0, iv 0] S (wN rfl) rfl rfl rfl rfl rfl rfl rfl (by simp) rfl fun a w S => ?_
      refine sMove (iv o36) S (wN rfl) (.inr rfl) rfl rfl (lb rfl) fun a S => ?_
      refine leafL (leafT (hK68 _ _ ?_))
      obtain rfl := Option.some.inj h
      obtain rfl := hu26 _ rfl
      have h := g27
      clear g27
      try dsimp only at h
      obtain rfl := Option.some.inj h
      have h := g21
      clear g21
      try dsimp only at h
      obtain rfl := Option.some.inj h
      have S := S.learn (fRep r_api_Bill (.agg #[iv 0, iv 0]) (api_Bill.mk 0 0)) rfl
      exact wp_ret (rThen (rBlock (rThen (rThen (rBlock (rThen (sRet (.tuple #[.agg #[iv 0, iv 0], iv o36]) S (rsl2 rfl (rvN (c := 4) (t := 23) (T := 23) (p := b5) 0 [iv 0, iv 0] S rfl rfl rfl rfl) (rvT (t := 5) (v := iv o36) S rfl)) ⟨(.agg #[iv 0, iv 0]), rfl, S.mem.sel [] [0] (by decide) rfl rfl⟩)))))))
    refine sCondF S rfl hc67 ?_
    refine wp_skip (leafT (hK65 _ _ ?_))
    refine sSeq (fun K69 hK69 => ?_)
    refine sRegion ?_
    refine sField (b := b17) (off := 0) 0 0 S (wN rfl) rfl rfl rfl rfl rfl (lb rfl) fun a S => ?_
    refine sLoad1 (p := b17) (off := 0) (T := 23) (vs := [iv s24, iv s25]) 2 (iv s24) S (wN rfl) rfl rfl rfl rfl rfl rfl (lb rfl) fun a S => ?_
    refine sField (b := b35) (off := 0) 0 0 S (wN rfl) rfl rfl rfl rfl rfl (lb rfl) fun a S => ?_
    refine sLoad1 (p := b35) (off := 0) (T := 23) (vs := [iv o37, iv o38]) 3 (iv o37) S (wN rfl) rfl rfl rfl rfl rfl rfl (lb rfl) fun a S => ?_
    refine sBin (iv (w64 (s24 + o37))) S (wN rfl) rfl rfl rfl (bAdd _ _ _ _ s24 o37) rfl (lb rfl) fun a S => ?_
    refine sField (b := b17) (off := 0) 0 0 S (wN rfl) rfl rfl rfl rfl rfl (lb rfl) fun a S => ?_
    refine sStore (p := b17) (off := 0) (T := 23) (vs := [iv s24, iv s25]) (v := iv (w64 (s24 + o37))) 2 [iv (w64 (s24 + o37))] S (wN rfl) rfl rfl rfl rfl rfl rfl rfl (by simp) rfl fun a w S => ?_
    refine leafL (leafT (hK69 _ _ ?_))
    refine sRegion ?_
    refine sField (b := b17) (off := 0) 1 1 S (wN rfl) rfl rfl rfl rfl rfl (lb rfl) fun a S => ?_
    refine sLoad1 (p := b17) (off := 1) (T := 23) (vs := [iv (w64 (s24 + o37)), iv s25]) 0 (iv s25) S (wN rfl) rfl rfl rfl rfl rfl rfl (lb rfl) fun a S => ?_
    refine sField (b := b35) (off := 0) 1 1 S (wN rfl) rfl rfl rfl rfl rfl (lb rfl) fun a S => ?_
    refine sLoad1 (p := b35) (off := 1) (T := 23) (vs := [iv o37, iv o38]) 3 (iv o38) S (wN rfl) rfl rfl rfl rfl rfl rfl (lb rfl) fun a S => ?_
    refine sBin (iv (w64 (s25 + o38))) S (wN rfl) rfl rfl rfl (bAdd _ _ _ _ s25 o38) rfl (lb rfl) fun a S => ?_
    refine sField (b := b17) (off := 0) 1 1 S (wN rfl) rfl rfl rfl rfl rfl (lb rfl) fun a S => ?_
    refine sStore (p := b17) (off := 1) (T := 23) (vs := [iv (w64 (s24 + o37)), iv s25]) (v := iv (w64 (s25 + o38))) 0 [iv (w64 (s25 + o38))] S (wN rfl) rfl rfl rfl rfl rfl rfl rfl (by simp) rfl fun a w S => ?_
    refine leafL (leafB (leafT (hK34 _ _ ?_)))
    refine sRegion ?_
    refine sMove (iv s23) S (wN rfl) (.inl rfl) rfl rfl (lb rfl) fun a S => ?_
    refine sBin (iv (w64 (s23 + 1))) S (wN rfl) rfl rfl rfl (bAdd _ _ _ _ s23 1) rfl (lb rfl) fun a S => ?_
    refine sMove (iv (w64 (s23 + 1))) S (wN rfl) (.inr rfl) rfl rfl (lb rfl) fun a S => ?_
    exact leafL (leafT (⟨(w64 (s23 + 1), w64 (s24 + o37), w64 (s25 + o38)), (Option.some.inj h).symm, (S.fix [1, 2, 0] [0] (by decide) rfl rfl rfl)⟩))
  obtain ⟨x41, hx42, h⟩ := bindSome h
  obtain ⟨r50, hx51, h⟩ := bindSome h
  obtain ⟨q54, hq55, S⟩ := pIdx (P := Try.prog) (r := r_api_Chart) (v := .slice ad1 p0.length cp2) (xs := p0) (j := s23) 38 41 0 S Try.underlying38 rfl rfl hx42
  obtain ⟨u56, S⟩ := pLoad (r := r_api_Chart) (q := q54) (x := x41) 0 S rfl
  obtain ⟨u57, rfl, hu58⟩ := S.mem.know (i := 1) (e := fRep r_api_Chart (u56) x41) rfl
  have S := S.learn (fRep (rL r_api_Row) u57 x41.Rows) hu58
  obtain ⟨ad59, cp60, _, rfl, _⟩ := hu58
  refine sDraw (nf := [5, 9, 10]) (W := [(0, 27, .slice ad1 p0.length cp2), (1, 28, iv s23), (2, 29, q54), (3, 30, .agg #[iv x41.Start, .slice ad59 x41.Rows.length cp60]), (4, 31, gv_api_Rates p1)]) rfl S ?_
  refine node_by (A := anc_raddleref45_Total_0) (nf := [5, 9, 10]) (Y := []) (W := [(0, 27, .slice ad1 p0.length cp2), (1, 28, iv s23), (2, 29, q54), (3, 30, .agg #[iv x41.Start, .slice ad59 x41.Rows.length cp60]), (4, 31, gv_api_Rates p1)]) 12 (by kernel_rfl) (by kernel_rfl) (by kernel_rfl) (by kernel_rfl) (by kernel_rfl) [0, 1, 2, 3, 4] (by kernel_rfl) (by decide) (by decide) (aF 0 11 (by decide) ?_ (aF 1 10 (by decide) ?_ (aF 2 9 (by decide) ?_ (aF 3 8 (by decide) ?_ (aF 4 7 (by decide) ?_ (aN 5 6 (by decide) ?_ (aE 6 5 5 (by decide) (aE 7 4 5 (by decide) (aE 8 3 5 (by decide) (aN 9 2 (by decide) ?_ (aB 10 1 5 (by decide) (aE 11 0 5 (by decide) (trivial))))))))))))) [] (fun q hq => by cases hq) (fun hY => absurd (hY 5 (by decide)) (by decide))
  · refine fI 27 (.slice ad1 p0.length cp2) [(0, .slice ad1 p0.length cp2)] 0 [none] rfl rfl rfl rfl rfl rfl fun G a w S => ?_
    refine sMove (.slice ad1 p0.length cp2) S (wN rfl) (.inl rfl) rfl rfl (lb rfl) fun a S => ?_
    exact leafL ⟨rfl, S⟩
  · refine fI 28 (iv s23) [(7, iv s23)] 1 [none] rfl rfl rfl rfl rfl rfl fun G a w S => ?_
    refine sMove (iv s23) S (wN rfl) (.inl rfl) rfl rfl (lb rfl) fun a S => ?_
    exact leafL ⟨rfl, S⟩
  · refine fI 29 q54 [(27, .slice ad1 p0.length cp2), (28, iv s23)] 2 [some 0, some 1] rfl rfl rfl rfl rfl rfl fun G a w S => ?_
    refine sIdxV (v := .slice ad1 p0.length cp2) (k := .i64) (j := s23) S (wN rfl) rfl rfl rfl hq55 rfl (lb rfl) fun a S => ?_
    exact leafL ⟨rfl, S⟩
  · refine fI 30 (.agg #[iv x41.Start, .slice ad59 x41.Rows.length cp60]) [(29, q54)] 3 [some 2] rfl rfl rfl rfl rfl rfl fun G a w S => ?_
    refine sLoadVN (vq := q54) 1 [iv x41.Start, .slice ad59 x41.Rows.length cp60] S (wN rfl) rfl rfl rfl rfl rfl rfl (lb rfl) fun a S => ?_
    exact leafL ⟨rfl, S⟩
  · refine fI 31 (gv_api_Rates p1) [(3, .pointer (some ⟨b4, 0, none⟩))] 4 [none] rfl rfl rfl rfl rfl rfl fun G a w S => ?_
    refine sLoadN (p := b4) (off := 0) (T := 44) (vs := (gl_api_Rates p1)) 0 (gl_api_Rates p1) S (wN rfl) rfl rfl rfl rfl rfl rfl rfl (lb rfl) fun a S => ?_
    exact leafL ⟨rfl, S⟩
  · refine ⟨_, [(30, .agg #[iv x41.Start, .slice ad59 x41.Rows.length cp60]), (31, gv_api_Rates p1)], rfl, (srcs_of [some 3, some 4] rfl rfl rfl), fun G a w S => ?_⟩
    have S := S.learn (fRep r_api_Rates (gv_api_Rates p1) p1) rfl
    refine sCall (X := Value) (f := 19) (vs := [.agg #[iv x41.Start, .slice ad59 x41.Rows.length cp60], gv_api_Rates p1]) (val := c_raddleref45_Need_val r50) (B' := fun _ => []) (D' := c_raddleref45_Need_D r50) [] [eBox b4 44 (gl_api_Rates p1), eBox b5 23 [iv 0, iv 0], eBox b17 23 [iv s24, iv s25]] [fRep r_api_Chart (.agg #[iv x41.Start, .slice ad59 x41.Rows.length cp60]) x41, fRep r_api_Rates (gv_api_Rates p1) p1] [0, 1, 2] [3, 0] S (wN rfl) rfl callee19 rfl (by decide) rfl rfl (fun E1 w1 S1 => c_raddleref45_Need E1 w1 x41 (.agg #[iv x41.Start, .slice ad59 x41.Rows.length cp60]) p1 (gv_api_Rates p1) r50 hx51 S1) rfl (lb rfl) fun u61 a w S => ?_
    obtain rfl : u61 = .agg #[iv r50.1.Length, iv r50.1.Time] := S.mem.know (i := 0) (e := fRep r_api_Bill (u61) r50.1) rfl
    refine leafL ⟨rfl, _, _, .inl ⟨32, (.tuple #[.agg #[iv r50.1.Length, iv r50.1.Time], iv r50.2]), [(6, 26, .tuple #[.agg #[iv r50.1.Length, iv r50.1.Time], iv r50.2]), (7, 33, .agg #[iv r50.1.Length, iv r50.1.Time]), (8, 34, iv r50.2)], rfl, S, hz_of rfl, ?_⟩⟩
    refine node_by (A := anc_raddleref45_Total_0) (nf := [5, 9, 10]) (Y := [5]) 12 (by kernel_rfl) (by kernel_rfl) (by kernel_rfl) (by kernel_rfl) (by kernel_rfl) [6, 7, 8, 5, 0, 1, 2, 3, 4] (by kernel_rfl) (by decide) (by decide) (aD 0 11 5 (by decide) (aD 1 10 5 (by decide) (aD 2 9 5 (by decide) (aD 3 8 5 (by decide) (aD 4 7 5 (by decide) (aY 5 6 (by decide) (aF 6 5 (by decide) ?_ (aF 7 4 (by decide) ?_ (aF 8 3 (by decide) ?_ (aN 9 2 (by decide) ?_ (aB 10 1 9 (by decide) (aE 11 0 9 (by decide) (trivial))))))))))))) [] (fun q hq => by cases hq) (fun hY => absurd (hY 9 (by decide)) (by decide))
    · refine fI 26 (.tuple #[.agg #[iv r50.1.Length, iv r50.1.Time], iv r50.2]) [(32, .tuple #[.agg #[iv r50.1.Length, iv r50.1.Time], iv r50.2])] 0 [some 3] rfl rfl rfl rfl rfl rfl fun G a w S => ?_
      refine sMove (.tuple #[.agg #[iv r50.1.Length, iv r50.1.Time], iv r50.2]) S (wN rfl) (.inl rfl) rfl rfl (lb rfl) fun a S => ?_
      exact leafL ⟨rfl, S⟩
    · refine fI 33 (.agg #[iv r50.1.Length, iv r50.1.Time]) [(26, .tuple #[.agg #[iv r50.1.Length, iv r50.1.Time], iv r50.2])] 1 [some 0] rfl rfl rfl rfl rfl rfl fun G a w S => ?_
      refine sExtract (vs := [.agg #[iv r50.1.Length, iv r50.1.Time], iv r50.2]) (.agg #[iv r50.1.Length, iv r50.1.Time]) S (wN rfl) rfl rfl rfl rfl (lb rfl) fun a S => ?_
      exact leafL ⟨rfl, S⟩
    · refine fI 34 (iv r50.2) [(26, .tuple #[.agg #[iv r50.1.Length, iv r50.1.Time], iv r50.2])] 2 [some 0] rfl rfl rfl rfl rfl rfl fun G a w S => ?_
      refine sExtract (vs := [.agg #[iv r50.1.Length, iv r50.1.Time], iv r50.2]) (iv r50.2) S (wN rfl) rfl rfl rfl rfl (lb rfl) fun a S => ?_
      exact leafL ⟨rfl, S⟩
    refine ⟨_, [], rfl, (srcs_of [] rfl rfl rfl), fun G a w S => ?_⟩
    refine sAlloc (.agg #[iv 0, iv 0]) S (wN rfl) rfl rfl [iv 0, iv 0] rfl rfl (lb rfl) fun a b62 w S => ?_
    refine leafL ⟨rfl, _, _, .inl ⟨8, (.pointer (some ⟨b62, 0, none⟩)), [], rfl, S, hz_of rfl, ?_⟩⟩
    refine node_by (A := anc_raddleref45_Total_0) (nf := [5, 9, 10]) (Y := [9, 5]) 12 (by kernel_rfl) (by kernel_rfl) (by kernel_rfl) (by kernel_rfl) (by kernel_rfl) [9, 6, 7, 8, 5, 0, 1, 2, 3, 4] (by kernel_rfl) (by decide) (by decide) (aD 0 11 5 (by decide) (aD 1 10 5 (by decide) (aD 2 9 5 (by decide) (aD 3 8 5 (by decide) (aD 4 7 5 (by decide) (aY 5 6 (by decide) (aF 6 5 (by decide) ?_ (aF 7 4 (by decide) ?_ (aF 8 3 (by decide) ?_ (aY 9 2 (by decide) (aN 10 1 (by decide) ?_ (aE 11 0 10 (by decide) (trivial))))))))))))) [] (fun q hq => by cases hq) (fun hY => absurd (hY 10 (by decide)) (by decide))
    · refine fI 26 (.tuple #[.agg #[iv r50.1.Length, iv r50.1.Time], iv r50.2]) [(32, .tuple #[.agg #[iv r50.1.Length, iv r50.1.Time], iv r50.2])] 1 [some 4] rfl rfl rfl rfl rfl rfl fun G a w S => ?_
      refine sMove (.tuple #[.agg #[iv r50.1.Length, iv r50.1.Time], iv r50.2]) S (wN rfl) (.inl rfl) rfl rfl (lb rfl) fun a S => ?_
      exact leafL ⟨rfl, S⟩
    · refine fI 33 (.agg #[iv r50.1.Length, iv r50.1.Time]) [(26, .tuple #[.agg #[iv r50.1.Length, iv r50.1.Time], iv r50.2])] 2 [some 1] rfl rfl rfl rfl rfl rfl fun G a w S => ?_
      refine sExtract (vs := [.agg #[iv r50.1.Length, iv r50.1.Time], iv r50.2]) (.agg #[iv r50.1.Length, iv r50.1.Time]) S (wN rfl) rfl rfl rfl rfl (lb rfl) fun a S => ?_
      exact leafL ⟨rfl, S⟩
    · refine fI 34 (iv r50.2) [(26, .tuple #[.agg #[iv r50.1.Length, iv r50.1.Time], iv r50.2])] 3 [some 1] rfl rfl rfl rfl rfl rfl fun G a w S => ?_
      refine sExtract (vs := [.agg #[iv r50.1.Length, iv r50.1.Time], iv r50.2]) (iv r50.2) S (wN rfl) rfl rfl rfl rfl (lb rfl) fun a S => ?_
      exact leafL ⟨rfl, S⟩
    refine ⟨_, [(8, .pointer (some ⟨b62, 0, none⟩)), (33, .agg #[iv r50.1.Length, iv r50.1.Time])], rfl, (srcs_of [some 0, some 2] rfl rfl rfl), fun G a w S => ?_⟩
    refine sStore (p := b62) (off := 0) (T := 23) (vs := [iv 0, iv 0]) (v := .agg #[iv r50.1.Length, iv r50.1.Time]) 0 [iv r50.1.Length, iv r50.1.Time] S (wN rfl) rfl rfl rfl rfl rfl rfl rfl (by simp) rfl fun a w S => ?_
    refine leafL ⟨rfl, _, _, .inr ⟨[(11, 9, iv r50.2)], rfl, S, hz_of rfl, ?_⟩⟩
    refine node_by (A := anc_raddleref45_Total_0) (nf := [5, 9, 10]) (Y := [10, 9, 5]) 12 (by kernel_rfl) (by kernel_rfl) (by kernel_rfl) (by kernel_rfl) (by kernel_rfl) [11, 9, 6, 7, 8, 5, 0, 1, 2, 3, 4] (by kernel_rfl) (by decide) (by decide) (aD 0 11 10 (by decide) (aD 1 10 10 (by decide) (aD 2 9 10 (by decide) (aD 3 8 10 (by decide) (aD 4 7 10 (by decide) (aY 5 6 (by decide) (aD 6 5 10 (by decide) (aD 7 4 10 (by decide) (aF 8 3 (by decide) ?_ (aY 9 2 (by decide) (aY 10 1 (by decide) (aF 11 0 (by decide) ?_ (trivial))))))))))))) [(0, .slice ad1 p0.length cp2), (3, .pointer (some ⟨b4, 0, none⟩)), (4, .pointer (some ⟨b5, 0, none⟩)), (6, .pointer (some ⟨b17, 0, none⟩)), (7, iv s23), (8, .pointer (some ⟨b62, 0, none⟩)), (9, iv r50.2)] (fin_of [none, none, none, none, none, some 1, some 0] rfl (by kernel_rfl) (by kernel_rfl)) (fun _ a w S => ?_)
    · refine fI 34 (iv r50.2) [(26, .tuple #[.agg #[iv r50.1.Length, iv r50.1.Time], iv r50.2])] 4 [some 2] rfl rfl rfl rfl rfl rfl fun G a w S => ?_
      refine sExtract (vs := [.agg #[iv r50.1.Length, iv r50.1.Time], iv r50.2]) (iv r50.2) S (wN rfl) rfl rfl rfl rfl (lb rfl) fun a S => ?_
      exact leafL ⟨rfl, S⟩
    · refine fI 9 (iv r50.2) [(34, iv r50.2)] 0 [some 4] rfl rfl rfl rfl rfl rfl fun G a w S => ?_
      refine sMove (iv r50.2) S (wN rfl) (.inr rfl) rfl rfl (lb rfl) fun a S => ?_
      exact leafL ⟨rfl, S⟩
    exact leafT (⟨r50.2, r50.1.Length, r50.1.Time, Option.some.inj h, b62, S.fix [1, 2, 3, 0] [6] (by decide) rfl rfl rfl⟩)
  refine ⟨_, [], rfl, (srcs_of [] rfl rfl rfl), fun G a w S => ?_⟩
  refine sAlloc (.agg #[iv 0, iv 0]) S (wN rfl) rfl rfl [iv 0, iv 0] rfl rfl (lb rfl) fun a b63 w S => ?_
  refine leafL ⟨rfl, _, _, .inl ⟨8, (.pointer (some ⟨b63, 0, none⟩)), [], rfl, S, hz_of rfl, ?_⟩⟩
  refine node_by (A := anc_raddleref45_Total_0) (nf := [5, 9, 10]) (Y := [9]) 12 (by kernel_rfl) (by kernel_rfl) (by kernel_rfl) (by kernel_rfl) (by kernel_rfl) [9, 0, 1, 2, 3, 4] (by kernel_rfl) (by decide) (by decide) (aF 0 11 (by decide) ?_ (aF 1 10 (by decide) ?_ (aF 2 9 (by decide) ?_ (aF 3 8 (by decide) ?_ (aF 4 7 (by decide) ?_ (aN 5 6 (by decide) ?_ (aE 6 5 5 (by decide) (aE 7 4 5 (by decide) (aE 8 3 5 (by decide) (aY 9 2 (by decide) (aB 10 1 5 (by decide) (aE 11 0 5 (by decide) (trivial))))))))))))) [] (fun q hq => by cases hq) (fun hY => absurd (hY 5 (by decide)) (by decide))
  · refine fI 27 (.slice ad1 p0.length cp2) [(0, .slice ad1 p0.length cp2)] 1 [none] rfl rfl rfl rfl rfl rfl fun G a w S => ?_
    refine sMove (.slice ad1 p0.length cp2) S (wN rfl) (.inl rfl) rfl rfl (lb rfl) fun a S => ?_
    exact leafL ⟨rfl, S⟩
  · refine fI 28 (iv s23) [(7, iv s23)] 2 [none] rfl rfl rfl rfl rfl rfl fun G a w S => ?_
    refine sMove (iv s23) S (wN rfl) (.inl rfl) rfl rfl (lb rfl) fun a S => ?_
    exact leafL ⟨rfl, S⟩
  · refine fI 29 q54 [(27, .slice ad1 p0.length cp2), (28, iv s23)] 3 [some 1, some 2] rfl rfl rfl rfl rfl rfl fun G a w S => ?_
    refine sIdxV (v := .slice ad1 p0.length cp2) (k := .i64) (j := s23) S (wN rfl) rfl rfl rfl hq55 rfl (lb rfl) fun a S => ?_
    exact leafL ⟨rfl, S⟩
  · refine fI 30 (.agg #[iv x41.Start, .slice ad59 x41.Rows.length cp60]) [(29, q54)] 4 [some 3] rfl rfl rfl rfl rfl rfl fun G a w S => ?_
    refine sLoadVN (vq := q54) 1 [iv x41.Start, .slice ad59 x41.Rows.length cp60] S (wN rfl) rfl rfl rfl rfl rfl rfl (lb rfl) fun a S => ?_
    exact leafL ⟨rfl, S⟩
  · refine fI 31 (gv_api_Rates p1) [(3, .pointer (some ⟨b4, 0, none⟩))] 5 [none] rfl rfl rfl rfl rfl rfl fun G a w S => ?_
    refine sLoadN (p := b4) (off := 0) (T := 44) (vs := (gl_api_Rates p1)) 1 (gl_api_Rates p1) S (wN rfl) rfl rfl rfl rfl rfl rfl rfl (lb rfl) fun a S => ?_
    exact leafL ⟨rfl, S⟩
  refine ⟨_, [(30, .agg #[iv x41.Start, .slice ad59 x41.Rows.length cp60]), (31, gv_api_Rates p1)], rfl, (srcs_of [some 4, some 5] rfl rfl rfl), fun G a w S => ?_⟩
  have S := S.learn (fRep r_api_Rates (gv_api_Rates p1) p1) rfl
  refine sCall (X := Value) (f := 19) (vs := [.agg #[iv x41.Start, .slice ad59 x41.Rows.length cp60], gv_api_Rates p1]) (val := c_raddleref45_Need_val r50) (B' := fun _ => []) (D' := c_raddleref45_Need_D r50) [] [eBox b63 23 [iv 0, iv 0], eBox b4 44 (gl_api_Rates p1), eBox b5 23 [iv 0, iv 0], eBox b17 23 [iv s24, iv s25]] [fRep r_api_Chart (.agg #[iv x41.Start, .slice ad59 x41.Rows.length cp60]) x41, fRep r_api_Rates (gv_api_Rates p1) p1] [0, 1, 2, 3] [3, 0] S (wN rfl) rfl callee19 rfl (by decide) rfl rfl (fun E1 w1 S1 => c_raddleref45_Need E1 w1 x41 (.agg #[iv x41.Start, .slice ad59 x41.Rows.length cp60]) p1 (gv_api_Rates p1) r50 hx51 S1) rfl (lb rfl) fun u64 a w S => ?_
  obtain rfl : u64 = .agg #[iv r50.1.Length, iv r50.1.Time] := S.mem.know (i := 0) (e := fRep r_api_Bill (u64) r50.1) rfl
  refine leafL ⟨rfl, _, _, .inl ⟨32, (.tuple #[.agg #[iv r50.1.Length, iv r50.1.Time], iv r50.2]), [(6, 26, .tuple #[.agg #[iv r50.1.Length, iv r50.1.Time], iv r50.2]), (7, 33, .agg #[iv r50.1.Length, iv r50.1.Time]), (8, 34, iv r50.2)], rfl, S, hz_of rfl, ?_⟩⟩
  refine node_by (A := anc_raddleref45_Total_0) (nf := [5, 9, 10]) (Y := [5, 9]) 12 (by kernel_rfl) (by kernel_rfl) (by kernel_rfl) (by kernel_rfl) (by kernel_rfl) [6, 7, 8, 5, 9, 0, 1, 2, 3, 4] (by kernel_rfl) (by decide) (by decide) (aD 0 11 5 (by decide) (aD 1 10 5 (by decide) (aD 2 9 5 (by decide) (aD 3 8 5 (by decide) (aD 4 7 5 (by decide) (aY 5 6 (by decide) (aF 6 5 (by decide) ?_ (aF 7 4 (by decide) ?_ (aF 8 3 (by decide) ?_ (aY 9 2 (by decide) (aN 10 1 (by decide) ?_ (aE 11 0 10 (by decide) (trivial))))))))))))) [] (fun q hq => by cases hq) (fun hY => absurd (hY 10 (by decide)) (by decide))
  · refine fI 26 (.tuple #[.agg #[iv r50.1.Length, iv r50.1.Time], iv r50.2]) [(32, .tuple #[.agg #[iv r50.1.Length, iv r50.1.Time], iv r50.2])] 0 [some 3] rfl rfl rfl rfl rfl rfl fun G a w S => ?_
    refine sMove (.tuple #[.agg #[iv r50.1.Length, iv r50.1.Time], iv r50.2]) S (wN rfl) (.inl rfl) rfl rfl (lb rfl) fun a S => ?_
    exact leafL ⟨rfl, S⟩
  · refine fI 33 (.agg #[iv r50.1.Length, iv r50.1.Time]) [(26, .tuple #[.agg #[iv r50.1.Length, iv r50.1.Time], iv r50.2])] 1 [some 0] rfl rfl rfl rfl rfl rfl fun G a w S => ?_
    refine sExtract (vs := [.agg #[iv r50.1.Length, iv r50.1.Time], iv r50.2]) (.agg #[iv r50.1.Length, iv r50.1.Time]) S (wN rfl) rfl rfl rfl rfl (lb rfl) fun a S => ?_
    exact leafL ⟨rfl, S⟩
  · refine fI 34 (iv r50.2) [(26, .tuple #[.agg #[iv r50.1.Length, iv r50.1.Time], iv r50.2])] 2 [some 0] rfl rfl rfl rfl rfl rfl fun G a w S => ?_
    refine sExtract (vs := [.agg #[iv r50.1.Length, iv r50.1.Time], iv r50.2]) (iv r50.2) S (wN rfl) rfl rfl rfl rfl (lb rfl) fun a S => ?_
    exact leafL ⟨rfl, S⟩
  refine ⟨_, [(8, .pointer (some ⟨b63, 0, none⟩)), (33, .agg #[iv r50.1.Length, iv r50.1.Time])], rfl, (srcs_of [some 4, some 1] rfl rfl rfl), fun G a w S => ?_⟩
  refine sStore (p := b63) (off := 0) (T := 23) (vs := [iv 0, iv 0]) (v := .agg #[iv r50.1.Length, iv r50.1.Time]) 0 [iv r50.1.Length, iv r50.1.Time] S (wN rfl) rfl rfl rfl rfl rfl rfl rfl (by simp) rfl fun a w S => ?_
  refine leafL ⟨rfl, _, _, .inr ⟨[(11, 9, iv r50.2)], rfl, S, hz_of rfl, ?_⟩⟩
  refine node_by (A := anc_raddleref45_Total_0) (nf := [5, 9, 10]) (Y := [10, 5, 9]) 12 (by kernel_rfl) (by kernel_rfl) (by kernel_rfl) (by kernel_rfl) (by kernel_rfl) [11, 6, 7, 8, 5, 9, 0, 1, 2, 3, 4] (by kernel_rfl) (by decide) (by decide) (aD 0 11 10 (by decide) (aD 1 10 10 (by decide) (aD 2 9 10 (by decide) (aD 3 8 10 (by decide) (aD 4 7 10 (by decide) (aY 5 6 (by decide) (aD 6 5 10 (by decide) (aD 7 4 10 (by decide) (aF 8 3 (by decide) ?_ (aY 9 2 (by decide) (aY 10 1 (by decide) (aF 11 0 (by decide) ?_ (trivial))))))))))))) [(0, .slice ad1 p0.length cp2), (3, .pointer (some ⟨b4, 0, none⟩)), (4, .pointer (some ⟨b5, 0, none⟩)), (6, .pointer (some ⟨b17, 0, none⟩)), (7, iv s23), (8, .pointer (some ⟨b63, 0, none⟩)), (9, iv r50.2)] (fin_of [none, none, none, none, none, some 5, some 0] rfl (by kernel_rfl) (by kernel_rfl)) (fun _ a w S => ?_)
  · refine fI 34 (iv r50.2) [(26, .tuple #[.agg #[iv r50.1.Length, iv r50.1.Time], iv r50.2])] 3 [some 1] rfl rfl rfl rfl rfl rfl fun G a w S => ?_
    refine sExtract (vs := [.agg #[iv r50.1.Length, iv r50.1.Time], iv r50.2]) (iv r50.2) S (wN rfl) rfl rfl rfl rfl (lb rfl) fun a S => ?_
    exact leafL ⟨rfl, S⟩
  · refine fI 9 (iv r50.2) [(34, iv r50.2)] 0 [some 3] rfl rfl rfl rfl rfl rfl fun G a w S => ?_
    refine sMove (iv r50.2) S (wN rfl) (.inr rfl) rfl rfl (lb rfl) fun a S => ?_
    exact leafL ⟨rfl, S⟩
  exact leafT (⟨r50.2, r50.1.Length, r50.1.Time, Option.some.inj h, b63, S.fix [1, 2, 3, 0] [6] (by decide) rfl rfl rfl⟩)

end Go.Proofs.Ytdbgkakmhlmpbaa
