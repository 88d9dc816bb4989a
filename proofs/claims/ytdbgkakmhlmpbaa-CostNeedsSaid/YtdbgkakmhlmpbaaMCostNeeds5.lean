/- Several texts in one: G4 LCN FrCostNeeds -/
import Derived.WalkKit
import Derived.Maps.AppendAt
import Derived.Deep.AppendLies
import Derived.KernelRfl
import Derived.Laws.OwnMore
import Derived.Great.BuildSlice
import Derived.Orders
import Derived.Laws.StructEq
import Derived.ChangeKeysEq
import Derived.Defers
import Derived.Laws.BytesString
import Derived.RangeFuncNested
import Derived.RangeFuncBound
import Derived.RangeFuncCalls
import Derived.RangeFuncLeaves
import Derived.OrdersIn
import Derived.LoopNIn
import Derived.Test.YtdbgkakmhlmpbaaProg
import Derived.ProofKit
import Derived.OpenShut
import Derived.ChangeOld
import Derived.Deep.Slices
import Derived.Lib.SmallJoins
import Derived.JoinedOf
import Derived.JoinedAt
import Derived.Below
import Derived.Test.YtdbgkakmhlmpbaaRows
import Derived.Test.YtdbgkakmhlmpbaaMCostNeeds4
namespace Go.Proofs.Ytdbgkakmhlmpbaa
open Go.RowKit
set_option linter.unusedVariables false

def anc_raddlelaw45_CostNeeds_0 : List (List Nat) := [[], [0], [], [0, 1, 2], [0, 1, 2, 3], [0, 1, 2, 3, 4], [0, 1, 2, 3, 4, 5], [0, 1, 2, 3, 4, 5], [0, 1, 2, 3, 4, 5, 6, 7], [0, 1, 2, 3, 4, 5, 6, 7, 8], [0, 1, 2, 3, 4, 5, 6, 7, 8, 9], [0, 1, 2, 3, 4, 5, 6, 7, 8, 9, 10], [0, 1, 2, 3, 4, 5, 6, 7, 8, 9, 10], [0, 1, 2, 3, 4, 5, 6, 7, 8, 9, 10, 11, 12], [0, 1, 2, 3, 4, 5, 6, 7, 8, 9, 10, 11, 12, 13], [0, 1, 2, 3, 4, 5, 6, 7, 8, 9, 10, 11, 12, 13, 14], [0, 1, 2, 3, 4, 5, 6, 7, 8, 9, 10, 11, 12, 13, 14, 15], [0, 1, 2, 3, 4, 5, 6, 7, 8, 9, 10, 11, 12, 13, 14, 15], [0, 1, 2, 3, 4, 5, 6, 7, 8, 9, 10, 11, 12, 13, 14, 15, 16, 17], [0, 1, 2, 3, 4, 5, 6, 7, 8, 9, 10, 11, 12, 13, 14, 15, 16, 17, 18], [0, 1, 2, 3, 4, 5, 6, 7, 8, 9, 10, 11, 12, 13, 14, 15, 16, 17, 18, 19], [0, 1, 2, 3, 4, 5, 6, 7, 8, 9, 10, 11, 12, 13, 14, 15, 16, 17, 18, 19, 20], [0, 1, 2, 3, 4, 5, 6, 7, 8, 9, 10, 11, 12, 13, 14, 15, 16, 17, 18, 19, 20], [0, 1, 2, 3, 4, 5, 6, 7, 8, 9, 10, 11, 12, 13, 14, 15, 16, 17, 18, 19, 20, 21, 22], [0, 1, 2, 3, 4, 5, 6, 7, 8, 9, 10, 11, 12, 13, 14, 15, 16, 17, 18, 19, 20, 21, 22, 23], [0, 1, 2, 3, 4, 5, 6, 7, 8, 9, 10, 11, 12, 13, 14, 15, 16, 17, 18, 19, 20, 21, 22, 23, 24], [0, 1, 2, 3, 4, 5, 6, 7, 8, 9, 10, 11, 12, 13, 14, 15, 16, 17, 18, 19, 20, 21, 22, 23, 24, 25], [0, 1, 2, 3, 4, 5, 6, 7, 8, 9, 10, 11, 12, 13, 14, 15, 16, 17, 18, 19, 20, 21, 22, 23, 24, 25], [0, 1, 2, 3, 4, 5, 6, 7, 8, 9, 10, 11, 12, 13, 14, 15, 16, 17, 18, 19, 20, 21, 22, 23, 24, 25, 26, 27], [0, 1, 2, 3, 4, 5, 6, 7, 8, 9, 10, 11, 12, 13, 14, 15, 16, 17, 18, 19, 20, 21, 22, 23, 24, 25, 26, 27, 28], [0, 1, 2, 3, 4, 5, 6, 7, 8, 9, 10, 11, 12, 13, 14, 15, 16, 17, 18, 19, 20, 21, 22, 23, 24, 25, 26, 27, 28, 29], [0, 1, 2, 3, 4, 5, 6, 7, 8, 9, 10, 11, 12, 13, 14, 15, 16, 17, 18, 19, 20, 21, 22, 23, 24, 25, 26, 27, 28, 29, 30], [0, 1, 2, 3, 4, 5, 6, 7, 8, 9, 10, 11, 12, 13, 14, 15, 16, 17, 18, 19, 20, 21, 22, 23, 24, 25, 26, 27, 28, 29, 30], [0, 1, 2, 3, 4, 5, 6, 7, 8, 9, 10, 11, 12, 13, 14, 15, 16, 17, 18, 19, 20, 21, 22, 23, 24, 25, 26, 27, 28, 29, 30, 31, 32], [0, 1, 2, 3, 4, 5, 6, 7, 8, 9, 10, 11, 12, 13, 14, 15, 16, 17, 18, 19, 20, 21, 22, 23, 24, 25, 26, 27, 28, 29, 30, 31, 32, 33], [0, 1, 2, 3, 4, 5, 6, 7, 8, 9, 10, 11, 12, 13, 14, 15, 16, 17, 18, 19, 20, 21, 22, 23, 24, 25, 26, 27, 28, 29, 30, 31, 32, 33, 34]]
noncomputable def F_raddlelaw45_CostNeeds (p0 : (List api_Chart)) (p1 : api_Chart) (p2 : api_Rates) : Option Bool :=
  Option.bind (α := Bool) (
    Option.bind (F_raddleref45_Great p1) fun r14 =>
    if r14 then
      some true
    else
      Option.bind (F_raddleref45_GreatAll p0) fun r17 =>
      some r17) fun o11 =>
  if o11 then
    some true
  else
    Option.bind (F_cost_Count p1) fun r22 =>
    Option.bind (F_raddleref45_Count p1) fun r27 =>
    Option.bind (F_cost_Need p1 p2) fun r32 =>
    Option.bind (F_raddleref45_Need p1 p2) fun r37 =>
    Option.bind (F_cost_Total p0 p2) fun r42 =>
    Option.bind (F_raddleref45_Total p0 p2) fun r47 =>
    Option.bind (α := Bool) (
      Option.bind (F_cost_Check p2) fun r54 =>
      Option.bind (F_raddleref45_Check p2) fun r56 =>
      if r54 == r56 then
        if ((r22.1.1 == r27.1.1) && ((r22.1.2.1 == r27.1.2.1) && ((r22.1.2.2.1 == r27.1.2.2.1) && ((r22.1.2.2.2.1 == r27.1.2.2.2.1) && ((r22.1.2.2.2.2.1 == r27.1.2.2.2.2.1) && ((r22.1.2.2.2.2.2.1 == r27.1.2.2.2.2.2.1) && ((r22.1.2.2.2.2.2.2.1 == r27.1.2.2.2.2.2.2.1) && ((r22.1.2.2.2.2.2.2.2.1 == r27.1.2.2.2.2.2.2.2.1) && ((r22.1.2.2.2.2.2.2.2.2.1 == r27.1.2.2.2.2.2.2.2.2.1) && ((r22.1.2.2.2.2.2.2.2.2.2.1 == r27.1.2.2.2.2.2.2.2.2.2.1) && ((r22.1.2.2.2.2.2.2.2.2.2.2 == r27.1.2.2.2.2.2.2.2.2.2.2) && true))))))))))) then
          if r22.2 == r27.2 then
            if ((r32.1.Length == r37.1.Length) && ((r32.1.Time == r37.1.Time) && true)) then
              if r32.2 == r37.2 then
                if ((r42.1.Length == r47.1.Length) && ((r42.1.Time == r47.1.Time) && true)) then
                  some (r42.2 == r47.2)
                else
                  some false
              else
                some false
            else
              some false
          else
            some false
        else
          some false
      else
        some false) fun o51 =>
    some o51
set_option maxHeartbeats 4000000 in
set_option maxRecDepth 100000 in
theorem c_raddlelaw45_CostNeeds (E : Nat → Prop) (w0 : World) (p0 : (List api_Chart)) (v0 : Value) (p1 : api_Chart) (v1 : Value) (p2 : api_Rates) (v2 : Value) (r : Bool) (h : F_raddlelaw45_CostNeeds p0 p1 p2 = some r) (S : St0 E [] w0 w0 [] [fRep (rL r_api_Chart) (v0) p0, fRep r_api_Chart (v1) p1, fRep r_api_Rates (v2) p2]) :
    Calls Try.prog 4 #[v0, v1, v2] w0 (Ret (X := Unit) E [] w0 (fun _ => .bool r) (fun _ => []) (fun _ => [])) := by
  unfold F_raddlelaw45_CostNeeds at h
  obtain ⟨ad1, cp2, _, rfl, _⟩ := S.know (i := 0) (e := fRep (rL r_api_Chart) (v0) p0) rfl
  obtain ⟨u3, rfl, hu4⟩ := S.know (i := 1) (e := fRep r_api_Chart (v1) p1) rfl
  have S := S.learn (fRep (rL r_api_Row) u3 p1.Rows) hu4
  obtain ⟨ad5, cp6, _, rfl, _⟩ := hu4
  obtain rfl : v2 = gv_api_Rates p2 := S.know (i := 3) (e := fRep r_api_Rates (v2) p2) rfl
  refine sEnter (args := [.slice ad1 p0.length cp2, .agg #[iv p1.Start, .slice ad5 p1.Rows.length cp6], gv_api_Rates p2]) 94 Try.func4 rfl rfl (by simp) S (fun a S => ?_)
  refine sSeq (fun K7 hK7 => ?_)
  refine sRegion ?_
  refine sBox (v := .agg #[iv p1.Start, .slice ad5 p1.Rows.length cp6]) S (wN rfl) rfl rfl [iv p1.Start, .slice ad5 p1.Rows.length cp6] rfl rfl (lb rfl) fun a b8 w S => ?_
  refine sBox (v := gv_api_Rates p2) S (wN rfl) rfl rfl (gl_api_Rates p2) rfl rfl (lb rfl) fun a b9 w S => ?_
  refine sMove (.bool false) S (wN rfl) (.inr rfl) rfl rfl (lb rfl) fun a S => ?_
  refine leafL (leafT (hK7 _ _ ?_))
  refine sSeq (fun K10 hK10 => ?_)
  obtain ⟨t12, h, g13⟩ := bindSome h
  refine sCut (fun a w => ∃ o11, o11 = t12 ∧ St [] E [] w0 94 a w [(0, .slice ad1 p0.length cp2), (4, .pointer (some ⟨b8, 0, none⟩)), (5, .pointer (some ⟨b9, 0, none⟩)), (24, .bool o11)] [eBox b8 41 [iv p1.Start, .slice ad5 p1.Rows.length cp6], eBox b9 44 (gl_api_Rates p2)] [fRep (rL r_api_Chart) (.slice ad1 p0.length cp2) p0, fRep (rL r_api_Row) (.slice ad5 p1.Rows.length cp6) p1.Rows]) ?_ (fun a w hI => ?_)
  · refine sRegion ?_
    refine sLoadN (p := b8) (off := 0) (T := 41) (vs := [iv p1.Start, .slice ad5 p1.Rows.length cp6]) 1 [iv p1.Start, .slice ad5 p1.Rows.length cp6] S (wN rfl) rfl rfl rfl rfl rfl rfl rfl (lb rfl) fun a S => ?_
    obtain ⟨r14, hx15, h⟩ := bindSome h
    have S1 := S.mem
    refine sCallQ (X := Unit) (f := 14) (vs := [.agg #[iv p1.Start, .slice ad5 p1.Rows.length cp6]]) (val := fun _ => .bool r14) S (wN rfl) rfl callee14 rfl (S1.quiet [2] rfl) (fun E1 w1 S1 => c_raddleref45_Great E1 w1 p1 (.agg #[iv p1.Start, .slice ad5 p1.Rows.length cp6]) r14 hx15 S1) rfl (lb rfl) fun _ a w S => ?_
    refine sMove (.bool r14) S (wN rfl) (.inl rfl) rfl rfl (lb rfl) fun a S => ?_
    rcases iteSome h with ⟨hc16, h⟩ | ⟨hc16, h⟩
    · refine sSkip 2 false 21 22 S rfl rfl rfl hc16 rfl (lb rfl) fun a S => ?_
      refine sSkip 2 false 21 23 S rfl rfl rfl hc16 rfl (lb rfl) fun a S => ?_
      refine sPickT (.bool true) S (wN rfl) rfl rfl hc16 rfl rfl (lb rfl) fun a S => ?_
      exact leafL (leafT (⟨true, Option.some.inj h, S.fix [1, 0] [1, 0] (by decide) rfl rfl rfl⟩))
    refine sMove (.slice ad1 p0.length cp2) S (wG 2 false 21 rfl rfl rfl hc16) (.inl rfl) rfl rfl (lb rfl) fun a S => ?_
    obtain ⟨r17, hx18, h⟩ := bindSome h
    have S1 := S.mem
    refine sCallQ (X := Unit) (f := 15) (vs := [.slice ad1 p0.length cp2]) (val := fun _ => .bool r17) S (wG 2 false 21 rfl rfl rfl hc16) rfl callee15 rfl (S1.quiet [1] rfl) (fun E1 w1 S1 => c_raddleref45_GreatAll E1 w1 p0 (.slice ad1 p0.length cp2) r17 hx18 S1) rfl (lb rfl) fun _ a w S => ?_
    refine sPickF (.bool r17) S (wN rfl) rfl rfl hc16 rfl rfl (lb rfl) fun a S => ?_
    exact leafL (leafT (⟨r17, Option.some.inj h, S.fix [1, 0] [1, 0] (by decide) rfl rfl rfl⟩))
  obtain ⟨o11, rfl, S⟩ := hI
  have h := g13
  clear g13
  try dsimp only at h
  rcases iteSome h with ⟨hc19, h⟩ | ⟨hc19, h⟩
  · refine sCondT S rfl hc19 ?_
    refine sSeq (fun K20 hK20 => ?_)
    refine sRegion ?_
    refine sMove (.bool true) S (wN rfl) (.inr rfl) rfl rfl (lb rfl) fun a S => ?_
    refine leafL (leafT (hK20 _ _ ?_))
    obtain rfl := Option.some.inj h
    exact wp_ret (rThen (sRet (.bool true) S (rsl1 rfl (rvT (t := 6) (v := .bool true) S rfl)) ⟨(), rfl, S.mem.sel [] [] (by decide) rfl rfl⟩))
  refine sCondF S rfl hc19 ?_
  refine wp_skip (leafT (hK10 _ _ ?_))
  refine sSeq (fun K21 hK21 => ?_)
  refine sRegion ?_
  refine sLoadN (p := b8) (off := 0) (T := 41) (vs := [iv p1.Start, .slice ad5 p1.Rows.length cp6]) 0 [iv p1.Start, .slice ad5 p1.Rows.length cp6] S (wN rfl) rfl rfl rfl rfl rfl rfl rfl (lb rfl) fun a S => ?_
  obtain ⟨r22, hx23, h⟩ := bindSome h
  have S := S.learn (fRep r_api_Chart (.agg #[iv p1.Start, .slice ad5 p1.Rows.length cp6]) p1) ⟨_, rfl, S.mem.know (i := 1) (e := fRep (rL r_api_Row) (.slice ad5 p1.Rows.length cp6) p1.Rows) rfl⟩
  refine sCall (X := Value) (f := 16) (vs := [.agg #[iv p1.Start, .slice ad5 p1.Rows.length cp6]]) (val := c_cost_Count_val r22) (B' := fun _ => []) (D' := c_cost_Count_D r22) [] [eBox b8 41 [iv p1.Start, .slice ad5 p1.Rows.length cp6], eBox b9 44 (gl_api_Rates p2)] [fRep r_api_Chart (.agg #[iv p1.Start, .slice ad5 p1.Rows.length cp6]) p1] [0, 1] [0] S (wN rfl) rfl callee16 rfl (by decide) rfl rfl (fun E1 w1 S1 => c_cost_Count E1 w1 p1 (.agg #[iv p1.Start, .slice ad5 p1.Rows.length cp6]) r22 hx23 S1) rfl (lb rfl) fun u24 a w S => ?_
  obtain rfl : u24 = gv_A11_Int r22.1 := S.mem.know (i := 0) (e := fRep r_A11_Int (u24) r22.1) rfl
  refine sMove (.tuple #[gv_A11_Int r22.1, iv r22.2]) S (wN rfl) (.inl rfl) rfl rfl (lb rfl) fun a S => ?_
  refine sExtract (vs := [gv_A11_Int r22.1, iv r22.2]) (gv_A11_Int r22.1) S (wN rfl) rfl rfl rfl rfl (lb rfl) fun a S => ?_
  refine sExtract (vs := [gv_A11_Int r22.1, iv r22.2]) (iv r22.2) S (wN rfl) rfl rfl rfl rfl (lb rfl) fun a S => ?_
  refine sAlloc (gv_A11_Int (0, 0, 0, 0, 0, 0, 0, 0, 0, 0, 0)) S (wN rfl) rfl rfl (gl_A11_Int (0, 0, 0, 0, 0, 0, 0, 0, 0, 0, 0)) rfl rfl (lb rfl) fun a b25 w S => ?_
  refine sStore (p := b25) (off := 0) (T := 42) (vs := [iv 0, iv 0, iv 0, iv 0, iv 0, iv 0, iv 0, iv 0, iv 0, iv 0, iv 0]) (v := gv_A11_Int r22.1) 0 [iv r22.1.1, iv r22.1.2.1, iv r22.1.2.2.1, iv r22.1.2.2.2.1, iv r22.1.2.2.2.2.1, iv r22.1.2.2.2.2.2.1, iv r22.1.2.2.2.2.2.2.1, iv r22.1.2.2.2.2.2.2.2.1, iv r22.1.2.2.2.2.2.2.2.2.1, iv r22.1.2.2.2.2.2.2.2.2.2.1, iv r22.1.2.2.2.2.2.2.2.2.2.2] S (wN rfl) rfl rfl rfl rfl rfl rfl rfl (by simp) rfl fun a w S => ?_
  refine sMove (iv r22.2) S (wN rfl) (.inr rfl) rfl rfl (lb rfl) fun a S => ?_
  refine leafL (leafT (hK21 _ _ ?_))
  refine sSeq (fun K26 hK26 => ?_)
  refine sRegion ?_
  refine sLoadN (p := b8) (off := 0) (T := 41) (vs := [iv p1.Start, .slice ad5 p1.Rows.length cp6]) 1 [iv p1.Start, .slice ad5 p1.Rows.length cp6] S (wN rfl) rfl rfl rfl rfl rfl rfl rfl (lb rfl) fun a S => ?_
  obtain ⟨r27, hx28, h⟩ := bindSome h
  refine sCall (X := Value) (f := 17) (vs := [.agg #[iv p1.Start, .slice ad5 p1.Rows.length cp6]]) (val := c_raddleref45_Count_val r27) (B' := fun _ => []) (D' := c_raddleref45_Count_D r27) [] [eBox b25 42 (gl_A11_Int r22.1), eBox b8 41 [iv p1.Start, .slice ad5 p1.Rows.length cp6], eBox b9 44 (gl_api_Rates p2)] [fRep r_api_Chart (.agg #[iv p1.Start, .slice ad5 p1.Rows.length cp6]) p1] [0, 1, 2] [1] S (wN rfl) rfl callee17 rfl (by decide) rfl rfl (fun E1 w1 S1 => c_raddleref45_Count E1 w1 p1 (.agg #[iv p1.Start, .slice ad5 p1.Rows.length cp6]) r27 hx28 S1) rfl (lb rfl) fun u29 a w S => ?_
  obtain rfl : u29 = gv_A11_Int r27.1 := S.mem.know (i := 0) (e := fRep r_A11_Int (u29) r27.1) rfl
  refine sMove (.tuple #[gv_A11_Int r27.1, iv r27.2]) S (wN rfl) (.inl rfl) rfl rfl (lb rfl) fun a S => ?_
  refine sExtract (vs := [gv_A11_Int r27.1, iv r27.2]) (gv_A11_Int r27.1) S (wN rfl) rfl rfl rfl rfl (lb rfl) fun a S => ?_
  refine sExtract (vs := [gv_A11_Int r27.1, iv r27.2]) (iv r27.2) S (wN rfl) rfl rfl rfl rfl (lb rfl) fun a S => ?_
  refine sAlloc (gv_A11_Int (0, 0, 0, 0, 0, 0, 0, 0, 0, 0, 0)) S (wN rfl) rfl rfl (gl_A11_Int (0, 0, 0, 0, 0, 0, 0, 0, 0, 0, 0)) rfl rfl (lb rfl) fun a b30 w S => ?_
  refine sStore (p := b30) (off := 0) (T := 42) (vs := [iv 0, iv 0, iv 0, iv 0, iv 0, iv 0, iv 0, iv 0, iv 0, iv 0, iv 0]) (v := gv_A11_Int r27.1) 0 [iv r27.1.1, iv r27.1.2.1, iv r27.1.2.2.1, iv r27.1.2.2.2.1, iv r27.1.2.2.2.2.1, iv r27.1.2.2.2.2.2.1, iv r27.1.2.2.2.2.2.2.1, iv r27.1.2.2.2.2.2.2.2.1, iv r27.1.2.2.2.2.2.2.2.2.1, iv r27.1.2.2.2.2.2.2.2.2.2.1, iv r27.1.2.2.2.2.2.2.2.2.2.2] S (wN rfl) rfl rfl rfl rfl rfl rfl rfl (by simp) rfl fun a w S => ?_
  refine sMove (iv r27.2) S (wN rfl) (.inr rfl) rfl rfl (lb rfl) fun a S => ?_
  refine leafL (leafT (hK26 _ _ ?_))
  refine sSeq (fun K31 hK31 => ?_)
  refine sRegion ?_
  refine sLoadN (p := b8) (off := 0) (T := 41) (vs := [iv p1.Start, .slice ad5 p1.Rows.length cp6]) 2 [iv p1.Start, .slice ad5 p1.Rows.length cp6] S (wN rfl) rfl rfl rfl rfl rfl rfl rfl (lb rfl) fun a S => ?_
  refine sLoadN (p := b9) (off := 0) (T := 44) (vs := (gl_api_Rates p2)) 3 (gl_api_Rates p2) S (wN rfl) rfl rfl rfl rfl rfl rfl rfl (lb rfl) fun a S => ?_
  obtain ⟨r32, hx33, h⟩ := bindSome h
  have S := S.learn (fRep r_api_Rates (gv_api_Rates p2) p2) rfl
  refine sCall (X := Value) (f := 18) (vs := [.agg #[iv p1.Start, .slice ad5 p1.Rows.length cp6], gv_api_Rates p2]) (val := c_cost_Need_val r32) (B' := fun _ => []) (D' := c_cost_Need_D r32) [] [eBox b30 42 (gl_A11_Int r27.1), eBox b25 42 (gl_A11_Int r22.1), eBox b8 41 [iv p1.Start, .slice ad5 p1.Rows.length cp6], eBox b9 44 (gl_api_Rates p2)] [fRep r_api_Chart (.agg #[iv p1.Start, .slice ad5 p1.Rows.length cp6]) p1, fRep r_api_Rates (gv_api_Rates p2) p2] [0, 1, 2, 3] [3, 0] S (wN rfl) rfl callee18 rfl (by decide) rfl rfl (fun E1 w1 S1 => c_cost_Need E1 w1 p1 (.agg #[iv p1.Start, .slice ad5 p1.Rows.length cp6]) p2 (gv_api_Rates p2) r32 hx33 S1) rfl (lb rfl) fun u34 a w S => ?_
  obtain rfl : u34 = .agg #[iv r32.1.Length, iv r32.1.Time] := S.mem.know (i := 0) (e := fRep r_api_Bill (u34) r32.1) rfl
  refine sMove (.tuple #[.agg #[iv r32.1.Length, iv r32.1.Time], iv r32.2]) S (wN rfl) (.inl rfl) rfl rfl (lb rfl) fun a S => ?_
  refine sExtract (vs := [.agg #[iv r32.1.Length, iv r32.1.Time], iv r32.2]) (.agg #[iv r32.1.Length, iv r32.1.Time]) S (wN rfl) rfl rfl rfl rfl (lb rfl) fun a S => ?_
  refine sExtract (vs := [.agg #[iv r32.1.Length, iv r32.1.Time], iv r32.2]) (iv r32.2) S (wN rfl) rfl rfl rfl rfl (lb rfl) fun a S => ?_
  refine sAlloc (.agg #[iv 0, iv 0]) S (wN rfl) rfl rfl [iv 0, iv 0] rfl rfl (lb rfl) fun a b35 w S => ?_
  refine sStore (p := b35) (off := 0) (T := 23) (vs := [iv 0, iv 0]) (v := .agg #[iv r32.1.Length, iv r32.1.Time]) 0 [iv r32.1.Length, iv r32.1.Time] S (wN rfl) rfl rfl rfl rfl rfl rfl rfl (by simp) rfl fun a w S => ?_
  refine sMove (iv r32.2) S (wN rfl) (.inr rfl) rfl rfl (lb rfl) fun a S => ?_
  refine leafL (leafT (hK31 _ _ ?_))
  refine sSeq (fun K36 hK36 => ?_)
  refine sRegion ?_
  refine sLoadN (p := b8) (off := 0) (T := 41) (vs := [iv p1.Start, .slice ad5 p1.Rows.length cp6]) 3 [iv p1.Start, .slice ad5 p1.Rows.length cp6] S (wN rfl) rfl rfl rfl rfl rfl rfl rfl (lb rfl) fun a S => ?_
  refine sLoadN (p := b9) (off := 0) (T := 44) (vs := (gl_api_Rates p2)) 4 (gl_api_Rates p2) S (wN rfl) rfl rfl rfl rfl rfl rfl rfl (lb rfl) fun a S => ?_
  obtain ⟨r37, hx38, h⟩ := bindSome h
  refine sCall (X := Value) (f := 19) (vs := [.agg #[iv p1.Start, .slice ad5 p1.Rows.length cp6], gv_api_Rates p2]) (val := c_raddleref45_Need_val r37) (B' := fun _ => []) (D' := c_raddleref45_Need_D r37) [] [eBox b35 23 [iv r32.1.Length, iv r32.1.Time], eBox b30 42 (gl_A11_Int r27.1), eBox b25 42 (gl_A11_Int r22.1), eBox b8 41 [iv p1.Start, .slice ad5 p1.Rows.length cp6], eBox b9 44 (gl_api_Rates p2)] [fRep r_api_Chart (.agg #[iv p1.Start, .slice ad5 p1.Rows.length cp6]) p1, fRep r_api_Rates (gv_api_Rates p2) p2] [0, 1, 2, 3, 4] [4, 1] S (wN rfl) rfl callee19 rfl (by decide) rfl rfl (fun E1 w1 S1 => c_raddleref45_Need E1 w1 p1 (.agg #[iv p1.Start, .slice ad5 p1.Rows.length cp6]) p2 (gv_api_Rates p2) r37 hx38 S1) rfl (lb rfl) fun u39 a w S => ?_
  obtain rfl : u39 = .agg #[iv r37.1.Length, iv r37.1.Time] := S.mem.know (i := 0) (e := fRep r_api_Bill (u39) r37.1) rfl
  refine sMove (.tuple #[.agg #[iv r37.1.Length, iv r37.1.Time], iv r37.2]) S (wN rfl) (.inl rfl) rfl rfl (lb rfl) fun a S => ?_
  refine sExtract (vs := [.agg #[iv r37.1.Length, iv r37.1.Time], iv r37.2]) (.agg #[iv r37.1.Length, iv r37.1.Time]) S (wN rfl) rfl rfl rfl rfl (lb rfl) fun a S => ?_
  refine sExtract (vs := [.agg #[iv r37.1.Length, iv r37.1.Time], iv r37.2]) (iv r37.2) S (wN rfl) rfl rfl rfl rfl (lb rfl) fun a S => ?_
  refine sAlloc (.agg #[iv 0, iv 0]) S (wN rfl) rfl rfl [iv 0, iv 0] rfl rfl (lb rfl) fun a b40 w S => ?_
  refine sStore (p := b40) (off := 0) (T := 23) (vs := [iv 0, iv 0]) (v := .agg #[iv r37.1.Length, iv r37.1.Time]) 0 [iv r37.1.Length, iv r37.1.Time] S (wN rfl) rfl rfl rfl rfl rfl rfl rfl (by simp) rfl fun a w S => ?_
  refine sMove (iv r37.2) S (wN rfl) (.inr rfl) rfl rfl (lb rfl) fun a S => ?_
  refine leafL (leafT (hK36 _ _ ?_))
  refine sSeq (fun K41 hK41 => ?_)
  refine sRegion ?_
  refine sMove (.slice ad1 p0.length cp2) S (wN rfl) (.inl rfl) rfl rfl (lb rfl) fun a S => ?_
  refine sLoadN (p := b9) (off := 0) (T := 44) (vs := (gl_api_Rates p2)) 5 (gl_api_Rates p2) S (wN rfl) rfl rfl rfl rfl rfl rfl rfl (lb rfl) fun a S => ?_
  obtain ⟨r42, hx43, h⟩ := bindSome h
  refine sCall (X := Value) (f := 20) (vs := [.slice ad1 p0.length cp2, gv_api_Rates p2]) (val := c_cost_Total_val r42) (B' := fun _ => []) (D' := c_cost_Total_D r42) [] [eBox b40 23 [iv r37.1.Length, iv r37.1.Time], eBox b35 23 [iv r32.1.Length, iv r32.1.Time], eBox b30 42 (gl_A11_Int r27.1), eBox b25 42 (gl_A11_Int r22.1), eBox b8 41 [iv p1.Start, .slice ad5 p1.Rows.length cp6], eBox b9 44 (gl_api_Rates p2)] [fRep (rL r_api_Chart) (.slice ad1 p0.length cp2) p0, fRep r_api_Rates (gv_api_Rates p2) p2] [0, 1, 2, 3, 4, 5] [6, 2] S (wN rfl) rfl callee20 rfl (by decide) rfl rfl (fun E1 w1 S1 => c_cost_Total E1 w1 p0 (.slice ad1 p0.length cp2) p2 (gv_api_Rates p2) r42 hx43 S1) rfl (lb rfl) fun u44 a w S => ?_
  obtain rfl : u44 = .agg #[iv r42.1.Length, iv r42.1.Time] := S.mem.know (i := 0) (e := fRep r_api_Bill (u44) r42.1) rfl
  refine sMove (.tuple #[.agg #[iv r42.1.Length, iv r42.1.Time], iv r42.2]) S (wN rfl) (.inl rfl) rfl rfl (lb rfl) fun a S => ?_
  refine sExtract (vs := [.agg #[iv r42.1.Length, iv r42.1.Time], iv r42.2]) (.agg #[iv r42.1.Length, iv r42.1.Time]) S (wN rfl) rfl rfl rfl rfl (lb rfl) fun a S => ?_
  refine sExtract (vs := [.agg #[iv r42.1.Length, iv r42.1.Time], iv r42.2]) (iv r42.2) S (wN rfl) rfl rfl rfl rfl (lb rfl) fun a S => ?_
  refine sAlloc (.agg #[iv 0, iv 0]) S (wN rfl) rfl rfl [iv 0, iv 0] rfl rfl (lb rfl) fun a b45 w S => ?_
  refine sStore (p := b45) (off := 0) (T := 23) (vs := [iv 0, iv 0]) (v := .agg #[iv r42.1.Length, iv r42.1.Time]) 0 [iv r42.1.Length, iv r42.1.Time] S (wN rfl) rfl rfl rfl rfl rfl rfl rfl (by simp) rfl fun a w S => ?_
  refine sMove (iv r42.2) S (wN rfl) (.inr rfl) rfl rfl (lb rfl) fun a S => ?_
  refine leafL (leafT (hK41 _ _ ?_))
  refine sSeq (fun K46 hK46 => ?_)
  refine sRegion ?_
  refine sMove (.slice ad1 p0.length cp2) S (wN rfl) (.inl rfl) rfl rfl (lb rfl) fun a S => ?_
  refine sLoadN (p := b9) (off := 0) (T := 44) (vs := (gl_api_Rates p2)) 6 (gl_api_Rates p2) S (wN rfl) rfl rfl rfl rfl rfl rfl rfl (lb rfl) fun a S => ?_
  obtain ⟨r47, hx48, h⟩ := bindSome h
  refine sCall (X := Value) (f := 21) (vs := [.slice ad1 p0.length cp2, gv_api_Rates p2]) (val := c_raddleref45_Total_val r47) (B' := fun _ => []) (D' := c_raddleref45_Total_D r47) [] [eBox b45 23 [iv r42.1.Length, iv r42.1.Time], eBox b40 23 [iv r37.1.Length, iv r37.1.Time], eBox b35 23 [iv r32.1.Length, iv r32.1.Time], eBox b30 42 (gl_A11_Int r27.1), eBox b25 42 (gl_A11_Int r22.1), eBox b8 41 [iv p1.Start, .slice ad5 p1.Rows.length cp6], eBox b9 44 (gl_api_Rates p2)] [fRep (rL r_api_Chart) (.slice ad1 p0.length cp2) p0, fRep r_api_Rates (gv_api_Rates p2) p2] [0, 1, 2, 3, 4, 5, 6] [7, 3] S (wN rfl) rfl callee21 rfl (by decide) rfl rfl (fun E1 w1 S1 => c_raddleref45_Total E1 w1 p0 (.slice ad1 p0.length cp2) p2 (gv_api_Rates p2) r47 hx48 S1) rfl (lb rfl) fun u49 a w S => ?_
  obtain rfl : u49 = .agg #[iv r47.1.Length, iv r47.1.Time] := S.mem.know (i := 0) (e := fRep r_api_Bill (u49) r47.1) rfl
  refine sMove (.tuple #[.agg #[iv r47.1.Length, iv r47.1.Time], iv r47.2]) S (wN rfl) (.inl rfl) rfl rfl (lb rfl) fun a S => ?_
  refine sExtract (vs := [.agg #[iv r47.1.Length, iv r47.1.Time], iv r47.2]) (.agg #[iv r47.1.Length, iv r47.1.Time]) S (wN rfl) rfl rfl rfl rfl (lb rfl) fun a S => ?_
  refine sExtract (vs := [.agg #[iv r47.1.Length, iv r47.1.Time], iv r47.2]) (iv r47.2) S (wN rfl) rfl rfl rfl rfl (lb rfl) fun a S => ?_
  refine sAlloc (.agg #[iv 0, iv 0]) S (wN rfl) rfl rfl [iv 0, iv 0] rfl rfl (lb rfl) fun a b50 w S => ?_
  refine sStore (p := b50) (off := 0) (T := 23) (vs := [iv 0, iv 0]) (v := .agg #[iv r47.1.Length, iv r47.1.Time]) 0 [iv r47.1.Length, iv r47.1.Time] S (wN rfl) rfl rfl rfl rfl rfl rfl rfl (by simp) rfl fun a w S => ?_
  refine sMove (iv r47.2) S (wN rfl) (.inr rfl) rfl rfl (lb rfl) fun a S => ?_
  refine leafL (leafT (hK46 _ _ ?_))
  obtain ⟨t52, h, g53⟩ := bindSome h
  refine sCut (fun a w => ∃ o51, o51 = t52 ∧ St [] E [] w0 94 a w [(6, .bool o51)] [] []) ?_ (fun a w hI => ?_)
  rotate_left
  · obtain ⟨o51, rfl, S⟩ := hI
    have h := g53
    clear g53
    try dsimp only at h
    obtain rfl := Option.some.inj h
    exact wp_ret (sRet (.bool o51) S (rsl1 rfl (rvT (t := 6) (v := .bool o51) S rfl)) ⟨(), rfl, S.mem.sel [] [] (by decide) rfl rfl⟩)
  obtain ⟨r54, hx55, h⟩ := bindSome h
  obtain ⟨r56, hx57, h⟩ := bindSome h
  rcases iteSome h with ⟨hc58, h⟩ | ⟨hc58, h⟩
  rotate_left
  · refine sDraw (nf := []) (W := [(0, 59, gv_api_Rates p2), (1, 60, iv r54), (2, 61, gv_api_Rates p2), (3, 62, iv r56), (4, 63, .bool (r54 == r56)), (5, 64, .bool (r54 == r56)), (6, 65, undef), (7, 66, undef), (8, 67, undef), (9, 68, .bool false), (10, 69, .bool false), (11, 70, undef), (12, 71, undef), (13, 72, undef), (14, 73, .bool false), (15, 74, .bool false), (16, 75, undef), (17, 76, undef), (18, 77, undef), (19, 78, .bool false), (20, 79, .bool false), (21, 80, undef), (22, 81, undef), (23, 82, undef), (24, 83, .bool false), (25, 84, .bool false), (26, 85, undef), (27, 86, undef), (28, 87, undef), (29, 88, .bool false), (30, 89, .bool false), (31, 90, undef), (32, 91, undef), (33, 92, undef), (34, 93, .bool false), (35, 6, .bool false)]) rfl S ?_
    refine node_by (A := anc_raddlelaw45_CostNeeds_0) (nf := []) (Y := []) (W := [(0, 59, gv_api_Rates p2), (1, 60, iv r54), (2, 61, gv_api_Rates p2), (3, 62, iv r56), (4, 63, .bool (r54 == r56)), (5, 64, .bool (r54 == r56)), (6, 65, undef), (7, 66, undef), (8, 67, undef), (9, 68, .bool false), (10, 69, .bool false), (11, 70, undef), (12, 71, undef), (13, 72, undef), (14, 73, .bool false), (15, 74, .bool false), (16, 75, undef), (17, 76, undef), (18, 77, undef), (19, 78, .bool false), (20, 79, .bool false), (21, 80, undef), (22, 81, undef), (23, 82, undef), (24, 83, .bool false), (25, 84, .bool false), (26, 85, undef), (27, 86, undef), (28, 87, undef), (29, 88, .bool false), (30, 89, .bool false), (31, 90, undef), (32, 91, undef), (33, 92, undef), (34, 93, .bool false), (35, 6, .bool false)]) 36 (by kernel_rfl) (by kernel_rfl) (by kernel_rfl) (by kernel_rfl) (by kernel_rfl) [0, 1, 2, 3, 4, 5, 6, 7, 8, 9, 10, 11, 12, 13, 14, 15, 16, 17, 18, 19, 20, 21, 22, 23, 24, 25, 26, 27, 28, 29, 30, 31, 32, 33, 34, 35] (by kernel_rfl) (by decide) (by decide) (aF 0 35 (by decide) ?_ (aF 1 34 (by decide) ?_ (aF 2 33 (by decide) ?_ (aF 3 32 (by decide) ?_ (aF 4 31 (by decide) ?_ (aF 5 30 (by decide) ?_ (aF 6 29 (by decide) ?_ (aF 7 28 (by decide) ?_ (aF 8 27 (by decide) ?_ (aF 9 26 (by decide) ?_ (aF 10 25 (by decide) ?_ (aF 11 24 (by decide) ?_ (aF 12 23 (by decide) ?_ (aF 13 22 (by decide) ?_ (aF 14 21 (by decide) ?_ (aF 15 20 (by decide) ?_ (aF 16 19 (by decide) ?_ (aF 17 18 (by decide) ?_ (aF 18 17 (by decide) ?_ (aF 19 16 (by decide) ?_ (aF 20 15 (by decide) ?_ (aF 21 14 (by decide) ?_ (aF 22 13 (by decide) ?_ (aF 23 12 (by decide) ?_ (aF 24 11 (by decide) ?_ (aF 25 10 (by decide) ?_ (aF 26 9 (by decide) ?_ (aF 27 8 (by decide) ?_ (aF 28 7 (by decide) ?_ (aF 29 6 (by decide) ?_ (aF 30 5 (by decide) ?_ (aF 31 4 (by decide) ?_ (aF 32 3 (by decide) ?_ (aF 33 2 (by decide) ?_ (aF 34 1 (by decide) ?_ (aF 35 0 (by decide) ?_ (trivial))))))))))))))))))))))))))))))))))))) [(6, .bool false)] (fin_of [some 35] rfl (by kernel_rfl) (by kernel_rfl)) (fun _ a w S => ?_)
    · refine fI 59 (gv_api_Rates p2) [(5, .pointer (some ⟨b9, 0, none⟩))] 0 [none] rfl rfl rfl rfl rfl rfl fun G a w S => ?_
      refine sLoadN (p := b9) (off := 0) (T := 44) (vs := (gl_api_Rates p2)) 7 (gl_api_Rates p2) S (wN rfl) rfl rfl rfl rfl rfl rfl rfl (lb rfl) fun a S => ?_
      exact leafL ⟨rfl, S⟩
    · refine fI 60 (iv r54) [(59, gv_api_Rates p2)] 1 [some 0] rfl rfl rfl rfl rfl rfl fun G a w S => ?_
      have S1 := S.mem
      refine sCallQ (X := Unit) (f := 22) (vs := [gv_api_Rates p2]) (val := fun _ => iv r54) S (wN rfl) rfl callee22 rfl (S1.quiet [4] rfl) (fun E1 w1 S1 => c_cost_Check E1 w1 p2 (gv_api_Rates p2) r54 hx55 S1) rfl (lb rfl) fun _ a w S => ?_
      exact leafL ⟨rfl, S⟩
    · refine fI 61 (gv_api_Rates p2) [(5, .pointer (some ⟨b9, 0, none⟩))] 2 [none] rfl rfl rfl rfl rfl rfl fun G a w S => ?_
      refine sLoadN (p := b9) (off := 0) (T := 44) (vs := (gl_api_Rates p2)) 7 (gl_api_Rates p2) S (wN rfl) rfl rfl rfl rfl rfl rfl rfl (lb rfl) fun a S => ?_
      exact leafL ⟨rfl, S⟩
    · refine fI 62 (iv r56) [(61, gv_api_Rates p2)] 3 [some 2] rfl rfl rfl rfl rfl rfl fun G a w S => ?_
      have S1 := S.mem
      refine sCallQ (X := Unit) (f := 23) (vs := [gv_api_Rates p2]) (val := fun _ => iv r56) S (wN rfl) rfl callee23 rfl (S1.quiet [4] rfl) (fun E1 w1 S1 => c_raddleref45_Check E1 w1 p2 (gv_api_Rates p2) r56 hx57 S1) rfl (lb rfl) fun _ a w S => ?_
      exact leafL ⟨rfl, S⟩
    · refine fI 63 (.bool (r54 == r56)) [(60, iv r54), (62, iv r56)] 4 [some 1, some 3] rfl rfl rfl rfl rfl rfl fun G a w S => ?_
      refine sBin (.bool (r54 == r56)) S (wN rfl) rfl rfl rfl (bEq _ _ _ _ .i64 r54 r56) rfl (lb rfl) fun a S => ?_
      exact leafL ⟨rfl, S⟩
    · refine fI 64 (.bool (r54 == r56)) [(63, .bool (r54 == r56))] 5 [some 4] rfl rfl rfl rfl rfl rfl fun G a w S => ?_
      refine sMove (.bool (r54 == r56)) S (wN rfl) (.inl rfl) rfl rfl (lb rfl) fun a S => ?_
      exact leafL ⟨rfl, S⟩
    · refine fI 65 undef [(7, .pointer (some ⟨b25, 0, none⟩)), (64, .bool (r54 == r56))] 6 [none, some 5] rfl rfl rfl rfl rfl rfl fun G a w S => ?_
      refine sSkip 5 true 64 65 S rfl rfl rfl hc58 rfl (lb rfl) fun a S => ?_
      exact leafL ⟨rfl, S⟩
    · refine fI 66 undef [(9, .pointer (some ⟨b30, 0, none⟩)), (64, .bool (r54 == r56))] 7 [none, some 5] rfl rfl rfl rfl rfl rfl fun G a w S => ?_
      refine sSkip 5 true 64 66 S rfl rfl rfl hc58 rfl (lb rfl) fun a S => ?_
      exact leafL ⟨rfl, S⟩
    · refine fI 67 undef [(65, undef), (66, undef), (64, .bool (r54 == r56))] 8 [some 6, some 7, some 5] rfl rfl rfl rfl rfl rfl fun G a w S => ?_
      refine sSkip 5 true 64 67 S rfl rfl rfl hc58 rfl (lb rfl) fun a S => ?_
      exact leafL ⟨rfl, S⟩
    · refine fI 68 (.bool false) [(64, .bool (r54 == r56)), (67, undef)] 9 [some 5, some 8] rfl rfl rfl rfl rfl rfl fun G a w S => ?_
      refine sPickF (.bool false) S (wN rfl) rfl rfl hc58 rfl rfl (lb rfl) fun a S => ?_
      exact leafL ⟨rfl, S⟩
    · refine fI 69 (.bool false) [(68, .bool false)] 10 [some 9] rfl rfl rfl rfl rfl rfl fun G a w S => ?_
      refine sMove (.bool false) S (wN rfl) (.inl rfl) rfl rfl (lb rfl) fun a S => ?_
      exact leafL ⟨rfl, S⟩
    · refine fI 70 undef [(8, iv r22.2), (69, .bool false)] 11 [none, some 10] rfl rfl rfl rfl rfl rfl fun G a w S => ?_
      refine sSkip 10 true 69 70 S rfl rfl rfl rfl rfl (lb rfl) fun a S => ?_
      exact leafL ⟨rfl, S⟩
    · refine fI 71 undef [(10, iv r27.2), (69, .bool false)] 12 [none, some 10] rfl rfl rfl rfl rfl rfl fun G a w S => ?_
      refine sSkip 10 true 69 71 S rfl rfl rfl rfl rfl (lb rfl) fun a S => ?_
      exact leafL ⟨rfl, S⟩
    · refine fI 72 undef [(70, undef), (71, undef), (69, .bool false)] 13 [some 11, some 12, some 10] rfl rfl rfl rfl rfl rfl fun G a w S => ?_
      refine sSkip 10 true 69 72 S rfl rfl rfl rfl rfl (lb rfl) fun a S => ?_
      exact leafL ⟨rfl, S⟩
    · refine fI 73 (.bool false) [(69, .bool false), (72, undef)] 14 [some 10, some 13] rfl rfl rfl rfl rfl rfl fun G a w S => ?_
      refine sPickF (.bool false) S (wN rfl) rfl rfl rfl rfl rfl (lb rfl) fun a S => ?_
      exact leafL ⟨rfl, S⟩
    · refine fI 74 (.bool false) [(73, .bool false)] 15 [some 14] rfl rfl rfl rfl rfl rfl fun G a w S => ?_
      refine sMove (.bool false) S (wN rfl) (.inl rfl) rfl rfl (lb rfl) fun a S => ?_
      exact leafL ⟨rfl, S⟩
    · refine fI 75 undef [(11, .pointer (some ⟨b35, 0, none⟩)), (74, .bool false)] 16 [none, some 15] rfl rfl rfl rfl rfl rfl fun G a w S => ?_
      refine sSkip 15 true 74 75 S rfl rfl rfl rfl rfl (lb rfl) fun a S => ?_
      exact leafL ⟨rfl, S⟩
    · refine fI 76 undef [(13, .pointer (some ⟨b40, 0, none⟩)), (74, .bool false)] 17 [none, some 15] rfl rfl rfl rfl rfl rfl fun G a w S => ?_
      refine sSkip 15 true 74 76 S rfl rfl rfl rfl rfl (lb rfl) fun a S => ?_
      exact leafL ⟨rfl, S⟩
    · refine fI 77 undef [(75, undef), (76, undef), (74, .bool false)] 18 [some 16, some 17, some 15] rfl rfl rfl rfl rfl rfl fun G a w S => ?_
      refine sSkip 15 true 74 77 S rfl rfl rfl rfl rfl (lb rfl) fun a S => ?_
      exact leafL ⟨rfl, S⟩
    · refine fI 78 (.bool false) [(74, .bool false), (77, undef)] 19 [some 15, some 18] rfl rfl rfl rfl rfl rfl fun G a w S => ?_
      refine sPickF (.bool false) S (wN rfl) rfl rfl rfl rfl rfl (lb rfl) fun a S => ?_
      exact leafL ⟨rfl, S⟩
    · refine fI 79 (.bool false) [(78, .bool false)] 20 [some 19] rfl rfl rfl rfl rfl rfl fun G a w S => ?_
      refine sMove (.bool false) S (wN rfl) (.inl rfl) rfl rfl (lb rfl) fun a S => ?_
      exact leafL ⟨rfl, S⟩
    · refine fI 80 undef [(12, iv r32.2), (79, .bool false)] 21 [none, some 20] rfl rfl rfl rfl rfl rfl fun G a w S => ?_
      refine sSkip 20 true 79 80 S rfl rfl rfl rfl rfl (lb rfl) fun a S => ?_
      exact leafL ⟨rfl, S⟩
    · refine fI 81 undef [(14, iv r37.2), (79, .bool false)] 22 [none, some 20] rfl rfl rfl rfl rfl rfl fun G a w S => ?_
      refine sSkip 20 true 79 81 S rfl rfl rfl rfl rfl (lb rfl) fun a S => ?_
      exact leafL ⟨rfl, S⟩
    · refine fI 82 undef [(80, undef), (81, undef), (79, .bool false)] 23 [some 21, some 22, some 20] rfl rfl rfl rfl rfl rfl fun G a w S => ?_
      refine sSkip 20 true 79 82 S rfl rfl rfl rfl rfl (lb rfl) fun a S => ?_
      exact leafL ⟨rfl, S⟩
    · refine fI 83 (.bool false) [(79, .bool false), (82, undef)] 24 [some 20, some 23] rfl rfl rfl rfl rfl rfl fun G a w S => ?_
      refine sPickF (.bool false) S (wN rfl) rfl rfl rfl rfl rfl (lb rfl) fun a S => ?_
      exact leafL ⟨rfl, S⟩
    · refine fI 84 (.bool false) [(83, .bool false)] 25 [some 24] rfl rfl rfl rfl rfl rfl fun G a w S => ?_
      refine sMove (.bool false) S (wN rfl) (.inl rfl) rfl rfl (lb rfl) fun a S => ?_
      exact leafL ⟨rfl, S⟩
    · refine fI 85 undef [(15, .pointer (some ⟨b45, 0, none⟩)), (84, .bool false)] 26 [none, some 25] rfl rfl rfl rfl rfl rfl fun G a w S => ?_
      refine sSkip 25 true 84 85 S rfl rfl rfl rfl rfl (lb rfl) fun a S => ?_
      exact leafL ⟨rfl, S⟩
    · refine fI 86 undef [(17, .pointer (some ⟨b50, 0, none⟩)), (84, .bool false)] 27 [none, some 25] rfl rfl rfl rfl rfl rfl fun G a w S => ?_
      refine sSkip 25 true 84 86 S rfl rfl rfl rfl rfl (lb rfl) fun a S => ?_
      exact leafL ⟨rfl, S⟩
    · refine fI 87 undef [(85, undef), (86, undef), (84, .bool false)] 28 [some 26, some 27, some 25] rfl rfl rfl rfl rfl rfl fun G a w S => ?_
      refine sSkip 25 true 84 87 S rfl rfl rfl rfl rfl (lb rfl) fun a S => ?_
      exact leafL ⟨rfl, S⟩
    · refine fI 88 (.bool false) [(84, .bool false), (87, undef)] 29 [some 25, some 28] rfl rfl rfl rfl rfl rfl fun G a w S => ?_
      refine sPickF (.bool false) S (wN rfl) rfl rfl rfl rfl rfl (lb rfl) fun a S => ?_
      exact leafL ⟨rfl, S⟩
    · refine fI 89 (.bool false) [(88, .bool false)] 30 [some 29] rfl rfl rfl rfl rfl rfl fun G a w S => ?_
      refine sMove (.bool false) S (wN rfl) (.inl rfl) rfl rfl (lb rfl) fun a S => ?_
      exact leafL ⟨rfl, S⟩
    · refine fI 90 undef [(16, iv r42.2), (89, .bool false)] 31 [none, some 30] rfl rfl rfl rfl rfl rfl fun G a w S => ?_
      refine sSkip 30 true 89 90 S rfl rfl rfl rfl rfl (lb rfl) fun a S => ?_
      exact leafL ⟨rfl, S⟩
    · refine fI 91 undef [(18, iv r47.2), (89, .bool false)] 32 [none, some 30] rfl rfl rfl rfl rfl rfl fun G a w S => ?_
      refine sSkip 30 true 89 91 S rfl rfl rfl rfl rfl (lb rfl) fun a S => ?_
      exact leafL ⟨rfl, S⟩
    · refine fI 92 undef [(90, undef), (91, undef), (89, .bool false)] 33 [some 31, some 32, some 30] rfl rfl rfl rfl rfl rfl fun G a w S => ?_
      refine sSkip 30 true 89 92 S rfl rfl rfl rfl rfl (lb rfl) fun a S => ?_
      exact leafL ⟨rfl, S⟩
    · refine fI 93 (.bool false) [(89, .bool false), (92, undef)] 34 [some 30, some 33] rfl rfl rfl rfl rfl rfl fun G a w S => ?_
      refine sPickF (.bool false) S (wN rfl) rfl rfl rfl rfl rfl (lb rfl) fun a S => ?_
      exact leafL ⟨rfl, S⟩
    · refine fI 6 (.bool false) [(93, .bool false)] 35 [some 34] rfl rfl rfl rfl rfl rfl fun G a w S => ?_
      refine sMove (.bool false) S (wN rfl) (.inr rfl) rfl rfl (lb rfl) fun a S => ?_
      exact leafL ⟨rfl, S⟩
    exact leafT (⟨false, Option.some.inj h, S.fix [] [] (by decide) rfl rfl rfl⟩)
  rcases iteSome h with ⟨hc59, h⟩ | ⟨hc59, h⟩
  rotate_left
  · refine sDraw (nf := []) (W := [(0, 59, gv_api_Rates p2), (1, 60, iv r54), (2, 61, gv_api_Rates p2), (3, 62, iv r56), (4, 63, .bool (r54 == r56)), (5, 64, .bool (r54 == r56)), (6, 65, gv_A11_Int r22.1), (7, 66, gv_A11_Int r27.1), (8, 67, .bool ((r22.1.1 == r27.1.1) && ((r22.1.2.1 == r27.1.2.1) && ((r22.1.2.2.1 == r27.1.2.2.1) && ((r22.1.2.2.2.1 == r27.1.2.2.2.1) && ((r22.1.2.2.2.2.1 == r27.1.2.2.2.2.1) && ((r22.1.2.2.2.2.2.1 == r27.1.2.2.2.2.2.1) && ((r22.1.2.2.2.2.2.2.1 == r27.1.2.2.2.2.2.2.1) && ((r22.1.2.2.2.2.2.2.2.1 == r27.1.2.2.2.2.2.2.2.1) && ((r22.1.2.2.2.2.2.2.2.2.1 == r27.1.2.2.2.2.2.2.2.2.1) && ((r22.1.2.2.2.2.2.2.2.2.2.1 == r27.1.2.2.2.2.2.2.2.2.2.1) && ((r22.1.2.2.2.2.2.2.2.2.2.2 == r27.1.2.2.2.2.2.2.2.2.2.2) && true)))))))))))), (9, 68, .bool ((r22.1.1 == r27.1.1) && ((r22.1.2.1 == r27.1.2.1) && ((r22.1.2.2.1 == r27.1.2.2.1) && ((r22.1.2.2.2.1 == r27.1.2.2.2.1) && ((r22.1.2.2.2.2.1 == r27.1.2.2.2.2.1) && ((r22.1.2.2.2.2.2.1 == r27.1.2.2.2.2.2.1) && ((r22.1.2.2.2.2.2.2.1 == r27.1.2.2.2.2.2.2.1) && ((r22.1.2.2.2.2.2.2.2.1 == r27.1.2.2.2.2.2.2.2.1) && ((r22.1.2.2.2.2.2.2.2.2.1 == r27.1.2.2.2.2.2.2.2.2.1) && ((r22.1.2.2.2.2.2.2.2.2.2.1 == r27.1.2.2.2.2.2.2.2.2.2.1) && ((r22.1.2.2.2.2.2.2.2.2.2.2 == r27.1.2.2.2.2.2.2.2.2.2.2) && true)))))))))))), (10, 69, .bool ((r22.1.1 == r27.1.1) && ((r22.1.2.1 == r27.1.2.1) && ((r22.1.2.2.1 == r27.1.2.2.1) && ((r22.1.2.2.2.1 == r27.1.2.2.2.1) && ((r22.1.2.2.2.2.1 == r27.1.2.2.2.2.1) && ((r22.1.2.2.2.2.2.1 == r27.1.2.2.2.2.2.1) && ((r22.1.2.2.2.2.2.2.1 == r27.1.2.2.2.2.2.2.1) && ((r22.1.2.2.2.2.2.2.2.1 == r27.1.2.2.2.2.2.2.2.1) && ((r22.1.2.2.2.2.2.2.2.2.1 == r27.1.2.2.2.2.2.2.2.2.1) && ((r22.1.2.2.2.2.2.2.2.2.2.1 == r27.1.2.2.2.2.2.2.2.2.2.1) && ((r22.1.2.2.2.2.2.2.2.2.2.2 == r27.1.2.2.2.2.2.2.2.2.2.2) && true)))))))))))), (11, 70, undef), (12, 71, undef), (13, 72, undef), (14, 73, .bool false), (15, 74, .bool false), (16, 75, undef), (17, 76, undef), (18, 77, undef), (19, 78, .bool false), (20, 79, .bool false), (21, 80, undef), (22, 81, undef), (23, 82, undef), (24, 83, .bool false), (25, 84, .bool false), (26, 85, undef), (27, 86, undef), (28, 87, undef), (29, 88, .bool false), (30, 89, .bool false), (31, 90, undef), (32, 91, undef), (33, 92, undef), (34, 93, .bool false), (35, 6, .bool false)]) rfl S ?_
    refine node_by (A := anc_raddlelaw45_CostNeeds_0) (nf := []) (Y := []) (W := [(0, 59, gv_api_Rates p2), (1, 60, iv r54), (2, 61, gv_api_Rates p2), (3, 62, iv r56), (4, 63, .bool (r54 == r56)), (5, 64, .bool (r54 == r56)), (6, 65, gv_A11_Int r22.1), (7, 66, gv_A11_Int r27.1), (8, 67, .bool ((r22.1.1 == r27.1.1) && ((r22.1.2.1 == r27.1.2.1) && ((r22.1.2.2.1 == r27.1.2.2.1) && ((r22.1.2.2.2.1 == r27.1.2.2.2.1) && ((r22.1.2.2.2.2.1 == r27.1.2.2.2.2.1) && ((r22.1.2.2.2.2.2.1 == r27.1.2.2.2.2.2.1) && ((r22.1.2.2.2.2.2.2.1 == r27.1.2.2.2.2.2.2.1) && ((r22.1.2.2.2.2.2.2.2.1 == r27.1.2.2.2.2.2.2.2.1) && ((r22.1.2.2.2.2.2.2.2.2.1 == r27.1.2.2.2.2.2.2.2.2.1) && ((r22.1.2.2.2.2.2.2.2.2.2.1 == r27.1.2.2.2.2.2.2.2.2.2.1) && ((r22.1.2.2.2.2.2.2.2.2.2.2 == r27.1.2.2.2.2.2.2.2.2.2.2) && true)))))))))))), (9, 68, .bool ((r22.1.1 == r27.1.1) && ((r22.1.2.1 == r27.1.2.1) && ((r22.1.2.2.1 == r27.1.2.2.1) && ((r22.1.2.2.2.1 == r27.1.2.2.2.1) && ((r22.1.2.2.2.2.1 == r27.1.2.2.2.2.1) && ((r22.1.2.2.2.2.2.1 == r27.1.2.2.2.2.2.1) && ((r22.1.2.2.2.2.2.2.1 == r27.1.2.2.2.2.2.2.1) && ((r22.1.2.2.2.2.2.2.2.1 == r27.1.2.2.2.2.2.2.2.1) && ((r22.1.2.2.2.2.2.2.2.2.1 == r27.1.2.2.2.2.2.2.2.2.1) && ((r22.1.2.2.2.2.2.2.2.2.2.1 == r27.1.2.2.2.2.2.2.2.2.2.1) && ((r22.1.2.2.2.2.2.2.2.2.2.2 == r27.1.2.2.2.2.2.2.2.2.2.2) && true)))))))))))), (10, 69, .bool ((r22.1.1 == r27.1.1) && ((r22.1.2.1 == r27.1.2.1) && ((r22.1.2.2.1 == r27.1.2.2.1) && ((r22.1.2.2.2.1 == r27.1.2.2.2.1) && ((r22.1.2.2.2.2.1 == r27.1.2.2.2.2.1) && ((r22.1.2.2.2.2.2.1 == r27.1.2.2.2.2.2.1) && ((r22.1.2.2.2.2.2.2.1 == r27.1.2.2.2.2.2.2.1) && ((r22.1.2.2.2.2.2.2.2.1 == r27.1.2.2.2.2.2.2.2.1) && ((r22.1.2.2.2.2.2.2.2.2.1 == r27.1.2.2.2.2.2.2.2.2.1) && ((r22.1.2.2.2.2.2.2.2.2.2.1 == r27.1.2.2.2.2.2.2.2.2.2.1) && ((r22.1.2.2.2.2.2.2.2.2.2.2 == r27.1.2.2.2.2.2.2.2.2.2.2) && true)))))))))))), (11, 70, undef), (12, 71, undef), (13, 72, undef), (14, 73, .bool false), (15, 74, .bool false), (16, 75, undef), (17, 76, undef), (18, 77, undef), (19, 78, .bool false), (20, 79, .bool false), (21, 80, undef), (22, 81, undef), (23, 82, undef), (24, 83, .bool false), (25, 84, .bool false), (26, 85, undef), (27, 86, undef), (28, 87, undef), (29, 88, .bool false), (30, 89, .bool false), (31, 90, undef), (32, 91, undef), (33, 92, undef), (34, 93, .bool false), (35, 6, .bool false)]) 36 (by kernel_rfl) (by kernel_rfl) (by kernel_rfl) (by kernel_rfl) (by kernel_rfl) [0, 1, 2, 3, 4, 5, 6, 7, 8, 9, 10, 11, 12, 13, 14, 15, 16, 17, 18, 19, 20, 21, 22, 23, 24, 25, 26, 27, 28, 29, 30, 31, 32, 33, 34, 35] (by kernel_rfl) (by decide) (by decide) (aF 0 35 (by decide) ?_ (aF 1 34 (by decide) ?_ (aF 2 33 (by decide) ?_ (aF 3 32 (by decide) ?_ (aF 4 31 (by decide) ?_ (aF 5 30 (by decide) ?_ (aF 6 29 (by decide) ?_ (aF 7 28 (by decide) ?_ (aF 8 27 (by decide) ?_ (aF 9 26 (by decide) ?_ (aF 10 25 (by decide) ?_ (aF 11 24 (by decide) ?_ (aF 12 23 (by decide) ?_ (aF 13 22 (by decide) ?_ (aF 14 21 (by decide) ?_ (aF 15 20 (by decide) ?_ (aF 16 19 (by decide) ?_ (aF 17 18 (by decide) ?_ (aF 18 17 (by decide) ?_ (aF 19 16 (by decide) ?_ (aF 20 15 (by decide) ?_ (aF 21 14 (by decide) ?_ (aF 22 13 (by decide) ?_ (aF 23 12 (by decide) ?_ (aF 24 11 (by decide) ?_ (aF 25 10 (by decide) ?_ (aF 26 9 (by decide) ?_ (aF 27 8 (by decide) ?_ (aF 28 7 (by decide) ?_ (aF 29 6 (by decide) ?_ (aF 30 5 (by decide) ?_ (aF 31 4 (by decide) ?_ (aF 32 3 (by decide) ?_ (aF 33 2 (by decide) ?_ (aF 34 1 (by decide) ?_ (aF 35 0 (by decide) ?_ (trivial))))))))))))))))))))))))))))))))))))) [(6, .bool false)] (fin_of [some 35] rfl (by kernel_rfl) (by kernel_rfl)) (fun _ a w S => ?_)
    · refine fI 59 (gv_api_Rates p2) [(5, .pointer (some ⟨b9, 0, none⟩))] 0 [none] rfl rfl rfl rfl rfl rfl fun G a w S => ?_
      refine sLoadN (p := b9) (off := 0) (T := 44) (vs := (gl_api_Rates p2)) 7 (gl_api_Rates p2) S (wN rfl) rfl rfl rfl rfl rfl rfl rfl (lb rfl) fun a S => ?_
      exact leafL ⟨rfl, S⟩
    · refine fI 60 (iv r54) [(59, gv_api_Rates p2)] 1 [some 0] rfl rfl rfl rfl rfl rfl fun G a w S => ?_
      have S1 := S.mem
      refine sCallQ (X := Unit) (f := 22) (vs := [gv_api_Rates p2]) (val := fun _ => iv r54) S (wN rfl) rfl callee22 rfl (S1.quiet [4] rfl) (fun E1 w1 S1 => c_cost_Check E1 w1 p2 (gv_api_Rates p2) r54 hx55 S1) rfl (lb rfl) fun _ a w S => ?_
      exact leafL ⟨rfl, S⟩
    · refine fI 61 (gv_api_Rates p2) [(5, .pointer (some ⟨b9, 0, none⟩))] 2 [none] rfl rfl rfl rfl rfl rfl fun G a w S => ?_
      refine sLoadN (p := b9) (off := 0) (T := 44) (vs := (gl_api_Rates p2)) 7 (gl_api_Rates p2) S (wN rfl) rfl rfl rfl rfl rfl rfl rfl (lb rfl) fun a S => ?_
      exact leafL ⟨rfl, S⟩
    · refine fI 62 (iv r56) [(61, gv_api_Rates p2)] 3 [some 2] rfl rfl rfl rfl rfl rfl fun G a w S => ?_
      have S1 := S.mem
      refine sCallQ (X := Unit) (f := 23) (vs := [gv_api_Rates p2]) (val := fun _ => iv r56) S (wN rfl) rfl callee23 rfl (S1.quiet [4] rfl) (fun E1 w1 S1 => c_raddleref45_Check E1 w1 p2 (gv_api_Rates p2) r56 hx57 S1) rfl (lb rfl) fun _ a w S => ?_
      exact leafL ⟨rfl, S⟩
    · refine fI 63 (.bool (r54 == r56)) [(60, iv r54), (62, iv r56)] 4 [some 1, some 3] rfl rfl rfl rfl rfl rfl fun G a w S => ?_
      refine sBin (.bool (r54 == r56)) S (wN rfl) rfl rfl rfl (bEq _ _ _ _ .i64 r54 r56) rfl (lb rfl) fun a S => ?_
      exact leafL ⟨rfl, S⟩
    · refine fI 64 (.bool (r54 == r56)) [(63, .bool (r54 == r56))] 5 [some 4] rfl rfl rfl rfl rfl rfl fun G a w S => ?_
      refine sMove (.bool (r54 == r56)) S (wN rfl) (.inl rfl) rfl rfl (lb rfl) fun a S => ?_
      exact leafL ⟨rfl, S⟩
    · refine fI 65 (gv_A11_Int r22.1) [(7, .pointer (some ⟨b25, 0, none⟩)), (64, .bool (r54 == r56))] 6 [none, some 5] rfl rfl rfl rfl rfl rfl fun G a w S => ?_
      refine sLoadN (p := b25) (off := 0) (T := 42) (vs := (gl_A11_Int r22.1)) 5 (gl_A11_Int r22.1) S (wG 5 true 64 rfl rfl rfl hc58) rfl rfl rfl rfl rfl rfl rfl (lb rfl) fun a S => ?_
      exact leafL ⟨rfl, S⟩
    · refine fI 66 (gv_A11_Int r27.1) [(9, .pointer (some ⟨b30, 0, none⟩)), (64, .bool (r54 == r56))] 7 [none, some 5] rfl rfl rfl rfl rfl rfl fun G a w S => ?_
      refine sLoadN (p := b30) (off := 0) (T := 42) (vs := (gl_A11_Int r27.1)) 4 (gl_A11_Int r27.1) S (wG 5 true 64 rfl rfl rfl hc58) rfl rfl rfl rfl rfl rfl rfl (lb rfl) fun a S => ?_
      exact leafL ⟨rfl, S⟩
    · refine fI 67 (.bool ((r22.1.1 == r27.1.1) && ((r22.1.2.1 == r27.1.2.1) && ((r22.1.2.2.1 == r27.1.2.2.1) && ((r22.1.2.2.2.1 == r27.1.2.2.2.1) && ((r22.1.2.2.2.2.1 == r27.1.2.2.2.2.1) && ((r22.1.2.2.2.2.2.1 == r27.1.2.2.2.2.2.1) && ((r22.1.2.2.2.2.2.2.1 == r27.1.2.2.2.2.2.2.1) && ((r22.1.2.2.2.2.2.2.2.1 == r27.1.2.2.2.2.2.2.2.1) && ((r22.1.2.2.2.2.2.2.2.2.1 == r27.1.2.2.2.2.2.2.2.2.1) && ((r22.1.2.2.2.2.2.2.2.2.2.1 == r27.1.2.2.2.2.2.2.2.2.2.1) && ((r22.1.2.2.2.2.2.2.2.2.2.2 == r27.1.2.2.2.2.2.2.2.2.2.2) && true)))))))))))) [(65, gv_A11_Int r22.1), (66, gv_A11_Int r27.1), (64, .bool (r54 == r56))] 8 [some 6, some 7, some 5] rfl rfl rfl rfl rfl rfl fun G a w S => ?_
      refine sBin (.bool ((r22.1.1 == r27.1.1) && ((r22.1.2.1 == r27.1.2.1) && ((r22.1.2.2.1 == r27.1.2.2.1) && ((r22.1.2.2.2.1 == r27.1.2.2.2.1) && ((r22.1.2.2.2.2.1 == r27.1.2.2.2.2.1) && ((r22.1.2.2.2.2.2.1 == r27.1.2.2.2.2.2.1) && ((r22.1.2.2.2.2.2.2.1 == r27.1.2.2.2.2.2.2.1) && ((r22.1.2.2.2.2.2.2.2.1 == r27.1.2.2.2.2.2.2.2.1) && ((r22.1.2.2.2.2.2.2.2.2.1 == r27.1.2.2.2.2.2.2.2.2.1) && ((r22.1.2.2.2.2.2.2.2.2.2.1 == r27.1.2.2.2.2.2.2.2.2.2.1) && ((r22.1.2.2.2.2.2.2.2.2.2.2 == r27.1.2.2.2.2.2.2.2.2.2.2) && true)))))))))))) S (wG 5 true 64 rfl rfl rfl hc58) rfl rfl rfl (bEqV _ _ _ _ #[iv r22.1.1, iv r22.1.2.1, iv r22.1.2.2.1, iv r22.1.2.2.2.1, iv r22.1.2.2.2.2.1, iv r22.1.2.2.2.2.2.1, iv r22.1.2.2.2.2.2.2.1, iv r22.1.2.2.2.2.2.2.2.1, iv r22.1.2.2.2.2.2.2.2.2.1, iv r22.1.2.2.2.2.2.2.2.2.2.1, iv r22.1.2.2.2.2.2.2.2.2.2.2] #[iv r27.1.1, iv r27.1.2.1, iv r27.1.2.2.1, iv r27.1.2.2.2.1, iv r27.1.2.2.2.2.1, iv r27.1.2.2.2.2.2.1, iv r27.1.2.2.2.2.2.2.1, iv r27.1.2.2.2.2.2.2.2.1, iv r27.1.2.2.2.2.2.2.2.2.1, iv r27.1.2.2.2.2.2.2.2.2.2.1, iv r27.1.2.2.2.2.2.2.2.2.2.2] ((r22.1.1 == r27.1.1) && ((r22.1.2.1 == r27.1.2.1) && ((r22.1.2.2.1 == r27.1.2.2.1) && ((r22.1.2.2.2.1 == r27.1.2.2.2.1) && ((r22.1.2.2.2.2.1 == r27.1.2.2.2.2.1) && ((r22.1.2.2.2.2.2.1 == r27.1.2.2.2.2.2.1) && ((r22.1.2.2.2.2.2.2.1 == r27.1.2.2.2.2.2.2.1) && ((r22.1.2.2.2.2.2.2.2.1 == r27.1.2.2.2.2.2.2.2.1) && ((r22.1.2.2.2.2.2.2.2.2.1 == r27.1.2.2.2.2.2.2.2.2.1) && ((r22.1.2.2.2.2.2.2.2.2.2.1 == r27.1.2.2.2.2.2.2.2.2.2.1) && ((r22.1.2.2.2.2.2.2.2.2.2.2 == r27.1.2.2.2.2.2.2.2.2.2.2) && true))))))))))) (by kernel_rfl) (eqlV_of (by kernel_rfl))) rfl (lb rfl) fun a S => ?_
      exact leafL ⟨rfl, S⟩
    · refine fI 68 (.bool ((r22.1.1 == r27.1.1) && ((r22.1.2.1 == r27.1.2.1) && ((r22.1.2.2.1 == r27.1.2.2.1) && ((r22.1.2.2.2.1 == r27.1.2.2.2.1) && ((r22.1.2.2.2.2.1 == r27.1.2.2.2.2.1) && ((r22.1.2.2.2.2.2.1 == r27.1.2.2.2.2.2.1) && ((r22.1.2.2.2.2.2.2.1 == r27.1.2.2.2.2.2.2.1) && ((r22.1.2.2.2.2.2.2.2.1 == r27.1.2.2.2.2.2.2.2.1) && ((r22.1.2.2.2.2.2.2.2.2.1 == r27.1.2.2.2.2.2.2.2.2.1) && ((r22.1.2.2.2.2.2.2.2.2.2.1 == r27.1.2.2.2.2.2.2.2.2.2.1) && ((r22.1.2.2.2.2.2.2.2.2.2.2 == r27.1.2.2.2.2.2.2.2.2.2.2) && true)))))))))))) [(64, .bool (r54 == r56)), (67, .bool ((r22.1.1 == r27.1.1) && ((r22.1.2.1 == r27.1.2.1) && ((r22.1.2.2.1 == r27.1.2.2.1) && ((r22.1.2.2.2.1 == r27.1.2.2.2.1) && ((r22.1.2.2.2.2.1 == r27.1.2.2.2.2.1) && ((r22.1.2.2.2.2.2.1 == r27.1.2.2.2.2.2.1) && ((r22.1.2.2.2.2.2.2.1 == r27.1.2.2.2.2.2.2.1) && ((r22.1.2.2.2.2.2.2.2.1 == r27.1.2.2.2.2.2.2.2.1) && ((r22.1.2.2.2.2.2.2.2.2.1 == r27.1.2.2.2.2.2.2.2.2.1) && ((r22.1.2.2.2.2.2.2.2.2.2.1 == r27.1.2.2.2.2.2.2.2.2.2.1) && ((r22.1.2.2.2.2.2.2.2.2.2.2 == r27.1.2.2.2.2.2.2.2.2.2.2) && true))))))))))))] 9 [some 5, some 8] rfl rfl rfl rfl rfl rfl fun G a w S => ?_
      refine sPickT (.bool ((r22.1.1 == r27.1.1) && ((r22.1.2.1 == r27.1.2.1) && ((r22.1.2.2.1 == r27.1.2.2.1) && ((r22.1.2.2.2.1 == r27.1.2.2.2.1) && ((r22.1.2.2.2.2.1 == r27.1.2.2.2.2.1) && ((r22.1.2.2.2.2.2.1 == r27.1.2.2.2.2.2.1) && ((r22.1.2.2.2.2.2.2.1 == r27.1.2.2.2.2.2.2.1) && ((r22.1.2.2.2.2.2.2.2.1 == r27.1.2.2.2.2.2.2.2.1) && ((r22.1.2.2.2.2.2.2.2.2.1 == r27.1.2.2.2.2.2.2.2.2.1) && ((r22.1.2.2.2.2.2.2.2.2.2.1 == r27.1.2.2.2.2.2.2.2.2.2.1) && ((r22.1.2.2.2.2.2.2.2.2.2.2 == r27.1.2.2.2.2.2.2.2.2.2.2) && true)))))))))))) S (wN rfl) rfl rfl hc58 rfl rfl (lb rfl) fun a S => ?_
      exact leafL ⟨rfl, S⟩
    · refine fI 69 (.bool ((r22.1.1 == r27.1.1) && ((r22.1.2.1 == r27.1.2.1) && ((r22.1.2.2.1 == r27.1.2.2.1) && ((r22.1.2.2.2.1 == r27.1.2.2.2.1) && ((r22.1.2.2.2.2.1 == r27.1.2.2.2.2.1) && ((r22.1.2.2.2.2.2.1 == r27.1.2.2.2.2.2.1) && ((r22.1.2.2.2.2.2.2.1 == r27.1.2.2.2.2.2.2.1) && ((r22.1.2.2.2.2.2.2.2.1 == r27.1.2.2.2.2.2.2.2.1) && ((r22.1.2.2.2.2.2.2.2.2.1 == r27.1.2.2.2.2.2.2.2.2.1) && ((r22.1.2.2.2.2.2.2.2.2.2.1 == r27.1.2.2.2.2.2.2.2.2.2.1) && ((r22.1.2.2.2.2.2.2.2.2.2.2 == r27.1.2.2.2.2.2.2.2.2.2.2) && true)))))))))))) [(68, .bool ((r22.1.1 == r27.1.1) && ((r22.1.2.1 == r27.1.2.1) && ((r22.1.2.2.1 == r27.1.2.2.1) && ((r22.1.2.2.2.1 == r27.1.2.2.2.1) && ((r22.1.2.2.2.2.1 == r27.1.2.2.2.2.1) && ((r22.1.2.2.2.2.2.1 == r27.1.2.2.2.2.2.1) && ((r22.1.2.2.2.2.2.2.1 == r27.1.2.2.2.2.2.2.1) && ((r22.1.2.2.2.2.2.2.2.1 == r27.1.2.2.2.2.2.2.2.1) && ((r22.1.2.2.2.2.2.2.2.2.1 == r27.1.2.2.2.2.2.2.2.2.1) && ((r22.1.2.2.2.2.2.2.2.2.2.1 == r27.1.2.2.2.2.2.2.2.2.2.1) && ((r22.1.2.2.2.2.2.2.2.2.2.2 == r27.1.2.2.2.2.2.2.2.2.2.2) && true))))))))))))] 10 [some 9] rfl rfl rfl rfl rfl rfl fun G a w S => ?_
      refine sMove (.bool ((r22.1.1 == r27.1.1) && ((r22.1.2.1 == r27.1.2.1) && ((r22.1.2.2.1 == r27.1.2.2.1) && ((r22.1.2.2.2.1 == r27.1.2.2.2.1) && ((r22.1.2.2.2.2.1 == r27.1.2.2.2.2.1) && ((r22.1.2.2.2.2.2.1 == r27.1.2.2.2.2.2.1) && ((r22.1.2.2.2.2.2.2.1 == r27.1.2.2.2.2.2.2.1) && ((r22.1.2.2.2.2.2.2.2.1 == r27.1.2.2.2.2.2.2.2.1) && ((r22.1.2.2.2.2.2.2.2.2.1 == r27.1.2.2.2.2.2.2.2.2.1) && ((r22.1.2.2.2.2.2.2.2.2.2.1 == r27.1.2.2.2.2.2.2.2.2.2.1) && ((r22.1.2.2.2.2.2.2.2.2.2.2 == r27.1.2.2.2.2.2.2.2.2.2.2) && true)))))))))))) S (wN rfl) (.inl rfl) rfl rfl (lb rfl) fun a S => ?_
      exact leafL ⟨rfl, S⟩
    · refine fI 70 undef [(8, iv r22.2), (69, .bool ((r22.1.1 == r27.1.1) && ((r22.1.2.1 == r27.1.2.1) && ((r22.1.2.2.1 == r27.1.2.2.1) && ((r22.1.2.2.2.1 == r27.1.2.2.2.1) && ((r22.1.2.2.2.2.1 == r27.1.2.2.2.2.1) && ((r22.1.2.2.2.2.2.1 == r27.1.2.2.2.2.2.1) && ((r22.1.2.2.2.2.2.2.1 == r27.1.2.2.2.2.2.2.1) && ((r22.1.2.2.2.2.2.2.2.1 == r27.1.2.2.2.2.2.2.2.1) && ((r22.1.2.2.2.2.2.2.2.2.1 == r27.1.2.2.2.2.2.2.2.2.1) && ((r22.1.2.2.2.2.2.2.2.2.2.1 == r27.1.2.2.2.2.2.2.2.2.2.1) && ((r22.1.2.2.2.2.2.2.2.2.2.2 == r27.1.2.2.2.2.2.2.2.2.2.2) && true))))))))))))] 11 [none, some 10] rfl rfl rfl rfl rfl rfl fun G a w S => ?_
      refine sSkip 10 true 69 70 S rfl rfl rfl hc59 rfl (lb rfl) fun a S => ?_
      exact leafL ⟨rfl, S⟩
    · refine fI 71 undef [(10, iv r27.2), (69, .bool ((r22.1.1 == r27.1.1) && ((r22.1.2.1 == r27.1.2.1) && ((r22.1.2.2.1 == r27.1.2.2.1) && ((r22.1.2.2.2.1 == r27.1.2.2.2.1) && ((r22.1.2.2.2.2.1 == r27.1.2.2.2.2.1) && ((r22.1.2.2.2.2.2.1 == r27.1.2.2.2.2.2.1) && ((r22.1.2.2.2.2.2.2.1 == r27.1.2.2.2.2.2.2.1) && ((r22.1.2.2.2.2.2.2.2.1 == r27.1.2.2.2.2.2.2.2.1) && ((r22.1.2.2.2.2.2.2.2.2.1 == r27.1.2.2.2.2.2.2.2.2.1) && ((r22.1.2.2.2.2.2.2.2.2.2.1 == r27.1.2.2.2.2.2.2.2.2.2.1) && ((r22.1.2.2.2.2.2.2.2.2.2.2 == r27.1.2.2.2.2.2.2.2.2.2.2) && true))))))))))))] 12 [none, some 10] rfl rfl rfl rfl rfl rfl fun G a w S => ?_
      refine sSkip 10 true 69 71 S rfl rfl rfl hc59 rfl (lb rfl) fun a S => ?_
      exact leafL ⟨rfl, S⟩
    · refine fI 72 undef [(70, undef), (71, undef), (69, .bool ((r22.1.1 == r27.1.1) && ((r22.1.2.1 == r27.1.2.1) && ((r22.1.2.2.1 == r27.1.2.2.1) && ((r22.1.2.2.2.1 == r27.1.2.2.2.1) && ((r22.1.2.2.2.2.1 == r27.1.2.2.2.2.1) && ((r22.1.2.2.2.2.2.1 == r27.1.2.2.2.2.2.1) && ((r22.1.2.2.2.2.2.2.1 == r27.1.2.2.2.2.2.2.1) && ((r22.1.2.2.2.2.2.2.2.1 == r27.1.2.2.2.2.2.2.2.1) && ((r22.1.2.2.2.2.2.2.2.2.1 == r27.1.2.2.2.2.2.2.2.2.1) && ((r22.1.2.2.2.2.2.2.2.2.2.1 == r27.1.2.2.2.2.2.2.2.2.2.1) && ((r22.1.2.2.2.2.2.2.2.2.2.2 == r27.1.2.2.2.2.2.2.2.2.2.2) && true))))))))))))] 13 [some 11, some 12, some 10] rfl rfl rfl rfl rfl rfl fun G a w S => ?_
      refine sSkip 10 true 69 72 S rfl rfl rfl hc59 rfl (lb rfl) fun a S => ?_
      exact leafL ⟨rfl, S⟩
    · refine fI 73 (.bool false) [(69, .bool ((r22.1.1 == r27.1.1) && ((r22.1.2.1 == r27.1.2.1) && ((r22.1.2.2.1 == r27.1.2.2.1) && ((r22.1.2.2.2.1 == r27.1.2.2.2.1) && ((r22.1.2.2.2.2.1 == r27.1.2.2.2.2.1) && ((r22.1.2.2.2.2.2.1 == r27.1.2.2.2.2.2.1) && ((r22.1.2.2.2.2.2.2.1 == r27.1.2.2.2.2.2.2.1) && ((r22.1.2.2.2.2.2.2.2.1 == r27.1.2.2.2.2.2.2.2.1) && ((r22.1.2.2.2.2.2.2.2.2.1 == r27.1.2.2.2.2.2.2.2.2.1) && ((r22.1.2.2.2.2.2.2.2.2.2.1 == r27.1.2.2.2.2.2.2.2.2.2.1) && ((r22.1.2.2.2.2.2.2.2.2.2.2 == r27.1.2.2.2.2.2.2.2.2.2.2) && true)))))))))))), (72, undef)] 14 [some 10, some 13] rfl rfl rfl rfl rfl rfl fun G a w S => ?_
      refine sPickF (.bool false) S (wN rfl) rfl rfl hc59 rfl rfl (lb rfl) fun a S => ?_
      exact leafL ⟨rfl, S⟩
    · refine fI 74 (.bool false) [(73, .bool false)] 15 [some 14] rfl rfl rfl rfl rfl rfl fun G a w S => ?_
      refine sMove (.bool false) S (wN rfl) (.inl rfl) rfl rfl (lb rfl) fun a S => ?_
      exact leafL ⟨rfl, S⟩
    · refine fI 75 undef [(11, .pointer (some ⟨b35, 0, none⟩)), (74, .bool false)] 16 [none, some 15] rfl rfl rfl rfl rfl rfl fun G a w S => ?_
      refine sSkip 15 true 74 75 S rfl rfl rfl rfl rfl (lb rfl) fun a S => ?_
      exact leafL ⟨rfl, S⟩
    · refine fI 76 undef [(13, .pointer (some ⟨b40, 0, none⟩)), (74, .bool false)] 17 [none, some 15] rfl rfl rfl rfl rfl rfl fun G a w S => ?_
      refine sSkip 15 true 74 76 S rfl rfl rfl rfl rfl (lb rfl) fun a S => ?_
      exact leafL ⟨rfl, S⟩
    · refine fI 77 undef [(75, undef), (76, undef), (74, .bool false)] 18 [some 16, some 17, some 15] rfl rfl rfl rfl rfl rfl fun G a w S => ?_
      refine sSkip 15 true 74 77 S rfl rfl rfl rfl rfl (lb rfl) fun a S => ?_
      exact leafL ⟨rfl, S⟩
    · refine fI 78 (.bool false) [(74, .bool false), (77, undef)] 19 [some 15, some 18] rfl rfl rfl rfl rfl rfl fun G a w S => ?_
      refine sPickF (.bool false) S (wN rfl) rfl rfl rfl rfl rfl (lb rfl) fun a S => ?_
      exact leafL ⟨rfl, S⟩
    · refine fI 79 (.bool false) [(78, .bool false)] 20 [some 19] rfl rfl rfl rfl rfl rfl fun G a w S => ?_
      refine sMove (.bool false) S (wN rfl) (.inl rfl) rfl rfl (lb rfl) fun a S => ?_
      exact leafL ⟨rfl, S⟩
    · refine fI 80 undef [(12, iv r32.2), (79, .bool false)] 21 [none, some 20] rfl rfl rfl rfl rfl rfl fun G a w S => ?_
      refine sSkip 20 true 79 80 S rfl rfl rfl rfl rfl (lb rfl) fun a S => ?_
      exact leafL ⟨rfl, S⟩
    · refine fI 81 undef [(14, iv r37.2), (79, .bool false)] 22 [none, some 20] rfl rfl rfl rfl rfl rfl fun G a w S => ?_
      refine sSkip 20 true 79 81 S rfl rfl rfl rfl rfl (lb rfl) fun a S => ?_
      exact leafL ⟨rfl, S⟩
    · refine fI 82 undef [(80, undef), (81, undef), (79, .bool false)] 23 [some 21, some 22, some 20] rfl rfl rfl rfl rfl rfl fun G a w S => ?_
      refine sSkip 20 true 79 82 S rfl rfl rfl rfl rfl (lb rfl) fun a S => ?_
      exact leafL ⟨rfl, S⟩
    · refine fI 83 (.bool false) [(79, .bool false), (82, undef)] 24 [some 20, some 23] rfl rfl rfl rfl rfl rfl fun G a w S => ?_
      refine sPickF (.bool false) S (wN rfl) rfl rfl rfl rfl rfl (lb rfl) fun a S => ?_
      exact leafL ⟨rfl, S⟩
    · refine fI 84 (.bool false) [(83, .bool false)] 25 [some 24] rfl rfl rfl rfl rfl rfl fun G a w S => ?_
      refine sMove (.bool false) S (wN rfl) (.inl rfl) rfl rfl (lb rfl) fun a S => ?_
      exact leafL ⟨rfl, S⟩
    · refine fI 85 undef [(15, .pointer (some ⟨b45, 0, none⟩)), (84, .bool false)] 26 [none, some 25] rfl rfl rfl rfl rfl rfl fun G a w S => ?_
      refine sSkip 25 true 84 85 S rfl rfl rfl rfl rfl (lb rfl) fun a S => ?_
      exact leafL ⟨rfl, S⟩
    · refine fI 86 undef [(17, .pointer (some ⟨b50, 0, none⟩)), (84, .bool false)] 27 [none, some 25] rfl rfl rfl rfl rfl rfl fun G a w S => ?_
      refine sSkip 25 true 84 86 S rfl rfl rfl rfl rfl (lb rfl) fun a S => ?_
      exact leafL ⟨rfl, S⟩
    · refine fI 87 undef [(85, undef), (86, undef), (84, .bool false)] 28 [some 26, some 27, some 25] rfl rfl rfl rfl rfl rfl fun G a w S => ?_
      refine sSkip 25 true 84 87 S rfl rfl rfl rfl rfl (lb rfl) fun a S => ?_
      exact leafL ⟨rfl, S⟩
    · refine fI 88 (.bool false) [(84, .bool false), (87, undef)] 29 [some 25, some 28] rfl rfl rfl rfl rfl rfl fun G a w S => ?_
      refine sPickF (.bool false) S (wN rfl) rfl rfl rfl rfl rfl (lb rfl) fun a S => ?_
      exact leafL ⟨rfl, S⟩
    · refine fI 89 (.bool false) [(88, .bool false)] 30 [some 29] rfl rfl rfl rfl rfl rfl fun G a w S => ?_
      refine sMove (.bool false) S (wN rfl) (.inl rfl) rfl rfl (lb rfl) fun a S => ?_
      exact leafL ⟨rfl, S⟩
    · refine fI 90 undef [(16, iv r42.2), (89, .bool false)] 31 [none, some 30] rfl rfl rfl rfl rfl rfl fun G a w S => ?_
      refine sSkip 30 true 89 90 S rfl rfl rfl rfl rfl (lb rfl) fun a S => ?_
      exact leafL ⟨rfl, S⟩
    · refine fI 91 undef [(18, iv r47.2), (89, .bool false)] 32 [none, some 30] rfl rfl rfl rfl rfl rfl fun G a w S => ?_
      refine sSkip 30 true 89 91 S rfl rfl rfl rfl rfl (lb rfl) fun a S => ?_
      exact leafL ⟨rfl, S⟩
    · refine fI 92 undef [(90, undef), (91, undef), (89, .bool false)] 33 [some 31, some 32, some 30] rfl rfl rfl rfl rfl rfl fun G a w S => ?_
      refine sSkip 30 true 89 92 S rfl rfl rfl rfl rfl (lb rfl) fun a S => ?_
      exact leafL ⟨rfl, S⟩
    · refine fI 93 (.bool false) [(89, .bool false), (92, undef)] 34 [some 30, some 33] rfl rfl rfl rfl rfl rfl fun G a w S => ?_
      refine sPickF (.bool false) S (wN rfl) rfl rfl rfl rfl rfl (lb rfl) fun a S => ?_
      exact leafL ⟨rfl, S⟩
    · refine fI 6 (.bool false) [(93, .bool false)] 35 [some 34] rfl rfl rfl rfl rfl rfl fun G a w S => ?_
      refine sMove (.bool false) S (wN rfl) (.inr rfl) rfl rfl (lb rfl) fun a S => ?_
      exact leafL ⟨rfl, S⟩
    exact leafT (⟨false, Option.some.inj h, S.fix [] [] (by decide) rfl rfl rfl⟩)
  rcases iteSome h with ⟨hc60, h⟩ | ⟨hc60, h⟩
  rotate_left
  · refine sDraw (nf := []) (W := [(0, 59, gv_api_Rates p2), (1, 60, iv r54), (2, 61, gv_api_Rates p2), (3, 62, iv r56), (4, 63, .bool (r54 == r56)), (5, 64, .bool (r54 == r56)), (6, 65, gv_A11_Int r22.1), (7, 66, gv_A11_Int r27.1), (8, 67, .bool ((r22.1.1 == r27.1.1) && ((r22.1.2.1 == r27.1.2.1) && ((r22.1.2.2.1 == r27.1.2.2.1) && ((r22.1.2.2.2.1 == r27.1.2.2.2.1) && ((r22.1.2.2.2.2.1 == r27.1.2.2.2.2.1) && ((r22.1.2.2.2.2.2.1 == r27.1.2.2.2.2.2.1) && ((r22.1.2.2.2.2.2.2.1 == r27.1.2.2.2.2.2.2.1) && ((r22.1.2.2.2.2.2.2.2.1 == r27.1.2.2.2.2.2.2.2.1) && ((r22.1.2.2.2.2.2.2.2.2.1 == r27.1.2.2.2.2.2.2.2.2.1) && ((r22.1.2.2.2.2.2.2.2.2.2.1 == r27.1.2.2.2.2.2.2.2.2.2.1) && ((r22.1.2.2.2.2.2.2.2.2.2.2 == r27.1.2.2.2.2.2.2.2.2.2.2) && true)))))))))))), (9, 68, .bool ((r22.1.1 == r27.1.1) && ((r22.1.2.1 == r27.1.2.1) && ((r22.1.2.2.1 == r27.1.2.2.1) && ((r22.1.2.2.2.1 == r27.1.2.2.2.1) && ((r22.1.2.2.2.2.1 == r27.1.2.2.2.2.1) && ((r22.1.2.2.2.2.2.1 == r27.1.2.2.2.2.2.1) && ((r22.1.2.2.2.2.2.2.1 == r27.1.2.2.2.2.2.2.1) && ((r22.1.2.2.2.2.2.2.2.1 == r27.1.2.2.2.2.2.2.2.1) && ((r22.1.2.2.2.2.2.2.2.2.1 == r27.1.2.2.2.2.2.2.2.2.1) && ((r22.1.2.2.2.2.2.2.2.2.2.1 == r27.1.2.2.2.2.2.2.2.2.2.1) && ((r22.1.2.2.2.2.2.2.2.2.2.2 == r27.1.2.2.2.2.2.2.2.2.2.2) && true)))))))))))), (10, 69, .bool ((r22.1.1 == r27.1.1) && ((r22.1.2.1 == r27.1.2.1) && ((r22.1.2.2.1 == r27.1.2.2.1) && ((r22.1.2.2.2.1 == r27.1.2.2.2.1) && ((r22.1.2.2.2.2.1 == r27.1.2.2.2.2.1) && ((r22.1.2.2.2.2.2.1 == r27.1.2.2.2.2.2.1) && ((r22.1.2.2.2.2.2.2.1 == r27.1.2.2.2.2.2.2.1) && ((r22.1.2.2.2.2.2.2.2.1 == r27.1.2.2.2.2.2.2.2.1) && ((r22.1.2.2.2.2.2.2.2.2.1 == r27.1.2.2.2.2.2.2.2.2.1) && ((r22.1.2.2.2.2.2.2.2.2.2.1 == r27.1.2.2.2.2.2.2.2.2.2.1) && ((r22.1.2.2.2.2.2.2.2.2.2.2 == r27.1.2.2.2.2.2.2.2.2.2.2) && true)))))))))))), (11, 70, iv r22.2), (12, 71, iv r27.2), (13, 72, .bool (r22.2 == r27.2)), (14, 73, .bool (r22.2 == r27.2)), (15, 74, .bool (r22.2 == r27.2)), (16, 75, undef), (17, 76, undef), (18, 77, undef), (19, 78, .bool false), (20, 79, .bool false), (21, 80, undef), (22, 81, undef), (23, 82, undef), (24, 83, .bool false), (25, 84, .bool false), (26, 85, undef), (27, 86, undef), (28, 87, undef), (29, 88, .bool false), (30, 89, .bool false), (31, 90, undef), (32, 91, undef), (33, 92, undef), (34, 93, .bool false), (35, 6, .bool false)]) rfl S ?_
    refine node_by (A := anc_raddlelaw45_CostNeeds_0) (nf := []) (Y := []) (W := [(0, 59, gv_api_Rates p2), (1, 60, iv r54), (2, 61, gv_api_Rates p2), (3, 62, iv r56), (4, 63, .bool (r54 == r56)), (5, 64, .bool (r54 == r56)), (6, 65, gv_A11_Int r22.1), (7, 66, gv_A11_Int r27.1), (8, 67, .bool ((r22.1.1 == r27.1.1) && ((r22.1.2.1 == r27.1.2.1) && ((r22.1.2.2.1 == r27.1.2.2.1) && ((r22.1.2.2.2.1 == r27.1.2.2.2.1) && ((r22.1.2.2.2.2.1 == r27.1.2.2.2.2.1) && ((r22.1.2.2.2.2.2.1 == r27.1.2.2.2.2.2.1) && ((r22.1.2.2.2.2.2.2.1 == r27.1.2.2.2.2.2.2.1) && ((r22.1.2.2.2.2.2.2.2.1 == r27.1.2.2.2.2.2.2.2.1) && ((r22.1.2.2.2.2.2.2.2.2.1 == r27.1.2.2.2.2.2.2.2.2.1) && ((r22.1.2.2.2.2.2.2.2.2.2.1 == r27.1.2.2.2.2.2.2.2.2.2.1) && ((r22.1.2.2.2.2.2.2.2.2.2.2 == r27.1.2.2.2.2.2.2.2.2.2.2) && true)))))))))))), (9, 68, .bool ((r22.1.1 == r27.1.1) && ((r22.1.2.1 == r27.1.2.1) && ((r22.1.2.2.1 == r27.1.2.2.1) && ((r22.1.2.2.2.1 == r27.1.2.2.2.1) && ((r22.1.2.2.2.2.1 == r27.1.2.2.2.2.1) && ((r22.1.2.2.2.2.2.1 == r27.1.2.2.2.2.2.1) && ((r22.1.2.2.2.2.2.2.1 == r27.1.2.2.2.2.2.2.1) && ((r22.1.2.2.2.2.2.2.2.1 == r27.1.2.2.2.2.2.2.2.1) && ((r22.1.2.2.2.2.2.2.2.2.1 == r27.1.2.2.2.2.2.2.2.2.1) && ((r22.1.2.2.2.2.2.2.2.2.2.1 == r27.1.2.2.2.2.2.2.2.2.2.1) && ((r22.1.2.2.2.2.2.2.2.2.2.2 == r27.1.2.2.2.2.2.2.2.2.2.2) && true)))))))))))), (10, 69, .bool ((r22.1.1 == r27.1.1) && ((r22.1.2.1 == r27.1.2.1) && ((r22.1.2.2.1 == r27.1.2.2.1) && ((r22.1.2.2.2.1 == r27.1.2.2.2.1) && ((r22.1.2.2.2.2.1 == r27.1.2.2.2.2.1) && ((r22.1.2.2.2.2.2.1 == r27.1.2.2.2.2.2.1) && ((r22.1.2.2.2.2.2.2.1 == r27.1.2.2.2.2.2.2.1) && ((r22.1.2.2.2.2.2.2.2.1 == r27.1.2.2.2.2.2.2.2.1) && ((r22.1.2.2.2.2.2.2.2.2.1 == r27.1.2.2.2.2.2.2.2.2.1) && ((r22.1.2.2.2.2.2.2.2.2.2.1 == r27.1.2.2.2.2.2.2.2.2.2.1) && ((r22.1.2.2.2.2.2.2.2.2.2.2 == r27.1.2.2.2.2.2.2.2.2.2.2) && true)))))))))))), (11, 70, iv r22.2), (12, 71, iv r27.2), (13, 72, .bool (r22.2 == r27.2)), (14, 73, .bool (r22.2 == r27.2)), (15, 74, .bool (r22.2 == r27.2)), (16, 75, undef), (17, 76, undef), (18, 77, undef), (19, 78, .bool false), (20, 79, .bool false), (21, 80, undef), (22, 81, undef), (23, 82, undef), (24, 83, .bool false), (25, 84, .bool false), (26, 85, undef), (27, 86, undef), (28, 87, undef), (29, 88, .bool false), (30, 89, .bool false), (31, 90, undef), (32, 91, undef), (33, 92, undef), (34, 93, .bool false), (35, 6, .bool false)]) 36 (by kernel_rfl) (by kernel_rfl) (by kernel_rfl) (by kernel_rfl) (by kernel_rfl) [0, 1, 2, 3, 4, 5, 6, 7, 8, 9, 10, 11, 12, 13, 14, 15, 16, 17, 18, 19, 20, 21, 22, 23, 24, 25, 26, 27, 28, 29, 30, 31, 32, 33, 34, 35] (by kernel_rfl) (by decide) (by decide) (aF 0 35 (by decide) ?_ (aF 1 34 (by decide) ?_ (aF 2 33 (by decide) ?_ (aF 3 32 (by decide) ?_ (aF 4 31 (by decide) ?_ (aF 5 30 (by decide) ?_ (aF 6 29 (by decide) ?_ (aF 7 28 (by decide) ?_ (aF 8 27 (by decide) ?_ (aF 9 26 (by decide) ?_ (aF 10 25 (by decide) ?_ (aF 11 24 (by decide) ?_ (aF 12 23 (by decide) ?_ (aF 13 22 (by decide) ?_ (aF 14 21 (by decide) ?_ (aF 15 20 (by decide) ?_ (aF 16 19 (by decide) ?_ (aF 17 18 (by decide) ?_ (aF 18 17 (by decide) ?_ (aF 19 16 (by decide) ?_ (aF 20 15 (by decide) ?_ (aF 21 14 (by decide) ?_ (aF 22 13 (by decide) ?_ (aF 23 12 (by decide) ?_ (aF 24 11 (by decide) ?_ (aF 25 10 (by decide) ?_ (aF 26 9 (by decide) ?_ (aF 27 8 (by decide) ?_ (aF 28 7 (by decide) ?_ (aF 29 6 (by decide) ?_ (aF 30 5 (by decide) ?_ (aF 31 4 (by decide) ?_ (aF 32 3 (by decide) ?_ (aF 33 2 (by decide) ?_ (aF 34 1 (by decide) ?_ (aF 35 0 (by decide) ?_ (trivial))))))))))))))))))))))))))))))))))))) [(6, .bool false)] (fin_of [some 35] rfl (by kernel_rfl) (by kernel_rfl)) (fun _ a w S => ?_)
    · refine fI 59 (gv_api_Rates p2) [(5, .pointer (some ⟨b9, 0, none⟩))] 0 [none] rfl rfl rfl rfl rfl rfl fun G a w S => ?_
      refine sLoadN (p := b9) (off := 0) (T := 44) (vs := (gl_api_Rates p2)) 7 (gl_api_Rates p2) S (wN rfl) rfl rfl rfl rfl rfl rfl rfl (lb rfl) fun a S => ?_
      exact leafL ⟨rfl, S⟩
    · refine fI 60 (iv r54) [(59, gv_api_Rates p2)] 1 [some 0] rfl rfl rfl rfl rfl rfl fun G a w S => ?_
      have S1 := S.mem
      refine sCallQ (X := Unit) (f := 22) (vs := [gv_api_Rates p2]) (val := fun _ => iv r54) S (wN rfl) rfl callee22 rfl (S1.quiet [4] rfl) (fun E1 w1 S1 => c_cost_Check E1 w1 p2 (gv_api_Rates p2) r54 hx55 S1) rfl (lb rfl) fun _ a w S => ?_
      exact leafL ⟨rfl, S⟩
    · refine fI 61 (gv_api_Rates p2) [(5, .pointer (some ⟨b9, 0, none⟩))] 2 [none] rfl rfl rfl rfl rfl rfl fun G a w S => ?_
      refine sLoadN (p := b9) (off := 0) (T := 44) (vs := (gl_api_Rates p2)) 7 (gl_api_Rates p2) S (wN rfl) rfl rfl rfl rfl rfl rfl rfl (lb rfl) fun a S => ?_
      exact leafL ⟨rfl, S⟩
    · refine fI 62 (iv r56) [(61, gv_api_Rates p2)] 3 [some 2] rfl rfl rfl rfl rfl rfl fun G a w S => ?_
      have S1 := S.mem
      refine sCallQ (X := Unit) (f := 23) (vs := [gv_api_Rates p2]) (val := fun _ => iv r56) S (wN rfl) rfl callee23 rfl (S1.quiet [4] rfl) (fun E1 w1 S1 => c_raddleref45_Check E1 w1 p2 (gv_api_Rates p2) r56 hx57 S1) rfl (lb rfl) fun _ a w S => ?_
      exact leafL ⟨rfl, S⟩
    · refine fI 63 (.bool (r54 == r56)) [(60, iv r54), (62, iv r56)] 4 [some 1, some 3] rfl rfl rfl rfl rfl rfl fun G a w S => ?_
      refine sBin (.bool (r54 == r56)) S (wN rfl) rfl rfl rfl (bEq _ _ _ _ .i64 r54 r56) rfl (lb rfl) fun a S => ?_
      exact leafL ⟨rfl, S⟩
    · refine fI 64 (.bool (r54 == r56)) [(63, .bool (r54 == r56))] 5 [some 4] rfl rfl rfl rfl rfl rfl fun G a w S => ?_
      refine sMove (.bool (r54 == r56)) S (wN rfl) (.inl rfl) rfl rfl (lb rfl) fun a S => ?_
      exact leafL ⟨rfl, S⟩
    · refine fI 65 (gv_A11_Int r22.1) [(7, .pointer (some ⟨b25, 0, none⟩)), (64, .bool (r54 == r56))] 6 [none, some 5] rfl rfl rfl rfl rfl rfl fun G a w S => ?_
      refine sLoadN (p := b25) (off := 0) (T := 42) (vs := (gl_A11_Int r22.1)) 5 (gl_A11_Int r22.1) S (wG 5 true 64 rfl rfl rfl hc58) rfl rfl rfl rfl rfl rfl rfl (lb rfl) fun a S => ?_
      exact leafL ⟨rfl, S⟩
    · refine fI 66 (gv_A11_Int r27.1) [(9, .pointer (some ⟨b30, 0, none⟩)), (64, .bool (r54 == r56))] 7 [none, some 5] rfl rfl rfl rfl rfl rfl fun G a w S => ?_
      refine sLoadN (p := b30) (off := 0) (T := 42) (vs := (gl_A11_Int r27.1)) 4 (gl_A11_Int r27.1) S (wG 5 true 64 rfl rfl rfl hc58) rfl rfl rfl rfl rfl rfl rfl (lb rfl) fun a S => ?_
      exact leafL ⟨rfl, S⟩
    · refine fI 67 (.bool ((r22.1.1 == r27.1.1) && ((r22.1.2.1 == r27.1.2.1) && ((r22.1.2.2.1 == r27.1.2.2.1) && ((r22.1.2.2.2.1 == r27.1.2.2.2.1) && ((r22.1.2.2.2.2.1 == r27.1.2.2.2.2.1) && ((r22.1.2.2.2.2.2.1 == r27.1.2.2.2.2.2.1) && ((r22.1.2.2.2.2.2.2.1 == r27.1.2.2.2.2.2.2.1) && ((r22.1.2.2.2.2.2.2.2.1 == r27.1.2.2.2.2.2.2.2.1) && ((r22.1.2.2.2.2.2.2.2.2.1 == r27.1.2.2.2.2.2.2.2.2.1) && ((r22.1.2.2.2.2.2.2.2.2.2.1 == r27.1.2.2.2.2.2.2.2.2.2.1) && ((r22.1.2.2.2.2.2.2.2.2.2.2 == r27.1.2.2.2.2.2.2.2.2.2.2) && true)))))))))))) [(65, gv_A11_Int r22.1), (66, gv_A11_Int r27.1), (64, .bool (r54 == r56))] 8 [some 6, some 7, some 5] rfl rfl rfl rfl rfl rfl fun G a w S => ?_
      refine sBin (.bool ((r22.1.1 == r27.1.1) && ((r22.1.2.1 == r27.1.2.1) && ((r22.1.2.2.1 == r27.1.2.2.1) && ((r22.1.2.2.2.1 == r27.1.2.2.2.1) && ((r22.1.2.2.2.2.1 == r27.1.2.2.2.2.1) && ((r22.1.2.2.2.2.2.1 == r27.1.2.2.2.2.2.1) && ((r22.1.2.2.2.2.2.2.1 == r27.1.2.2.2.2.2.2.1) && ((r22.1.2.2.2.2.2.2.2.1 == r27.1.2.2.2.2.2.2.2.1) && ((r22.1.2.2.2.2.2.2.2.2.1 == r27.1.2.2.2.2.2.2.2.2.1) && ((r22.1.2.2.2.2.2.2.2.2.2.1 == r27.1.2.2.2.2.2.2.2.2.2.1) && ((r22.1.2.2.2.2.2.2.2.2.2.2 == r27.1.2.2.2.2.2.2.2.2.2.2) && true)))))))))))) S (wG 5 true 64 rfl rfl rfl hc58) rfl rfl rfl (bEqV _ _ _ _ #[iv r22.1.1, iv r22.1.2.1, iv r22.1.2.2.1, iv r22.1.2.2.2.1, iv r22.1.2.2.2.2.1, iv r22.1.2.2.2.2.2.1, iv r22.1.2.2.2.2.2.2.1, iv r22.1.2.2.2.2.2.2.2.1, iv r22.1.2.2.2.2.2.2.2.2.1, iv r22.1.2.2.2.2.2.2.2.2.2.1, iv r22.1.2.2.2.2.2.2.2.2.2.2] #[iv r27.1.1, iv r27.1.2.1, iv r27.1.2.2.1, iv r27.1.2.2.2.1, iv r27.1.2.2.2.2.1, iv r27.1.2.2.2.2.2.1, iv r27.1.2.2.2.2.2.2.1, iv r27.1.2.2.2.2.2.2.2.1, iv r27.1.2.2.2.2.2.2.2.2.1, iv r27.1.2.2.2.2.2.2.2.2.2.1, iv r27.1.2.2.2.2.2.2.2.2.2.2] ((r22.1.1 == r27.1.1) && ((r22.1.2.1 == r27.1.2.1) && ((r22.1.2.2.1 == r27.1.2.2.1) && ((r22.1.2.2.2.1 == r27.1.2.2.2.1) && ((r22.1.2.2.2.2.1 == r27.1.2.2.2.2.1) && ((r22.1.2.2.2.2.2.1 == r27.1.2.2.2.2.2.1) && ((r22.1.2.2.2.2.2.2.1 == r27.1.2.2.2.2.2.2.1) && ((r22.1.2.2.2.2.2.2.2.1 == r27.1.2.2.2.2.2.2.2.1) && ((r22.1.2.2.2.2.2.2.2.2.1 == r27.1.2.2.2.2.2.2.2.2.1) && ((r22.1.2.2.2.2.2.2.2.2.2.1 == r27.1.2.2.2.2.2.2.2.2.2.1) && ((r22.1.2.2.2.2.2.2.2.2.2.2 == r27.1.2.2.2.2.2.2.2.2.2.2) && true))))))))))) (by kernel_rfl) (eqlV_of (by kernel_rfl))) rfl (lb rfl) fun a S => ?_
      exact leafL ⟨rfl, S⟩
    · refine fI 68 (.bool ((r22.1.1 == r27.1.1) && ((r22.1.2.1 == r27.1.2.1) && ((r22.1.2.2.1 == r27.1.2.2.1) && ((r22.1.2.2.2.1 == r27.1.2.2.2.1) && ((r22.1.2.2.2.2.1 == r27.1.2.2.2.2.1) && ((r22.1.2.2.2.2.2.1 == r27.1.2.2.2.2.2.1) && ((r22.1.2.2.2.2.2.2.1 == r27.1.2.2.2.2.2.2.1) && ((r22.1.2.2.2.2.2.2.2.1 == r27.1.2.2.2.2.2.2.2.1) && ((r22.1.2.2.2.2.2.2.2.2.1 == r27.1.2.2.2.2.2.2.2.2.1) && ((r22.1.2.2.2.2.2.2.2.2.2.1 == r27.1.2.2.2.2.2.2.2.2.2.1) && ((r22.1.2.2.2.2.2.2.2.2.2.2 == r27.1.2.2.2.2.2.2.2.2.2.2) && true)))))))))))) [(64, .bool (r54 == r56)), (67, .bool ((r22.1.1 == r27.1.1) && ((r22.1.2.1 == r27.1.2.1) && ((r22.1.2.2.1 == r27.1.2.2.1) && ((r22.1.2.2.2.1 == r27.1.2.2.2.1) && ((r22.1.2.2.2.2.1 == r27.1.2.2.2.2.1) && ((r22.1.2.2.2.2.2.1 == r27.1.2.2.2.2.2.1) && ((r22.1.2.2.2.2.2.2.1 == r27.1.2.2.2.2.2.2.1) && ((r22.1.2.2.2.2.2.2.2.1 == r27.1.2.2.2.2.2.2.2.1) && ((r22.1.2.2.2.2.2.2.2.2.1 == r27.1.2.2.2.2.2.2.2.2.1) && ((r22.1.2.2.2.2.2.2.2.2.2.1 == r27.1.2.2.2.2.2.2.2.2.2.1) && ((r22.1.2.2.2.2.2.2.2.2.2.2 == r27.1.2.2.2.2.2.2.2.2.2.2) && true))))))))))))] 9 [some 5, some 8] rfl rfl rfl rfl rfl rfl fun G a w S => ?_
      refine sPickT (.bool ((r22.1.1 == r27.1.1) && ((r22.1.2.1 == r27.1.2.1) && ((r22.1.2.2.1 == r27.1.2.2.1) && ((r22.1.2.2.2.1 == r27.1.2.2.2.1) && ((r22.1.2.2.2.2.1 == r27.1.2.2.2.2.1) && ((r22.1.2.2.2.2.2.1 == r27.1.2.2.2.2.2.1) && ((r22.1.2.2.2.2.2.2.1 == r27.1.2.2.2.2.2.2.1) && ((r22.1.2.2.2.2.2.2.2.1 == r27.1.2.2.2.2.2.2.2.1) && ((r22.1.2.2.2.2.2.2.2.2.1 == r27.1.2.2.2.2.2.2.2.2.1) && ((r22.1.2.2.2.2.2.2.2.2.2.1 == r27.1.2.2.2.2.2.2.2.2.2.1) && ((r22.1.2.2.2.2.2.2.2.2.2.2 == r27.1.2.2.2.2.2.2.2.2.2.2) && true)))))))))))) S (wN rfl) rfl rfl hc58 rfl rfl (lb rfl) fun a S => ?_
      exact leafL ⟨rfl, S⟩
    · refine fI 69 (.bool ((r22.1.1 == r27.1.1) && ((r22.1.2.1 == r27.1.2.1) && ((r22.1.2.2.1 == r27.1.2.2.1) && ((r22.1.2.2.2.1 == r27.1.2.2.2.1) && ((r22.1.2.2.2.2.1 == r27.1.2.2.2.2.1) && ((r22.1.2.2.2.2.2.1 == r27.1.2.2.2.2.2.1) && ((r22.1.2.2.2.2.2.2.1 == r27.1.2.2.2.2.2.2.1) && ((r22.1.2.2.2.2.2.2.2.1 == r27.1.2.2.2.2.2.2.2.1) && ((r22.1.2.2.2.2.2.2.2.2.1 == r27.1.2.2.2.2.2.2.2.2.1) && ((r22.1.2.2.2.2.2.2.2.2.2.1 == r27.1.2.2.2.2.2.2.2.2.2.1) && ((r22.1.2.2.2.2.2.2.2.2.2.2 == r27.1.2.2.2.2.2.2.2.2.2.2) && true)))))))))))) [(68, .bool ((r22.1.1 == r27.1.1) && ((r22.1.2.1 == r27.1.2.1) && ((r22.1.2.2.1 == r27.1.2.2.1) && ((r22.1.2.2.2.1 == r27.1.2.2.2.1) && ((r22.1.2.2.2.2.1 == r27.1.2.2.2.2.1) && ((r22.1.2.2.2.2.2.1 == r27.1.2.2.2.2.2.1) && ((r22.1.2.2.2.2.2.2.1 == r27.1.2.2.2.2.2.2.1) && ((r22.1.2.2.2.2.2.2.2.1 == r27.1.2.2.2.2.2.2.2.1) && ((r22.1.2.2.2.2.2.2.2.2.1 == r27.1.2.2.2.2.2.2.2.2.1) && ((r22.1.2.2.2.2.2.2.2.2.2.1 == r27.1.2.2.2.2.2.2.2.2.2.1) && ((r22.1.2.2.2.2.2.2.2.2.2.2 == r27.1.2.2.2.2.2.2.2.2.2.2) && true))))))))))))] 10 [some 9] rfl rfl rfl rfl rfl rfl fun G a w S => ?_
      refine sMove (.bool ((r22.1.1 == r27.1.1) && ((r22.1.2.1 == r27.1.2.1) && ((r22.1.2.2.1 == r27.1.2.2.1) && ((r22.1.2.2.2.1 == r27.1.2.2.2.1) && ((r22.1.2.2.2.2.1 == r27.1.2.2.2.2.1) && ((r22.1.2.2.2.2.2.1 == r27.1.2.2.2.2.2.1) && ((r22.1.2.2.2.2.2.2.1 == r27.1.2.2.2.2.2.2.1) && ((r22.1.2.2.2.2.2.2.2.1 == r27.1.2.2.2.2.2.2.2.1) && ((r22.1.2.2.2.2.2.2.2.2.1 == r27.1.2.2.2.2.2.2.2.2.1) && ((r22.1.2.2.2.2.2.2.2.2.2.1 == r27.1.2.2.2.2.2.2.2.2.2.1) && ((r22.1.2.2.2.2.2.2.2.2.2.2 == r27.1.2.2.2.2.2.2.2.2.2.2) && true)))))))))))) S (wN rfl) (.inl rfl) rfl rfl (lb rfl) fun a S => ?_
      exact leafL ⟨rfl, S⟩
    · refine fI 70 (iv r22.2) [(8, iv r22.2), (69, .bool ((r22.1.1 == r27.1.1) && ((r22.1.2.1 == r27.1.2.1) && ((r22.1.2.2.1 == r27.1.2.2.1) && ((r22.1.2.2.2.1 == r27.1.2.2.2.1) && ((r22.1.2.2.2.2.1 == r27.1.2.2.2.2.1) && ((r22.1.2.2.2.2.2.1 == r27.1.2.2.2.2.2.1) && ((r22.1.2.2.2.2.2.2.1 == r27.1.2.2.2.2.2.2.1) && ((r22.1.2.2.2.2.2.2.2.1 == r27.1.2.2.2.2.2.2.2.1) && ((r22.1.2.2.2.2.2.2.2.2.1 == r27.1.2.2.2.2.2.2.2.2.1) && ((r22.1.2.2.2.2.2.2.2.2.2.1 == r27.1.2.2.2.2.2.2.2.2.2.1) && ((r22.1.2.2.2.2.2.2.2.2.2.2 == r27.1.2.2.2.2.2.2.2.2.2.2) && true))))))))))))] 11 [none, some 10] rfl rfl rfl rfl rfl rfl fun G a w S => ?_
      refine sMove (iv r22.2) S (wG 10 true 69 rfl rfl rfl hc59) (.inl rfl) rfl rfl (lb rfl) fun a S => ?_
      exact leafL ⟨rfl, S⟩
    · refine fI 71 (iv r27.2) [(10, iv r27.2), (69, .bool ((r22.1.1 == r27.1.1) && ((r22.1.2.1 == r27.1.2.1) && ((r22.1.2.2.1 == r27.1.2.2.1) && ((r22.1.2.2.2.1 == r27.1.2.2.2.1) && ((r22.1.2.2.2.2.1 == r27.1.2.2.2.2.1) && ((r22.1.2.2.2.2.2.1 == r27.1.2.2.2.2.2.1) && ((r22.1.2.2.2.2.2.2.1 == r27.1.2.2.2.2.2.2.1) && ((r22.1.2.2.2.2.2.2.2.1 == r27.1.2.2.2.2.2.2.2.1) && ((r22.1.2.2.2.2.2.2.2.2.1 == r27.1.2.2.2.2.2.2.2.2.1) && ((r22.1.2.2.2.2.2.2.2.2.2.1 == r27.1.2.2.2.2.2.2.2.2.2.1) && ((r22.1.2.2.2.2.2.2.2.2.2.2 == r27.1.2.2.2.2.2.2.2.2.2.2) && true))))))))))))] 12 [none, some 10] rfl rfl rfl rfl rfl rfl fun G a w S => ?_
      refine sMove (iv r27.2) S (wG 10 true 69 rfl rfl rfl hc59) (.inl rfl) rfl rfl (lb rfl) fun a S => ?_
      exact leafL ⟨rfl, S⟩
    · refine fI 72 (.bool (r22.2 == r27.2)) [(70, iv r22.2), (71, iv r27.2), (69, .bool ((r22.1.1 == r27.1.1) && ((r22.1.2.1 == r27.1.2.1) && ((r22.1.2.2.1 == r27.1.2.2.1) && ((r22.1.2.2.2.1 == r27.1.2.2.2.1) && ((r22.1.2.2.2.2.1 == r27.1.2.2.2.2.1) && ((r22.1.2.2.2.2.2.1 == r27.1.2.2.2.2.2.1) && ((r22.1.2.2.2.2.2.2.1 == r27.1.2.2.2.2.2.2.1) && ((r22.1.2.2.2.2.2.2.2.1 == r27.1.2.2.2.2.2.2.2.1) && ((r22.1.2.2.2.2.2.2.2.2.1 == r27.1.2.2.2.2.2.2.2.2.1) && ((r22.1.2.2.2.2.2.2.2.2.2.1 == r27.1.2.2.2.2.2.2.2.2.2.1) && ((r22.1.2.2.2.2.2.2.2.2.2.2 == r27.1.2.2.2.2.2.2.2.2.2.2) && true))))))))))))] 13 [some 11, some 12, some 10] rfl rfl rfl rfl rfl rfl fun G a w S => ?_
      refine sBin (.bool (r22.2 == r27.2)) S (wG 10 true 69 rfl rfl rfl hc59) rfl rfl rfl (bEq _ _ _ _ .i64 r22.2 r27.2) rfl (lb rfl) fun a S => ?_
      exact leafL ⟨rfl, S⟩
    · refine fI 73 (.bool (r22.2 == r27.2)) [(69, .bool ((r22.1.1 == r27.1.1) && ((r22.1.2.1 == r27.1.2.1) && ((r22.1.2.2.1 == r27.1.2.2.1) && ((r22.1.2.2.2.1 == r27.1.2.2.2.1) && ((r22.1.2.2.2.2.1 == r27.1.2.2.2.2.1) && ((r22.1.2.2.2.2.2.1 == r27.1.2.2.2.2.2.1) && ((r22.1.2.2.2.2.2.2.1 == r27.1.2.2.2.2.2.2.1) && ((r22.1.2.2.2.2.2.2.2.1 == r27.1.2.2.2.2.2.2.2.1) && ((r22.1.2.2.2.2.2.2.2.2.1 == r27.1.2.2.2.2.2.2.2.2.1) && ((r22.1.2.2.2.2.2.2.2.2.2.1 == r27.1.2.2.2.2.2.2.2.2.2.1) && ((r22.1.2.2.2.2.2.2.2.2.2.2 == r27.1.2.2.2.2.2.2.2.2.2.2) && true)))))))))))), (72, .bool (r22.2 == r27.2))] 14 [some 10, some 13] rfl rfl rfl rfl rfl rfl fun G a w S => ?_
      refine sPickT (.bool (r22.2 == r27.2)) S (wN rfl) rfl rfl hc59 rfl rfl (lb rfl) fun a S => ?_
      exact leafL ⟨rfl, S⟩
    · refine fI 74 (.bool (r22.2 == r27.2)) [(73, .bool (r22.2 == r27.2))] 15 [some 14] rfl rfl rfl rfl rfl rfl fun G a w S => ?_
      refine sMove (.bool (r22.2 == r27.2)) S (wN rfl) (.inl rfl) rfl rfl (lb rfl) fun a S => ?_
      exact leafL ⟨rfl, S⟩
    · refine fI 75 undef [(11, .pointer (some ⟨b35, 0, none⟩)), (74, .bool (r22.2 == r27.2))] 16 [none, some 15] rfl rfl rfl rfl rfl rfl fun G a w S => ?_
      refine sSkip 15 true 74 75 S rfl rfl rfl hc60 rfl (lb rfl) fun a S => ?_
      exact leafL ⟨rfl, S⟩
    · refine fI 76 undef [(13, .pointer (some ⟨b40, 0, none⟩)), (74, .bool (r22.2 == r27.2))] 17 [none, some 15] rfl rfl rfl rfl rfl rfl fun G a w S => ?_
      refine sSkip 15 true 74 76 S rfl rfl rfl hc60 rfl (lb rfl) fun a S => ?_
      exact leafL ⟨rfl, S⟩
    · refine fI 77 undef [(75, undef), (76, undef), (74, .bool (r22.2 == r27.2))] 18 [some 16, some 17, some 15] rfl rfl rfl rfl rfl rfl fun G a w S => ?_
      refine sSkip 15 true 74 77 S rfl rfl rfl hc60 rfl (lb rfl) fun a S => ?_
      exact leafL ⟨rfl, S⟩
    · refine fI 78 (.bool false) [(74, .bool (r22.2 == r27.2)), (77, undef)] 19 [some 15, some 18] rfl rfl rfl rfl rfl rfl fun G a w S => ?_
      refine sPickF (.bool false) S (wN rfl) rfl rfl hc60 rfl rfl (lb rfl) fun a S => ?_
      exact leafL ⟨rfl, S⟩
    · refine fI 79 (.bool false) [(78, .bool false)] 20 [some 19] rfl rfl rfl rfl rfl rfl fun G a w S => ?_
      refine sMove (.bool false) S (wN rfl) (.inl rfl) rfl rfl (lb rfl) fun a S => ?_
      exact leafL ⟨rfl, S⟩
    · refine fI 80 undef [(12, iv r32.2), (79, .bool false)] 21 [none, some 20] rfl rfl rfl rfl rfl rfl fun G a w S => ?_
      refine sSkip 20 true 79 80 S rfl rfl rfl rfl rfl (lb rfl) fun a S => ?_
      exact leafL ⟨rfl, S⟩
    · refine fI 81 undef [(14, iv r37.2), (79, .bool false)] 22 [none, some 20] rfl rfl rfl rfl rfl rfl fun G a w S => ?_
      refine sSkip 20 true 79 81 S rfl rfl rfl rfl rfl (lb rfl) fun a S => ?_
      exact leafL ⟨rfl, S⟩
    · refine fI 82 undef [(80, undef), (81, undef), (79, .bool false)] 23 [some 21, some 22, some 20] rfl rfl rfl rfl rfl rfl fun G a w S => ?_
      refine sSkip 20 true 79 82 S rfl rfl rfl rfl rfl (lb rfl) fun a S => ?_
      exact leafL ⟨rfl, S⟩
    · refine fI 83 (.bool false) [(79, .bool false), (82, undef)] 24 [some 20, some 23] rfl rfl rfl rfl rfl rfl fun G a w S => ?_
      refine sPickF (.bool false) S (wN rfl) rfl rfl rfl rfl rfl (lb rfl) fun a S => ?_
      exact leafL ⟨rfl, S⟩
    · refine fI 84 (.bool false) [(83, .bool false)] 25 [some 24] rfl rfl rfl rfl rfl rfl fun G a w S => ?_
      refine sMove (.bool false) S (wN rfl) (.inl rfl) rfl rfl (lb rfl) fun a S => ?_
      exact leafL ⟨rfl, S⟩
    · refine fI 85 undef [(15, .pointer (some ⟨b45, 0, none⟩)), (84, .bool false)] 26 [none, some 25] rfl rfl rfl rfl rfl rfl fun G a w S => ?_
      refine sSkip 25 true 84 85 S rfl rfl rfl rfl rfl (lb rfl) fun a S => ?_
      exact leafL ⟨rfl, S⟩
    · refine fI 86 undef [(17, .pointer (some ⟨b50, 0, none⟩)), (84, .bool false)] 27 [none, some 25] rfl rfl rfl rfl rfl rfl fun G a w S => ?_
      refine sSkip 25 true 84 86 S rfl rfl rfl rfl rfl (lb rfl) fun a S => ?_
      exact leafL ⟨rfl, S⟩
    · refine fI 87 undef [(85, undef), (86, undef), (84, .bool false)] 28 [some 26, some 27, some 25] rfl rfl rfl rfl rfl rfl fun G a w S => ?_
      refine sSkip 25 true 84 87 S rfl rfl rfl rfl rfl (lb rfl) fun a S => ?_
      exact leafL ⟨rfl, S⟩
    · refine fI 88 (.bool false) [(84, .bool false), (87, undef)] 29 [some 25, some 28] rfl rfl rfl rfl rfl rfl fun G a w S => ?_
      refine sPickF (.bool false) S (wN rfl) rfl rfl rfl rfl rfl (lb rfl) fun a S => ?_
      exact leafL ⟨rfl, S⟩
    · refine fI 89 (.bool false) [(88, .bool false)] 30 [some 29] rfl rfl rfl rfl rfl rfl fun G a w S => ?_
      refine sMove (.bool false) S (wN rfl) (.inl rfl) rfl rfl (lb rfl) fun a S => ?_
      exact leafL ⟨rfl, S⟩
    · refine fI 90 undef [(16, iv r42.2), (89, .bool false)] 31 [none, some 30] rfl rfl rfl rfl rfl rfl fun G a w S => ?_
      refine sSkip 30 true 89 90 S rfl rfl rfl rfl rfl (lb rfl) fun a S => ?_
      exact leafL ⟨rfl, S⟩
    · refine fI 91 undef [(18, iv r47.2), (89, .bool false)] 32 [none, some 30] rfl rfl rfl rfl rfl rfl fun G a w S => ?_
      refine sSkip 30 true 89 91 S rfl rfl rfl rfl rfl (lb rfl) fun a S => ?_
      exact leafL ⟨rfl, S⟩
    · refine fI 92 undef [(90, undef), (91, undef), (89, .bool false)] 33 [some 31, some 32, some 30] rfl rfl rfl rfl rfl rfl fun G a w S => ?_
      refine sSkip 30 true 89 92 S rfl rfl rfl rfl rfl (lb rfl) fun a S => ?_
      exact leafL ⟨rfl, S⟩
    · refine fI 93 (.bool false) [(89, .bool false), (92, undef)] 34 [some 30, some 33] rfl rfl rfl rfl rfl rfl fun G a w S => ?_
      refine sPickF (.bool false) S (wN rfl) rfl rfl rfl rfl rfl (lb rfl) fun a S => ?_
      exact leafL ⟨rfl, S⟩
    · refine fI 6 (.bool false) [(93, .bool false)] 35 [some 34] rfl rfl rfl rfl rfl rfl fun G a w S => ?_
      refine sMove (.bool false) S (wN rfl) (.inr rfl) rfl rfl (lb rfl) fun a S => ?_
      exact leafL ⟨rfl, S⟩
    exact leafT (⟨false, Option.some.inj h, S.fix [] [] (by decide) rfl rfl rfl⟩)
  rcases iteSome h with ⟨hc61, h⟩ | ⟨hc61, h⟩
  rotate_left
  · refine sDraw (nf := []) (W := [(0, 59, gv_api_Rates p2), (1, 60, iv r54), (2, 61, gv_api_Rates p2), (3, 62, iv r56), (4, 63, .bool (r54 == r56)), (5, 64, .bool (r54 == r56)), (6, 65, gv_A11_Int r22.1), (7, 66, gv_A11_Int r27.1), (8, 67, .bool ((r22.1.1 == r27.1.1) && ((r22.1.2.1 == r27.1.2.1) && ((r22.1.2.2.1 == r27.1.2.2.1) && ((r22.1.2.2.2.1 == r27.1.2.2.2.1) && ((r22.1.2.2.2.2.1 == r27.1.2.2.2.2.1) && ((r22.1.2.2.2.2.2.1 == r27.1.2.2.2.2.2.1) && ((r22.1.2.2.2.2.2.2.1 == r27.1.2.2.2.2.2.2.1) && ((r22.1.2.2.2.2.2.2.2.1 == r27.1.2.2.2.2.2.2.2.1) && ((r22.1.2.2.2.2.2.2.2.2.1 == r27.1.2.2.2.2.2.2.2.2.1) && ((r22.1.2.2.2.2.2.2.2.2.2.1 == r27.1.2.2.2.2.2.2.2.2.2.1) && ((r22.1.2.2.2.2.2.2.2.2.2.2 == r27.1.2.2.2.2.2.2.2.2.2.2) && true)))))))))))), (9, 68, .bool ((r22.1.1 == r27.1.1) && ((r22.1.2.1 == r27.1.2.1) && ((r22.1.2.2.1 == r27.1.2.2.1) && ((r22.1.2.2.2.1 == r27.1.2.2.2.1) && ((r22.1.2.2.2.2.1 == r27.1.2.2.2.2.1) && ((r22.1.2.2.2.2.2.1 == r27.1.2.2.2.2.2.1) && ((r22.1.2.2.2.2.2.2.1 == r27.1.2.2.2.2.2.2.1) && ((r22.1.2.2.2.2.2.2.2.1 == r27.1.2.2.2.2.2.2.2.1) && ((r22.1.2.2.2.2.2.2.2.2.1 == r27.1.2.2.2.2.2.2.2.2.1) && ((r22.1.2.2.2.2.2.2.2.2.2.1 == r27.1.2.2.2.2.2.2.2.2.2.1) && ((r22.1.2.2.2.2.2.2.2.2.2.2 == r27.1.2.2.2.2.2.2.2.2.2.2) && true)))))))))))), (10, 69, .bool ((r22.1.1 == r27.1.1) && ((r22.1.2.1 == r27.1.2.1) && ((r22.1.2.2.1 == r27.1.2.2.1) && ((r22.1.2.2.2.1 == r27.1.2.2.2.1) && ((r22.1.2.2.2.2.1 == r27.1.2.2.2.2.1) && ((r22.1.2.2.2.2.2.1 == r27.1.2.2.2.2.2.1) && ((r22.1.2.2.2.2.2.2.1 == r27.1.2.2.2.2.2.2.1) && ((r22.1.2.2.2.2.2.2.2.1 == r27.1.2.2.2.2.2.2.2.1) && ((r22.1.2.2.2.2.2.2.2.2.1 == r27.1.2.2.2.2.2.2.2.2.1) && ((r22.1.2.2.2.2.2.2.2.2.2.1 == r27.1.2.2.2.2.2.2.2.2.2.1) && ((r22.1.2.2.2.2.2.2.2.2.2.2 == r27.1.2.2.2.2.2.2.2.2.2.2) && true)))))))))))), (11, 70, iv r22.2), (12, 71, iv r27.2), (13, 72, .bool (r22.2 == r27.2)), (14, 73, .bool (r22.2 == r27.2)), (15, 74, .bool (r22.2 == r27.2)), (16, 75, .agg #[iv r32.1.Length, iv r32.1.Time]), (17, 76, .agg #[iv r37.1.Length, iv r37.1.Time]), (18, 77, .bool ((r32.1.Length == r37.1.Length) && ((r32.1.Time == r37.1.Time) && true))), (19, 78, .bool ((r32.1.Length == r37.1.Length) && ((r32.1.Time == r37.1.Time) && true))), (20, 79, .bool ((r32.1.Length == r37.1.Length) && ((r32.1.Time == r37.1.Time) && true))), (21, 80, undef), (22, 81, undef), (23, 82, undef), (24, 83, .bool false), (25, 84, .bool false), (26, 85, undef), (27, 86, undef), (28, 87, undef), (29, 88, .bool false), (30, 89, .bool false), (31, 90, undef), (32, 91, undef), (33, 92, undef), (34, 93, .bool false), (35, 6, .bool false)]) rfl S ?_
    refine node_by (A := anc_raddlelaw45_CostNeeds_0) (nf := []) (Y := []) (W := [(0, 59, gv_api_Rates p2), (1, 60, iv r54), (2, 61, gv_api_Rates p2), (3, 62, iv r56), (4, 63, .bool (r54 == r56)), (5, 64, .bool (r54 == r56)), (6, 65, gv_A11_Int r22.1), (7, 66, gv_A11_Int r27.1), (8, 67, .bool ((r22.1.1 == r27.1.1) && ((r22.1.2.1 == r27.1.2.1) && ((r22.1.2.2.1 == r27.1.2.2.1) && ((r22.1.2.2.2.1 == r27.1.2.2.2.1) && ((r22.1.2.2.2.2.1 == r27.1.2.2.2.2.1) && ((r22.1.2.2.2.2.2.1 == r27.1.2.2.2.2.2.1) && ((r22.1.2.2.2.2.2.2.1 == r27.1.2.2.2.2.2.2.1) && ((r22.1.2.2.2.2.2.2.2.1 == r27.1.2.2.2.2.2.2.2.1) && ((r22.1.2.2.2.2.2.2.2.2.1 == r27.1.2.2.2.2.2.2.2.2.1) && ((r22.1.2.2.2.2.2.2.2.2.2.1 == r27.1.2.2.2.2.2.2.2.2.2.1) && ((r22.1.2.2.2.2.2.2.2.2.2.2 == r27.1.2.2.2.2.2.2.2.2.2.2) && true)))))))))))), (9, 68, .bool ((r22.1.1 == r27.1.1) && ((r22.1.2.1 == r27.1.2.1) && ((r22.1.2.2.1 == r27.1.2.2.1) && ((r22.1.2.2.2.1 == r27.1.2.2.2.1) && ((r22.1.2.2.2.2.1 == r27.1.2.2.2.2.1) && ((r22.1.2.2.2.2.2.1 == r27.1.2.2.2.2.2.1) && ((r22.1.2.2.2.2.2.2.1 == r27.1.2.2.2.2.2.2.1) && ((r22.1.2.2.2.2.2.2.2.1 == r27.1.2.2.2.2.2.2.2.1) && ((r22.1.2.2.2.2.2.2.2.2.1 == r27.1.2.2.2.2.2.2.2.2.1) && ((r22.1.2.2.2.2.2.2.2.2.2.1 == r27.1.2.2.2.2.2.2.2.2.2.1) && ((r22.1.2.2.2.2.2.2.2.2.2.2 == r27.1.2.2.2.2.2.2.2.2.2.2) && true)))))))))))), (10, 69, .bool ((r22.1.1 == r27.1.1) && ((r22.1.2.1 == r27.1.2.1) && ((r22.1.2.2.1 == r27.1.2.2.1) && ((r22.1.2.2.2.1 == r27.1.2.2.2.1) && ((r22.1.2.2.2.2.1 == r27.1.2.2.2.2.1) && ((r22.1.2.2.2.2.2.1 == r27.1.2.2.2.2.2.1) && ((r22.1.2.2.2.2.2.2.1 == r27.1.2.2.2.2.2.2.1) && ((r22.1.2.2.2.2.2.2.2.1 == r27.1.2.2.2.2.2.2.2.1) && ((r22.1.2.2.2.2.2.2.2.2.1 == r27.1.2.2.2.2.2.2.2.2.1) && ((r22.1.2.2.2.2.2.2.2.2.2.1 == r27.1.2.2.2.2.2.2.2.2.2.1) && ((r22.1.2.2.2.2.2.2.2.2.2.2 == r27.1.2.2.2.2.2.2.2.2.2.2) && true)))))))))))), (11, 70, iv r22.2), (12, 71, iv r27.2), (13, 72, .bool (r22.2 == r27.2)), (14, 73, .bool (r22.2 == r27.2)), (15, 74, .bool (r22.2 == r27.2)), (16, 75, .agg #[iv r32.1.Length, iv r32.1.Time]), (17, 76, .agg #[iv r37.1.Length, iv r37.1.Time]), (18, 77, .bool ((r32.1.Length == r37.1.Length) && ((r32.1.Time == r37.1.Time) && true))), (19, 78, .bool ((r32.1.Length == r37.1.Length) && ((r32.1.Time == r37.1.Time) && true))), (20, 79, .bool ((r32.1.Length == r37.1.Length) && ((r32.1.Time == r37.1.Time) && true))), (21, 80, undef), (22, 81, undef), (23, 82, undef), (24, 83, .bool false), (25, 84, .bool false), (26, 85, undef), (27, 86, undef), (28, 87, undef), (29, 88, .bool false), (30, 89, .bool false), (31, 90, undef), (32, 91, undef), (33, 92, undef), (34, 93, .bool false), (35, 6, .bool false)]) 36 (by kernel_rfl) (by kernel_rfl) (by kernel_rfl) (by kernel_rfl) (by kernel_rfl) [0, 1, 2, 3, 4, 5, 6, 7, 8, 9, 10, 11, 12, 13, 14, 15, 16, 17, 18, 19, 20, 21, 22, 23, 24, 25, 26, 27, 28, 29, 30, 31, 32, 33, 34, 35] (by kernel_rfl) (by decide) (by decide) (aF 0 35 (by decide) ?_ (aF 1 34 (by decide) ?_ (aF 2 33 (by decide) ?_ (aF 3 32 (by decide) ?_ (aF 4 31 (by decide) ?_ (aF 5 30 (by decide) ?_ (aF 6 29 (by decide) ?_ (aF 7 28 (by decide) ?_ (aF 8 27 (by decide) ?_ (aF 9 26 (by decide) ?_ (aF 10 25 (by decide) ?_ (aF 11 24 (by decide) ?_ (aF 12 23 (by decide) ?_ (aF 13 22 (by decide) ?_ (aF 14 21 (by decide) ?_ (aF 15 20 (by decide) ?_ (aF 16 19 (by decide) ?_ (aF 17 18 (by decide) ?_ (aF 18 17 (by decide) ?_ (aF 19 16 (by decide) ?_ (aF 20 15 (by decide) ?_ (aF 21 14 (by decide) ?_ (aF 22 13 (by decide) ?_ (aF 23 12 (by decide) ?_ (aF 24 11 (by decide) ?_ (aF 25 10 (by decide) ?_ (aF 26 9 (by decide) ?_ (aF 27 8 (by decide) ?_ (aF 28 7 (by decide) ?_ (aF 29 6 (by decide) ?_ (aF 30 5 (by decide) ?_ (aF 31 4 (by decide) ?_ (aF 32 3 (by decide) ?_ (aF 33 2 (by decide) ?_ (aF 34 1 (by decide) ?_ (aF 35 0 (by decide) ?_ (trivial))))))))))))))))))))))))))))))))))))) [(6, .bool false)] (fin_of [some 35] rfl (by kernel_rfl) (by kernel_rfl)) (fun _ a w S => ?_)
    · refine fI 59 (gv_api_Rates p2) [(5, .pointer (some ⟨b9, 0, none⟩))] 0 [none] rfl rfl rfl rfl rfl rfl fun G a w S => ?_
      refine sLoadN (p := b9) (off := 0) (T := 44) (vs := (gl_api_Rates p2)) 7 (gl_api_Rates p2) S (wN rfl) rfl rfl rfl rfl rfl rfl rfl (lb rfl) fun a S => ?_
      exact leafL ⟨rfl, S⟩
    · refine fI 60 (iv r54) [(59, gv_api_Rates p2)] 1 [some 0] rfl rfl rfl rfl rfl rfl fun G a w S => ?_
      have S1 := S.mem
      refine sCallQ (X := Unit) (f := 22) (vs := [gv_api_Rates p2]) (val := fun _ => iv r54) S (wN rfl) rfl callee22 rfl (S1.quiet [4] rfl) (fun E1 w1 S1 => c_cost_Check E1 w1 p2 (gv_api_Rates p2) r54 hx55 S1) rfl (lb rfl) fun _ a w S => ?_
      exact leafL ⟨rfl, S⟩
    · refine fI 61 (gv_api_Rates p2) [(5, .pointer (some ⟨b9, 0, none⟩))] 2 [none] rfl rfl rfl rfl rfl rfl fun G a w S => ?_
      refine sLoadN (p := b9) (off := 0) (T := 44) (vs := (gl_api_Rates p2)) 7 (gl_api_Rates p2) S (wN rfl) rfl rfl rfl rfl rfl rfl rfl (lb rfl) fun a S => ?_
      exact leafL ⟨rfl, S⟩
    · refine fI 62 (iv r56) [(61, gv_api_Rates p2)] 3 [some 2] rfl rfl rfl rfl rfl rfl fun G a w S => ?_
      have S1 := S.mem
      refine sCallQ (X := Unit) (f := 23) (vs := [gv_api_Rates p2]) (val := fun _ => iv r56) S (wN rfl) rfl callee23 rfl (S1.quiet [4] rfl) (fun E1 w1 S1 => c_raddleref45_Check E1 w1 p2 (gv_api_Rates p2) r56 hx57 S1) rfl (lb rfl) fun _ a w S => ?_
      exact leafL ⟨rfl, S⟩
    · refine fI 63 (.bool (r54 == r56)) [(60, iv r54), (62, iv r56)] 4 [some 1, some 3] rfl rfl rfl rfl rfl rfl fun G a w S => ?_
      refine sBin (.bool (r54 == r56)) S (wN rfl) rfl rfl rfl (bEq _ _ _ _ .i64 r54 r56) rfl (lb rfl) fun a S => ?_
      exact leafL ⟨rfl, S⟩
    · refine fI 64 (.bool (r54 == r56)) [(63, .bool (r54 == r56))] 5 [some 4] rfl rfl rfl rfl rfl rfl fun G a w S => ?_
      refine sMove (.bool (r54 == r56)) S (wN rfl) (.inl rfl) rfl rfl (lb rfl) fun a S => ?_
      exact leafL ⟨rfl, S⟩
    · refine fI 65 (gv_A11_Int r22.1) [(7, .pointer (some ⟨b25, 0, none⟩)), (64, .bool (r54 == r56))] 6 [none, some 5] rfl rfl rfl rfl rfl rfl fun G a w S => ?_
      refine sLoadN (p := b25) (off := 0) (T := 42) (vs := (gl_A11_Int r22.1)) 5 (gl_A11_Int r22.1) S (wG 5 true 64 rfl rfl rfl hc58) rfl rfl rfl rfl rfl rfl rfl (lb rfl) fun a S => ?_
      exact leafL ⟨rfl, S⟩
    · refine fI 66 (gv_A11_Int r27.1) [(9, .pointer (some ⟨b30, 0, none⟩)), (64, .bool (r54 == r56))] 7 [none, some 5] rfl rfl rfl rfl rfl rfl fun G a w S => ?_
      refine sLoadN (p := b30) (off := 0) (T := 42) (vs := (gl_A11_Int r27.1)) 4 (gl_A11_Int r27.1) S (wG 5 true 64 rfl rfl rfl hc58) rfl rfl rfl rfl rfl rfl rfl (lb rfl) fun a S => ?_
      exact leafL ⟨rfl, S⟩
    · refine fI 67 (.bool ((r22.1.1 == r27.1.1) && ((r22.1.2.1 == r27.1.2.1) && ((r22.1.2.2.1 == r27.1.2.2.1) && ((r22.1.2.2.2.1 == r27.1.2.2.2.1) && ((r22.1.2.2.2.2.1 == r27.1.2.2.2.2.1) && ((r22.1.2.2.2.2.2.1 == r27.1.2.2.2.2.2.1) && ((r22.1.2.2.2.2.2.2.1 == r27.1.2.2.2.2.2.2.1) && ((r22.1.2.2.2.2.2.2.2.1 == r27.1.2.2.2.2.2.2.2.1) && ((r22.1.2.2.2.2.2.2.2.2.1 == r27.1.2.2.2.2.2.2.2.2.1) && ((r22.1.2.2.2.2.2.2.2.2.2.1 == r27.1.2.2.2.2.2.2.2.2.2.1) && ((r22.1.2.2.2.2.2.2.2.2.2.2 == r27.1.2.2.2.2.2.2.2.2.2.2) && true)))))))))))) [(65, gv_A11_Int r22.1), (66, gv_A11_Int r27.1), (64, .bool (r54 == r56))] 8 [some 6, some 7, some 5] rfl rfl rfl rfl rfl rfl fun G a w S => ?_
      refine sBin (.bool ((r22.1.1 == r27.1.1) && ((r22.1.2.1 == r27.1.2.1) && ((r22.1.2.2.1 == r27.1.2.2.1) && ((r22.1.2.2.2.1 == r27.1.2.2.2.1) && ((r22.1.2.2.2.2.1 == r27.1.2.2.2.2.1) && ((r22.1.2.2.2.2.2.1 == r27.1.2.2.2.2.2.1) && ((r22.1.2.2.2.2.2.2.1 == r27.1.2.2.2.2.2.2.1) && ((r22.1.2.2.2.2.2.2.2.1 == r27.1.2.2.2.2.2.2.2.1) && ((r22.1.2.2.2.2.2.2.2.2.1 == r27.1.2.2.2.2.2.2.2.2.1) && ((r22.1.2.2.2.2.2.2.2.2.2.1 == r27.1.2.2.2.2.2.2.2.2.2.1) && ((r22.1.2.2.2.2.2.2.2.2.2.2 == r27.1.2.2.2.2.2.2.2.2.2.2) && true)))))))))))) S (wG 5 true 64 rfl rfl rfl hc58) rfl rfl rfl (bEqV _ _ _ _ #[iv r22.1.1, iv r22.1.2.1, iv r22.1.2.2.1, iv r22.1.2.2.2.1, iv r22.1.2.2.2.2.1, iv r22.1.2.2.2.2.2.1, iv r22.1.2.2.2.2.2.2.1, iv r22.1.2.2.2.2.2.2.2.1, iv r22.1.2.2.2.2.2.2.2.2.1, iv r22.1.2.2.2.2.2.2.2.2.2.1, iv r22.1.2.2.2.2.2.2.2.2.2.2] #[iv r27.1.1, iv r27.1.2.1, iv r27.1.2.2.1, iv r27.1.2.2.2.1, iv r27.1.2.2.2.2.1, iv r27.1.2.2.2.2.2.1, iv r27.1.2.2.2.2.2.2.1, iv r27.1.2.2.2.2.2.2.2.1, iv r27.1.2.2.2.2.2.2.2.2.1, iv r27.1.2.2.2.2.2.2.2.2.2.1, iv r27.1.2.2.2.2.2.2.2.2.2.2] ((r22.1.1 == r27.1.1) && ((r22.1.2.1 == r27.1.2.1) && ((r22.1.2.2.1 == r27.1.2.2.1) && ((r22.1.2.2.2.1 == r27.1.2.2.2.1) && ((r22.1.2.2.2.2.1 == r27.1.2.2.2.2.1) && ((r22.1.2.2.2.2.2.1 == r27.1.2.2.2.2.2.1) && ((r22.1.2.2.2.2.2.2.1 == r27.1.2.2.2.2.2.2.1) && ((r22.1.2.2.2.2.2.2.2.1 == r27.1.2.2.2.2.2.2.2.1) && ((r22.1.2.2.2.2.2.2.2.2.1 == r27.1.2.2.2.2.2.2.2.2.1) && ((r22.1.2.2.2.2.2.2.2.2.2.1 == r27.1.2.2.2.2.2.2.2.2.2.1) && ((r22.1.2.2.2.2.2.2.2.2.2.2 == r27.1.2.2.2.2.2.2.2.2.2.2) && true))))))))))) (by kernel_rfl) (eqlV_of (by kernel_rfl))) rfl (lb rfl) fun a S => ?_
      exact leafL ⟨rfl, S⟩
    · refine fI 68 (.bool ((r22.1.1 == r27.1.1) && ((r22.1.2.1 == r27.1.2.1) && ((r22.1.2.2.1 == r27.1.2.2.1) && ((r22.1.2.2.2.1 == r27.1.2.2.2.1) && ((r22.1.2.2.2.2.1 == r27.1.2.2.2.2.1) && ((r22.1.2.2.2.2.2.1 == r27.1.2.2.2.2.2.1) && ((r22.1.2.2.2.2.2.2.1 == r27.1.2.2.2.2.2.2.1) && ((r22.1.2.2.2.2.2.2.2.1 == r27.1.2.2.2.2.2.2.2.1) && ((r22.1.2.2.2.2.2.2.2.2.1 == r27.1.2.2.2.2.2.2.2.2.1) && ((r22.1.2.2.2.2.2.2.2.2.2.1 == r27.1.2.2.2.2.2.2.2.2.2.1) && ((r22.1.2.2.2.2.2.2.2.2.2.2 == r27.1.2.2.2.2.2.2.2.2.2.2) && true)))))))))))) [(64, .bool (r54 == r56)), (67, .bool ((r22.1.1 == r27.1.1) && ((r22.1.2.1 == r27.1.2.1) && ((r22.1.2.2.1 == r27.1.2.2.1) && ((r22.1.2.2.2.1 == r27.1.2.2.2.1) && ((r22.1.2.2.2.2.1 == r27.1.2.2.2.2.1) && ((r22.1.2.2.2.2.2.1 == r27.1.2.2.2.2.2.1) && ((r22.1.2.2.2.2.2.2.1 == r27.1.2.2.2.2.2.2.1) && ((r22.1.2.2.2.2.2.2.2.1 == r27.1.2.2.2.2.2.2.2.1) && ((r22.1.2.2.2.2.2.2.2.2.1 == r27.1.2.2.2.2.2.2.2.2.1) && ((r22.1.2.2.2.2.2.2.2.2.2.1 == r27.1.2.2.2.2.2.2.2.2.2.1) && ((r22.1.2.2.2.2.2.2.2.2.2.2 == r27.1.2.2.2.2.2.2.2.2.2.2) && true))))))))))))] 9 [some 5, some 8] rfl rfl rfl rfl rfl rfl fun G a w S => ?_
      refine sPickT (.bool ((r22.1.1 == r27.1.1) && ((r22.1.2.1 == r27.1.2.1) && ((r22.1.2.2.1 == r27.1.2.2.1) && ((r22.1.2.2.2.1 == r27.1.2.2.2.1) && ((r22.1.2.2.2.2.1 == r27.1.2.2.2.2.1) && ((r22.1.2.2.2.2.2.1 == r27.1.2.2.2.2.2.1) && ((r22.1.2.2.2.2.2.2.1 == r27.1.2.2.2.2.2.2.1) && ((r22.1.2.2.2.2.2.2.2.1 == r27.1.2.2.2.2.2.2.2.1) && ((r22.1.2.2.2.2.2.2.2.2.1 == r27.1.2.2.2.2.2.2.2.2.1) && ((r22.1.2.2.2.2.2.2.2.2.2.1 == r27.1.2.2.2.2.2.2.2.2.2.1) && ((r22.1.2.2.2.2.2.2.2.2.2.2 == r27.1.2.2.2.2.2.2.2.2.2.2) && true)))))))))))) S (wN rfl) rfl rfl hc58 rfl rfl (lb rfl) fun a S => ?_
      exact leafL ⟨rfl, S⟩
    · refine fI 69 (.bool ((r22.1.1 == r27.1.1) && ((r22.1.2.1 == r27.1.2.1) && ((r22.1.2.2.1 == r27.1.2.2.1) && ((r22.1.2.2.2.1 == r27.1.2.2.2.1) && ((r22.1.2.2.2.2.1 == r27.1.2.2.2.2.1) && ((r22.1.2.2.2.2.2.1 == r27.1.2.2.2.2.2.1) && ((r22.1.2.2.2.2.2.2.1 == r27.1.2.2.2.2.2.2.1) && ((r22.1.2.2.2.2.2.2.2.1 == r27.1.2.2.2.2.2.2.2.1) && ((r22.1.2.2.2.2.2.2.2.2.1 == r27.1.2.2.2.2.2.2.2.2.1) && ((r22.1.2.2.2.2.2.2.2.2.2.1 == r27.1.2.2.2.2.2.2.2.2.2.1) && ((r22.1.2.2.2.2.2.2.2.2.2.2 == r27.1.2.2.2.2.2.2.2.2.2.2) && true)))))))))))) [(68, .bool ((r22.1.1 == r27.1.1) && ((r22.1.2.1 == r27.1.2.1) && ((r22.1.2.2.1 == r27.1.2.2.1) && ((r22.1.2.2.2.1 == r27.1.2.2.2.1) && ((r22.1.2.2.2.2.1 == r27.1.2.2.2.2.1) && ((r22.1.2.2.2.2.2.1 == r27.1.2.2.2.2.2.1) && ((r22.1.2.2.2.2.2.2.1 == r27.1.2.2.2.2.2.2.1) && ((r22.1.2.2.2.2.2.2.2.1 == r27.1.2.2.2.2.2.2.2.1) && ((r22.1.2.2.2.2.2.2.2.2.1 == r27.1.2.2.2.2.2.2.2.2.1) && ((r22.1.2.2.2.2.2.2.2.2.2.1 == r27.1.2.2.2.2.2.2.2.2.2.1) && ((r22.1.2.2.2.2.2.2.2.2.2.2 == r27.1.2.2.2.2.2.2.2.2.2.2) && true))))))))))))] 10 [some 9] rfl rfl rfl rfl rfl rfl fun G a w S => ?_
      refine sMove (.bool ((r22.1.1 == r27.1.1) && ((r22.1.2.1 == r27.1.2.1) && ((r22.1.2.2.1 == r27.1.2.2.1) && ((r22.1.2.2.2.1 == r27.1.2.2.2.1) && ((r22.1.2.2.2.2.1 == r27.1.2.2.2.2.1) && ((r22.1.2.2.2.2.2.1 == r27.1.2.2.2.2.2.1) && ((r22.1.2.2.2.2.2.2.1 == r27.1.2.2.2.2.2.2.1) && ((r22.1.2.2.2.2.2.2.2.1 == r27.1.2.2.2.2.2.2.2.1) && ((r22.1.2.2.2.2.2.2.2.2.1 == r27.1.2.2.2.2.2.2.2.2.1) && ((r22.1.2.2.2.2.2.2.2.2.2.1 == r27.1.2.2.2.2.2.2.2.2.2.1) && ((r22.1.2.2.2.2.2.2.2.2.2.2 == r27.1.2.2.2.2.2.2.2.2.2.2) && true)))))))))))) S (wN rfl) (.inl rfl) rfl rfl (lb rfl) fun a S => ?_
      exact leafL ⟨rfl, S⟩
    · refine fI 70 (iv r22.2) [(8, iv r22.2), (69, .bool ((r22.1.1 == r27.1.1) && ((r22.1.2.1 == r27.1.2.1) && ((r22.1.2.2.1 == r27.1.2.2.1) && ((r22.1.2.2.2.1 == r27.1.2.2.2.1) && ((r22.1.2.2.2.2.1 == r27.1.2.2.2.2.1) && ((r22.1.2.2.2.2.2.1 == r27.1.2.2.2.2.2.1) && ((r22.1.2.2.2.2.2.2.1 == r27.1.2.2.2.2.2.2.1) && ((r22.1.2.2.2.2.2.2.2.1 == r27.1.2.2.2.2.2.2.2.1) && ((r22.1.2.2.2.2.2.2.2.2.1 == r27.1.2.2.2.2.2.2.2.2.1) && ((r22.1.2.2.2.2.2.2.2.2.2.1 == r27.1.2.2.2.2.2.2.2.2.2.1) && ((r22.1.2.2.2.2.2.2.2.2.2.2 == r27.1.2.2.2.2.2.2.2.2.2.2) && true))))))))))))] 11 [none, some 10] rfl rfl rfl rfl rfl rfl fun G a w S => ?_
      refine sMove (iv r22.2) S (wG 10 true 69 rfl rfl rfl hc59) (.inl rfl) rfl rfl (lb rfl) fun a S => ?_
      exact leafL ⟨rfl, S⟩
    · refine fI 71 (iv r27.2) [(10, iv r27.2), (69, .bool ((r22.1.1 == r27.1.1) && ((r22.1.2.1 == r27.1.2.1) && ((r22.1.2.2.1 == r27.1.2.2.1) && ((r22.1.2.2.2.1 == r27.1.2.2.2.1) && ((r22.1.2.2.2.2.1 == r27.1.2.2.2.2.1) && ((r22.1.2.2.2.2.2.1 == r27.1.2.2.2.2.2.1) && ((r22.1.2.2.2.2.2.2.1 == r27.1.2.2.2.2.2.2.1) && ((r22.1.2.2.2.2.2.2.2.1 == r27.1.2.2.2.2.2.2.2.1) && ((r22.1.2.2.2.2.2.2.2.2.1 == r27.1.2.2.2.2.2.2.2.2.1) && ((r22.1.2.2.2.2.2.2.2.2.2.1 == r27.1.2.2.2.2.2.2.2.2.2.1) && ((r22.1.2.2.2.2.2.2.2.2.2.2 == r27.1.2.2.2.2.2.2.2.2.2.2) && true))))))))))))] 12 [none, some 10] rfl rfl rfl rfl rfl rfl fun G a w S => ?_
      refine sMove (iv r27.2) S (wG 10 true 69 rfl rfl rfl hc59) (.inl rfl) rfl rfl (lb rfl) fun a S => ?_
      exact leafL ⟨rfl, S⟩
    · refine fI 72 (.bool (r22.2 == r27.2)) [(70, iv r22.2), (71, iv r27.2), (69, .bool ((r22.1.1 == r27.1.1) && ((r22.1.2.1 == r27.1.2.1) && ((r22.1.2.2.1 == r27.1.2.2.1) && ((r22.1.2.2.2.1 == r27.1.2.2.2.1) && ((r22.1.2.2.2.2.1 == r27.1.2.2.2.2.1) && ((r22.1.2.2.2.2.2.1 == r27.1.2.2.2.2.2.1) && ((r22.1.2.2.2.2.2.2.1 == r27.1.2.2.2.2.2.2.1) && ((r22.1.2.2.2.2.2.2.2.1 == r27.1.2.2.2.2.2.2.2.1) && ((r22.1.2.2.2.2.2.2.2.2.1 == r27.1.2.2.2.2.2.2.2.2.1) && ((r22.1.2.2.2.2.2.2.2.2.2.1 == r27.1.2.2.2.2.2.2.2.2.2.1) && ((r22.1.2.2.2.2.2.2.2.2.2.2 == r27.1.2.2.2.2.2.2.2.2.2.2) && true))))))))))))] 13 [some 11, some 12, some 10] rfl rfl rfl rfl rfl rfl fun G a w S => ?_
      refine sBin (.bool (r22.2 == r27.2)) S (wG 10 true 69 rfl rfl rfl hc59) rfl rfl rfl (bEq _ _ _ _ .i64 r22.2 r27.2) rfl (lb rfl) fun a S => ?_
      exact leafL ⟨rfl, S⟩
    · refine fI 73 (.bool (r22.2 == r27.2)) [(69, .bool ((r22.1.1 == r27.1.1) && ((r22.1.2.1 == r27.1.2.1) && ((r22.1.2.2.1 == r27.1.2.2.1) && ((r22.1.2.2.2.1 == r27.1.2.2.2.1) && ((r22.1.2.2.2.2.1 == r27.1.2.2.2.2.1) && ((r22.1.2.2.2.2.2.1 == r27.1.2.2.2.2.2.1) && ((r22.1.2.2.2.2.2.2.1 == r27.1.2.2.2.2.2.2.1) && ((r22.1.2.2.2.2.2.2.2.1 == r27.1.2.2.2.2.2.2.2.1) && ((r22.1.2.2.2.2.2.2.2.2.1 == r27.1.2.2.2.2.2.2.2.2.1) && ((r22.1.2.2.2.2.2.2.2.2.2.1 == r27.1.2.2.2.2.2.2.2.2.2.1) && ((r22.1.2.2.2.2.2.2.2.2.2.2 == r27.1.2.2.2.2.2.2.2.2.2.2) && true)))))))))))), (72, .bool (r22.2 == r27.2))] 14 [some 10, some 13] rfl rfl rfl rfl rfl rfl fun G a w S => ?_
      refine sPickT (.bool (r22.2 == r27.2)) S (wN rfl) rfl rfl hc59 rfl rfl (lb rfl) fun a S => ?_
      exact leafL ⟨rfl, S⟩
    · refine fI 74 (.bool (r22.2 == r27.2)) [(73, .bool (r22.2 == r27.2))] 15 [some 14] rfl rfl rfl rfl rfl rfl fun G a w S => ?_
      refine sMove (.bool (r22.2 == r27.2)) S (wN rfl) (.inl rfl) rfl rfl (lb rfl) fun a S => ?_
      exact leafL ⟨rfl, S⟩
    · refine fI 75 (.agg #[iv r32.1.Length, iv r32.1.Time]) [(11, .pointer (some ⟨b35, 0, none⟩)), (74, .bool (r22.2 == r27.2))] 16 [none, some 15] rfl rfl rfl rfl rfl rfl fun G a w S => ?_
      refine sLoadN (p := b35) (off := 0) (T := 23) (vs := [iv r32.1.Length, iv r32.1.Time]) 3 [iv r32.1.Length, iv r32.1.Time] S (wG 15 true 74 rfl rfl rfl hc60) rfl rfl rfl rfl rfl rfl rfl (lb rfl) fun a S => ?_
      exact leafL ⟨rfl, S⟩
    · refine fI 76 (.agg #[iv r37.1.Length, iv r37.1.Time]) [(13, .pointer (some ⟨b40, 0, none⟩)), (74, .bool (r22.2 == r27.2))] 17 [none, some 15] rfl rfl rfl rfl rfl rfl fun G a w S => ?_
      refine sLoadN (p := b40) (off := 0) (T := 23) (vs := [iv r37.1.Length, iv r37.1.Time]) 2 [iv r37.1.Length, iv r37.1.Time] S (wG 15 true 74 rfl rfl rfl hc60) rfl rfl rfl rfl rfl rfl rfl (lb rfl) fun a S => ?_
      exact leafL ⟨rfl, S⟩
    · refine fI 77 (.bool ((r32.1.Length == r37.1.Length) && ((r32.1.Time == r37.1.Time) && true))) [(75, .agg #[iv r32.1.Length, iv r32.1.Time]), (76, .agg #[iv r37.1.Length, iv r37.1.Time]), (74, .bool (r22.2 == r27.2))] 18 [some 16, some 17, some 15] rfl rfl rfl rfl rfl rfl fun G a w S => ?_
      refine sBin (.bool ((r32.1.Length == r37.1.Length) && ((r32.1.Time == r37.1.Time) && true))) S (wG 15 true 74 rfl rfl rfl hc60) rfl rfl rfl (bEqV _ _ _ _ #[iv r32.1.Length, iv r32.1.Time] #[iv r37.1.Length, iv r37.1.Time] ((r32.1.Length == r37.1.Length) && ((r32.1.Time == r37.1.Time) && true)) (by kernel_rfl) (eqlV_of (by kernel_rfl))) rfl (lb rfl) fun a S => ?_
      exact leafL ⟨rfl, S⟩
    · refine fI 78 (.bool ((r32.1.Length == r37.1.Length) && ((r32.1.Time == r37.1.Time) && true))) [(74, .bool (r22.2 == r27.2)), (77, .bool ((r32.1.Length == r37.1.Length) && ((r32.1.Time == r37.1.Time) && true)))] 19 [some 15, some 18] rfl rfl rfl rfl rfl rfl fun G a w S => ?_
      refine sPickT (.bool ((r32.1.Length == r37.1.Length) && ((r32.1.Time == r37.1.Time) && true))) S (wN rfl) rfl rfl hc60 rfl rfl (lb rfl) fun a S => ?_
      exact leafL ⟨rfl, S⟩
    · refine fI 79 (.bool ((r32.1.Length == r37.1.Length) && ((r32.1.Time == r37.1.Time) && true))) [(78, .bool ((r32.1.Length == r37.1.Length) && ((r32.1.Time == r37.1.Time) && true)))] 20 [some 19] rfl rfl rfl rfl rfl rfl fun G a w S => ?_
      refine sMove (.bool ((r32.1.Length == r37.1.Length) && ((r32.1.Time == r37.1.Time) && true))) S (wN rfl) (.inl rfl) rfl rfl (lb rfl) fun a S => ?_
      exact leafL ⟨rfl, S⟩
    · refine fI 80 undef [(12, iv r32.2), (79, .bool ((r32.1.Length == r37.1.Length) && ((r32.1.Time == r37.1.Time) && true)))] 21 [none, some 20] rfl rfl rfl rfl rfl rfl fun G a w S => ?_
      refine sSkip 20 true 79 80 S rfl rfl rfl hc61 rfl (lb rfl) fun a S => ?_
      exact leafL ⟨rfl, S⟩
    · refine fI 81 undef [(14, iv r37.2), (79, .bool ((r32.1.Length == r37.1.Length) && ((r32.1.Time == r37.1.Time) && true)))] 22 [none, some 20] rfl rfl rfl rfl rfl rfl fun G a w S => ?_
      refine sSkip 20 true 79 81 S rfl rfl rfl hc61 rfl (lb rfl) fun a S => ?_
      exact leafL ⟨rfl, S⟩
    · refine fI 82 undef [(80, undef), (81, undef), (79, .bool ((r32.1.Length == r37.1.Length) && ((r32.1.Time == r37.1.Time) && true)))] 23 [some 21, some 22, some 20] rfl rfl rfl rfl rfl rfl fun G a w S => ?_
      refine sSkip 20 true 79 82 S rfl rfl rfl hc61 rfl (lb rfl) fun a S => ?_
      exact leafL ⟨rfl, S⟩
    · refine fI 83 (.bool false) [(79, .bool ((r32.1.Length == r37.1.Length) && ((r32.1.Time == r37.1.Time) && true))), (82, undef)] 24 [some 20, some 23] rfl rfl rfl rfl rfl rfl fun G a w S => ?_
      refine sPickF (.bool false) S (wN rfl) rfl rfl hc61 rfl rfl (lb rfl) fun a S => ?_
      exact leafL ⟨rfl, S⟩
    · refine fI 84 (.bool false) [(83, .bool false)] 25 [some 24] rfl rfl rfl rfl rfl rfl fun G a w S => ?_
      refine sMove (.bool false) S (wN rfl) (.inl rfl) rfl rfl (lb rfl) fun a S => ?_
      exact leafL ⟨rfl, S⟩
    · refine fI 85 undef [(15, .pointer (some ⟨b45, 0, none⟩)), (84, .bool false)] 26 [none, some 25] rfl rfl rfl rfl rfl rfl fun G a w S => ?_
      refine sSkip 25 true 84 85 S rfl rfl rfl rfl rfl (lb rfl) fun a S => ?_
      exact leafL ⟨rfl, S⟩
    · refine fI 86 undef [(17, .pointer (some ⟨b50, 0, none⟩)), (84, .bool false)] 27 [none, some 25] rfl rfl rfl rfl rfl rfl fun G a w S => ?_
      refine sSkip 25 true 84 86 S rfl rfl rfl rfl rfl (lb rfl) fun a S => ?_
      exact leafL ⟨rfl, S⟩
    · refine fI 87 undef [(85, undef), (86, undef), (84, .bool false)] 28 [some 26, some 27, some 25] rfl rfl rfl rfl rfl rfl fun G a w S => ?_
      refine sSkip 25 true 84 87 S rfl rfl rfl rfl rfl (lb rfl) fun a S => ?_
      exact leafL ⟨rfl, S⟩
    · refine fI 88 (.bool false) [(84, .bool false), (87, undef)] 29 [some 25, some 28] rfl rfl rfl rfl rfl rfl fun G a w S => ?_
      refine sPickF (.bool false) S (wN rfl) rfl rfl rfl rfl rfl (lb rfl) fun a S => ?_
      exact leafL ⟨rfl, S⟩
    · refine fI 89 (.bool false) [(88, .bool false)] 30 [some 29] rfl rfl rfl rfl rfl rfl fun G a w S => ?_
      refine sMove (.bool false) S (wN rfl) (.inl rfl) rfl rfl (lb rfl) fun a S => ?_
      exact leafL ⟨rfl, S⟩
    · refine fI 90 undef [(16, iv r42.2), (89, .bool false)] 31 [none, some 30] rfl rfl rfl rfl rfl rfl fun G a w S => ?_
      refine sSkip 30 true 89 90 S rfl rfl rfl rfl rfl (lb rfl) fun a S => ?_
      exact leafL ⟨rfl, S⟩
    · refine fI 91 undef [(18, iv r47.2), (89, .bool false)] 32 [none, some 30] rfl rfl rfl rfl rfl rfl fun G a w S => ?_
      refine sSkip 30 true 89 91 S rfl rfl rfl rfl rfl (lb rfl) fun a S => ?_
      exact leafL ⟨rfl, S⟩
    · refine fI 92 undef [(90, undef), (91, undef), (89, .bool false)] 33 [some 31, some 32, some 30] rfl rfl rfl rfl rfl rfl fun G a w S => ?_
      refine sSkip 30 true 89 92 S rfl rfl rfl rfl rfl (lb rfl) fun a S => ?_
      exact leafL ⟨rfl, S⟩
    · refine fI 93 (.bool false) [(89, .bool false), (92, undef)] 34 [some 30, some 33] rfl rfl rfl rfl rfl rfl fun G a w S => ?_
      refine sPickF (.bool false) S (wN rfl) rfl rfl rfl rfl rfl (lb rfl) fun a S => ?_
      exact leafL ⟨rfl, S⟩
    · refine fI 6 (.bool false) [(93, .bool false)] 35 [some 34] rfl rfl rfl rfl rfl rfl fun G a w S => ?_
      refine sMove (.bool false) S (wN rfl) (.inr rfl) rfl rfl (lb rfl) fun a S => ?_
      exact leafL ⟨rfl, S⟩
    exact leafT (⟨false, Option.some.inj h, S.fix [] [] (by decide) rfl rfl rfl⟩)
  rcases iteSome h with ⟨hc62, h⟩ | ⟨hc62, h⟩
  rotate_left
  · refine sDraw (nf := []) (W := [(0, 59, gv_api_Rates p2), (1, 60, iv r54), (2, 61, gv_api_Rates p2), (3, 62, iv r56), (4, 63, .bool (r54 == r56)), (5, 64, .bool (r54 == r56)), (6, 65, gv_A11_Int r22.1), (7, 66, gv_A11_Int r27.1), (8, 67, .bool ((r22.1.1 == r27.1.1) && ((r22.1.2.1 == r27.1.2.1) && ((r22.1.2.2.1 == r27.1.2.2.1) && ((r22.1.2.2.2.1 == r27.1.2.2.2.1) && ((r22.1.2.2.2.2.1 == r27.1.2.2.2.2.1) && ((r22.1.2.2.2.2.2.1 == r27.1.2.2.2.2.2.1) && ((r22.1.2.2.2.2.2.2.1 == r27.1.2.2.2.2.2.2.1) && ((r22.1.2.2.2.2.2.2.2.1 == r27.1.2.2.2.2.2.2.2.1) && ((r22.1.2.2.2.2.2.2.2.2.1 == r27.1.2.2.2.2.2.2.2.2.1) && ((r22.1.2.2.2.2.2.2.2.2.2.1 == r27.1.2.2.2.2.2.2.2.2.2.1) && ((r22.1.2.2.2.2.2.2.2.2.2.2 == r27.1.2.2.2.2.2.2.2.2.2.2) && true)))))))))))), (9, 68, .bool ((r22.1.1 == r27.1.1) && ((r22.1.2.1 == r27.1.2.1) && ((r22.1.2.2.1 == r27.1.2.2.1) && ((r22.1.2.2.2.1 == r27.1.2.2.2.1) && ((r22.1.2.2.2.2.1 == r27.1.2.2.2.2.1) && ((r22.1.2.2.2.2.2.1 == r27.1.2.2.2.2.2.1) && ((r22.1.2.2.2.2.2.2.1 == r27.1.2.2.2.2.2.2.1) && ((r22.1.2.2.2.2.2.2.2.1 == r27.1.2.2.2.2.2.2.2.1) && ((r22.1.2.2.2.2.2.2.2.2.1 == r27.1.2.2.2.2.2.2.2.2.1) && ((r22.1.2.2.2.2.2.2.2.2.2.1 == r27.1.2.2.2.2.2.2.2.2.2.1) && ((r22.1.2.2.2.2.2.2.2.2.2.2 == r27.1.2.2.2.2.2.2.2.2.2.2) && true)))))))))))), (10, 69, .bool ((r22.1.1 == r27.1.1) && ((r22.1.2.1 == r27.1.2.1) && ((r22.1.2.2.1 == r27.1.2.2.1) && ((r22.1.2.2.2.1 == r27.1.2.2.2.1) && ((r22.1.2.2.2.2.1 == r27.1.2.2.2.2.1) && ((r22.1.2.2.2.2.2.1 == r27.1.2.2.2.2.2.1) && ((r22.1.2.2.2.2.2.2.1 == r27.1.2.2.2.2.2.2.1) && ((r22.1.2.2.2.2.2.2.2.1 == r27.1.2.2.2.2.2.2.2.1) && ((r22.1.2.2.2.2.2.2.2.2.1 == r27.1.2.2.2.2.2.2.2.2.1) && ((r22.1.2.2.2.2.2.2.2.2.2.1 == r27.1.2.2.2.2.2.2.2.2.2.1) && ((r22.1.2.2.2.2.2.2.2.2.2.2 == r27.1.2.2.2.2.2.2.2.2.2.2) && true)))))))))))), (11, 70, iv r22.2), (12, 71, iv r27.2), (13, 72, .bool (r22.2 == r27.2)), (14, 73, .bool (r22.2 == r27.2)), (15, 74, .bool (r22.2 == r27.2)), (16, 75, .agg #[iv r32.1.Length, iv r32.1.Time]), (17, 76, .agg #[iv r37.1.Length, iv r37.1.Time]), (18, 77, .bool ((r32.1.Length == r37.1.Length) && ((r32.1.Time == r37.1.Time) && true))), (19, 78, .bool ((r32.1.Length == r37.1.Length) && ((r32.1.Time == r37.1.Time) && true))), (20, 79, .bool ((r32.1.Length == r37.1.Length) && ((r32.1.Time == r37.1.Time) && true))), (21, 80, iv r32.2), (22, 81, iv r37.2), (23, 82, .bool (r32.2 == r37.2)), (24, 83, .bool (r32.2 == r37.2)), (25, 84, .bool (r32.2 == r37.2)), (26, 85, undef), (27, 86, undef), (28, 87, undef), (29, 88, .bool false), (30, 89, .bool false), (31, 90, undef), (32, 91, undef), (33, 92, undef), (34, 93, .bool false), (35, 6, .bool false)]) rfl S ?_
    refine node_by (A := anc_raddlelaw45_CostNeeds_0) (nf := []) (Y := []) (W := [(0, 59, gv_api_Rates p2), (1, 60, iv r54), (2, 61, gv_api_Rates p2), (3, 62, iv r56), (4, 63, .bool (r54 == r56)), (5, 64, .bool (r54 == r56)), (6, 65, gv_A11_Int r22.1), (7, 66, gv_A11_Int r27.1), (8, 67, .bool ((r22.1.1 == r27.1.1) && ((r22.1.2.1 == r27.1.2.1) && ((r22.1.2.2.1 == r27.1.2.2.1) && ((r22.1.2.2.2.1 == r27.1.2.2.2.1) && ((r22.1.2.2.2.2.1 == r27.1.2.2.2.2.1) && ((r22.1.2.2.2.2.2.1 == r27.1.2.2.2.2.2.1) && ((r22.1.2.2.2.2.2.2.1 == r27.1.2.2.2.2.2.2.1) && ((r22.1.2.2.2.2.2.2.2.1 == r27.1.2.2.2.2.2.2.2.1) && ((r22.1.2.2.2.2.2.2.2.2.1 == r27.1.2.2.2.2.2.2.2.2.1) && ((r22.1.2.2.2.2.2.2.2.2.2.1 == r27.1.2.2.2.2.2.2.2.2.2.1) && ((r22.1.2.2.2.2.2.2.2.2.2.2 == r27.1.2.2.2.2.2.2.2.2.2.2) && true)))))))))))), (9, 68, .bool ((r22.1.1 == r27.1.1) && ((r22.1.2.1 == r27.1.2.1) && ((r22.1.2.2.1 == r27.1.2.2.1) && ((r22.1.2.2.2.1 == r27.1.2.2.2.1) && ((r22.1.2.2.2.2.1 == r27.1.2.2.2.2.1) && ((r22.1.2.2.2.2.2.1 == r27.1.2.2.2.2.2.1) && ((r22.1.2.2.2.2.2.2.1 == r27.1.2.2.2.2.2.2.1) && ((r22.1.2.2.2.2.2.2.2.1 == r27.1.2.2.2.2.2.2.2.1) && ((r22.1.2.2.2.2.2.2.2.2.1 == r27.1.2.2.2.2.2.2.2.2.1) && ((r22.1.2.2.2.2.2.2.2.2.2.1 == r27.1.2.2.2.2.2.2.2.2.2.1) && ((r22.1.2.2.2.2.2.2.2.2.2.2 == r27.1.2.2.2.2.2.2.2.2.2.2) && true)))))))))))), (10, 69, .bool ((r22.1.1 == r27.1.1) && ((r22.1.2.1 == r27.1.2.1) && ((r22.1.2.2.1 == r27.1.2.2.1) && ((r22.1.2.2.2.1 == r27.1.2.2.2.1) && ((r22.1.2.2.2.2.1 == r27.1.2.2.2.2.1) && ((r22.1.2.2.2.2.2.1 == r27.1.2.2.2.2.2.1) && ((r22.1.2.2.2.2.2.2.1 == r27.1.2.2.2.2.2.2.1) && ((r22.1.2.2.2.2.2.2.2.1 == r27.1.2.2.2.2.2.2.2.1) && ((r22.1.2.2.2.2.2.2.2.2.1 == r27.1.2.2.2.2.2.2.2.2.1) && ((r22.1.2.2.2.2.2.2.2.2.2.1 == r27.1.2.2.2.2.2.2.2.2.2.1) && ((r22.1.2.2.2.2.2.2.2.2.2.2 == r27.1.2.2.2.2.2.2.2.2.2.2) && true)))))))))))), (11, 70, iv r22.2), (12, 71, iv r27.2), (13, 72, .bool (r22.2 == r27.2)), (14, 73, .bool (r22.2 == r27.2)), (15, 74, .bool (r22.2 == r27.2)), (16, 75, .agg #[iv r32.1.Length, iv r32.1.Time]), (17, 76, .agg #[iv r37.1.Length, iv r37.1.Time]), (18, 77, .bool ((r32.1.Length == r37.1.Length) && ((r32.1.Time == r37.1.Time) && true))), (19, 78, .bool ((r32.1.Length == r37.1.Length) && ((r32.1.Time == r37.1.Time) && true))), (20, 79, .bool ((r32.1.Length == r37.1.Length) && ((r32.1.Time == r37.1.Time) && true))), (21, 80, iv r32.2), (22, 81, iv r37.2), (23, 82, .bool (r32.2 == r37.2)), (24, 83, .bool (r32.2 == r37.2)), (25, 84, .bool (r32.2 == r37.2)), (26, 85, undef), (27, 86, undef), (28, 87, undef), (29, 88, .bool false), (30, 89, .bool false), (31, 90, undef), (32, 91, undef), (33, 92, undef), (34, 93, .bool false), (35, 6, .bool false)]) 36 (by kernel_rfl) (by kernel_rfl) (by kernel_rfl) (by kernel_rfl) (by kernel_rfl) [0, 1, 2, 3, 4, 5, 6, 7, 8, 9, 10, 11, 12, 13, 14, 15, 16, 17, 18, 19, 20, 21, 22, 23, 24, 25, 26, 27, 28, 29, 30, 31, 32, 33, 34, 35] (by kernel_rfl) (by decide) (by decide) (aF 0 35 (by decide) ?_ (aF 1 34 (by decide) ?_ (aF 2 33 (by decide) ?_ (aF 3 32 (by decide) ?_ (aF 4 31 (by decide) ?_ (aF 5 30 (by decide) ?_ (aF 6 29 (by decide) ?_ (aF 7 28 (by decide) ?_ (aF 8 27 (by decide) ?_ (aF 9 26 (by decide) ?_ (aF 10 25 (by decide) ?_ (aF 11 24 (by decide) ?_ (aF 12 23 (by decide) ?_ (aF 13 22 (by decide) ?_ (aF 14 21 (by decide) ?_ (aF 15 20 (by decide) ?_ (aF 16 19 (by decide) ?_ (aF 17 18 (by decide) ?_ (aF 18 17 (by decide) ?_ (aF 19 16 (by decide) ?_ (aF 20 15 (by decide) ?_ (aF 21 14 (by decide) ?_ (aF 22 13 (by decide) ?_ (aF 23 12 (by decide) ?_ (aF 24 11 (by decide) ?_ (aF 25 10 (by decide) ?_ (aF 26 9 (by decide) ?_ (aF 27 8 (by decide) ?_ (aF 28 7 (by decide) ?_ (aF 29 6 (by decide) ?_ (aF 30 5 (by decide) ?_ (aF 31 4 (by decide) ?_ (aF 32 3 (by decide) ?_ (aF 33 2 (by decide) ?_ (aF 34 1 (by decide) ?_ (aF 35 0 (by decide) ?_ (trivial))))))))))))))))))))))))))))))))))))) [(6, .bool false)] (fin_of [some 35] rfl (by kernel_rfl) (by kernel_rfl)) (fun _ a w S => ?_)
    · refine fI 59 (gv_api_Rates p2) [(5, .pointer (some ⟨b9, 0, none⟩))] 0 [none] rfl rfl rfl rfl rfl rfl fun G a w S => ?_
      refine sLoadN (p := b9) (off := 0) (T := 44) (vs := (gl_api_Rates p2)) 7 (gl_api_Rates p2) S (wN rfl) rfl rfl rfl rfl rfl rfl rfl (lb rfl) fun a S => ?_
      exact leafL ⟨rfl, S⟩
    · refine fI 60 (iv r54) [(59, gv_api_Rates p2)] 1 [some 0] rfl rfl rfl rfl rfl rfl fun G a w S => ?_
      have S1 := S.mem
      refine sCallQ (X := Unit) (f := 22) (vs := [gv_api_Rates p2]) (val := fun _ => iv r54) S (wN rfl) rfl callee22 rfl (S1.quiet [4] rfl) (fun E1 w1 S1 => c_cost_Check E1 w1 p2 (gv_api_Rates p2) r54 hx55 S1) rfl (lb rfl) fun _ a w S => ?_
      exact leafL ⟨rfl, S⟩
    · refine fI 61 (gv_api_Rates p2) [(5, .pointer (some ⟨b9, 0, none⟩))] 2 [none] rfl rfl rfl rfl rfl rfl fun G a w S => ?_
      refine sLoadN (p := b9) (off := 0) (T := 44) (vs := (gl_api_Rates p2)) 7 (gl_api_Rates p2) S (wN rfl) rfl rfl rfl rfl rfl rfl rfl (lb rfl) fun a S => ?_
      exact leafL ⟨rfl, S⟩
    · refine fI 62 (iv r56) [(61, gv_api_Rates p2)] 3 [some 2] rfl rfl rfl rfl rfl rfl fun G a w S => ?_
      have S1 := S.mem
      refine sCallQ (X := Unit) (f := 23) (vs := [gv_api_Rates p2]) (val := fun _ => iv r56) S (wN rfl) rfl callee23 rfl (S1.quiet [4] rfl) (fun E1 w1 S1 => c_raddleref45_Check E1 w1 p2 (gv_api_Rates p2) r56 hx57 S1) rfl (lb rfl) fun _ a w S => ?_
      exact leafL ⟨rfl, S⟩
    · refine fI 63 (.bool (r54 == r56)) [(60, iv r54), (62, iv r56)] 4 [some 1, some 3] rfl rfl rfl rfl rfl rfl fun G a w S => ?_
      refine sBin (.bool (r54 == r56)) S (wN rfl) rfl rfl rfl (bEq _ _ _ _ .i64 r54 r56) rfl (lb rfl) fun a S => ?_
      exact leafL ⟨rfl, S⟩
    · refine fI 64 (.bool (r54 == r56)) [(63, .bool (r54 == r56))] 5 [some 4] rfl rfl rfl rfl rfl rfl fun G a w S => ?_
      refine sMove (.bool (r54 == r56)) S (wN rfl) (.inl rfl) rfl rfl (lb rfl) fun a S => ?_
      exact leafL ⟨rfl, S⟩
    · refine fI 65 (gv_A11_Int r22.1) [(7, .pointer (some ⟨b25, 0, none⟩)), (64, .bool (r54 == r56))] 6 [none, some 5] rfl rfl rfl rfl rfl rfl fun G a w S => ?_
      refine sLoadN (p := b25) (off := 0) (T := 42) (vs := (gl_A11_Int r22.1)) 5 (gl_A11_Int r22.1) S (wG 5 true 64 rfl rfl rfl hc58) rfl rfl rfl rfl rfl rfl rfl (lb rfl) fun a S => ?_
      exact leafL ⟨rfl, S⟩
    · refine fI 66 (gv_A11_Int r27.1) [(9, .pointer (some ⟨b30, 0, none⟩)), (64, .bool (r54 == r56))] 7 [none, some 5] rfl rfl rfl rfl rfl rfl fun G a w S => ?_
      refine sLoadN (p := b30) (off := 0) (T := 42) (vs := (gl_A11_Int r27.1)) 4 (gl_A11_Int r27.1) S (wG 5 true 64 rfl rfl rfl hc58) rfl rfl rfl rfl rfl rfl rfl (lb rfl) fun a S => ?_
      exact leafL ⟨rfl, S⟩
    · refine fI 67 (.bool ((r22.1.1 == r27.1.1) && ((r22.1.2.1 == r27.1.2.1) && ((r22.1.2.2.1 == r27.1.2.2.1) && ((r22.1.2.2.2.1 == r27.1.2.2.2.1) && ((r22.1.2.2.2.2.1 == r27.1.2.2.2.2.1) && ((r22.1.2.2.2.2.2.1 == r27.1.2.2.2.2.2.1) && ((r22.1.2.2.2.2.2.2.1 == r27.1.2.2.2.2.2.2.1) && ((r22.1.2.2.2.2.2.2.2.1 == r27.1.2.2.2.2.2.2.2.1) && ((r22.1.2.2.2.2.2.2.2.2.1 == r27.1.2.2.2.2.2.2.2.2.1) && ((r22.1.2.2.2.2.2.2.2.2.2.1 == r27.1.2.2.2.2.2.2.2.2.2.1) && ((r22.1.2.2.2.2.2.2.2.2.2.2 == r27.1.2.2.2.2.2.2.2.2.2.2) && true)))))))))))) [(65, gv_A11_Int r22.1), (66, gv_A11_Int r27.1), (64, .bool (r54 == r56))] 8 [some 6, some 7, some 5] rfl rfl rfl rfl rfl rfl fun G a w S => ?_
      refine sBin (.bool ((r22.1.1 == r27.1.1) && ((r22.1.2.1 == r27.1.2.1) && ((r22.1.2.2.1 == r27.1.2.2.1) && ((r22.1.2.2.2.1 == r27.1.2.2.2.1) && ((r22.1.2.2.2.2.1 == r27.1.2.2.2.2.1) && ((r22.1.2.2.2.2.2.1 == r27.1.2.2.2.2.2.1) && ((r22.1.2.2.2.2.2.2.1 == r27.1.2.2.2.2.2.2.1) && ((r22.1.2.2.2.2.2.2.2.1 == r27.1.2.2.2.2.2.2.2.1) && ((r22.1.2.2.2.2.2.2.2.2.1 == r27.1.2.2.2.2.2.2.2.2.1) && ((r22.1.2.2.2.2.2.2.2.2.2.1 == r27.1.2.2.2.2.2.2.2.2.2.1) && ((r22.1.2.2.2.2.2.2.2.2.2.2 == r27.1.2.2.2.2.2.2.2.2.2.2) && true)))))))))))) S (wG 5 true 64 rfl rfl rfl hc58) rfl rfl rfl (bEqV _ _ _ _ #[iv r22.1.1, iv r22.1.2.1, iv r22.1.2.2.1, iv r22.1.2.2.2.1, iv r22.1.2.2.2.2.1, iv r22.1.2.2.2.2.2.1, iv r22.1.2.2.2.2.2.2.1, iv r22.1.2.2.2.2.2.2.2.1, iv r22.1.2.2.2.2.2.2.2.2.1, iv r22.1.2.2.2.2.2.2.2.2.2.1, iv r22.1.2.2.2.2.2.2.2.2.2.2] #[iv r27.1.1, iv r27.1.2.1, iv r27.1.2.2.1, iv r27.1.2.2.2.1, iv r27.1.2.2.2.2.1, iv r27.1.2.2.2.2.2.1, iv r27.1.2.2.2.2.2.2.1, iv r27.1.2.2.2.2.2.2.2.1, iv r27.1.2.2.2.2.2.2.2.2.1, iv r27.1.2.2.2.2.2.2.2.2.2.1, iv r27.1.2.2.2.2.2.2.2.2.2.2] ((r22.1.1 == r27.1.1) && ((r22.1.2.1 == r27.1.2.1) && ((r22.1.2.2.1 == r27.1.2.2.1) && ((r22.1.2.2.2.1 == r27.1.2.2.2.1) && ((r22.1.2.2.2.2.1 == r27.1.2.2.2.2.1) && ((r22.1.2.2.2.2.2.1 == r27.1.2.2.2.2.2.1) && ((r22.1.2.2.2.2.2.2.1 == r27.1.2.2.2.2.2.2.1) && ((r22.1.2.2.2.2.2.2.2.1 == r27.1.2.2.2.2.2.2.2.1) && ((r22.1.2.2.2.2.2.2.2.2.1 == r27.1.2.2.2.2.2.2.2.2.1) && ((r22.1.2.2.2.2.2.2.2.2.2.1 == r27.1.2.2.2.2.2.2.2.2.2.1) && ((r22.1.2.2.2.2.2.2.2.2.2.2 == r27.1.2.2.2.2.2.2.2.2.2.2) && true))))))))))) (by kernel_rfl) (eqlV_of (by kernel_rfl))) rfl (lb rfl) fun a S => ?_
      exact leafL ⟨rfl, S⟩
    · refine fI 68 (.bool ((r22.1.1 == r27.1.1) && ((r22.1.2.1 == r27.1.2.1) && ((r22.1.2.2.1 == r27.1.2.2.1) && ((r22.1.2.2.2.1 == r27.1.2.2.2.1) && ((r22.1.2.2.2.2.1 == r27.1.2.2.2.2.1) && ((r22.1.2.2.2.2.2.1 == r27.1.2.2.2.2.2.1) && ((r22.1.2.2.2.2.2.2.1 == r27.1.2.2.2.2.2.2.1) && ((r22.1.2.2.2.2.2.2.2.1 == r27.1.2.2.2.2.2.2.2.1) && ((r22.1.2.2.2.2.2.2.2.2.1 == r27.1.2.2.2.2.2.2.2.2.1) && ((r22.1.2.2.2.2.2.2.2.2.2.1 == r27.1.2.2.2.2.2.2.2.2.2.1) && ((r22.1.2.2.2.2.2.2.2.2.2.2 == r27.1.2.2.2.2.2.2.2.2.2.2) && true)))))))))))) [(64, .bool (r54 == r56)), (67, .bool ((r22.1.1 == r27.1.1) && ((r22.1.2.1 == r27.1.2.1) && ((r22.1.2.2.1 == r27.1.2.2.1) && ((r22.1.2.2.2.1 == r27.1.2.2.2.1) && ((r22.1.2.2.2.2.1 == r27.1.2.2.2.2.1) && ((r22.1.2.2.2.2.2.1 == r27.1.2.2.2.2.2.1) && ((r22.1.2.2.2.2.2.2.1 == r27.1.2.2.2.2.2.2.1) && ((r22.1.2.2.2.2.2.2.2.1 == r27.1.2.2.2.2.2.2.2.1) && ((r22.1.2.2.2.2.2.2.2.2.1 == r27.1.2.2.2.2.2.2.2.2.1) && ((r22.1.2.2.2.2.2.2.2.2.2.1 == r27.1.2.2.2.2.2.2.2.2.2.1) && ((r22.1.2.2.2.2.2.2.2.2.2.2 == r27.1.2.2.2.2.2.2.2.2.2.2) && true))))))))))))] 9 [some 5, some 8] rfl rfl rfl rfl rfl rfl fun G a w S => ?_
      refine sPickT (.bool ((r22.1.1 == r27.1.1) && ((r22.1.2.1 == r27.1.2.1) && ((r22.1.2.2.1 == r27.1.2.2.1) && ((r22.1.2.2.2.1 == r27.1.2.2.2.1) && ((r22.1.2.2.2.2.1 == r27.1.2.2.2.2.1) && ((r22.1.2.2.2.2.2.1 == r27.1.2.2.2.2.2.1) && ((r22.1.2.2.2.2.2.2.1 == r27.1.2.2.2.2.2.2.1) && ((r22.1.2.2.2.2.2.2.2.1 == r27.1.2.2.2.2.2.2.2.1) && ((r22.1.2.2.2.2.2.2.2.2.1 == r27.1.2.2.2.2.2.2.2.2.1) && ((r22.1.2.2.2.2.2.2.2.2.2.1 == r27.1.2.2.2.2.2.2.2.2.2.1) && ((r22.1.2.2.2.2.2.2.2.2.2.2 == r27.1.2.2.2.2.2.2.2.2.2.2) && true)))))))))))) S (wN rfl) rfl rfl hc58 rfl rfl (lb rfl) fun a S => ?_
      exact leafL ⟨rfl, S⟩
    · refine fI 69 (.bool ((r22.1.1 == r27.1.1) && ((r22.1.2.1 == r27.1.2.1) && ((r22.1.2.2.1 == r27.1.2.2.1) && ((r22.1.2.2.2.1 == r27.1.2.2.2.1) && ((r22.1.2.2.2.2.1 == r27.1.2.2.2.2.1) && ((r22.1.2.2.2.2.2.1 == r27.1.2.2.2.2.2.1) && ((r22.1.2.2.2.2.2.2.1 == r27.1.2.2.2.2.2.2.1) && ((r22.1.2.2.2.2.2.2.2.1 == r27.1.2.2.2.2.2.2.2.1) && ((r22.1.2.2.2.2.2.2.2.2.1 == r27.1.2.2.2.2.2.2.2.2.1) && ((r22.1.2.2.2.2.2.2.2.2.2.1 == r27.1.2.2.2.2.2.2.2.2.2.1) && ((r22.1.2.2.2.2.2.2.2.2.2.2 == r27.1.2.2.2.2.2.2.2.2.2.2) && true)))))))))))) [(68, .bool ((r22.1.1 == r27.1.1) && ((r22.1.2.1 == r27.1.2.1) && ((r22.1.2.2.1 == r27.1.2.2.1) && ((r22.1.2.2.2.1 == r27.1.2.2.2.1) && ((r22.1.2.2.2.2.1 == r27.1.2.2.2.2.1) && ((r22.1.2.2.2.2.2.1 == r27.1.2.2.2.2.2.1) && ((r22.1.2.2.2.2.2.2.1 == r27.1.2.2.2.2.2.2.1) && ((r22.1.2.2.2.2.2.2.2.1 == r27.1.2.2.2.2.2.2.2.1) && ((r22.1.2.2.2.2.2.2.2.2.1 == r27.1.2.2.2.2.2.2.2.2.1) && ((r22.1.2.2.2.2.2.2.2.2.2.1 == r27.1.2.2.2.2.2.2.2.2.2.1) && ((r22.1.2.2.2.2.2.2.2.2.2.2 == r27.1.2.2.2.2.2.2.2.2.2.2) && true))))))))))))] 10 [some 9] rfl rfl rfl rfl rfl rfl fun G a w S => ?_
      refine sMove (.bool ((r22.1.1 == r27.1.1) && ((r22.1.2.1 == r27.1.2.1) && ((r22.1.2.2.1 == r27.1.2.2.1) && ((r22.1.2.2.2.1 == r27.1.2.2.2.1) && ((r22.1.2.2.2.2.1 == r27.1.2.2.2.2.1) && ((r22.1.2.2.2.2.2.1 == r27.1.2.2.2.2.2.1) && ((r22.1.2.2.2.2.2.2.1 == r27.1.2.2.2.2.2.2.1) && ((r22.1.2.2.2.2.2.2.2.1 == r27.1.2.2.2.2.2.2.2.1) && ((r22.1.2.2.2.2.2.2.2.2.1 == r27.1.2.2.2.2.2.2.2.2.1) && ((r22.1.2.2.2.2.2.2.2.2.2.1 == r27.1.2.2.2.2.2.2.2.2.2.1) && ((r22.1.2.2.2.2.2.2.2.2.2.2 == r27.1.2.2.2.2.2.2.2.2.2.2) && true)))))))))))) S (wN rfl) (.inl rfl) rfl rfl (lb rfl) fun a S => ?_
      exact leafL ⟨rfl, S⟩
    · refine fI 70 (iv r22.2) [(8, iv r22.2), (69, .bool ((r22.1.1 == r27.1.1) && ((r22.1.2.1 == r27.1.2.1) && ((r22.1.2.2.1 == r27.1.2.2.1) && ((r22.1.2.2.2.1 == r27.1.2.2.2.1) && ((r22.1.2.2.2.2.1 == r27.1.2.2.2.2.1) && ((r22.1.2.2.2.2.2.1 == r27.1.2.2.2.2.2.1) && ((r22.1.2.2.2.2.2.2.1 == r27.1.2.2.2.2.2.2.1) && ((r22.1.2.2.2.2.2.2.2.1 == r27.1.2.2.2.2.2.2.2.1) && ((r22.1.2.2.2.2.2.2.2.2.1 == r27.1.2.2.2.2.2.2.2.2.1) && ((r22.1.2.2.2.2.2.2.2.2.2.1 == r27.1.2.2.2.2.2.2.2.2.2.1) && ((r22.1.2.2.2.2.2.2.2.2.2.2 == r27.1.2.2.2.2.2.2.2.2.2.2) && true))))))))))))] 11 [none, some 10] rfl rfl rfl rfl rfl rfl fun G a w S => ?_
      refine sMove (iv r22.2) S (wG 10 true 69 rfl rfl rfl hc59) (.inl rfl) rfl rfl (lb rfl) fun a S => ?_
      exact leafL ⟨rfl, S⟩
    · refine fI 71 (iv r27.2) [(10, iv r27.2), (69, .bool ((r22.1.1 == r27.1.1) && ((r22.1.2.1 == r27.1.2.1) && ((r22.1.2.2.1 == r27.1.2.2.1) && ((r22.1.2.2.2.1 == r27.1.2.2.2.1) && ((r22.1.2.2.2.2.1 == r27.1.2.2.2.2.1) && ((r22.1.2.2.2.2.2.1 == r27.1.2.2.2.2.2.1) && ((r22.1.2.2.2.2.2.2.1 == r27.1.2.2.2.2.2.2.1) && ((r22.1.2.2.2.2.2.2.2.1 == r27.1.2.2.2.2.2.2.2.1) && ((r22.1.2.2.2.2.2.2.2.2.1 == r27.1.2.2.2.2.2.2.2.2.1) && ((r22.1.2.2.2.2.2.2.2.2.2.1 == r27.1.2.2.2.2.2.2.2.2.2.1) && ((r22.1.2.2.2.2.2.2.2.2.2.2 == r27.1.2.2.2.2.2.2.2.2.2.2) && true))))))))))))] 12 [none, some 10] rfl rfl rfl rfl rfl rfl fun G a w S => ?_
      refine sMove (iv r27.2) S (wG 10 true 69 rfl rfl rfl hc59) (.inl rfl) rfl rfl (lb rfl) fun a S => ?_
      exact leafL ⟨rfl, S⟩
    · refine fI 72 (.bool (r22.2 == r27.2)) [(70, iv r22.2), (71, iv r27.2), (69, .bool ((r22.1.1 == r27.1.1) && ((r22.1.2.1 == r27.1.2.1) && ((r22.1.2.2.1 == r27.1.2.2.1) && ((r22.1.2.2.2.1 == r27.1.2.2.2.1) && ((r22.1.2.2.2.2.1 == r27.1.2.2.2.2.1) && ((r22.1.2.2.2.2.2.1 == r27.1.2.2.2.2.2.1) && ((r22.1.2.2.2.2.2.2.1 == r27.1.2.2.2.2.2.2.1) && ((r22.1.2.2.2.2.2.2.2.1 == r27.1.2.2.2.2.2.2.2.1) && ((r22.1.2.2.2.2.2.2.2.2.1 == r27.1.2.2.2.2.2.2.2.2.1) && ((r22.1.2.2.2.2.2.2.2.2.2.1 == r27.1.2.2.2.2.2.2.2.2.2.1) && ((r22.1.2.2.2.2.2.2.2.2.2.2 == r27.1.2.2.2.2.2.2.2.2.2.2) && true))))))))))))] 13 [some 11, some 12, some 10] rfl rfl rfl rfl rfl rfl fun G a w S => ?_
      refine sBin (.bool (r22.2 == r27.2)) S (wG 10 true 69 rfl rfl rfl hc59) rfl rfl rfl (bEq _ _ _ _ .i64 r22.2 r27.2) rfl (lb rfl) fun a S => ?_
      exact leafL ⟨rfl, S⟩
    · refine fI 73 (.bool (r22.2 == r27.2)) [(69, .bool ((r22.1.1 == r27.1.1) && ((r22.1.2.1 == r27.1.2.1) && ((r22.1.2.2.1 == r27.1.2.2.1) && ((r22.1.2.2.2.1 == r27.1.2.2.2.1) && ((r22.1.2.2.2.2.1 == r27.1.2.2.2.2.1) && ((r22.1.2.2.2.2.2.1 == r27.1.2.2.2.2.2.1) && ((r22.1.2.2.2.2.2.2.1 == r27.1.2.2.2.2.2.2.1) && ((r22.1.2.2.2.2.2.2.2.1 == r27.1.2.2.2.2.2.2.2.1) && ((r22.1.2.2.2.2.2.2.2.2.1 == r27.1.2.2.2.2.2.2.2.2.1) && ((r22.1.2.2.2.2.2.2.2.2.2.1 == r27.1.2.2.2.2.2.2.2.2.2.1) && ((r22.1.2.2.2.2.2.2.2.2.2.2 == r27.1.2.2.2.2.2.2.2.2.2.2) && true)))))))))))), (72, .bool (r22.2 == r27.2))] 14 [some 10, some 13] rfl rfl rfl rfl rfl rfl fun G a w S => ?_
      refine sPickT (.bool (r22.2 == r27.2)) S (wN rfl) rfl rfl hc59 rfl rfl (lb rfl) fun a S => ?_
      exact leafL ⟨rfl, S⟩
    · refine fI 74 (.bool (r22.2 == r27.2)) [(73, .bool (r22.2 == r27.2))] 15 [some 14] rfl rfl rfl rfl rfl rfl fun G a w S => ?_
      refine sMove (.bool (r22.2 == r27.2)) S (wN rfl) (.inl rfl) rfl rfl (lb rfl) fun a S => ?_
      exact leafL ⟨rfl, S⟩
    · refine fI 75 (.agg #[iv r32.1.Length, iv r32.1.Time]) [(11, .pointer (some ⟨b35, 0, none⟩)), (74, .bool (r22.2 == r27.2))] 16 [none, some 15] rfl rfl rfl rfl rfl rfl fun G a w S => ?_
      refine sLoadN (p := b35) (off := 0) (T := 23) (vs := [iv r32.1.Length, iv r32.1.Time]) 3 [iv r32.1.Length, iv r32.1.Time] S (wG 15 true 74 rfl rfl rfl hc60) rfl rfl rfl rfl rfl rfl rfl (lb rfl) fun a S => ?_
      exact leafL ⟨rfl, S⟩
    · refine fI 76 (.agg #[iv r37.1.Length, iv r37.1.Time]) [(13, .pointer (some ⟨b40, 0, none⟩)), (74, .bool (r22.2 == r27.2))] 17 [none, some 15] rfl rfl rfl rfl rfl rfl fun G a w S => ?_
      refine sLoadN (p := b40) (off := 0) (T := 23) (vs := [iv r37.1.Length, iv r37.1.Time]) 2 [iv r37.1.Length, iv r37.1.Time] S (wG 15 true 74 rfl rfl rfl hc60) rfl rfl rfl rfl rfl rfl rfl (lb rfl) fun a S => ?_
      exact leafL ⟨rfl, S⟩
    · refine fI 77 (.bool ((r32.1.Length == r37.1.Length) && ((r32.1.Time == r37.1.Time) && true))) [(75, .agg #[iv r32.1.Length, iv r32.1.Time]), (76, .agg #[iv r37.1.Length, iv r37.1.Time]), (74, .bool (r22.2 == r27.2))] 18 [some 16, some 17, some 15] rfl rfl rfl rfl rfl rfl fun G a w S => ?_
      refine sBin (.bool ((r32.1.Length == r37.1.Length) && ((r32.1.Time == r37.1.Time) && true))) S (wG 15 true 74 rfl rfl rfl hc60) rfl rfl rfl (bEqV _ _ _ _ #[iv r32.1.Length, iv r32.1.Time] #[iv r37.1.Length, iv r37.1.Time] ((r32.1.Length == r37.1.Length) && ((r32.1.Time == r37.1.Time) && true)) (by kernel_rfl) (eqlV_of (by kernel_rfl))) rfl (lb rfl) fun a S => ?_
      exact leafL ⟨rfl, S⟩
    · refine fI 78 (.bool ((r32.1.Length == r37.1.Length) && ((r32.1.Time == r37.1.Time) && true))) [(74, .bool (r22.2 == r27.2)), (77, .bool ((r32.1.Length == r37.1.Length) && ((r32.1.Time == r37.1.Time) && true)))] 19 [some 15, some 18] rfl rfl rfl rfl rfl rfl fun G a w S => ?_
      refine sPickT (.bool ((r32.1.Length == r37.1.Length) && ((r32.1.Time == r37.1.Time) && true))) S (wN rfl) rfl rfl hc60 rfl rfl (lb rfl) fun a S => ?_
      exact leafL ⟨rfl, S⟩
    · refine fI 79 (.bool ((r32.1.Length == r37.1.Length) && ((r32.1.Time == r37.1.Time) && true))) [(78, .bool ((r32.1.Length == r37.1.Length) && ((r32.1.Time == r37.1.Time) && true)))] 20 [some 19] rfl rfl rfl rfl rfl rfl fun G a w S => ?_
      refine sMove (.bool ((r32.1.Length == r37.1.Length) && ((r32.1.Time == r37.1.Time) && true))) S (wN rfl) (.inl rfl) rfl rfl (lb rfl) fun a S => ?_
      exact leafL ⟨rfl, S⟩
    · refine fI 80 (iv r32.2) [(12, iv r32.2), (79, .bool ((r32.1.Length == r37.1.Length) && ((r32.1.Time == r37.1.Time) && true)))] 21 [none, some 20] rfl rfl rfl rfl rfl rfl fun G a w S => ?_
      refine sMove (iv r32.2) S (wG 20 true 79 rfl rfl rfl hc61) (.inl rfl) rfl rfl (lb rfl) fun a S => ?_
      exact leafL ⟨rfl, S⟩
    · refine fI 81 (iv r37.2) [(14, iv r37.2), (79, .bool ((r32.1.Length == r37.1.Length) && ((r32.1.Time == r37.1.Time) && true)))] 22 [none, some 20] rfl rfl rfl rfl rfl rfl fun G a w S => ?_
      refine sMove (iv r37.2) S (wG 20 true 79 rfl rfl rfl hc61) (.inl rfl) rfl rfl (lb rfl) fun a S => ?_
      exact leafL ⟨rfl, S⟩
    · refine fI 82 (.bool (r32.2 == r37.2)) [(80, iv r32.2), (81, iv r37.2), (79, .bool ((r32.1.Length == r37.1.Length) && ((r32.1.Time == r37.1.Time) && true)))] 23 [some 21, some 22, some 20] rfl rfl rfl rfl rfl rfl fun G a w S => ?_
      refine sBin (.bool (r32.2 == r37.2)) S (wG 20 true 79 rfl rfl rfl hc61) rfl rfl rfl (bEq _ _ _ _ .i64 r32.2 r37.2) rfl (lb rfl) fun a S => ?_
      exact leafL ⟨rfl, S⟩
    · refine fI 83 (.bool (r32.2 == r37.2)) [(79, .bool ((r32.1.Length == r37.1.Length) && ((r32.1.Time == r37.1.Time) && true))), (82, .bool (r32.2 == r37.2))] 24 [some 20, some 23] rfl rfl rfl rfl rfl rfl fun G a w S => ?_
      refine sPickT (.bool (r32.2 == r37.2)) S (wN rfl) rfl rfl hc61 rfl rfl (lb rfl) fun a S => ?_
      exact leafL ⟨rfl, S⟩
    · refine fI 84 (.bool (r32.2 == r37.2)) [(83, .bool (r32.2 == r37.2))] 25 [some 24] rfl rfl rfl rfl rfl rfl fun G a w S => ?_
      refine sMove (.bool (r32.2 == r37.2)) S (wN rfl) (.inl rfl) rfl rfl (lb rfl) fun a S => ?_
      exact leafL ⟨rfl, S⟩
    · refine fI 85 undef [(15, .pointer (some ⟨b45, 0, none⟩)), (84, .bool (r32.2 == r37.2))] 26 [none, some 25] rfl rfl rfl rfl rfl rfl fun G a w S => ?_
      refine sSkip 25 true 84 85 S rfl rfl rfl hc62 rfl (lb rfl) fun a S => ?_
      exact leafL ⟨rfl, S⟩
    · refine fI 86 undef [(17, .pointer (some ⟨b50, 0, none⟩)), (84, .bool (r32.2 == r37.2))] 27 [none, some 25] rfl rfl rfl rfl rfl rfl fun G a w S => ?_
      refine sSkip 25 true 84 86 S rfl rfl rfl hc62 rfl (lb rfl) fun a S => ?_
      exact leafL ⟨rfl, S⟩
    · refine fI 87 undef [(85, undef), (86, undef), (84, .bool (r32.2 == r37.2))] 28 [some 26, some 27, some 25] rfl rfl rfl rfl rfl rfl fun G a w S => ?_
      refine sSkip 25 true 84 87 S rfl rfl rfl hc62 rfl (lb rfl) fun a S => ?_
      exact leafL ⟨rfl, S⟩
    · refine fI 88 (.bool false) [(84, .bool (r32.2 == r37.2)), (87, undef)] 29 [some 25, some 28] rfl rfl rfl rfl rfl rfl fun G a w S => ?_
      refine sPickF (.bool false) S (wN rfl) rfl rfl hc62 rfl rfl (lb rfl) fun a S => ?_
      exact leafL ⟨rfl, S⟩
    · refine fI 89 (.bool false) [(88, .bool false)] 30 [some 29] rfl rfl rfl rfl rfl rfl fun G a w S => ?_
      refine sMove (.bool false) S (wN rfl) (.inl rfl) rfl rfl (lb rfl) fun a S => ?_
      exact leafL ⟨rfl, S⟩
    · refine fI 90 undef [(16, iv r42.2), (89, .bool false)] 31 [none, some 30] rfl rfl rfl rfl rfl rfl fun G a w S => ?_
      refine sSkip 30 true 89 90 S rfl rfl rfl rfl rfl (lb rfl) fun a S => ?_
      exact leafL ⟨rfl, S⟩
    · refine fI 91 undef [(18, iv r47.2), (89, .bool false)] 32 [none, some 30] rfl rfl rfl rfl rfl rfl fun G a w S => ?_
      refine sSkip 30 true 89 91 S rfl rfl rfl rfl rfl (lb rfl) fun a S => ?_
      exact leafL ⟨rfl, S⟩
    · refine fI 92 undef [(90, undef), (91, undef), (89, .bool false)] 33 [some 31, some 32, some 30] rfl rfl rfl rfl rfl rfl fun G a w S => ?_
      refine sSkip 30 true 89 92 S rfl rfl rfl rfl rfl (lb rfl) fun a S => ?_
      exact leafL ⟨rfl, S⟩
    · refine fI 93 (.bool false) [(89, .bool false), (92, undef)] 34 [some 30, some 33] rfl rfl rfl rfl rfl rfl fun G a w S => ?_
      refine sPickF (.bool false) S (wN rfl) rfl rfl rfl rfl rfl (lb rfl) fun a S => ?_
      exact leafL ⟨rfl, S⟩
    · refine fI 6 (.bool false) [(93, .bool false)] 35 [some 34] rfl rfl rfl rfl rfl rfl fun G a w S => ?_
      refine sMove (.bool false) S (wN rfl) (.inr rfl) rfl rfl (lb rfl) fun a S => ?_
      exact leafL ⟨rfl, S⟩
    exact leafT (⟨false, Option.some.inj h, S.fix [] [] (by decide) rfl rfl rfl⟩)
  rcases iteSome h with ⟨hc63, h⟩ | ⟨hc63, h⟩
  rotate_left
  · refine sDraw (nf := []) (W := [(0, 59, gv_api_Rates p2), (1, 60, iv r54), (2, 61, gv_api_Rates p2), (3, 62, iv r56), (4, 63, .bool (r54 == r56)), (5, 64, .bool (r54 == r56)), (6, 65, gv_A11_Int r22.1), (7, 66, gv_A11_Int r27.1), (8, 67, .bool ((r22.1.1 == r27.1.1) && ((r22.1.2.1 == r27.1.2.1) && ((r22.1.2.2.1 == r27.1.2.2.1) && ((r22.1.2.2.2.1 == r27.1.2.2.2.1) && ((r22.1.2.2.2.2.1 == r27.1.2.2.2.2.1) && ((r22.1.2.2.2.2.2.1 == r27.1.2.2.2.2.2.1) && ((r22.1.2.2.2.2.2.2.1 == r27.1.2.2.2.2.2.2.1) && ((r22.1.2.2.2.2.2.2.2.1 == r27.1.2.2.2.2.2.2.2.1) && ((r22.1.2.2.2.2.2.2.2.2.1 == r27.1.2.2.2.2.2.2.2.2.1) && ((r22.1.2.2.2.2.2.2.2.2.2.1 == r27.1.2.2.2.2.2.2.2.2.2.1) && ((r22.1.2.2.2.2.2.2.2.2.2.2 == r27.1.2.2.2.2.2.2.2.2.2.2) && true)))))))))))), (9, 68, .bool ((r22.1.1 == r27.1.1) && ((r22.1.2.1 == r27.1.2.1) && ((r22.1.2.2.1 == r27.1.2.2.1) && ((r22.1.2.2.2.1 == r27.1.2.2.2.1) && ((r22.1.2.2.2.2.1 == r27.1.2.2.2.2.1) && ((r22.1.2.2.2.2.2.1 == r27.1.2.2.2.2.2.1) && ((r22.1.2.2.2.2.2.2.1 == r27.1.2.2.2.2.2.2.1) && ((r22.1.2.2.2.2.2.2.2.1 == r27.1.2.2.2.2.2.2.2.1) && ((r22.1.2.2.2.2.2.2.2.2.1 == r27.1.2.2.2.2.2.2.2.2.1) && ((r22.1.2.2.2.2.2.2.2.2.2.1 == r27.1.2.2.2.2.2.2.2.2.2.1) && ((r22.1.2.2.2.2.2.2.2.2.2.2 == r27.1.2.2.2.2.2.2.2.2.2.2) && true)))))))))))), (10, 69, .bool ((r22.1.1 == r27.1.1) && ((r22.1.2.1 == r27.1.2.1) && ((r22.1.2.2.1 == r27.1.2.2.1) && ((r22.1.2.2.2.1 == r27.1.2.2.2.1) && ((r22.1.2.2.2.2.1 == r27.1.2.2.2.2.1) && ((r22.1.2.2.2.2.2.1 == r27.1.2.2.2.2.2.1) && ((r22.1.2.2.2.2.2.2.1 == r27.1.2.2.2.2.2.2.1) && ((r22.1.2.2.2.2.2.2.2.1 == r27.1.2.2.2.2.2.2.2.1) && ((r22.1.2.2.2.2.2.2.2.2.1 == r27.1.2.2.2.2.2.2.2.2.1) && ((r22.1.2.2.2.2.2.2.2.2.2.1 == r27.1.2.2.2.2.2.2.2.2.2.1) && ((r22.1.2.2.2.2.2.2.2.2.2.2 == r27.1.2.2.2.2.2.2.2.2.2.2) && true)))))))))))), (11, 70, iv r22.2), (12, 71, iv r27.2), (13, 72, .bool (r22.2 == r27.2)), (14, 73, .bool (r22.2 == r27.2)), (15, 74, .bool (r22.2 == r27.2)), (16, 75, .agg #[iv r32.1.Length, iv r32.1.Time]), (17, 76, .agg #[iv r37.1.Length, iv r37.1.Time]), (18, 77, .bool ((r32.1.Length == r37.1.Length) && ((r32.1.Time == r37.1.Time) && true))), (19, 78, .bool ((r32.1.Length == r37.1.Length) && ((r32.1.Time == r37.1.Time) && true))), (20, 79, .bool ((r32.1.Length == r37.1.Length) && ((r32.1.Time == r37.1.Time) && true))), (21, 80, iv r32.2), (22, 81, iv r37.2), (23, 82, .bool (r32.2 == r37.2)), (24, 83, .bool (r32.2 == r37.2)), (25, 84, .bool (r32.2 == r37.2)), (26, 85, .agg #[iv r42.1.Length, iv r42.1.Time]), (27, 86, .agg #[iv r47.1.Length, iv r47.1.Time]), (28, 87, .bool ((r42.1.Length == r47.1.Length) && ((r42.1.Time == r47.1.Time) && true))), (29, 88, .bool ((r42.1.Length == r47.1.Length) && ((r42.1.Time == r47.1.Time) && true))), (30, 89, .bool ((r42.1.Length == r47.1.Length) && ((r42.1.Time == r47.1.Time) && true))), (31, 90, undef), (32, 91, undef), (33, 92, undef), (34, 93, .bool false), (35, 6, .bool false)]) rfl S ?_
    refine node_by (A := anc_raddlelaw45_CostNeeds_0) (nf := []) (Y := []) (W := [(0, 59, gv_api_Rates p2), (1, 60, iv r54), (2, 61, gv_api_Rates p2), (3, 62, iv r56), (4, 63, .bool (r54 == r56)), (5, 64, .bool (r54 == r56)), (6, 65, gv_A11_Int r22.1), (7, 66, gv_A11_Int r27.1), (8, 67, .bool ((r22.1.1 == r27.1.1) && ((r22.1.2.1 == r27.1.2.1) && ((r22.1.2.2.1 == r27.1.2.2.1) && ((r22.1.2.2.2.1 == r27.1.2.2.2.1) && ((r22.1.2.2.2.2.1 == r27.1.2.2.2.2.1) && ((r22.1.2.2.2.2.2.1 == r27.1.2.2.2.2.2.1) && ((r22.1.2.2.2.2.2.2.1 == r27.1.2.2.2.2.2.2.1) && ((r22.1.2.2.2.2.2.2.2.1 == r27.1.2.2.2.2.2.2.2.1) && ((r22.1.2.2.2.2.2.2.2.2.1 == r27.1.2.2.2.2.2.2.2.2.1) && ((r22.1.2.2.2.2.2.2.2.2.2.1 == r27.1.2.2.2.2.2.2.2.2.2.1) && ((r22.1.2.2.2.2.2.2.2.2.2.2 == r27.1.2.2.2.2.2.2.2.2.2.2) && true)))))))))))), (9, 68, .bool ((r22.1.1 == r27.1.1) && ((r22.1.2.1 == r27.1.2.1) && ((r22.1.2.2.1 == r27.1.2.2.1) && ((r22.1.2.2.2.1 == r27.1.2.2.2.1) && ((r22.1.2.2.2.2.1 == r27.1.2.2.2.2.1) && ((r22.1.2.2.2.2.2.1 == r27.1.2.2.2.2.2.1) && ((r22.1.2.2.2.2.2.2.1 == r27.1.2.2.2.2.2.2.1) && ((r22.1.2.2.2.2.2.2.2.1 == r27.1.2.2.2.2.2.2.2.1) && ((r22.1.2.2.2.2.2.2.2.2.1 == r27.1.2.2.2.2.2.2.2.2.1) && ((r22.1.2.2.2.2.2.2.2.2.2.1 == r27.1.2.2.2.2.2.2.2.2.2.1) && ((r22.1.2.2.2.2.2.2.2.2.2.2 == r27.1.2.2.2.2.2.2.2.2.2.2) && true)))))))))))), (10, 69, .bool ((r22.1.1 == r27.1.1) && ((r22.1.2.1 == r27.1.2.1) && ((r22.1.2.2.1 == r27.1.2.2.1) && ((r22.1.2.2.2.1 == r27.1.2.2.2.1) && ((r22.1.2.2.2.2.1 == r27.1.2.2.2.2.1) && ((r22.1.2.2.2.2.2.1 == r27.1.2.2.2.2.2.1) && ((r22.1.2.2.2.2.2.2.1 == r27.1.2.2.2.2.2.2.1) && ((r22.1.2.2.2.2.2.2.2.1 == r27.1.2.2.2.2.2.2.2.1) && ((r22.1.2.2.2.2.2.2.2.2.1 == r27.1.2.2.2.2.2.2.2.2.1) && ((r22.1.2.2.2.2.2.2.2.2.2.1 == r27.1.2.2.2.2.2.2.2.2.2.1) && ((r22.1.2.2.2.2.2.2.2.2.2.2 == r27.1.2.2.2.2.2.2.2.2.2.2) && true)))))))))))), (11, 70, iv r22.2), (12, 71, iv r27.2), (13, 72, .bool (r22.2 == r27.2)), (14, 73, .bool (r22.2 == r27.2)), (15, 74, .bool (r22.2 == r27.2)), (16, 75, .agg #[iv r32.1.Length, iv r32.1.Time]), (17, 76, .agg #[iv r37.1.Length, iv r37.1.Time]), (18, 77, .bool ((r32.1.Length == r37.1.Length) && ((r32.1.Time == r37.1.Time) && true))), (19, 78, .bool ((r32.1.Length == r37.1.Length) && ((r32.1.Time == r37.1.Time) && true))), (20, 79, .bool ((r32.1.Length == r37.1.Length) && ((r32.1.Time == r37.1.Time) && true))), (21, 80, iv r32.2), (22, 81, iv r37.2), (23, 82, .bool (r32.2 == r37.2)), (24, 83, .bool (r32.2 == r37.2)), (25, 84, .bool (r32.2 == r37.2)), (26, 85, .agg #[iv r42.1.Length, iv r42.1.Time]), (27, 86, .agg #[iv r47.1.Length, iv r47.1.Time]), (28, 87, .bool ((r42.1.Length == r47.1.Length) && ((r42.1.Time == r47.1.Time) && true))), (29, 88, .bool ((r42.1.Length == r47.1.Length) && ((r42.1.Time == r47.1.Time) && true))), (30, 89, .bool ((r42.1.Length == r47.1.Length) && ((r42.1.Time == r47.1.Time) && true))), (31, 90, undef), (32, 91, undef), (33, 92, undef), (34, 93, .bool false), (35, 6, .bool false)]) 36 (by kernel_rfl) (by kernel_rfl) (by kernel_rfl) (by kernel_rfl) (by kernel_rfl) [0, 1, 2, 3, 4, 5, 6, 7, 8, 9, 10, 11, 12, 13, 14, 15, 16, 17, 18, 19, 20, 21, 22, 23, 24, 25, 26, 27, 28, 29, 30, 31, 32, 33, 34, 35] (by kernel_rfl) (by decide) (by decide) (aF 0 35 (by decide) ?_ (aF 1 34 (by decide) ?_ (aF 2 33 (by decide) ?_ (aF 3 32 (by decide) ?_ (aF 4 31 (by decide) ?_ (aF 5 30 (by decide) ?_ (aF 6 29 (by decide) ?_ (aF 7 28 (by decide) ?_ (aF 8 27 (by decide) ?_ (aF 9 26 (by decide) ?_ (aF 10 25 (by decide) ?_ (aF 11 24 (by decide) ?_ (aF 12 23 (by decide) ?_ (aF 13 22 (by decide) ?_ (aF 14 21 (by decide) ?_ (aF 15 20 (by decide) ?_ (aF 16 19 (by decide) ?_ (aF 17 18 (by decide) ?_ (aF 18 17 (by decide) ?_ (aF 19 16 (by decide) ?_ (aF 20 15 (by decide) ?_ (aF 21 14 (by decide) ?_ (aF 22 13 (by decide) ?_ (aF 23 12 (by decide) ?_ (aF 24 11 (by decide) ?_ (aF 25 10 (by decide) ?_ (aF 26 9 (by decide) ?_ (aF 27 8 (by decide) ?_ (aF 28 7 (by decide) ?_ (aF 29 6 (by decide) ?_ (aF 30 5 (by decide) ?_ (aF 31 4 (by decide) ?_ (aF 32 3 (by decide) ?_ (aF 33 2 (by decide) ?_ (aF 34 1 (by decide) ?_ (aF 35 0 (by decide) ?_ (trivial))))))))))))))))))))))))))))))))))))) [(6, .bool false)] (fin_of [some 35] rfl (by kernel_rfl) (by kernel_rfl)) (fun _ a w S => ?_)
    · refine fI 59 (gv_api_Rates p2) [(5, .pointer (some ⟨b9, 0, none⟩))] 0 [none] rfl rfl rfl rfl rfl rfl fun G a w S => ?_
      refine sLoadN (p := b9) (off := 0) (T := 44) (vs := (gl_api_Rates p2)) 7 (gl_api_Rates p2) S (wN rfl) rfl rfl rfl rfl rfl rfl rfl (lb rfl) fun a S => ?_
      exact leafL ⟨rfl, S⟩
    · refine fI 60 (iv r54) [(59, gv_api_Rates p2)] 1 [some 0] rfl rfl rfl rfl rfl rfl fun G a w S => ?_
      have S1 := S.mem
      refine sCallQ (X := Unit) (f := 22) (vs := [gv_api_Rates p2]) (val := fun _ => iv r54) S (wN rfl) rfl callee22 rfl (S1.quiet [4] rfl) (fun E1 w1 S1 => c_cost_Check E1 w1 p2 (gv_api_Rates p2) r54 hx55 S1) rfl (lb rfl) fun _ a w S => ?_
      exact leafL ⟨rfl, S⟩
    · refine fI 61 (gv_api_Rates p2) [(5, .pointer (some ⟨b9, 0, none⟩))] 2 [none] rfl rfl rfl rfl rfl rfl fun G a w S => ?_
      refine sLoadN (p := b9) (off := 0) (T := 44) (vs := (gl_api_Rates p2)) 7 (gl_api_Rates p2) S (wN rfl) rfl rfl rfl rfl rfl rfl rfl (lb rfl) fun a S => ?_
      exact leafL ⟨rfl, S⟩
    · refine fI 62 (iv r56) [(61, gv_api_Rates p2)] 3 [some 2] rfl rfl rfl rfl rfl rfl fun G a w S => ?_
      have S1 := S.mem
      refine sCallQ (X := Unit) (f := 23) (vs := [gv_api_Rates p2]) (val := fun _ => iv r56) S (wN rfl) rfl callee23 rfl (S1.quiet [4] rfl) (fun E1 w1 S1 => c_raddleref45_Check E1 w1 p2 (gv_api_Rates p2) r56 hx57 S1) rfl (lb rfl) fun _ a w S => ?_
      exact leafL ⟨rfl, S⟩
    · refine fI 63 (.bool (r54 == r56)) [(60, iv r54), (62, iv r56)] 4 [some 1, some 3] rfl rfl rfl rfl rfl rfl fun G a w S => ?_
      refine sBin (.bool (r54 == r56)) S (wN rfl) rfl rfl rfl (bEq _ _ _ _ .i64 r54 r56) rfl (lb rfl) fun a S => ?_
      exact leafL ⟨rfl, S⟩
    · refine fI 64 (.bool (r54 == r56)) [(63, .bool (r54 == r56))] 5 [some 4] rfl rfl rfl rfl rfl rfl fun G a w S => ?_
      refine sMove (.bool (r54 == r56)) S (wN rfl) (.inl rfl) rfl rfl (lb rfl) fun a S => ?_
      exact leafL ⟨rfl, S⟩
    · refine fI 65 (gv_A11_Int r22.1) [(7, .pointer (some ⟨b25, 0, none⟩)), (64, .bool (r54 == r56))] 6 [none, some 5] rfl rfl rfl rfl rfl rfl fun G a w S => ?_
      refine sLoadN (p := b25) (off := 0) (T := 42) (vs := (gl_A11_Int r22.1)) 5 (gl_A11_Int r22.1) S (wG 5 true 64 rfl rfl rfl hc58) rfl rfl rfl rfl rfl rfl rfl (lb rfl) fun a S => ?_
      exact leafL ⟨rfl, S⟩
    · refine fI 66 (gv_A11_Int r27.1) [(9, .pointer (some ⟨b30, 0, none⟩)), (64, .bool (r54 == r56))] 7 [none, some 5] rfl rfl rfl rfl rfl rfl fun G a w S => ?_
      refine sLoadN (p := b30) (off := 0) (T := 42) (vs := (gl_A11_Int r27.1)) 4 (gl_A11_Int r27.1) S (wG 5 true 64 rfl rfl rfl hc58) rfl rfl rfl rfl rfl rfl rfl (lb rfl) fun a S => ?_
      exact leafL ⟨rfl, S⟩
    · refine fI 67 (.bool ((r22.1.1 == r27.1.1) && ((r22.1.2.1 == r27.1.2.1) && ((r22.1.2.2.1 == r27.1.2.2.1) && ((r22.1.2.2.2.1 == r27.1.2.2.2.1) && ((r22.1.2.2.2.2.1 == r27.1.2.2.2.2.1) && ((r22.1.2.2.2.2.2.1 == r27.1.2.2.2.2.2.1) && ((r22.1.2.2.2.2.2.2.1 == r27.1.2.2.2.2.2.2.1) && ((r22.1.2.2.2.2.2.2.2.1 == r27.1.2.2.2.2.2.2.2.1) && ((r22.1.2.2.2.2.2.2.2.2.1 == r27.1.2.2.2.2.2.2.2.2.1) && ((r22.1.2.2.2.2.2.2.2.2.2.1 == r27.1.2.2.2.2.2.2.2.2.2.1) && ((r22.1.2.2.2.2.2.2.2.2.2.2 == r27.1.2.2.2.2.2.2.2.2.2.2) && true)))))))))))) [(65, gv_A11_Int r22.1), (66, gv_A11_Int r27.1), (64, .bool (r54 == r56))] 8 [some 6, some 7, some 5] rfl rfl rfl rfl rfl rfl fun G a w S => ?_
      refine sBin (.bool ((r22.1.1 == r27.1.1) && ((r22.1.2.1 == r27.1.2.1) && ((r22.1.2.2.1 == r27.1.2.2.1) && ((r22.1.2.2.2.1 == r27.1.2.2.2.1) && ((r22.1.2.2.2.2.1 == r27.1.2.2.2.2.1) && ((r22.1.2.2.2.2.2.1 == r27.1.2.2.2.2.2.1) && ((r22.1.2.2.2.2.2.2.1 == r27.1.2.2.2.2.2.2.1) && ((r22.1.2.2.2.2.2.2.2.1 == r27.1.2.2.2.2.2.2.2.1) && ((r22.1.2.2.2.2.2.2.2.2.1 == r27.1.2.2.2.2.2.2.2.2.1) && ((r22.1.2.2.2.2.2.2.2.2.2.1 == r27.1.2.2.2.2.2.2.2.2.2.1) && ((r22.1.2.2.2.2.2.2.2.2.2.2 == r27.1.2.2.2.2.2.2.2.2.2.2) && true)))))))))))) S (wG 5 true 64 rfl rfl rfl hc58) rfl rfl rfl (bEqV _ _ _ _ #[iv r22.1.1, iv r22.1.2.1, iv r22.1.2.2.1, iv r22.1.2.2.2.1, iv r22.1.2.2.2.2.1, iv r22.1.2.2.2.2.2.1, iv r22.1.2.2.2.2.2.2.1, iv r22.1.2.2.2.2.2.2.2.1, iv r22.1.2.2.2.2.2.2.2.2.1, iv r22.1.2.2.2.2.2.2.2.2.2.1, iv r22.1.2.2.2.2.2.2.2.2.2.2] #[iv r27.1.1, iv r27.1.2.1, iv r27.1.2.2.1, iv r27.1.2.2.2.1, iv r27.1.2.2.2.2.1, iv r27.1.2.2.2.2.2.1, iv r27.1.2.2.2.2.2.2.1, iv r27.1.2.2.2.2.2.2.2.1, iv r27.1.2.2.2.2.2.2.2.2.1, iv r27.1.2.2.2.2.2.2.2.2.2.1, iv r27.1.2.2.2.2.2.2.2.2.2.2] ((r22.1.1 == r27.1.1) && ((r22.1.2.1 == r27.1.2.1) && ((r22.1.2.2.1 == r27.1.2.2.1) && ((r22.1.2.2.2.1 == r27.1.2.2.2.1) && ((r22.1.2.2.2.2.1 == r27.1.2.2.2.2.1) && ((r22.1.2.2.2.2.2.1 == r27.1.2.2.2.2.2.1) && ((r22.1.2.2.2.2.2.2.1 == r27.1.2.2.2.2.2.2.1) && ((r22.1.2.2.2.2.2.2.2.1 == r27.1.2.2.2.2.2.2.2.1) && ((r22.1.2.2.2.2.2.2.2.2.1 == r27.1.2.2.2.2.2.2.2.2.1) && ((r22.1.2.2.2.2.2.2.2.2.2.1 == r27.1.2.2.2.2.2.2.2.2.2.1) && ((r22.1.2.2.2.2.2.2.2.2.2.2 == r27.1.2.2.2.2.2.2.2.2.2.2) && true))))))))))) (by kernel_rfl) (eqlV_of (by kernel_rfl))) rfl (lb rfl) fun a S => ?_
      exact leafL ⟨rfl, S⟩
    · refine fI 68 (.bool ((r22.1.1 == r27.1.1) && ((r22.1.2.1 == r27.1.2.1) && ((r22.1.2.2.1 == r27.1.2.2.1) && ((r22.1.2.2.2.1 == r27.1.2.2.2.1) && ((r22.1.2.2.2.2.1 == r27.1.2.2.2.2.1) && ((r22.1.2.2.2.2.2.1 == r27.1.2.2.2.2.2.1) && ((r22.1.2.2.2.2.2.2.1 == r27.1.2.2.2.2.2.2.1) && ((r22.1.2.2.2.2.2.2.2.1 == r27.1.2.2.2.2.2.2.2.1) && ((r22.1.2.2.2.2.2.2.2.2.1 == r27.1.2.2.2.2.2.2.2.2.1) && ((r22.1.2.2.2.2.2.2.2.2.2.1 == r27.1.2.2.2.2.2.2.2.2.2.1) && ((r22.1.2.2.2.2.2.2.2.2.2.2 == r27.1.2.2.2.2.2.2.2.2.2.2) && true)))))))))))) [(64, .bool (r54 == r56)), (67, .bool ((r22.1.1 == r27.1.1) && ((r22.1.2.1 == r27.1.2.1) && ((r22.1.2.2.1 == r27.1.2.2.1) && ((r22.1.2.2.2.1 == r27.1.2.2.2.1) && ((r22.1.2.2.2.2.1 == r27.1.2.2.2.2.1) && ((r22.1.2.2.2.2.2.1 == r27.1.2.2.2.2.2.1) && ((r22.1.2.2.2.2.2.2.1 == r27.1.2.2.2.2.2.2.1) && ((r22.1.2.2.2.2.2.2.2.1 == r27.1.2.2.2.2.2.2.2.1) && ((r22.1.2.2.2.2.2.2.2.2.1 == r27.1.2.2.2.2.2.2.2.2.1) && ((r22.1.2.2.2.2.2.2.2.2.2.1 == r27.1.2.2.2.2.2.2.2.2.2.1) && ((r22.1.2.2.2.2.2.2.2.2.2.2 == r27.1.2.2.2.2.2.2.2.2.2.2) && true))))))))))))] 9 [some 5, some 8] rfl rfl rfl rfl rfl rfl fun G a w S => ?_
      refine sPickT (.bool ((r22.1.1 == r27.1.1) && ((r22.1.2.1 == r27.1.2.1) && ((r22.1.2.2.1 == r27.1.2.2.1) && ((r22.1.2.2.2.1 == r27.1.2.2.2.1) && ((r22.1.2.2.2.2.1 == r27.1.2.2.2.2.1) && ((r22.1.2.2.2.2.2.1 == r27.1.2.2.2.2.2.1) && ((r22.1.2.2.2.2.2.2.1 == r27.1.2.2.2.2.2.2.1) && ((r22.1.2.2.2.2.2.2.2.1 == r27.1.2.2.2.2.2.2.2.1) && ((r22.1.2.2.2.2.2.2.2.2.1 == r27.1.2.2.2.2.2.2.2.2.1) && ((r22.1.2.2.2.2.2.2.2.2.2.1 == r27.1.2.2.2.2.2.2.2.2.2.1) && ((r22.1.2.2.2.2.2.2.2.2.2.2 == r27.1.2.2.2.2.2.2.2.2.2.2) && true)))))))))))) S (wN rfl) rfl rfl hc58 rfl rfl (lb rfl) fun a S => ?_
      exact leafL ⟨rfl, S⟩
    · refine fI 69 (.bool ((r22.1.1 == r27.1.1) && ((r22.1.2.1 == r27.1.2.1) && ((r22.1.2.2.1 == r27.1.2.2.1) && ((r22.1.2.2.2.1 == r27.1.2.2.2.1) && ((r22.1.2.2.2.2.1 == r27.1.2.2.2.2.1) && ((r22.1.2.2.2.2.2.1 == r27.1.2.2.2.2.2.1) && ((r22.1.2.2.2.2.2.2.1 == r27.1.2.2.2.2.2.2.1) && ((r22.1.2.2.2.2.2.2.2.1 == r27.1.2.2.2.2.2.2.2.1) && ((r22.1.2.2.2.2.2.2.2.2.1 == r27.1.2.2.2.2.2.2.2.2.1) && ((r22.1.2.2.2.2.2.2.2.2.2.1 == r27.1.2.2.2.2.2.2.2.2.2.1) && ((r22.1.2.2.2.2.2.2.2.2.2.2 == r27.1.2.2.2.2.2.2.2.2.2.2) && true)))))))))))) [(68, .bool ((r22.1.1 == r27.1.1) && ((r22.1.2.1 == r27.1.2.1) && ((r22.1.2.2.1 == r27.1.2.2.1) && ((r22.1.2.2.2.1 == r27.1.2.2.2.1) && ((r22.1.2.2.2.2.1 == r27.1.2.2.2.2.1) && ((r22.1.2.2.2.2.2.1 == r27.1.2.2.2.2.2.1) && ((r22.1.2.2.2.2.2.2.1 == r27.1.2.2.2.2.2.2.1) && ((r22.1.2.2.2.2.2.2.2.1 == r27.1.2.2.2.2.2.2.2.1) && ((r22.1.2.2.2.2.2.2.2.2.1 == r27.1.2.2.2.2.2.2.2.2.1) && ((r22.1.2.2.2.2.2.2.2.2.2.1 == r27.1.2.2.2.2.2.2.2.2.2.1) && ((r22.1.2.2.2.2.2.2.2.2.2.2 == r27.1.2.2.2.2.2.2.2.2.2.2) && true))))))))))))] 10 [some 9] rfl rfl rfl rfl rfl rfl fun G a w S => ?_
      refine sMove (.bool ((r22.1.1 == r27.1.1) && ((r22.1.2.1 == r27.1.2.1) && ((r22.1.2.2.1 == r27.1.2.2.1) && ((r22.1.2.2.2.1 == r27.1.2.2.2.1) && ((r22.1.2.2.2.2.1 == r27.1.2.2.2.2.1) && ((r22.1.2.2.2.2.2.1 == r27.1.2.2.2.2.2.1) && ((r22.1.2.2.2.2.2.2.1 == r27.1.2.2.2.2.2.2.1) && ((r22.1.2.2.2.2.2.2.2.1 == r27.1.2.2.2.2.2.2.2.1) && ((r22.1.2.2.2.2.2.2.2.2.1 == r27.1.2.2.2.2.2.2.2.2.1) && ((r22.1.2.2.2.2.2.2.2.2.2.1 == r27.1.2.2.2.2.2.2.2.2.2.1) && ((r22.1.2.2.2.2.2.2.2.2.2.2 == r27.1.2.2.2.2.2.2.2.2.2.2) && true)))))))))))) S (wN rfl) (.inl rfl) rfl rfl (lb rfl) fun a S => ?_
      exact leafL ⟨rfl, S⟩
    · refine fI 70 (iv r22.2) [(8, iv r22.2), (69, .bool ((r22.1.1 == r27.1.1) && ((r22.1.2.1 == r27.1.2.1) && ((r22.1.2.2.1 == r27.1.2.2.1) && ((r22.1.2.2.2.1 == r27.1.2.2.2.1) && ((r22.1.2.2.2.2.1 == r27.1.2.2.2.2.1) && ((r22.1.2.2.2.2.2.1 == r27.1.2.2.2.2.2.1) && ((r22.1.2.2.2.2.2.2.1 == r27.1.2.2.2.2.2.2.1) && ((r22.1.2.2.2.2.2.2.2.1 == r27.1.2.2.2.2.2.2.2.1) && ((r22.1.2.2.2.2.2.2.2.2.1 == r27.1.2.2.2.2.2.2.2.2.1) && ((r22.1.2.2.2.2.2.2.2.2.2.1 == r27.1.2.2.2.2.2.2.2.2.2.1) && ((r22.1.2.2.2.2.2.2.2.2.2.2 == r27.1.2.2.2.2.2.2.2.2.2.2) && true))))))))))))] 11 [none, some 10] rfl rfl rfl rfl rfl rfl fun G a w S => ?_
      refine sMove (iv r22.2) S (wG 10 true 69 rfl rfl rfl hc59) (.inl rfl) rfl rfl (lb rfl) fun a S => ?_
      exact leafL ⟨rfl, S⟩
    · refine fI 71 (iv r27.2) [(10, iv r27.2), (69, .bool ((r22.1.1 == r27.1.1) && ((r22.1.2.1 == r27.1.2.1) && ((r22.1.2.2.1 == r27.1.2.2.1) && ((r22.1.2.2.2.1 == r27.1.2.2.2.1) && ((r22.1.2.2.2.2.1 == r27.1.2.2.2.2.1) && ((r22.1.2.2.2.2.2.1 == r27.1.2.2.2.2.2.1) && ((r22.1.2.2.2.2.2.2.1 == r27.1.2.2.2.2.2.2.1) && ((r22.1.2.2.2.2.2.2.2.1 == r27.1.2.2.2.2.2.2.2.1) && ((r22.1.2.2.2.2.2.2.2.2.1 == r27.1.2.2.2.2.2.2.2.2.1) && ((r22.1.2.2.2.2.2.2.2.2.2.1 == r27.1.2.2.2.2.2.2.2.2.2.1) && ((r22.1.2.2.2.2.2.2.2.2.2.2 == r27.1.2.2.2.2.2.2.2.2.2.2) && true))))))))))))] 12 [none, some 10] rfl rfl rfl rfl rfl rfl fun G a w S => ?_
      refine sMove (iv r27.2) S (wG 10 true 69 rfl rfl rfl hc59) (.inl rfl) rfl rfl (lb rfl) fun a S => ?_
      exact leafL ⟨rfl, S⟩
    · refine fI 72 (.bool (r22.2 == r27.2)) [(70, iv r22.2), (71, iv r27.2), (69, .bool ((r22.1.1 == r27.1.1) && ((r22.1.2.1 == r27.1.2.1) && ((r22.1.2.2.1 == r27.1.2.2.1) && ((r22.1.2.2.2.1 == r27.1.2.2.2.1) && ((r22.1.2.2.2.2.1 == r27.1.2.2.2.2.1) && ((r22.1.2.2.2.2.2.1 == r27.1.2.2.2.2.2.1) && ((r22.1.2.2.2.2.2.2.1 == r27.1.2.2.2.2.2.2.1) && ((r22.1.2.2.2.2.2.2.2.1 == r27.1.2.2.2.2.2.2.2.1) && ((r22.1.2.2.2.2.2.2.2.2.1 == r27.1.2.2.2.2.2.2.2.2.1) && ((r22.1.2.2.2.2.2.2.2.2.2.1 == r27.1.2.2.2.2.2.2.2.2.2.1) && ((r22.1.2.2.2.2.2.2.2.2.2.2 == r27.1.2.2.2.2.2.2.2.2.2.2) && true))))))))))))] 13 [some 11, some 12, some 10] rfl rfl rfl rfl rfl rfl fun G a w S => ?_
      refine sBin (.bool (r22.2 == r27.2)) S (wG 10 true 69 rfl rfl rfl hc59) rfl rfl rfl (bEq _ _ _ _ .i64 r22.2 r27.2) rfl (lb rfl) fun a S => ?_
      exact leafL ⟨rfl, S⟩
    · refine fI 73 (.bool (r22.2 == r27.2)) [(69, .bool ((r22.1.1 == r27.1.1) && ((r22.1.2.1 == r27.1.2.1) && ((r22.1.2.2.1 == r27.1.2.2.1) && ((r22.1.2.2.2.1 == r27.1.2.2.2.1) && ((r22.1.2.2.2.2.1 == r27.1.2.2.2.2.1) && ((r22.1.2.2.2.2.2.1 == r27.1.2.2.2.2.2.1) && ((r22.1.2.2.2.2.2.2.1 == r27.1.2.2.2.2.2.2.1) && ((r22.1.2.2.2.2.2.2.2.1 == r27.1.2.2.2.2.2.2.2.1) && ((r22.1.2.2.2.2.2.2.2.2.1 == r27.1.2.2.2.2.2.2.2.2.1) && ((r22.1.2.2.2.2.2.2.2.2.2.1 == r27.1.2.2.2.2.2.2.2.2.2.1) && ((r22.1.2.2.2.2.2.2.2.2.2.2 == r27.1.2.2.2.2.2.2.2.2.2.2) && true)))))))))))), (72, .bool (r22.2 == r27.2))] 14 [some 10, some 13] rfl rfl rfl rfl rfl rfl fun G a w S => ?_
      refine sPickT (.bool (r22.2 == r27.2)) S (wN rfl) rfl rfl hc59 rfl rfl (lb rfl) fun a S => ?_
      exact leafL ⟨rfl, S⟩
    · refine fI 74 (.bool (r22.2 == r27.2)) [(73, .bool (r22.2 == r27.2))] 15 [some 14] rfl rfl rfl rfl rfl rfl fun G a w S => ?_
      refine sMove (.bool (r22.2 == r27.2)) S (wN rfl) (.inl rfl) rfl rfl (lb rfl) fun a S => ?_
      exact leafL ⟨rfl, S⟩
    · refine fI 75 (.agg #[iv r32.1.Length, iv r32.1.Time]) [(11, .pointer (some ⟨b35, 0, none⟩)), (74, .bool (r22.2 == r27.2))] 16 [none, some 15] rfl rfl rfl rfl rfl rfl fun G a w S => ?_
      refine sLoadN (p := b35) (off := 0) (T := 23) (vs := [iv r32.1.Length, iv r32.1.Time]) 3 [iv r32.1.Length, iv r32.1.Time] S (wG 15 true 74 rfl rfl rfl hc60) rfl rfl rfl rfl rfl rfl rfl (lb rfl) fun a S => ?_
      exact leafL ⟨rfl, S⟩
    · refine fI 76 (.agg #[iv r37.1.Length, iv r37.1.Time]) [(13, .pointer (some ⟨b40, 0, none⟩)), (74, .bool (r22.2 == r27.2))] 17 [none, some 15] rfl rfl rfl rfl rfl rfl fun G a w S => ?_
      refine sLoadN (p := b40) (off := 0) (T := 23) (vs := [iv r37.1.Length, iv r37.1.Time]) 2 [iv r37.1.Length, iv r37.1.Time] S (wG 15 true 74 rfl rfl rfl hc60) rfl rfl rfl rfl rfl rfl rfl (lb rfl) fun a S => ?_
      exact leafL ⟨rfl, S⟩
    · refine fI 77 (.bool ((r32.1.Length == r37.1.Length) && ((r32.1.Time == r37.1.Time) && true))) [(75, .agg #[iv r32.1.Length, iv r32.1.Time]), (76, .agg #[iv r37.1.Length, iv r37.1.Time]), (74, .bool (r22.2 == r27.2))] 18 [some 16, some 17, some 15] rfl rfl rfl rfl rfl rfl fun G a w S => ?_
      refine sBin (.bool ((r32.1.Length == r37.1.Length) && ((r32.1.Time == r37.1.Time) && true))) S (wG 15 true 74 rfl rfl rfl hc60) rfl rfl rfl (bEqV _ _ _ _ #[iv r32.1.Length, iv r32.1.Time] #[iv r37.1.Length, iv r37.1.Time] ((r32.1.Length == r37.1.Length) && ((r32.1.Time == r37.1.Time) && true)) (by kernel_rfl) (eqlV_of (by kernel_rfl))) rfl (lb rfl) fun a S => ?_
      exact leafL ⟨rfl, S⟩
    · refine fI 78 (.bool ((r32.1.Length == r37.1.Length) && ((r32.1.Time == r37.1.Time) && true))) [(74, .bool (r22.2 == r27.2)), (77, .bool ((r32.1.Length == r37.1.Length) && ((r32.1.Time == r37.1.Time) && true)))] 19 [some 15, some 18] rfl rfl rfl rfl rfl rfl fun G a w S => ?_
      refine sPickT (.bool ((r32.1.Length == r37.1.Length) && ((r32.1.Time == r37.1.Time) && true))) S (wN rfl) rfl rfl hc60 rfl rfl (lb rfl) fun a S => ?_
      exact leafL ⟨rfl, S⟩
    · refine fI 79 (.bool ((r32.1.Length == r37.1.Length) && ((r32.1.Time == r37.1.Time) && true))) [(78, .bool ((r32.1.Length == r37.1.Length) && ((r32.1.Time == r37.1.Time) && true)))] 20 [some 19] rfl rfl rfl rfl rfl rfl fun G a w S => ?_
      refine sMove (.bool ((r32.1.Length == r37.1.Length) && ((r32.1.Time == r37.1.Time) && true))) S (wN rfl) (.inl rfl) rfl rfl (lb rfl) fun a S => ?_
      exact leafL ⟨rfl, S⟩
    · refine fI 80 (iv r32.2) [(12, iv r32.2), (79, .bool ((r32.1.Length == r37.1.Length) && ((r32.1.Time == r37.1.Time) && true)))] 21 [none, some 20] rfl rfl rfl rfl rfl rfl fun G a w S => ?_
      refine sMove (iv r32.2) S (wG 20 true 79 rfl rfl rfl hc61) (.inl rfl) rfl rfl (lb rfl) fun a S => ?_
      exact leafL ⟨rfl, S⟩
    · refine fI 81 (iv r37.2) [(14, iv r37.2), (79, .bool ((r32.1.Length == r37.1.Length) && ((r32.1.Time == r37.1.Time) && true)))] 22 [none, some 20] rfl rfl rfl rfl rfl rfl fun G a w S => ?_
      refine sMove (iv r37.2) S (wG 20 true 79 rfl rfl rfl hc61) (.inl rfl) rfl rfl (lb rfl) fun a S => ?_
      exact leafL ⟨rfl, S⟩
    · refine fI 82 (.bool (r32.2 == r37.2)) [(80, iv r32.2), (81, iv r37.2), (79, .bool ((r32.1.Length == r37.1.Length) && ((r32.1.Time == r37.1.Time) && true)))] 23 [some 21, some 22, some 20] rfl rfl rfl rfl rfl rfl fun G a w S => ?_
      refine sBin (.bool (r32.2 == r37.2)) S (wG 20 true 79 rfl rfl rfl hc61) rfl rfl rfl (bEq _ _ _ _ .i64 r32.2 r37.2) rfl (lb rfl) fun a S => ?_
      exact leafL ⟨rfl, S⟩
    · refine fI 83 (.bool (r32.2 == r37.2)) [(79, .bool ((r32.1.Length == r37.1.Length) && ((r32.1.Time == r37.1.Time) && true))), (82, .bool (r32.2 == r37.2))] 24 [some 20, some 23] rfl rfl rfl rfl rfl rfl fun G a w S => ?_
      refine sPickT (.bool (r32.2 == r37.2)) S (wN rfl) rfl rfl hc61 rfl rfl (lb rfl) fun a S => ?_
      exact leafL ⟨rfl, S⟩
    · refine fI 84 (.bool (r32.2 == r37.2)) [(83, .bool (r32.2 == r37.2))] 25 [some 24] rfl rfl rfl rfl rfl rfl fun G a w S => ?_
      refine sMove (.bool (r32.2 == r37.2)) S (wN rfl) (.inl rfl) rfl rfl (lb rfl) fun a S => ?_
      exact leafL ⟨rfl, S⟩
    · refine fI 85 (.agg #[iv r42.1.Length, iv r42.1.Time]) [(15, .pointer (some ⟨b45, 0, none⟩)), (84, .bool (r32.2 == r37.2))] 26 [none, some 25] rfl rfl rfl rfl rfl rfl fun G a w S => ?_
      refine sLoadN (p := b45) (off := 0) (T := 23) (vs := [iv r42.1.Length, iv r42.1.Time]) 1 [iv r42.1.Length, iv r42.1.Time] S (wG 25 true 84 rfl rfl rfl hc62) rfl rfl rfl rfl rfl rfl rfl (lb rfl) fun a S => ?_
      exact leafL ⟨rfl, S⟩
    · refine fI 86 (.agg #[iv r47.1.Length, iv r47.1.Time]) [(17, .pointer (some ⟨b50, 0, none⟩)), (84, .bool (r32.2 == r37.2))] 27 [none, some 25] rfl rfl rfl rfl rfl rfl fun G a w S => ?_
      refine sLoadN (p := b50) (off := 0) (T := 23) (vs := [iv r47.1.Length, iv r47.1.Time]) 0 [iv r47.1.Length, iv r47.1.Time] S (wG 25 true 84 rfl rfl rfl hc62) rfl rfl rfl rfl rfl rfl rfl (lb rfl) fun a S => ?_
      exact leafL ⟨rfl, S⟩
    · refine fI 87 (.bool ((r42.1.Length == r47.1.Length) && ((r42.1.Time == r47.1.Time) && true))) [(85, .agg #[iv r42.1.Length, iv r42.1.Time]), (86, .agg #[iv r47.1.Length, iv r47.1.Time]), (84, .bool (r32.2 == r37.2))] 28 [some 26, some 27, some 25] rfl rfl rfl rfl rfl rfl fun G a w S => ?_
      refine sBin (.bool ((r42.1.Length == r47.1.Length) && ((r42.1.Time == r47.1.Time) && true))) S (wG 25 true 84 rfl rfl rfl hc62) rfl rfl rfl (bEqV _ _ _ _ #[iv r42.1.Length, iv r42.1.Time] #[iv r47.1.Length, iv r47.1.Time] ((r42.1.Length == r47.1.Length) && ((r42.1.Time == r47.1.Time) && true)) (by kernel_rfl) (eqlV_of (by kernel_rfl))) rfl (lb rfl) fun a S => ?_
      exact leafL ⟨rfl, S⟩
    · refine fI 88 (.bool ((r42.1.Length == r47.1.Length) && ((r42.1.Time == r47.1.Time) && true))) [(84, .bool (r32.2 == r37.2)), (87, .bool ((r42.1.Length == r47.1.Length) && ((r42.1.Time == r47.1.Time) && true)))] 29 [some 25, some 28] rfl rfl rfl rfl rfl rfl fun G a w S => ?_
      refine sPickT (.bool ((r42.1.Length == r47.1.Length) && ((r42.1.Time == r47.1.Time) && true))) S (wN rfl) rfl rfl hc62 rfl rfl (lb rfl) fun a S => ?_
      exact leafL ⟨rfl, S⟩
    · refine fI 89 (.bool ((r42.1.Length == r47.1.Length) && ((r42.1.Time == r47.1.Time) && true))) [(88, .bool ((r42.1.Length == r47.1.Length) && ((r42.1.Time == r47.1.Time) && true)))] 30 [some 29] rfl rfl rfl rfl rfl rfl fun G a w S => ?_
      refine sMove (.bool ((r42.1.Length == r47.1.Length) && ((r42.1.Time == r47.1.Time) && true))) S (wN rfl) (.inl rfl) rfl rfl (lb rfl) fun a S => ?_
      exact leafL ⟨rfl, S⟩
    · refine fI 90 undef [(16, iv r42.2), (89, .bool ((r42.1.Length == r47.1.Length) && ((r42.1.Time == r47.1.Time) && true)))] 31 [none, some 30] rfl rfl rfl rfl rfl rfl fun G a w S => ?_
      refine sSkip 30 true 89 90 S rfl rfl rfl hc63 rfl (lb rfl) fun a S => ?_
      exact leafL ⟨rfl, S⟩
    · refine fI 91 undef [(18, iv r47.2), (89, .bool ((r42.1.Length == r47.1.Length) && ((r42.1.Time == r47.1.Time) && true)))] 32 [none, some 30] rfl rfl rfl rfl rfl rfl fun G a w S => ?_
      refine sSkip 30 true 89 91 S rfl rfl rfl hc63 rfl (lb rfl) fun a S => ?_
      exact leafL ⟨rfl, S⟩
    · refine fI 92 undef [(90, undef), (91, undef), (89, .bool ((r42.1.Length == r47.1.Length) && ((r42.1.Time == r47.1.Time) && true)))] 33 [some 31, some 32, some 30] rfl rfl rfl rfl rfl rfl fun G a w S => ?_
      refine sSkip 30 true 89 92 S rfl rfl rfl hc63 rfl (lb rfl) fun a S => ?_
      exact leafL ⟨rfl, S⟩
    · refine fI 93 (.bool false) [(89, .bool ((r42.1.Length == r47.1.Length) && ((r42.1.Time == r47.1.Time) && true))), (92, undef)] 34 [some 30, some 33] rfl rfl rfl rfl rfl rfl fun G a w S => ?_
      refine sPickF (.bool false) S (wN rfl) rfl rfl hc63 rfl rfl (lb rfl) fun a S => ?_
      exact leafL ⟨rfl, S⟩
    · refine fI 6 (.bool false) [(93, .bool false)] 35 [some 34] rfl rfl rfl rfl rfl rfl fun G a w S => ?_
      refine sMove (.bool false) S (wN rfl) (.inr rfl) rfl rfl (lb rfl) fun a S => ?_
      exact leafL ⟨rfl, S⟩
    exact leafT (⟨false, Option.some.inj h, S.fix [] [] (by decide) rfl rfl rfl⟩)
  refine sDraw (nf := []) (W := [(0, 59, gv_api_Rates p2), (1, 60, iv r54), (2, 61, gv_api_Rates p2), (3, 62, iv r56), (4, 63, .bool (r54 == r56)), (5, 64, .bool (r54 == r56)), (6, 65, gv_A11_Int r22.1), (7, 66, gv_A11_Int r27.1), (8, 67, .bool ((r22.1.1 == r27.1.1) && ((r22.1.2.1 == r27.1.2.1) && ((r22.1.2.2.1 == r27.1.2.2.1) && ((r22.1.2.2.2.1 == r27.1.2.2.2.1) && ((r22.1.2.2.2.2.1 == r27.1.2.2.2.2.1) && ((r22.1.2.2.2.2.2.1 == r27.1.2.2.2.2.2.1) && ((r22.1.2.2.2.2.2.2.1 == r27.1.2.2.2.2.2.2.1) && ((r22.1.2.2.2.2.2.2.2.1 == r27.1.2.2.2.2.2.2.2.1) && ((r22.1.2.2.2.2.2.2.2.2.1 == r27.1.2.2.2.2.2.2.2.2.1) && ((r22.1.2.2.2.2.2.2.2.2.2.1 == r27.1.2.2.2.2.2.2.2.2.2.1) && ((r22.1.2.2.2.2.2.2.2.2.2.2 == r27.1.2.2.2.2.2.2.2.2.2.2) && true)))))))))))), (9, 68, .bool ((r22.1.1 == r27.1.1) && ((r22.1.2.1 == r27.1.2.1) && ((r22.1.2.2.1 == r27.1.2.2.1) && ((r22.1.2.2.2.1 == r27.1.2.2.2.1) && ((r22.1.2.2.2.2.1 == r27.1.2.2.2.2.1) && ((r22.1.2.2.2.2.2.1 == r27.1.2.2.2.2.2.1) && ((r22.1.2.2.2.2.2.2.1 == r27.1.2.2.2.2.2.2.1) && ((r22.1.2.2.2.2.2.2.2.1 == r27.1.2.2.2.2.2.2.2.1) && ((r22.1.2.2.2.2.2.2.2.2.1 == r27.1.2.2.2.2.2.2.2.2.1) && ((r22.1.2.2.2.2.2.2.2.2.2.1 == r27.1.2.2.2.2.2.2.2.2.2.1) && ((r22.1.2.2.2.2.2.2.2.2.2.2 == r27.1.2.2.2.2.2.2.2.2.2.2) && true)))))))))))), (10, 69, .bool ((r22.1.1 == r27.1.1) && ((r22.1.2.1 == r27.1.2.1) && ((r22.1.2.2.1 == r27.1.2.2.1) && ((r22.1.2.2.2.1 == r27.1.2.2.2.1) && ((r22.1.2.2.2.2.1 == r27.1.2.2.2.2.1) && ((r22.1.2.2.2.2.2.1 == r27.1.2.2.2.2.2.1) && ((r22.1.2.2.2.2.2.2.1 == r27.1.2.2.2.2.2.2.1) && ((r22.1.2.2.2.2.2.2.2.1 == r27.1.2.2.2.2.2.2.2.1) && ((r22.1.2.2.2.2.2.2.2.2.1 == r27.1.2.2.2.2.2.2.2.2.1) && ((r22.1.2.2.2.2.2.2.2.2.2.1 == r27.1.2.2.2.2.2.2.2.2.2.1) && ((r22.1.2.2.2.2.2.2.2.2.2.2 == r27.1.2.2.2.2.2.2.2.2.2.2) && true)))))))))))), (11, 70, iv r22.2), (12, 71, iv r27.2), (13, 72, .bool (r22.2 == r27.2)), (14, 73, .bool (r22.2 == r27.2)), (15, 74, .bool (r22.2 == r27.2)), (16, 75, .agg #[iv r32.1.Length, iv r32.1.Time]), (17, 76, .agg #[iv r37.1.Length, iv r37.1.Time]), (18, 77, .bool ((r32.1.Length == r37.1.Length) && ((r32.1.Time == r37.1.Time) && true))), (19, 78, .bool ((r32.1.Length == r37.1.Length) && ((r32.1.Time == r37.1.Time) && true))), (20, 79, .bool ((r32.1.Length == r37.1.Length) && ((r32.1.Time == r37.1.Time) && true))), (21, 80, iv r32.2), (22, 81, iv r37.2), (23, 82, .bool (r32.2 == r37.2)), (24, 83, .bool (r32.2 == r37.2)), (25, 84, .bool (r32.2 == r37.2)), (26, 85, .agg #[iv r42.1.Length, iv r42.1.Time]), (27, 86, .agg #[iv r47.1.Length, iv r47.1.Time]), (28, 87, .bool ((r42.1.Length == r47.1.Length) && ((r42.1.Time == r47.1.Time) && true))), (29, 88, .bool ((r42.1.Length == r47.1.Length) && ((r42.1.Time == r47.1.Time) && true))), (30, 89, .bool ((r42.1.Length == r47.1.Length) && ((r42.1.Time == r47.1.Time) && true))), (31, 90, iv r42.2), (32, 91, iv r47.2), (33, 92, .bool (r42.2 == r47.2)), (34, 93, .bool (r42.2 == r47.2)), (35, 6, .bool (r42.2 == r47.2))]) rfl S ?_
  refine node_by (A := anc_raddlelaw45_CostNeeds_0) (nf := []) (Y := []) (W := [(0, 59, gv_api_Rates p2), (1, 60, iv r54), (2, 61, gv_api_Rates p2), (3, 62, iv r56), (4, 63, .bool (r54 == r56)), (5, 64, .bool (r54 == r56)), (6, 65, gv_A11_Int r22.1), (7, 66, gv_A11_Int r27.1), (8, 67, .bool ((r22.1.1 == r27.1.1) && ((r22.1.2.1 == r27.1.2.1) && ((r22.1.2.2.1 == r27.1.2.2.1) && ((r22.1.2.2.2.1 == r27.1.2.2.2.1) && ((r22.1.2.2.2.2.1 == r27.1.2.2.2.2.1) && ((r22.1.2.2.2.2.2.1 == r27.1.2.2.2.2.2.1) && ((r22.1.2.2.2.2.2.2.1 == r27.1.2.2.2.2.2.2.1) && ((r22.1.2.2.2.2.2.2.2.1 == r27.1.2.2.2.2.2.2.2.1) && ((r22.1.2.2.2.2.2.2.2.2.1 == r27.1.2.2.2.2.2.2.2.2.1) && ((r22.1.2.2.2.2.2.2.2.2.2.1 == r27.1.2.2.2.2.2.2.2.2.2.1) && ((r22.1.2.2.2.2.2.2.2.2.2.2 == r27.1.2.2.2.2.2.2.2.2.2.2) && true)))))))))))), (9, 68, .bool ((r22.1.1 == r27.1.1) && ((r22.1.2.1 == r27.1.2.1) && ((r22.1.2.2.1 == r27.1.2.2.1) && ((r22.1.2.2.2.1 == r27.1.2.2.2.1) && ((r22.1.2.2.2.2.1 == r27.1.2.2.2.2.1) && ((r22.1.2.2.2.2.2.1 == r27.1.2.2.2.2.2.1) && ((r22.1.2.2.2.2.2.2.1 == r27.1.2.2.2.2.2.2.1) && ((r22.1.2.2.2.2.2.2.2.1 == r27.1.2.2.2.2.2.2.2.1) && ((r22.1.2.2.2.2.2.2.2.2.1 == r27.1.2.2.2.2.2.2.2.2.1) && ((r22.1.2.2.2.2.2.2.2.2.2.1 == r27.1.2.2.2.2.2.2.2.2.2.1) && ((r22.1.2.2.2.2.2.2.2.2.2.2 == r27.1.2.2.2.2.2.2.2.2.2.2) && true)))))))))))), (10, 69, .bool ((r22.1.1 == r27.1.1) && ((r22.1.2.1 == r27.1.2.1) && ((r22.1.2.2.1 == r27.1.2.2.1) && ((r22.1.2.2.2.1 == r27.1.2.2.2.1) && ((r22.1.2.2.2.2.1 == r27.1.2.2.2.2.1) && ((r22.1.2.2.2.2.2.1 == r27.1.2.2.2.2.2.1) && ((r22.1.2.2.2.2.2.2.1 == r27.1.2.2.2.2.2.2.1) && ((r22.1.2.2.2.2.2.2.2.1 == r27.1.2.2.2.2.2.2.2.1) && ((r22.1.2.2.2.2.2.2.2.2.1 == r27.1.2.2.2.2.2.2.2.2.1) && ((r22.1.2.2.2.2.2.2.2.2.2.1 == r27.1.2.2.2.2.2.2.2.2.2.1) && ((r22.1.2.2.2.2.2.2.2.2.2.2 == r27.1.2.2.2.2.2.2.2.2.2.2) && true)))))))))))), (11, 70, iv r22.2), (12, 71, iv r27.2), (13, 72, .bool (r22.2 == r27.2)), (14, 73, .bool (r22.2 == r27.2)), (15, 74, .bool (r22.2 == r27.2)), (16, 75, .agg #[iv r32.1.Length, iv r32.1.Time]), (17, 76, .agg #[iv r37.1.Length, iv r37.1.Time]), (18, 77, .bool ((r32.1.Length == r37.1.Length) && ((r32.1.Time == r37.1.Time) && true))), (19, 78, .bool ((r32.1.Length == r37.1.Length) && ((r32.1.Time == r37.1.Time) && true))), (20, 79, .bool ((r32.1.Length == r37.1.Length) && ((r32.1.Time == r37.1.Time) && true))), (21, 80, iv r32.2), (22, 81, iv r37.2), (23, 82, .bool (r32.2 == r37.2)), (24, 83, .bool (r32.2 == r37.2)), (25, 84, .bool (r32.2 == r37.2)), (26, 85, .agg #[iv r42.1.Length, iv r42.1.Time]), (27, 86, .agg #[iv r47.1.Length, iv r47.1.Time]), (28, 87, .bool ((r42.1.Length == r47.1.Length) && ((r42.1.Time == r47.1.Time) && true))), (29, 88, .bool ((r42.1.Length == r47.1.Length) && ((r42.1.Time == r47.1.Time) && true))), (30, 89, .bool ((r42.1.Length == r47.1.Length) && ((r42.1.Time == r47.1.Time) && true))), (31, 90, iv r42.2), (32, 91, iv r47.2), (33, 92, .bool (r42.2 == r47.2)), (34, 93, .bool (r42.2 == r47.2)), (35, 6, .bool (r42.2 == r47.2))]) 36 (by kernel_rfl) (by kernel_rfl) (by kernel_rfl) (by kernel_rfl) (by kernel_rfl) [0, 1, 2, 3, 4, 5, 6, 7, 8, 9, 10, 11, 12, 13, 14, 15, 16, 17, 18, 19, 20, 21, 22, 23, 24, 25, 26, 27, 28, 29, 30, 31, 32, 33, 34, 35] (by kernel_rfl) (by decide) (by decide) (aF 0 35 (by decide) ?_ (aF 1 34 (by decide) ?_ (aF 2 33 (by decide) ?_ (aF 3 32 (by decide) ?_ (aF 4 31 (by decide) ?_ (aF 5 30 (by decide) ?_ (aF 6 29 (by decide) ?_ (aF 7 28 (by decide) ?_ (aF 8 27 (by decide) ?_ (aF 9 26 (by decide) ?_ (aF 10 25 (by decide) ?_ (aF 11 24 (by decide) ?_ (aF 12 23 (by decide) ?_ (aF 13 22 (by decide) ?_ (aF 14 21 (by decide) ?_ (aF 15 20 (by decide) ?_ (aF 16 19 (by decide) ?_ (aF 17 18 (by decide) ?_ (aF 18 17 (by decide) ?_ (aF 19 16 (by decide) ?_ (aF 20 15 (by decide) ?_ (aF 21 14 (by decide) ?_ (aF 22 13 (by decide) ?_ (aF 23 12 (by decide) ?_ (aF 24 11 (by decide) ?_ (aF 25 10 (by decide) ?_ (aF 26 9 (by decide) ?_ (aF 27 8 (by decide) ?_ (aF 28 7 (by decide) ?_ (aF 29 6 (by decide) ?_ (aF 30 5 (by decide) ?_ (aF 31 4 (by decide) ?_ (aF 32 3 (by decide) ?_ (aF 33 2 (by decide) ?_ (aF 34 1 (by decide) ?_ (aF 35 0 (by decide) ?_ (trivial))))))))))))))))))))))))))))))))))))) [(6, .bool (r42.2 == r47.2))] (fin_of [some 35] rfl (by kernel_rfl) (by kernel_rfl)) (fun _ a w S => ?_)
  · refine fI 59 (gv_api_Rates p2) [(5, .pointer (some ⟨b9, 0, none⟩))] 0 [none] rfl rfl rfl rfl rfl rfl fun G a w S => ?_
    refine sLoadN (p := b9) (off := 0) (T := 44) (vs := (gl_api_Rates p2)) 7 (gl_api_Rates p2) S (wN rfl) rfl rfl rfl rfl rfl rfl rfl (lb rfl) fun a S => ?_
    exact leafL ⟨rfl, S⟩
  · refine fI 60 (iv r54) [(59, gv_api_Rates p2)] 1 [some 0] rfl rfl rfl rfl rfl rfl fun G a w S => ?_
    have S1 := S.mem
    refine sCallQ (X := Unit) (f := 22) (vs := [gv_api_Rates p2]) (val := fun _ => iv r54) S (wN rfl) rfl callee22 rfl (S1.quiet [4] rfl) (fun E1 w1 S1 => c_cost_Check E1 w1 p2 (gv_api_Rates p2) r54 hx55 S1) rfl (lb rfl) fun _ a w S => ?_
    exact leafL ⟨rfl, S⟩
  · refine fI 61 (gv_api_Rates p2) [(5, .pointer (some ⟨b9, 0, none⟩))] 2 [none] rfl rfl rfl rfl rfl rfl fun G a w S => ?_
    refine sLoadN (p := b9) (off := 0) (T := 44) (vs := (gl_api_Rates p2)) 7 (gl_api_Rates p2) S (wN rfl) rfl rfl rfl rfl rfl rfl rfl (lb rfl) fun a S => ?_
    exact leafL ⟨rfl, S⟩
  · refine fI 62 (iv r56) [(61, gv_api_Rates p2)] 3 [some 2] rfl rfl rfl rfl rfl rfl fun G a w S => ?_
    have S1 := S.mem
    refine sCallQ (X := Unit) (f := 23) (vs := [gv_api_Rates p2]) (val := fun _ => iv r56) S (wN rfl) rfl callee23 rfl (S1.quiet [4] rfl) (fun E1 w1 S1 => c_raddleref45_Check E1 w1 p2 (gv_api_Rates p2) r56 hx57 S1) rfl (lb rfl) fun _ a w S => ?_
    exact leafL ⟨rfl, S⟩
  · refine fI 63 (.bool (r54 == r56)) [(60, iv r54), (62, iv r56)] 4 [some 1, some 3] rfl rfl rfl rfl rfl rfl fun G a w S => ?_
    refine sBin (.bool (r54 == r56)) S (wN rfl) rfl rfl rfl (bEq _ _ _ _ .i64 r54 r56) rfl (lb rfl) fun a S => ?_
    exact leafL ⟨rfl, S⟩
  · refine fI 64 (.bool (r54 == r56)) [(63, .bool (r54 == r56))] 5 [some 4] rfl rfl rfl rfl rfl rfl fun G a w S => ?_
    refine sMove (.bool (r54 == r56)) S (wN rfl) (.inl rfl) rfl rfl (lb rfl) fun a S => ?_
    exact leafL ⟨rfl, S⟩
  · refine fI 65 (gv_A11_Int r22.1) [(7, .pointer (some ⟨b25, 0, none⟩)), (64, .bool (r54 == r56))] 6 [none, some 5] rfl rfl rfl rfl rfl rfl fun G a w S => ?_
    refine sLoadN (p := b25) (off := 0) (T := 42) (vs := (gl_A11_Int r22.1)) 5 (gl_A11_Int r22.1) S (wG 5 true 64 rfl rfl rfl hc58) rfl rfl rfl rfl rfl rfl rfl (lb rfl) fun a S => ?_
    exact leafL ⟨rfl, S⟩
  · refine fI 66 (gv_A11_Int r27.1) [(9, .pointer (some ⟨b30, 0, none⟩)), (64, .bool (r54 == r56))] 7 [none, some 5] rfl rfl rfl rfl rfl rfl fun G a w S => ?_
    refine sLoadN (p := b30) (off := 0) (T := 42) (vs := (gl_A11_Int r27.1)) 4 (gl_A11_Int r27.1) S (wG 5 true 64 rfl rfl rfl hc58) rfl rfl rfl rfl rfl rfl rfl (lb rfl) fun a S => ?_
    exact leafL ⟨rfl, S⟩
  · refine fI 67 (.bool ((r22.1.1 == r27.1.1) && ((r22.1.2.1 == r27.1.2.1) && ((r22.1.2.2.1 == r27.1.2.2.1) && ((r22.1.2.2.2.1 == r27.1.2.2.2.1) && ((r22.1.2.2.2.2.1 == r27.1.2.2.2.2.1) && ((r22.1.2.2.2.2.2.1 == r27.1.2.2.2.2.2.1) && ((r22.1.2.2.2.2.2.2.1 == r27.1.2.2.2.2.2.2.1) && ((r22.1.2.2.2.2.2.2.2.1 == r27.1.2.2.2.2.2.2.2.1) && ((r22.1.2.2.2.2.2.2.2.2.1 == r27.1.2.2.2.2.2.2.2.2.1) && ((r22.1.2.2.2.2.2.2.2.2.2.1 == r27.1.2.2.2.2.2.2.2.2.2.1) && ((r22.1.2.2.2.2.2.2.2.2.2.2 == r27.1.2.2.2.2.2.2.2.2.2.2) && true)))))))))))) [(65, gv_A11_Int r22.1), (66, gv_A11_Int r27.1), (64, .bool (r54 == r56))] 8 [some 6, some 7, some 5] rfl rfl rfl rfl rfl rfl fun G a w S => ?_
    refine sBin (.bool ((r22.1.1 == r27.1.1) && ((r22.1.2.1 == r27.1.2.1) && ((r22.1.2.2.1 == r27.1.2.2.1) && ((r22.1.2.2.2.1 == r27.1.2.2.2.1) && ((r22.1.2.2.2.2.1 == r27.1.2.2.2.2.1) && ((r22.1.2.2.2.2.2.1 == r27.1.2.2.2.2.2.1) && ((r22.1.2.2.2.2.2.2.1 == r27.1.2.2.2.2.2.2.1) && ((r22.1.2.2.2.2.2.2.2.1 == r27.1.2.2.2.2.2.2.2.1) && ((r22.1.2.2.2.2.2.2.2.2.1 == r27.1.2.2.2.2.2.2.2.2.1) && ((r22.1.2.2.2.2.2.2.2.2.2.1 == r27.1.2.2.2.2.2.2.2.2.2.1) && ((r22.1.2.2.2.2.2.2.2.2.2.2 == r27.1.2.2.2.2.2.2.2.2.2.2) && true)))))))))))) S (wG 5 true 64 rfl rfl rfl hc58) rfl rfl rfl (bEqV _ _ _ _ #[iv r22.1.1, iv r22.1.2.1, iv r22.1.2.2.1, iv r22.1.2.2.2.1, iv r22.1.2.2.2.2.1, iv r22.1.2.2.2.2.2.1, iv r22.1.2.2.2.2.2.2.1, iv r22.1.2.2.2.2.2.2.2.1, iv r22.1.2.2.2.2.2.2.2.2.1, iv r22.1.2.2.2.2.2.2.2.2.2.1, iv r22.1.2.2.2.2.2.2.2.2.2.2] #[iv r27.1.1, iv r27.1.2.1, iv r27.1.2.2.1, iv r27.1.2.2.2.1, iv r27.1.2.2.2.2.1, iv r27.1.2.2.2.2.2.1, iv r27.1.2.2.2.2.2.2.1, iv r27.1.2.2.2.2.2.2.2.1, iv r27.1.2.2.2.2.2.2.2.2.1, iv r27.1.2.2.2.2.2.2.2.2.2.1, iv r27.1.2.2.2.2.2.2.2.2.2.2] ((r22.1.1 == r27.1.1) && ((r22.1.2.1 == r27.1.2.1) && ((r22.1.2.2.1 == r27.1.2.2.1) && ((r22.1.2.2.2.1 == r27.1.2.2.2.1) && ((r22.1.2.2.2.2.1 == r27.1.2.2.2.2.1) && ((r22.1.2.2.2.2.2.1 == r27.1.2.2.2.2.2.1) && ((r22.1.2.2.2.2.2.2.1 == r27.1.2.2.2.2.2.2.1) && ((r22.1.2.2.2.2.2.2.2.1 == r27.1.2.2.2.2.2.2.2.1) && ((r22.1.2.2.2.2.2.2.2.2.1 == r27.1.2.2.2.2.2.2.2.2.1) && ((r22.1.2.2.2.2.2.2.2.2.2.1 == r27.1.2.2.2.2.2.2.2.2.2.1) && ((r22.1.2.2.2.2.2.2.2.2.2.2 == r27.1.2.2.2.2.2.2.2.2.2.2) && true))))))))))) (by kernel_rfl) (eqlV_of (by kernel_rfl))) rfl (lb rfl) fun a S => ?_
    exact leafL ⟨rfl, S⟩
  · refine fI 68 (.bool ((r22.1.1 == r27.1.1) && ((r22.1.2.1 == r27.1.2.1) && ((r22.1.2.2.1 == r27.1.2.2.1) && ((r22.1.2.2.2.1 == r27.1.2.2.2.1) && ((r22.1.2.2.2.2.1 == r27.1.2.2.2.2.1) && ((r22.1.2.2.2.2.2.1 == r27.1.2.2.2.2.2.1) && ((r22.1.2.2.2.2.2.2.1 == r27.1.2.2.2.2.2.2.1) && ((r22.1.2.2.2.2.2.2.2.1 == r27.1.2.2.2.2.2.2.2.1) && ((r22.1.2.2.2.2.2.2.2.2.1 == r27.1.2.2.2.2.2.2.2.2.1) && ((r22.1.2.2.2.2.2.2.2.2.2.1 == r27.1.2.2.2.2.2.2.2.2.2.1) && ((r22.1.2.2.2.2.2.2.2.2.2.2 == r27.1.2.2.2.2.2.2.2.2.2.2) && true)))))))))))) [(64, .bool (r54 == r56)), (67, .bool ((r22.1.1 == r27.1.1) && ((r22.1.2.1 == r27.1.2.1) && ((r22.1.2.2.1 == r27.1.2.2.1) && ((r22.1.2.2.2.1 == r27.1.2.2.2.1) && ((r22.1.2.2.2.2.1 == r27.1.2.2.2.2.1) && ((r22.1.2.2.2.2.2.1 == r27.1.2.2.2.2.2.1) && ((r22.1.2.2.2.2.2.2.1 == r27.1.2.2.2.2.2.2.1) && ((r22.1.2.2.2.2.2.2.2.1 == r27.1.2.2.2.2.2.2.2.1) && ((r22.1.2.2.2.2.2.2.2.2.1 == r27.1.2.2.2.2.2.2.2.2.1) && ((r22.1.2.2.2.2.2.2.2.2.2.1 == r27.1.2.2.2.2.2.2.2.2.2.1) && ((r22.1.2.2.2.2.2.2.2.2.2.2 == r27.1.2.2.2.2.2.2.2.2.2.2) && true))))))))))))] 9 [some 5, some 8] rfl rfl rfl rfl rfl rfl fun G a w S => ?_
    refine sPickT (.bool ((r22.1.1 == r27.1.1) && ((r22.1.2.1 == r27.1.2.1) && ((r22.1.2.2.1 == r27.1.2.2.1) && ((r22.1.2.2.2.1 == r27.1.2.2.2.1) && ((r22.1.2.2.2.2.1 == r27.1.2.2.2.2.1) && ((r22.1.2.2.2.2.2.1 == r27.1.2.2.2.2.2.1) && ((r22.1.2.2.2.2.2.2.1 == r27.1.2.2.2.2.2.2.1) && ((r22.1.2.2.2.2.2.2.2.1 == r27.1.2.2.2.2.2.2.2.1) && ((r22.1.2.2.2.2.2.2.2.2.1 == r27.1.2.2.2.2.2.2.2.2.1) && ((r22.1.2.2.2.2.2.2.2.2.2.1 == r27.1.2.2.2.2.2.2.2.2.2.1) && ((r22.1.2.2.2.2.2.2.2.2.2.2 == r27.1.2.2.2.2.2.2.2.2.2.2) && true)))))))))))) S (wN rfl) rfl rfl hc58 rfl rfl (lb rfl) fun a S => ?_
    exact leafL ⟨rfl, S⟩
  · refine fI 69 (.bool ((r22.1.1 == r27.1.1) && ((r22.1.2.1 == r27.1.2.1) && ((r22.1.2.2.1 == r27.1.2.2.1) && ((r22.1.2.2.2.1 == r27.1.2.2.2.1) && ((r22.1.2.2.2.2.1 == r27.1.2.2.2.2.1) && ((r22.1.2.2.2.2.2.1 == r27.1.2.2.2.2.2.1) && ((r22.1.2.2.2.2.2.2.1 == r27.1.2.2.2.2.2.2.1) && ((r22.1.2.2.2.2.2.2.2.1 == r27.1.2.2.2.2.2.2.2.1) && ((r22.1.2.2.2.2.2.2.2.2.1 == r27.1.2.2.2.2.2.2.2.2.1) && ((r22.1.2.2.2.2.2.2.2.2.2.1 == r27.1.2.2.2.2.2.2.2.2.2.1) && ((r22.1.2.2.2.2.2.2.2.2.2.2 == r27.1.2.2.2.2.2.2.2.2.2.2) && true)))))))))))) [(68, .bool ((r22.1.1 == r27.1.1) && ((r22.1.2.1 == r27.1.2.1) && ((r22.1.2.2.1 == r27.1.2.2.1) && ((r22.1.2.2.2.1 == r27.1.2.2.2.1) && ((r22.1.2.2.2.2.1 == r27.1.2.2.2.2.1) && ((r22.1.2.2.2.2.2.1 == r27.1.2.2.2.2.2.1) && ((r22.1.2.2.2.2.2.2.1 == r27.1.2.2.2.2.2.2.1) && ((r22.1.2.2.2.2.2.2.2.1 == r27.1.2.2.2.2.2.2.2.1) && ((r22.1.2.2.2.2.2.2.2.2.1 == r27.1.2.2.2.2.2.2.2.2.1) && ((r22.1.2.2.2.2.2.2.2.2.2.1 == r27.1.2.2.2.2.2.2.2.2.2.1) && ((r22.1.2.2.2.2.2.2.2.2.2.2 == r27.1.2.2.2.2.2.2.2.2.2.2) && true))))))))))))] 10 [some 9] rfl rfl rfl rfl rfl rfl fun G a w S => ?_
    refine sMove (.bool ((r22.1.1 == r27.1.1) && ((r22.1.2.1 == r27.1.2.1) && ((r22.1.2.2.1 == r27.1.2.2.1) && ((r22.1.2.2.2.1 == r27.1.2.2.2.1) && ((r22.1.2.2.2.2.1 == r27.1.2.2.2.2.1) && ((r22.1.2.2.2.2.2.1 == r27.1.2.2.2.2.2.1) && ((r22.1.2.2.2.2.2.2.1 == r27.1.2.2.2.2.2.2.1) && ((r22.1.2.2.2.2.2.2.2.1 == r27.1.2.2.2.2.2.2.2.1) && ((r22.1.2.2.2.2.2.2.2.2.1 == r27.1.2.2.2.2.2.2.2.2.1) && ((r22.1.2.2.2.2.2.2.2.2.2.1 == r27.1.2.2.2.2.2.2.2.2.2.1) && ((r22.1.2.2.2.2.2.2.2.2.2.2 == r27.1.2.2.2.2.2.2.2.2.2.2) && true)))))))))))) S (wN rfl) (.inl rfl) rfl rfl (lb rfl) fun a S => ?_
    exact leafL ⟨rfl, S⟩
  · refine fI 70 (iv r22.2) [(8, iv r22.2), (69, .bool ((r22.1.1 == r27.1.1) && ((r22.1.2.1 == r27.1.2.1) && ((r22.1.2.2.1 == r27.1.2.2.1) && ((r22.1.2.2.2.1 == r27.1.2.2.2.1) && ((r22.1.2.2.2.2.1 == r27.1.2.2.2.2.1) && ((r22.1.2.2.2.2.2.1 == r27.1.2.2.2.2.2.1) && ((r22.1.2.2.2.2.2.2.1 == r27.1.2.2.2.2.2.2.1) && ((r22.1.2.2.2.2.2.2.2.1 == r27.1.2.2.2.2.2.2.2.1) && ((r22.1.2.2.2.2.2.2.2.2.1 == r27.1.2.2.2.2.2.2.2.2.1) && ((r22.1.2.2.2.2.2.2.2.2.2.1 == r27.1.2.2.2.2.2.2.2.2.2.1) && ((r22.1.2.2.2.2.2.2.2.2.2.2 == r27.1.2.2.2.2.2.2.2.2.2.2) && true))))))))))))] 11 [none, some 10] rfl rfl rfl rfl rfl rfl fun G a w S => ?_
    refine sMove (iv r22.2) S (wG 10 true 69 rfl rfl rfl hc59) (.inl rfl) rfl rfl (lb rfl) fun a S => ?_
    exact leafL ⟨rfl, S⟩
  · refine fI 71 (iv r27.2) [(10, iv r27.2), (69, .bool ((r22.1.1 == r27.1.1) && ((r22.1.2.1 == r27.1.2.1) && ((r22.1.2.2.1 == r27.1.2.2.1) && ((r22.1.2.2.2.1 == r27.1.2.2.2.1) && ((r22.1.2.2.2.2.1 == r27.1.2.2.2.2.1) && ((r22.1.2.2.2.2.2.1 == r27.1.2.2.2.2.2.1) && ((r22.1.2.2.2.2.2.2.1 == r27.1.2.2.2.2.2.2.1) && ((r22.1.2.2.2.2.2.2.2.1 == r27.1.2.2.2.2.2.2.2.1) && ((r22.1.2.2.2.2.2.2.2.2.1 == r27.1.2.2.2.2.2.2.2.2.1) && ((r22.1.2.2.2.2.2.2.2.2.2.1 == r27.1.2.2.2.2.2.2.2.2.2.1) && ((r22.1.2.2.2.2.2.2.2.2.2.2 == r27.1.2.2.2.2.2.2.2.2.2.2) && true))))))))))))] 12 [none, some 10] rfl rfl rfl rfl rfl rfl fun G a w S => ?_
    refine sMove (iv r27.2) S (wG 10 true 69 rfl rfl rfl hc59) (.inl rfl) rfl rfl (lb rfl) fun a S => ?_
    exact leafL ⟨rfl, S⟩
  · refine fI 72 (.bool (r22.2 == r27.2)) [(70, iv r22.2), (71, iv r27.2), (69, .bool ((r22.1.1 == r27.1.1) && ((r22.1.2.1 == r27.1.2.1) && ((r22.1.2.2.1 == r27.1.2.2.1) && ((r22.1.2.2.2.1 == r27.1.2.2.2.1) && ((r22.1.2.2.2.2.1 == r27.1.2.2.2.2.1) && ((r22.1.2.2.2.2.2.1 == r27.1.2.2.2.2.2.1) && ((r22.1.2.2.2.2.2.2.1 == r27.1.2.2.2.2.2.2.1) && ((r22.1.2.2.2.2.2.2.2.1 == r27.1.2.2.2.2.2.2.2.1) && ((r22.1.2.2.2.2.2.2.2.2.1 == r27.1.2.2.2.2.2.2.2.2.1) && ((r22.1.2.2.2.2.2.2.2.2.2.1 == r27.1.2.2.2.2.2.2.2.2.2.1) && ((r22.1.2.2.2.2.2.2.2.2.2.2 == r27.1.2.2.2.2.2.2.2.2.2.2) && true))))))))))))] 13 [some 11, some 12, some 10] rfl rfl rfl rfl rfl rfl fun G a w S => ?_
    refine sBin (.bool (r22.2 == r27.2)) S (wG 10 true 69 rfl rfl rfl hc59) rfl rfl rfl (bEq _ _ _ _ .i64 r22.2 r27.2) rfl (lb rfl) fun a S => ?_
    exact leafL ⟨rfl, S⟩
  · refine fI 73 (.bool (r22.2 == r27.2)) [(69, .bool ((r22.1.1 == r27.1.1) && ((r22.1.2.1 == r27.1.2.1) && ((r22.1.2.2.1 == r27.1.2.2.1) && ((r22.1.2.2.2.1 == r27.1.2.2.2.1) && ((r22.1.2.2.2.2.1 == r27.1.2.2.2.2.1) && ((r22.1.2.2.2.2.2.1 == r27.1.2.2.2.2.2.1) && ((r22.1.2.2.2.2.2.2.1 == r27.1.2.2.2.2.2.2.1) && ((r22.1.2.2.2.2.2.2.2.1 == r27.1.2.2.2.2.2.2.2.1) && ((r22.1.2.2.2.2.2.2.2.2.1 == r27.1.2.2.2.2.2.2.2.2.1) && ((r22.1.2.2.2.2.2.2.2.2.2.1 == r27.1.2.2.2.2.2.2.2.2.2.1) && ((r22.1.2.2.2.2.2.2.2.2.2.2 == r27.1.2.2.2.2.2.2.2.2.2.2) && true)))))))))))), (72, .bool (r22.2 == r27.2))] 14 [some 10, some 13] rfl rfl rfl rfl rfl rfl fun G a w S => ?_
    refine sPickT (.bool (r22.2 == r27.2)) S (wN rfl) rfl rfl hc59 rfl rfl (lb rfl) fun a S => ?_
    exact leafL ⟨rfl, S⟩
  · refine fI 74 (.bool (r22.2 == r27.2)) [(73, .bool (r22.2 == r27.2))] 15 [some 14] rfl rfl rfl rfl rfl rfl fun G a w S => ?_
    refine sMove (.bool (r22.2 == r27.2)) S (wN rfl) (.inl rfl) rfl rfl (lb rfl) fun a S => ?_
    exact leafL ⟨rfl, S⟩
  · refine fI 75 (.agg #[iv r32.1.Length, iv r32.1.Time]) [(11, .pointer (some ⟨b35, 0, none⟩)), (74, .bool (r22.2 == r27.2))] 16 [none, some 15] rfl rfl rfl rfl rfl rfl fun G a w S => ?_
    refine sLoadN (p := b35) (off := 0) (T := 23) (vs := [iv r32.1.Length, iv r32.1.Time]) 3 [iv r32.1.Length, iv r32.1.Time] S (wG 15 true 74 rfl rfl rfl hc60) rfl rfl rfl rfl rfl rfl rfl (lb rfl) fun a S => ?_
    exact leafL ⟨rfl, S⟩
  · refine fI 76 (.agg #[iv r37.1.Length, iv r37.1.Time]) [(13, .pointer (some ⟨b40, 0, none⟩)), (74, .bool (r22.2 == r27.2))] 17 [none, some 15] rfl rfl rfl rfl rfl rfl fun G a w S => ?_
    refine sLoadN (p := b40) (off := 0) (T := 23) (vs := [iv r37.1.Length, iv r37.1.Time]) 2 [iv r37.1.Length, iv r37.1.Time] S (wG 15 true 74 rfl rfl rfl hc60) rfl rfl rfl rfl rfl rfl rfl (lb rfl) fun a S => ?_
    exact leafL ⟨rfl, S⟩
  · refine fI 77 (.bool ((r32.1.Length == r37.1.Length) && ((r32.1.Time == r37.1.Time) && true))) [(75, .agg #[iv r32.1.Length, iv r32.1.Time]), (76, .agg #[iv r37.1.Length, iv r37.1.Time]), (74, .bool (r22.2 == r27.2))] 18 [some 16, some 17, some 15] rfl rfl rfl rfl rfl rfl fun G a w S => ?_
    refine sBin (.bool ((r32.1.Length == r37.1.Length) && ((r32.1.Time == r37.1.Time) && true))) S (wG 15 true 74 rfl rfl rfl hc60) rfl rfl rfl (bEqV _ _ _ _ #[iv r32.1.Length, iv r32.1.Time] #[iv r37.1.Length, iv r37.1.Time] ((r32.1.Length == r37.1.Length) && ((r32.1.Time == r37.1.Time) && true)) (by kernel_rfl) (eqlV_of (by kernel_rfl))) rfl (lb rfl) fun a S => ?_
    exact leafL ⟨rfl, S⟩
  · refine fI 78 (.bool ((r32.1.Length == r37.1.Length) && ((r32.1.Time == r37.1.Time) && true))) [(74, .bool (r22.2 == r27.2)), (77, .bool ((r32.1.Length == r37.1.Length) && ((r32.1.Time == r37.1.Time) && true)))] 19 [some 15, some 18] rfl rfl rfl rfl rfl rfl fun G a w S => ?_
    refine sPickT (.bool ((r32.1.Length == r37.1.Length) && ((r32.1.Time == r37.1.Time) && true))) S (wN rfl) rfl rfl hc60 rfl rfl (lb rfl) fun a S => ?_
    exact leafL ⟨rfl, S⟩
  · refine fI 79 (.bool ((r32.1.Length == r37.1.Length) && ((r32.1.Time == r37.1.Time) && true))) [(78, .bool ((r32.1.Length == r37.1.Length) && ((r32.1.Time == r37.1.Time) && true)))] 20 [some 19] rfl rfl rfl rfl rfl rfl fun G a w S => ?_
    refine sMove (.bool ((r32.1.Length == r37.1.Length) && ((r32.1.Time == r37.1.Time) && true))) S (wN rfl) (.inl rfl) rfl rfl (lb rfl) fun a S => ?_
    exact leafL ⟨rfl, S⟩
  · refine fI 80 (iv r32.2) [(12, iv r32.2), (79, .bool ((r32.1.Length == r37.1.Length) && ((r32.1.Time == r37.1.Time) && true)))] 21 [none, some 20] rfl rfl rfl rfl rfl rfl fun G a w S => ?_
    refine sMove (iv r32.2) S (wG 20 true 79 rfl rfl rfl hc61) (.inl rfl) rfl rfl (lb rfl) fun a S => ?_
    exact leafL ⟨rfl, S⟩
  · refine fI 81 (iv r37.2) [(14, iv r37.2), (79, .bool ((r32.1.Length == r37.1.Length) && ((r32.1.Time == r37.1.Time) && true)))] 22 [none, some 20] rfl rfl rfl rfl rfl rfl fun G a w S => ?_
    refine sMove (iv r37.2) S (wG 20 true 79 rfl rfl rfl hc61) (.inl rfl) rfl rfl (lb rfl) fun a S => ?_
    exact leafL ⟨rfl, S⟩
  · refine fI 82 (.bool (r32.2 == r37.2)) [(80, iv r32.2), (81, iv r37.2), (79, .bool ((r32.1.Length == r37.1.Length) && ((r32.1.Time == r37.1.Time) && true)))] 23 [some 21, some 22, some 20] rfl rfl rfl rfl rfl rfl fun G a w S => ?_
    refine sBin (.bool (r32.2 == r37.2)) S (wG 20 true 79 rfl rfl rfl hc61) rfl rfl rfl (bEq _ _ _ _ .i64 r32.2 r37.2) rfl (lb rfl) fun a S => ?_
    exact leafL ⟨rfl, S⟩
  · refine fI 83 (.bool (r32.2 == r37.2)) [(79, .bool ((r32.1.Length == r37.1.Length) && ((r32.1.Time == r37.1.Time) && true))), (82, .bool (r32.2 == r37.2))] 24 [some 20, some 23] rfl rfl rfl rfl rfl rfl fun G a w S => ?_
    refine sPickT (.bool (r32.2 == r37.2)) S (wN rfl) rfl rfl hc61 rfl rfl (lb rfl) fun a S => ?_
    exact leafL ⟨rfl, S⟩
  · refine fI 84 (.bool (r32.2 == r37.2)) [(83, .bool (r32.2 == r37.2))] 25 [some 24] rfl rfl rfl rfl rfl rfl fun G a w S => ?_
    refine sMove (.bool (r32.2 == r37.2)) S (wN rfl) (.inl rfl) rfl rfl (lb rfl) fun a S => ?_
    exact leafL ⟨rfl, S⟩
  · refine fI 85 (.agg #[iv r42.1.Length, iv r42.1.Time]) [(15, .pointer (some ⟨b45, 0, none⟩)), (84, .bool (r32.2 == r37.2))] 26 [none, some 25] rfl rfl rfl rfl rfl rfl fun G a w S => ?_
    refine sLoadN (p := b45) (off := 0) (T := 23) (vs := [iv r42.1.Length, iv r42.1.Time]) 1 [iv r42.1.Length, iv r42.1.Time] S (wG 25 true 84 rfl rfl rfl hc62) rfl rfl rfl rfl rfl rfl rfl (lb rfl) fun a S => ?_
    exact leafL ⟨rfl, S⟩
  · refine fI 86 (.agg #[iv r47.1.Length, iv r47.1.Time]) [(17, .pointer (some ⟨b50, 0, none⟩)), (84, .bool (r32.2 == r37.2))] 27 [none, some 25] rfl rfl rfl rfl rfl rfl fun G a w S => ?_
    refine sLoadN (p := b50) (off := 0) (T := 23) (vs := [iv r47.1.Length, iv r47.1.Time]) 0 [iv r47.1.Length, iv r47.1.Time] S (wG 25 true 84 rfl rfl rfl hc62) rfl rfl rfl rfl rfl rfl rfl (lb rfl) fun a S => ?_
    exact leafL ⟨rfl, S⟩
  · refine fI 87 (.bool ((r42.1.Length == r47.1.Length) && ((r42.1.Time == r47.1.Time) && true))) [(85, .agg #[iv r42.1.Length, iv r42.1.Time]), (86, .agg #[iv r47.1.Length, iv r47.1.Time]), (84, .bool (r32.2 == r37.2))] 28 [some 26, some 27, some 25] rfl rfl rfl rfl rfl rfl fun G a w S => ?_
    refine sBin (.bool ((r42.1.Length == r47.1.Length) && ((r42.1.Time == r47.1.Time) && true))) S (wG 25 true 84 rfl rfl rfl hc62) rfl rfl rfl (bEqV _ _ _ _ #[iv r42.1.Length, iv r42.1.Time] #[iv r47.1.Length, iv r47.1.Time] ((r42.1.Length == r47.1.Length) && ((r42.1.Time == r47.1.Time) && true)) (by kernel_rfl) (eqlV_of (by kernel_rfl))) rfl (lb rfl) fun a S => ?_
    exact leafL ⟨rfl, S⟩
  · refine fI 88 (.bool ((r42.1.Length == r47.1.Length) && ((r42.1.Time == r47.1.Time) && true))) [(84, .bool (r32.2 == r37.2)), (87, .bool ((r42.1.Length == r47.1.Length) && ((r42.1.Time == r47.1.Time) && true)))] 29 [some 25, some 28] rfl rfl rfl rfl rfl rfl fun G a w S => ?_
    refine sPickT (.bool ((r42.1.Length == r47.1.Length) && ((r42.1.Time == r47.1.Time) && true))) S (wN rfl) rfl rfl hc62 rfl rfl (lb rfl) fun a S => ?_
    exact leafL ⟨rfl, S⟩
  · refine fI 89 (.bool ((r42.1.Length == r47.1.Length) && ((r42.1.Time == r47.1.Time) && true))) [(88, .bool ((r42.1.Length == r47.1.Length) && ((r42.1.Time == r47.1.Time) && true)))] 30 [some 29] rfl rfl rfl rfl rfl rfl fun G a w S => ?_
    refine sMove (.bool ((r42.1.Length == r47.1.Length) && ((r42.1.Time == r47.1.Time) && true))) S (wN rfl) (.inl rfl) rfl rfl (lb rfl) fun a S => ?_
    exact leafL ⟨rfl, S⟩
  · refine fI 90 (iv r42.2) [(16, iv r42.2), (89, .bool ((r42.1.Length == r47.1.Length) && ((r42.1.Time == r47.1.Time) && true)))] 31 [none, some 30] rfl rfl rfl rfl rfl rfl fun G a w S => ?_
    refine sMove (iv r42.2) S (wG 30 true 89 rfl rfl rfl hc63) (.inl rfl) rfl rfl (lb rfl) fun a S => ?_
    exact leafL ⟨rfl, S⟩
  · refine fI 91 (iv r47.2) [(18, iv r47.2), (89, .bool ((r42.1.Length == r47.1.Length) && ((r42.1.Time == r47.1.Time) && true)))] 32 [none, some 30] rfl rfl rfl rfl rfl rfl fun G a w S => ?_
    refine sMove (iv r47.2) S (wG 30 true 89 rfl rfl rfl hc63) (.inl rfl) rfl rfl (lb rfl) fun a S => ?_
    exact leafL ⟨rfl, S⟩
  · refine fI 92 (.bool (r42.2 == r47.2)) [(90, iv r42.2), (91, iv r47.2), (89, .bool ((r42.1.Length == r47.1.Length) && ((r42.1.Time == r47.1.Time) && true)))] 33 [some 31, some 32, some 30] rfl rfl rfl rfl rfl rfl fun G a w S => ?_
    refine sBin (.bool (r42.2 == r47.2)) S (wG 30 true 89 rfl rfl rfl hc63) rfl rfl rfl (bEq _ _ _ _ .i64 r42.2 r47.2) rfl (lb rfl) fun a S => ?_
    exact leafL ⟨rfl, S⟩
  · refine fI 93 (.bool (r42.2 == r47.2)) [(89, .bool ((r42.1.Length == r47.1.Length) && ((r42.1.Time == r47.1.Time) && true))), (92, .bool (r42.2 == r47.2))] 34 [some 30, some 33] rfl rfl rfl rfl rfl rfl fun G a w S => ?_
    refine sPickT (.bool (r42.2 == r47.2)) S (wN rfl) rfl rfl hc63 rfl rfl (lb rfl) fun a S => ?_
    exact leafL ⟨rfl, S⟩
  · refine fI 6 (.bool (r42.2 == r47.2)) [(93, .bool (r42.2 == r47.2))] 35 [some 34] rfl rfl rfl rfl rfl rfl fun G a w S => ?_
    refine sMove (.bool (r42.2 == r47.2)) S (wN rfl) (.inr rfl) rfl rfl (lb rfl) fun a S => ?_
    exact leafL ⟨rfl, S⟩
  exact leafT (⟨r42.2 == r47.2, Option.some.inj h, S.fix [] [] (by decide) rfl rfl rfl⟩)

end Go.Proofs.Ytdbgkakmhlmpbaa
namespace Go.Proofs.Ytdbgkakmhlmpbaa
open Go.RowKit
set_option linter.unusedVariables false

theorem great_some (c : api_Chart) (hl : c.Rows.length ≤ 9223372036854775807) : ∃ b, F_raddleref45_Great c = some b := by
  have hloop : whileO (raddleref45_Great_l1 c) 0 = some (if (List.range c.Rows.length).all (fun k => decide ((c.Rows.getD k ⟨false, []⟩).Cells.length ≤ 60)) = true then .inr () else .inl true) := by
    refine loop_all c.Rows.length _ _ _ ?_ ?_
    · intro k hk
      unfold raddleref45_Great_l1
      simp only [dT (show (k : Int) < (c.Rows.length : Int) by omega), if_true, idxO_nat hk, Option.bind_some, w64_succ (show k < 9223372036854775807 by omega), getD_of _ hk]
      by_cases hc : c.Rows[k].Cells.length ≤ 60
      · simp only [dF (show ¬ (60 : Int) < (c.Rows[k].Cells.length : Int) by omega), Bool.false_eq_true, if_false, dT hc, if_true]
      · simp only [dT (show (60 : Int) < (c.Rows[k].Cells.length : Int) by omega), if_true, dF hc, Bool.false_eq_true, if_false]
    · unfold raddleref45_Great_l1
      simp only [dF (show ¬ (c.Rows.length : Int) < (c.Rows.length : Int) by omega), Bool.false_eq_true, if_false]
  unfold F_raddleref45_Great
  rw [hloop]
  cases (List.range c.Rows.length).all (fun k => decide ((c.Rows.getD k ⟨false, []⟩).Cells.length ≤ 60)) with
  | false => exact ⟨_, rfl⟩
  | true =>
    simp only [if_true, Option.bind_some]
    by_cases c1 : (20 : Int) < (c.Rows.length : Int)
    · by_cases c2 : (c.Rows.length : Int) ≤ 100
      · simp only [dT c1, dT c2, if_true, Option.bind_some]; exact ⟨_, rfl⟩
      · simp only [dT c1, dF c2, if_true, Bool.false_eq_true, if_false, Option.bind_some]; exact ⟨_, rfl⟩
    · simp only [dF c1, Bool.false_eq_true, if_false, Option.bind_some]; exact ⟨_, rfl⟩
theorem greatAll_some (l : List api_Chart) (hl : l.length ≤ 9223372036854775807) (hw : ∀ c, c ∈ l → wf_api_Chart c) : ∃ b, F_raddleref45_GreatAll l = some b := by
  have key : ∃ t, whileO (raddleref45_GreatAll_l1 l) 0 = some t ∧ True := by
    refine loop_ix l.length (fun _ => True) _ trivial ?_ ?_
    · intro k hk _
      obtain ⟨b, hb⟩ := great_some l[k] (hw _ (List.getElem_mem hk)).2.1
      unfold raddleref45_GreatAll_l1
      simp only [dT (show (k : Int) < (l.length : Int) by omega), if_true, idxO_nat hk, Option.bind_some, hb, w64_succ (show k < 9223372036854775807 by omega)]
      cases b with
      | true => exact .inr ⟨_, rfl, trivial⟩
      | false => exact .inl ⟨rfl, trivial⟩
    · intro _
      refine ⟨.inr (), ?_, trivial⟩
      unfold raddleref45_GreatAll_l1
      simp only [dF (show ¬ (l.length : Int) < (l.length : Int) by omega), Bool.false_eq_true, if_false]
  obtain ⟨t, h1, _⟩ := key
  unfold F_raddleref45_GreatAll
  rw [h1]
  cases t with
  | inl z => exact ⟨_, rfl⟩
  | inr u =>
    simp only [Option.bind_some]
    by_cases c1 : (5 : Int) < (l.length : Int)
    · by_cases c2 : (l.length : Int) ≤ 20
      · simp only [dT c1, dT c2, if_true, Option.bind_some]; exact ⟨_, rfl⟩
      · simp only [dT c1, dF c2, if_true, Bool.false_eq_true, if_false, Option.bind_some]; exact ⟨_, rfl⟩
    · simp only [dF c1, Bool.false_eq_true, if_false, Option.bind_some]; exact ⟨_, rfl⟩
/-- charts together -/
theorem total_loop (l : List api_Chart) (r : api_Rates) (hw : ∀ c, c ∈ l → wfR c.Rows) (hl : l.length ≤ 100) : ∃ t t', whileO (cost_Total_l1 l r) (0, 0, 0) = some t ∧ whileO (raddleref45_Total_l1 l r) (0, 0, 0) = some t' ∧ (t = t' ∧ (l = [] → t = .inr (0, 0))) := by
  refine loop_two (σ := Int × Int) l.length (fun k s => ((k : Int), s.1, s.2)) (fun k s => ((k : Int), s.1, s.2)) (fun k s => l = [] → s = (0, 0)) _ (s0 := (0, 0)) (fun _ => rfl) ?_ ?_
  · rintro k ⟨a, b⟩ hk hI
    have e1 := need_eq l[k] r (hw _ (List.getElem_mem hk))
    have e2 := rneed_eq l[k] r
    have hne : l ≠ [] := by rintro rfl; simp at hk
    obtain ⟨⟨bl, er⟩, hq⟩ : ∃ z, needOf l[k] r = z := ⟨_, rfl⟩
    rw [hq] at e1 e2
    by_cases he : er = 0
    · refine .inl ⟨(w64 (a + bl.Length), w64 (b + bl.Time)), ?_, ?_, fun h => absurd h hne⟩
      · unfold cost_Total_l1
        simp only [dT (show (k : Int) < (l.length : Int) by omega), if_true, idxO_nat hk, Option.bind_some, e1, nF he, Bool.false_eq_true, if_false, w64_succ (show k < 9223372036854775807 by omega)]
      · unfold raddleref45_Total_l1
        simp only [dT (show (k : Int) < (l.length : Int) by omega), if_true, idxO_nat hk, Option.bind_some, e2, nF he, Bool.false_eq_true, if_false, w64_succ (show k < 9223372036854775807 by omega)]
    · refine .inr ⟨.inl (⟨0, 0⟩, er), .inl (⟨0, 0⟩, er), ?_, ?_, rfl, fun h => absurd h hne⟩
      · unfold cost_Total_l1
        simp only [dT (show (k : Int) < (l.length : Int) by omega), if_true, idxO_nat hk, Option.bind_some, e1, nT he]
      · unfold raddleref45_Total_l1
        simp only [dT (show (k : Int) < (l.length : Int) by omega), if_true, idxO_nat hk, Option.bind_some, e2, nT he]
  · rintro ⟨a, b⟩ hI
    refine ⟨.inr (a, b), .inr (a, b), ?_, ?_, rfl, fun h => by rw [hI h]⟩
    · unfold cost_Total_l1
      simp only [dF (show ¬ (l.length : Int) < (l.length : Int) by omega), Bool.false_eq_true, if_false]
    · unfold raddleref45_Total_l1
      simp only [dF (show ¬ (l.length : Int) < (l.length : Int) by omega), Bool.false_eq_true, if_false]
theorem total_eq (l : List api_Chart) (r : api_Rates) (hw : ∀ c, c ∈ l → wfR c.Rows) : ∃ z, F_cost_Total l r = some z ∧ F_raddleref45_Total l r = some z := by
  unfold F_cost_Total F_raddleref45_Total
  by_cases h1 : (20 : Int) < (l.length : Int)
  · simp only [dT h1, if_true]; exact ⟨_, rfl, rfl⟩
  simp only [dF h1, Bool.false_eq_true, if_false]
  obtain ⟨t, t', e1, e2, rfl, h0⟩ := total_loop l r hw (by omega)
  rw [e1, e2]
  by_cases hz : (l.length : Int) = 0
  · have hn : l = [] := List.eq_nil_of_length_eq_zero (by omega)
    rw [h0 hn]
    simp only [bT hz, if_true, Option.bind_some, rates_eq, rrates_eq]
    exact ⟨_, rfl, rfl⟩
  · simp only [bF hz, Bool.false_eq_true, if_false]
    cases t with
    | inl z => exact ⟨z, rfl, rfl⟩
    | inr p => obtain ⟨a, b⟩ := p; exact ⟨_, rfl, rfl⟩
theorem count_eq (c : api_Chart) (hw : wfR c.Rows) : ∃ z, F_cost_Count c = some z ∧ F_raddleref45_Count c = some z := by
  unfold F_cost_Count F_raddleref45_Count
  rw [chart_check_eq c hw, rchart_check_eq c]
  by_cases hc : chk c = 0
  case neg => simp only [Option.bind_some, nT hc, if_true]; exact ⟨_, rfl, rfl⟩
  obtain ⟨v, h1, h2, _⟩ := count_loop (0, 0, 0, 0, 0, 0, 0, 0, 0, 0, 0) c hc
  obtain ⟨v0, v1, v2, v3, v4, v5, v6, v7, v8, v9, v10⟩ := v
  simp only [Option.bind_some, nF hc, Bool.false_eq_true, if_false, h1, h2]
  exact ⟨_, rfl, rfl⟩
theorem law_CostNeeds (l : List api_Chart) (c : api_Chart) (r : api_Rates) (wl : Wl wf_api_Chart l) (wc : wf_api_Chart c) (wr : wf_api_Rates r) : F_raddlelaw45_CostNeeds l c r = some true := by
  obtain ⟨g, hg⟩ := great_some c wc.2.1
  obtain ⟨g2, hg2⟩ := greatAll_some l wl.1 wl.2
  obtain ⟨x, x1, x2⟩ := count_eq c (wfR_of wc)
  obtain ⟨z, z1, z2⟩ := total_eq l r fun c hc => wfR_of (wl.2 c hc)
  unfold F_raddlelaw45_CostNeeds
  rw [hg, hg2, x1, x2, need_eq c r (wfR_of wc), rneed_eq c r, z1, z2, rates_eq, rrates_eq]
  cases g with
  | true => rfl
  | false =>
    cases g2 with
    | true => rfl
    | false => simp

end Go.Proofs.Ytdbgkakmhlmpbaa
namespace Go.Proofs.Ytdbgkakmhlmpbaa
open Go.RowKit
set_option linter.unusedVariables false

namespace frameCostNeeds
open Go.ChangeShapes Go.WideShapes Go.ChangeAt Go.Joins
theorem own : ownKnob Try.prog.godebug = none := by kernel_rfl
theorem laidOut : laidOutB Try.prog = true := by kernel_rfl
set_option maxRecDepth 100000 in
theorem lifted (os : Os) (started : os.Started) (H : Type) (enc : TypeId × Value → H) :
    ReturnsInHanded {} Try.checked os 4 .any (Rows.costNeedsSpec.pre6 enc Try.prog Try.f4 Rows.costNeedsRow.domain false) (Rows.costNeedsSpec.post enc Try.prog Try.f4 false true false false) := by
  refine returnsInHanded_of_change (C := Try.checked) own started (by kernel_rfl) Try.func4
    (ChangeSpec.witness6 (enc := enc) (C := Try.checked) false ⟨#[], #[.slice none 0 0, .agg #[iv 0, .slice none 0 0], gv_api_Rates (api_Rates.mk (0, 0, 0, 0, 0, 0, 0, 0, 0, 0, 0) (0, 0, 0, 0, 0, 0, 0, 0, 0, 0, 0) 0)], []⟩ 8 (by kernel_rfl) (by kernel_rfl) (by kernel_rfl) (by kernel_rfl)) ?_
  intro W base args ds gs before hval0 hW hcnd _
  have hval : ∀ (j : Nat) t v, Try.f4.params[j]? = some t → args[j]? = some v → Value.okWide Try.prog W .any base t v := hval0
  have hW' := hW
  obtain ⟨p, q, hA0, hV, rfl, hfz, hnd⟩ := hW
  have hA : DataW.TrodAll enc Try.prog W 0 (fun _ => true) true Try.f4.params.toList args.toList ds p := hA0
  rw [Try.params4] at hA hval
  obtain ⟨v0, vs0, d0, ds0, p0, q0, hargs, rfl, rfl, h0, r0⟩ := trodAll_cons hA
  obtain ⟨v1, vs1, d1, ds1, p1, q1, rfl, rfl, rfl, h1, r1⟩ := trodAll_cons r0
  obtain ⟨v2, vs2, d2, ds2, p2, q2, rfl, rfl, rfl, h2, r2⟩ := trodAll_cons r1
  obtain ⟨rfl, rfl, rfl⟩ := trodAll_nil r2
  obtain rfl : args = #[v0, v1, v2] := by cases args; simp_all
  obtain ⟨rfl, rfl⟩ := trodVars_none hV
  have k0 := h0
  have lt0 : ∀ x ∈ p0, x.block < W.heap.size := by obtain ⟨m, hm⟩ := k0; exact DataW.trod_lt m _ _ _ hm
  have k1 := h1
  have lt1 : ∀ x ∈ p1, x.block < W.heap.size := by obtain ⟨m, hm⟩ := k1; exact DataW.trod_lt m _ _ _ hm
  have k2 := h2
  have lt2 : ∀ x ∈ p2, x.block < W.heap.size := by obtain ⟨m, hm⟩ := k2; exact DataW.trod_lt m _ _ _ hm
  obtain ⟨x0, rep0, wf0⟩ := top_slice Try.underlying38 (op_slice (r := r_api_Chart) Try.underlying38 (by kernel_rfl) op_api_Chart) (hval 0 _ v0 rfl rfl) h0
  obtain ⟨x1, rep1, wf1⟩ := top_agg Try.underlying41 aggr_api_Chart op_api_Chart (hval 1 _ v1 rfl rfl) h1
  obtain ⟨x2, rep2, wf2⟩ := top_agg Try.underlying44 aggr_api_Rates op_api_Rates (hval 2 _ v2 rfl rfl) h2
  clear hA0 hval0
  refine (c_raddlelaw45_CostNeeds (fun _ => False) W x0 v0 x1 v1 x2 v2 true (law_CostNeeds x0 x1 x2 wf0 wf1 wf2) (St0.start (by intro d hd; simp only [List.mem_cons, List.not_mem_nil, or_false] at hd; rcases hd with rfl | rfl | rfl; exact rep0; exact rep1; exact rep2))).mono fun e W' hr => ?_
  obtain ⟨_, he, hS⟩ := hr
  have bel := hS.chg.below
  subst he
  exact ⟨_, rfl, _, _, _, [], _, [], hW', trodAll_mk1 (shut_bool Try.underlying4 _), (trodAll_cons_mk (Below.trod laidOut (by kernel_rfl) (of_decide_eq_true (by kernel_rfl)) k0 bel lt0) (trodAll_cons_mk (Below.trod laidOut (by kernel_rfl) (of_decide_eq_true (by kernel_rfl)) k1 bel lt1) (trodAll_cons_mk (Below.trod laidOut (by kernel_rfl) (of_decide_eq_true (by kernel_rfl)) k2 bel lt2) trodAll_mk0))), rfl, bel.frame _, fun h => by cases h⟩
theorem over : Rows.costNeedsRow.holds Try.pinned (OpenSpec.ofChange Rows.costNeedsSpec) :=
  OpenClaim.holds_of_wide 4 Try.f4 rfl rfl rfl rfl rfl rfl rfl ⟨rfl, rfl, rfl, rfl, rfl⟩ rfl rfl rfl rfl rfl (by kernel_rfl) Try.func4 (by kernel_rfl)
    (of_decide_eq_true (by kernel_rfl)) (by unfold Func.isWrapper; first | (rw [if_pos (by decide +kernel)]; kernel_rfl) | (rw [if_neg (by decide +kernel)]; exact ⟨rfl, rfl⟩))
    (fun os started H enc _ => lifted os started H enc)
end frameCostNeeds
theorem costNeeds_holds : Rows.CostNeedsSaid := frameCostNeeds.over

end Go.Proofs.Ytdbgkakmhlmpbaa
