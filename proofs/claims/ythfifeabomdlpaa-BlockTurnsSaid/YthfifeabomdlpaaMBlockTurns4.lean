/- Several texts in one: G32 G65s0 G64s0 G33 G66 G67s0 G64s1 G34 G6 PlTn G68s0 G64s2 G35 G7 PlFt LBT LBTv FrBlockTurns -/
import Derived.WalkKit
import Derived.Maps.AppendAt
import Derived.Deep.AppendLies
import Derived.KernelRfl
import Derived.Laws.OwnMore
import Derived.Great.BuildSlice
import Derived.Orders
import Derived.Laws.StructEq
import Derived.ChangeKeysEq
import Derived.Defers
import Derived.Laws.BytesString
import Derived.RangeFuncNested
import Derived.RangeFuncBound
import Derived.RangeFuncCalls
import Derived.RangeFuncLeaves
import Derived.OrdersIn
import Derived.LoopNIn
import Derived.ArgAppend
import Derived.Test.YthfifeabomdlpaaProg
import Derived.ProofKit
import Derived.OpenShut
import Derived.ChangeOld
import Derived.Deep.Slices
import Derived.Lib.SmallJoins
import Derived.JoinedOf
import Derived.JoinedAt
import Derived.Below
import Derived.Test.YthfifeabomdlpaaRows
import Derived.Test.YthfifeabomdlpaaMBlockTurns3
namespace Go.Proofs.Ythfifeabomdlpaa
open Go.RowKit
set_option linter.unusedVariables false

noncomputable def F_raddlelaw13_fit (p0 : api_Grid) : Option Bool :=
  Option.bind (α := Bool) (
    Option.bind (F_raddleref01_Great p0) fun r10 =>
    if !r10 then
      Option.bind (F_raddleref01_Check p0) fun r13 =>
      some (r13 == 0)
    else
      some false) fun o7 =>
  some o7
set_option maxHeartbeats 4000000 in
set_option maxRecDepth 100000 in
theorem c_raddlelaw13_fit (E : Nat → Prop) (w0 : World) (p0 : api_Grid) (v0 : Value) (r : Bool) (h : F_raddlelaw13_fit p0 = some r) (S : St0 E [] w0 w0 [] [fRep r_api_Grid (v0) p0]) :
    Calls Try.prog 32 #[v0] w0 (Ret (X := Unit) E [] w0 (fun _ => .bool r) (fun _ => []) (fun _ => [])) := by
  unfold F_raddlelaw13_fit at h
  obtain ⟨u1, rfl, hu2⟩ := S.know (i := 0) (e := fRep r_api_Grid (v0) p0) rfl
  have S := S.learn (fRep (rL rB) u1 p0.Bits) hu2
  obtain ⟨ad3, cp4, _, rfl, _⟩ := hu2
  refine sEnter (args := [.agg #[iv p0.W, iv p0.H, .slice ad3 p0.Bits.length cp4]]) 11 Try.func32 rfl rfl (by simp) S (fun a S => ?_)
  refine sSeq (fun K5 hK5 => ?_)
  refine sRegion ?_
  refine sBox (v := .agg #[iv p0.W, iv p0.H, .slice ad3 p0.Bits.length cp4]) S (wN rfl) rfl rfl [iv p0.W, iv p0.H, .slice ad3 p0.Bits.length cp4] rfl rfl (lb rfl) fun a b6 w S => ?_
  refine sMove (.bool false) S (wN rfl) (.inr rfl) rfl rfl (lb rfl) fun a S => ?_
  refine leafL (leafT (hK5 _ _ ?_))
  obtain ⟨t8, h, g9⟩ := bindSome h
  refine sCut (fun a w => ∃ o7, o7 = t8 ∧ St [] E [] w0 11 a w [(2, .bool o7)] [] []) ?_ (fun a w hI => ?_)
  rotate_left
  · obtain ⟨o7, rfl, S⟩ := hI
    have h := g9
    clear g9
    try dsimp only at h
    obtain rfl := Option.some.inj h
    exact wp_ret (sRet (.bool o7) S (rsl1 rfl (rvT (t := 2) (v := .bool o7) S rfl)) ⟨(), rfl, S.mem.sel [] [] (by decide) rfl rfl⟩)
  refine sRegion ?_
  refine sLoadN (p := b6) (off := 0) (T := 24) (vs := [iv p0.W, iv p0.H, .slice ad3 p0.Bits.length cp4]) 0 [iv p0.W, iv p0.H, .slice ad3 p0.Bits.length cp4] S (wN rfl) rfl rfl rfl rfl rfl rfl rfl (lb rfl) fun a S => ?_
  obtain ⟨r10, hx11, h⟩ := bindSome h
  have S1 := S.mem
  refine sCallQ (X := Unit) (f := 11) (vs := [.agg #[iv p0.W, iv p0.H, .slice ad3 p0.Bits.length cp4]]) (val := fun _ => .bool r10) S (wN rfl) rfl callee11 rfl (S1.quiet [1] rfl) (fun E1 w1 S1 => c_raddleref01_Great E1 w1 p0 (.agg #[iv p0.W, iv p0.H, .slice ad3 p0.Bits.length cp4]) r10 hx11 S1) rfl (lb rfl) fun _ a w S => ?_
  refine sNot (b := r10) S (wN rfl) rfl rfl rfl (lb rfl) fun a S => ?_
  refine sMove (.bool (!r10)) S (wN rfl) (.inl rfl) rfl rfl (lb rfl) fun a S => ?_
  rcases iteSome h with ⟨hc12, h⟩ | ⟨hc12, h⟩
  rotate_left
  · refine sSkip 3 true 6 7 S rfl rfl rfl hc12 rfl (lb rfl) fun a S => ?_
    refine sSkip 3 true 6 8 S rfl rfl rfl hc12 rfl (lb rfl) fun a S => ?_
    refine sSkip 3 true 6 9 S rfl rfl rfl hc12 rfl (lb rfl) fun a S => ?_
    refine sPickF (.bool false) S (wN rfl) rfl rfl hc12 rfl rfl (lb rfl) fun a S => ?_
    refine sMove (.bool false) S (wN rfl) (.inr rfl) rfl rfl (lb rfl) fun a S => ?_
    exact leafL (leafT (⟨false, Option.some.inj h, S.fix [] [] (by decide) rfl rfl rfl⟩))
  refine sLoadN (p := b6) (off := 0) (T := 24) (vs := [iv p0.W, iv p0.H, .slice ad3 p0.Bits.length cp4]) 0 [iv p0.W, iv p0.H, .slice ad3 p0.Bits.length cp4] S (wG 3 true 6 rfl rfl rfl hc12) rfl rfl rfl rfl rfl rfl rfl (lb rfl) fun a S => ?_
  obtain ⟨r13, hx14, h⟩ := bindSome h
  have S1 := S.mem
  refine sCallQ (X := Unit) (f := 53) (vs := [.agg #[iv p0.W, iv p0.H, .slice ad3 p0.Bits.length cp4]]) (val := fun _ => iv r13) S (wG 3 true 6 rfl rfl rfl hc12) rfl callee53 rfl (S1.quiet [1] rfl) (fun E1 w1 S1 => c_raddleref01_Check E1 w1 p0 (.agg #[iv p0.W, iv p0.H, .slice ad3 p0.Bits.length cp4]) r13 hx14 S1) rfl (lb rfl) fun _ a w S => ?_
  refine sBin (.bool (r13 == 0)) S (wG 3 true 6 rfl rfl rfl hc12) rfl rfl rfl (bEq _ _ _ _ .i64 r13 0) rfl (lb rfl) fun a S => ?_
  refine sPickT (.bool (r13 == 0)) S (wN rfl) rfl rfl hc12 rfl rfl (lb rfl) fun a S => ?_
  refine sMove (.bool (r13 == 0)) S (wN rfl) (.inr rfl) rfl rfl (lb rfl) fun a S => ?_
  exact leafL (leafT (⟨r13 == 0, Option.some.inj h, S.fix [] [] (by decide) rfl rfl rfl⟩))

end Go.Proofs.Ythfifeabomdlpaa
namespace Go.Proofs.Ythfifeabomdlpaa
open Go.RowKit
set_option linter.unusedVariables false

noncomputable def F_grid_Turn_1_s0 (p0 : Int) (p1 : Int) (p2 : api_Grid) : Option Bool :=
  Option.bind (idxO p2.Bits (w64 ((w64 (p0 * p2.W)) + p1))) fun x11 =>
  some x11
set_option maxHeartbeats 4000000 in
set_option maxRecDepth 100000 in
theorem c_grid_Turn_1_s0 (E : Nat → Prop) (w0 : World) (p0 : Int) (p1 : Int) (p2 : api_Grid) (v2 : Value) (r : Bool) (h : F_grid_Turn_1_s0 p0 p1 p2 = some r) (S : St0 E [] w0 w0 [] [fPtr r_api_Grid (v2) p2]) :
    Calls Try.prog 65 #[iv p0, iv p1, v2] w0 (Ret (X := Unit) E [] w0 (fun _ => .bool r) (fun _ => []) (fun _ => [])) := by
  unfold F_grid_Turn_1_s0 at h
  refine sEnter (args := [iv p0, iv p1, v2]) 16 Try.func65 rfl rfl (by simp) S (fun a S => ?_)
  refine sSeq (fun K1 hK1 => ?_)
  refine sRegion ?_
  refine sMove (.bool false) S (wN rfl) (.inr rfl) rfl rfl (lb rfl) fun a S => ?_
  refine leafL (leafT (hK1 _ _ ?_))
  refine sSeq (fun K2 hK2 => ?_)
  refine sRegion ?_
  obtain ⟨q3, hq4, S⟩ := pFld (P := Try.prog) (r := r_api_Grid) (s2 := (rL rB)) (g := (·.Bits)) (q := v2) (z := p2) 24 2 0 2 S rfl rfl comp_api_Grid_Bits
  refine sFldV (q := v2) S (wN rfl) rfl rfl hq4 rfl (lb rfl) fun a S => ?_
  obtain ⟨u5, S⟩ := pLoad (r := (rL rB)) (q := q3) (x := p2.Bits) 0 S rfl
  obtain ⟨ad6, cp7, _, rfl, _⟩ := S.mem.know (i := 1) (e := fRep (rL rB) (u5) p2.Bits) rfl
  refine sLoadV1 (vq := q3) 0 (.slice ad6 p2.Bits.length cp7) S (wN rfl) rfl rfl rfl rfl rfl (lb rfl) fun a S => ?_
  refine sMove (iv p0) S (wN rfl) (.inl rfl) rfl rfl (lb rfl) fun a S => ?_
  obtain ⟨q8, hq9, S⟩ := pFld (P := Try.prog) (r := r_api_Grid) (s2 := (rI .i64)) (g := (·.W)) (q := v2) (z := p2) 24 0 3 0 S rfl rfl comp_api_Grid_W
  refine sFldV (q := v2) S (wN rfl) rfl rfl hq9 rfl (lb rfl) fun a S => ?_
  obtain ⟨u10, S⟩ := pLoad (r := (rI .i64)) (q := q8) (x := p2.W) 0 S rfl
  obtain rfl : u10 = iv p2.W := S.mem.know (i := 1) (e := fRep (rI .i64) (u10) p2.W) rfl
  refine sLoadV1 (vq := q8) 0 (iv p2.W) S (wN rfl) rfl rfl rfl rfl rfl (lb rfl) fun a S => ?_
  refine sBin (iv (w64 (p0 * p2.W))) S (wN rfl) rfl rfl rfl (bMul _ _ _ _ p0 p2.W) rfl (lb rfl) fun a S => ?_
  refine sMove (iv p1) S (wN rfl) (.inl rfl) rfl rfl (lb rfl) fun a S => ?_
  refine sBin (iv (w64 ((w64 (p0 * p2.W)) + p1))) S (wN rfl) rfl rfl rfl (bAdd _ _ _ _ (w64 (p0 * p2.W)) p1) rfl (lb rfl) fun a S => ?_
  obtain ⟨x11, hx12, h⟩ := bindSome h
  obtain ⟨q13, hq14, S⟩ := pIdx (P := Try.prog) (r := rB) (v := .slice ad6 p2.Bits.length cp7) (xs := p2.Bits) (j := w64 ((w64 (p0 * p2.W)) + p1)) 22 4 4 S Try.underlying22 rfl rfl hx12
  refine sIdxV (v := .slice ad6 p2.Bits.length cp7) (k := .i64) (j := w64 ((w64 (p0 * p2.W)) + p1)) S (wN rfl) rfl rfl rfl hq14 rfl (lb rfl) fun a S => ?_
  obtain ⟨u15, S⟩ := pLoad (r := rB) (q := q13) (x := x11) 0 S rfl
  obtain rfl : u15 = .bool x11 := S.mem.know (i := 1) (e := fRep rB (u15) x11) rfl
  refine sLoadV1 (vq := q13) 0 (.bool x11) S (wN rfl) rfl rfl rfl rfl rfl (lb rfl) fun a S => ?_
  refine sMove (.bool x11) S (wN rfl) (.inr rfl) rfl rfl (lb rfl) fun a S => ?_
  refine leafL (leafT (hK2 _ _ ?_))
  obtain rfl := Option.some.inj h
  exact wp_ret (sRet (.bool x11) S (rsl1 rfl (rvT (t := 5) (v := .bool x11) S rfl)) ⟨(), rfl, S.mem.sel [] [] (by decide) rfl rfl⟩)

end Go.Proofs.Ythfifeabomdlpaa
namespace Go.Proofs.Ythfifeabomdlpaa
open Go.RowKit
set_option linter.unusedVariables false

def anc_grid_build_s0_0 : List (List Nat) := [[], [0], [], [], [], [2, 3, 4], [2, 3, 4, 5], [0, 1, 2, 3, 4, 5, 6], [0, 1, 2, 3, 4, 5, 6, 7], [0, 1, 2, 3, 4, 5, 6, 7, 8]]
noncomputable def grid_build_s0_l1 (p0 : Int) (s15 : Int) (p2 : api_Grid) : (Int × List Bool) → Option ((Int × List Bool) ⊕ List Bool) := fun s0 => match s0 with
  | (s35, s36) =>
    if decide (s35 < p0) then
      Option.bind (F_grid_Turn_1_s0 s35 s15 p2) fun r50 =>
      Option.bind (appO s36 [r50]) fun l54 =>
      some (.inl (w64 (s35 + 1), l54))
    else
      some (.inr s36)
noncomputable def grid_build_s0_l2 (p1 : Int) (p0 : Int) (p2 : api_Grid) : (Int × List Bool) → Option ((Int × List Bool) ⊕ List Bool) := fun s0 => match s0 with
  | (s15, s16) =>
    if decide (s15 < p1) then
      Option.bind (α := List Bool) (
        Option.bind (whileO (grid_build_s0_l1 p0 s15 p2) (0, s16)) fun e42 =>
          some e42) fun o28 =>
      some (.inl (w64 (s15 + 1), o28))
    else
      some (.inr s16)
noncomputable def F_grid_build_s0 (p0 : Int) (p1 : Int) (p2 : api_Grid) : Option api_Grid :=
  Option.bind (capO (w64 (p0 * p1))) fun z6 =>
  Option.bind (α := List Bool) (
    Option.bind (whileO (grid_build_s0_l2 p1 p0 p2) (0, ([] : List Bool))) fun e22 =>
      some e22) fun o9 =>
  some (api_Grid.mk p0 p1 o9)
def c_grid_build_s0_val (r : api_Grid) (x : Value) : Value := x
def c_grid_build_s0_D (r : api_Grid) (x : Value) : List Fact := [fRep r_api_Grid x r]
set_option maxHeartbeats 4000000 in
set_option maxRecDepth 100000 in
theorem c_grid_build_s0 (E : Nat → Prop) (w0 : World) (p0 : Int) (p1 : Int) (p2 : api_Grid) (v2 : Value) (r : api_Grid) (h : F_grid_build_s0 p0 p1 p2 = some r) (S : St0 E [] w0 w0 [] [fPtr r_api_Grid (v2) p2]) :
    Calls Try.prog 64 #[iv p0, iv p1, .func (.func 65) #[] #[v2]] w0 (Ret (X := Value) E [] w0 (c_grid_build_s0_val r) (fun _ => []) (c_grid_build_s0_D r)) := by
  unfold F_grid_build_s0 at h
  refine sEnter (args := [iv p0, iv p1, .func (.func 65) #[] #[v2]]) 37 Try.func64 rfl rfl (by simp) S (fun a S => ?_)
  refine sSeq (fun K1 hK1 => ?_)
  refine sRegion ?_
  refine sAlloc (.agg #[iv 0, iv 0, .slice none 0 0]) S (wN rfl) rfl rfl [iv 0, iv 0, .slice none 0 0] rfl rfl (lb rfl) fun a b2 w S => ?_
  refine leafL (leafT (hK1 _ _ ?_))
  refine sSeq (fun K3 hK3 => ?_)
  refine sRegion ?_
  refine sMove (iv p0) S (wN rfl) (.inl rfl) rfl rfl (lb rfl) fun a S => ?_
  refine sMove (iv p1) S (wN rfl) (.inl rfl) rfl rfl (lb rfl) fun a S => ?_
  refine sMove (iv p0) S (wN rfl) (.inl rfl) rfl rfl (lb rfl) fun a S => ?_
  refine sMove (iv p1) S (wN rfl) (.inl rfl) rfl rfl (lb rfl) fun a S => ?_
  refine sBin (iv (w64 (p0 * p1))) S (wN rfl) rfl rfl rfl (bMul _ _ _ _ p0 p1) rfl (lb rfl) fun a S => ?_
  obtain ⟨z6, hx7, h⟩ := bindSome h
  refine sMake0 rB (m := w64 (p0 * p1)) (u := z6) (.bool false) 1 S (wN rfl) rfl Try.underlying22 rfl (by decide) rfl rfl hx7 rfl (lb rfl) fun a w ad4 cp5 S => ?_
  refine sBuild [(0, iv p0), (1, iv p1), (2, .slice ad4 ([] : List Bool).length cp5)] [iv p0, iv p1, .slice ad4 ([] : List Bool).length cp5] S (wN rfl) rfl rfl rfl rfl (lb rfl) fun a S => ?_
  refine sAlloc (.agg #[iv 0, iv 0, .slice none 0 0]) S (wN rfl) rfl rfl [iv 0, iv 0, .slice none 0 0] rfl rfl (lb rfl) fun a b8 w S => ?_
  refine sStore (p := b8) (off := 0) (T := 24) (vs := [iv 0, iv 0, .slice none 0 0]) (v := .agg #[iv p0, iv p1, .slice ad4 ([] : List Bool).length cp5]) 0 [iv p0, iv p1, .slice ad4 ([] : List Bool).length cp5] S (wN rfl) rfl rfl rfl rfl rfl rfl rfl (by simp) rfl fun a w S => ?_
  refine leafL (leafT (hK3 _ _ ?_))
  obtain ⟨t12, h, g13⟩ := bindSome h
  refine sCut (fun a w => ∃ o9, o9 = t12 ∧ ∃ ad10, ∃ cp11, St [] E [] w0 37 a w [(6, .pointer (some ⟨b2, 0, none⟩)), (7, .pointer (some ⟨b8, 0, none⟩))] [eBox b2 24 [iv 0, iv 0, .slice none 0 0], eBox b8 24 [iv p0, iv p1, .slice ad10 o9.length cp11], eRow rB 4 (.slice ad10 o9.length cp11) o9] []) ?_ (fun a w hI => ?_)
  rotate_left
  · obtain ⟨o9, rfl, ad10, cp11, S⟩ := hI
    have h := g13
    clear g13
    try dsimp only at h
    refine sSeq (fun K62 hK62 => ?_)
    refine sRegion ?_
    refine sLoadN (p := b8) (off := 0) (T := 24) (vs := [iv p0, iv p1, .slice ad10 o9.length cp11]) 1 [iv p0, iv p1, .slice ad10 o9.length cp11] S (wN rfl) rfl rfl rfl rfl rfl rfl rfl (lb rfl) fun a S => ?_
    refine sStore (p := b2) (off := 0) (T := 24) (vs := [iv 0, iv 0, .slice none 0 0]) (v := .agg #[iv p0, iv p1, .slice ad10 o9.length cp11]) 0 [iv p0, iv p1, .slice ad10 o9.length cp11] S (wN rfl) rfl rfl rfl rfl rfl rfl rfl (by simp) rfl fun a w S => ?_
    refine leafL (leafT (hK62 _ _ ?_))
    obtain rfl := Option.some.inj h
    have S := S.shutR (r := rB) (T := 4) (v := .slice ad10 o9.length cp11) (xs := o9) 2 rfl
    have S := S.learn (fRep r_api_Grid (.agg #[iv p0, iv p1, .slice ad10 o9.length cp11]) (api_Grid.mk p0 p1 o9)) ⟨_, rfl, S.mem.know (i := 0) (e := fRep (rL rB) (.slice ad10 o9.length cp11) o9) rfl⟩
    exact wp_ret (sRet (.agg #[iv p0, iv p1, .slice ad10 o9.length cp11]) S (rsl1 rfl (rvN (c := 6) (t := 24) (T := 24) (p := b2) 0 [iv p0, iv p1, .slice ad10 o9.length cp11] S rfl rfl rfl rfl)) ⟨(.agg #[iv p0, iv p1, .slice ad10 o9.length cp11]), rfl, S.mem.sel [] [0] (by decide) rfl rfl⟩)
  refine sSeq (fun K14 hK14 => ?_)
  refine sRegion ?_
  refine sMove (iv p1) S (wN rfl) (.inl rfl) rfl rfl (lb rfl) fun a S => ?_
  refine sMove (iv 0) S (wN rfl) (.inl rfl) rfl rfl (lb rfl) fun a S => ?_
  refine leafL (leafT (hK14 _ _ ?_))
  refine wp_block ?_
  obtain ⟨t21, hl, g20⟩ := bindSome h
  refine sLoop hl (fun s0 a w => match s0 with | (s15, s16) => ∃ ad17, ∃ cp18, St [] E [] w0 37 a w [(0, iv p0), (2, .func (.func 65) #[] #[v2]), (6, .pointer (some ⟨b2, 0, none⟩)), (7, .pointer (some ⟨b8, 0, none⟩)), (17, iv p1), (18, iv s15)] [eBox b2 24 [iv 0, iv 0, .slice none 0 0], eBox b8 24 [iv p0, iv p1, .slice ad17 s16.length cp18], eRow rB 4 (.slice ad17 s16.length cp18) s16] [fPtr r_api_Grid (v2) p2]) ⟨ad4, cp5, S.fix [2, 0, 1] [0] (by decide) rfl rfl rfl⟩ ?_
  clear hl h
  intro s0 a w c0 hI h hu19
  obtain ⟨s15, s16⟩ := s0
  unfold grid_build_s0_l2 at h
  dsimp only at h hI
  obtain ⟨ad17, cp18, S⟩ := hI
  refine sSeq (fun K25 hK25 => ?_)
  refine sRegion ?_
  refine sBin (.bool (decide (s15 < p1))) S (wN rfl) rfl rfl rfl (bLt _ _ _ _ .i64 s15 p1) rfl (lb rfl) fun a S => ?_
  refine leafL (leafT (hK25 _ _ ?_))
  refine sSeq (fun K26 hK26 => ?_)
  rcases iteSome h with ⟨hc27, h⟩ | ⟨hc27, h⟩
  rotate_left
  · refine sCondF S rfl hc27 ?_
    obtain rfl := Option.some.inj h
    obtain rfl := hu19 _ rfl
    have h := g20
    clear g20
    try dsimp only at h
    exact wp_exit (xThen (xThen (xHit (leafT (⟨s16, Option.some.inj h, ad17, cp18, S.fix [0, 1, 2] [] (by decide) rfl rfl rfl⟩)))))
  refine sCondT S rfl hc27 ?_
  refine wp_skip (leafT (hK26 _ _ ?_))
  obtain ⟨t31, h, g32⟩ := bindSome h
  refine sCut (fun a w => ∃ o28, o28 = t31 ∧ ∃ ad29, ∃ cp30, St [] E [] w0 37 a w [(0, iv p0), (2, .func (.func 65) #[] #[v2]), (6, .pointer (some ⟨b2, 0, none⟩)), (7, .pointer (some ⟨b8, 0, none⟩)), (17, iv p1), (18, iv s15)] [eBox b2 24 [iv 0, iv 0, .slice none 0 0], eBox b8 24 [iv p0, iv p1, .slice ad29 o28.length cp30], eRow rB 4 (.slice ad29 o28.length cp30) o28] [fPtr r_api_Grid (v2) p2]) ?_ (fun a w hI => ?_)
  rotate_left
  · obtain ⟨o28, rfl, ad29, cp30, S⟩ := hI
    have h := g32
    clear g32
    try dsimp only at h
    refine sRegion ?_
    refine sBin (iv (w64 (s15 + 1))) S (wN rfl) rfl rfl rfl (bAdd _ _ _ _ s15 1) rfl (lb rfl) fun a S => ?_
    refine sMove (iv (w64 (s15 + 1))) S (wN rfl) (.inl rfl) rfl rfl (lb rfl) fun a S => ?_
    exact leafL (leafT (⟨(w64 (s15 + 1), o28), (Option.some.inj h).symm, ⟨ad29, cp30, S.fix [0, 1, 2] [0] (by decide) rfl rfl rfl⟩⟩))
  refine wp_block ?_
  refine sSeq (fun K33 hK33 => ?_)
  refine sRegion ?_
  refine sMove (iv s15) S (wN rfl) (.inl rfl) rfl rfl (lb rfl) fun a S => ?_
  refine sMove (iv s15) S (wN rfl) (.inr rfl) rfl rfl (lb rfl) fun a S => ?_
  refine leafL (leafT (hK33 _ _ ?_))
  refine sSeq (fun K34 hK34 => ?_)
  refine sRegion ?_
  refine sMove (iv p0) S (wN rfl) (.inl rfl) rfl rfl (lb rfl) fun a S => ?_
  refine sMove (iv 0) S (wN rfl) (.inl rfl) rfl rfl (lb rfl) fun a S => ?_
  refine leafL (leafT (hK34 _ _ ?_))
  refine wp_block ?_
  obtain ⟨t41, hl, g40⟩ := bindSome h
  refine sLoop hl (fun s0 a w => match s0 with | (s35, s36) => ∃ ad37, ∃ cp38, St [] E [] w0 37 a w [(0, iv p0), (2, .func (.func 65) #[] #[v2]), (6, .pointer (some ⟨b2, 0, none⟩)), (7, .pointer (some ⟨b8, 0, none⟩)), (8, iv s15), (17, iv p1), (18, iv s15), (21, iv p0), (22, iv s35)] [eBox b2 24 [iv 0, iv 0, .slice none 0 0], eBox b8 24 [iv p0, iv p1, .slice ad37 s36.length cp38], eRow rB 4 (.slice ad37 s36.length cp38) s36] [fPtr r_api_Grid (v2) p2]) ⟨ad17, cp18, S.fix [0, 1, 2] [0] (by decide) rfl rfl rfl⟩ ?_
  clear hl h
  intro s0 a w c0 hI h hu39
  obtain ⟨s35, s36⟩ := s0
  unfold grid_build_s0_l1 at h
  dsimp only at h hI
  obtain ⟨ad37, cp38, S⟩ := hI
  refine sSeq (fun K45 hK45 => ?_)
  refine sRegion ?_
  refine sBin (.bool (decide (s35 < p0))) S (wN rfl) rfl rfl rfl (bLt _ _ _ _ .i64 s35 p0) rfl (lb rfl) fun a S => ?_
  refine leafL (leafT (hK45 _ _ ?_))
  refine sSeq (fun K46 hK46 => ?_)
  rcases iteSome h with ⟨hc47, h⟩ | ⟨hc47, h⟩
  rotate_left
  · refine sCondF S rfl hc47 ?_
    obtain rfl := Option.some.inj h
    obtain rfl := hu39 _ rfl
    have h := g40
    clear g40
    try dsimp only at h
    exact wp_exit (xThen (xThen (xHit (leafB (leafT (⟨s36, Option.some.inj h, ad37, cp38, S.fix [0, 1, 2] [0] (by decide) rfl rfl rfl⟩))))))
  refine sCondT S rfl hc47 ?_
  refine wp_skip (leafT (hK46 _ _ ?_))
  refine sSeq (fun K48 hK48 => ?_)
  refine wp_block ?_
  refine sSeq (fun K49 hK49 => ?_)
  refine sRegion ?_
  refine sMove (iv s35) S (wN rfl) (.inl rfl) rfl rfl (lb rfl) fun a S => ?_
  refine sMove (iv s35) S (wN rfl) (.inr rfl) rfl rfl (lb rfl) fun a S => ?_
  refine leafL (leafT (hK49 _ _ ?_))
  obtain ⟨r50, hx51, h⟩ := bindSome h
  obtain ⟨l54, hx55, h⟩ := bindSome h
  refine sDraw (nf := [6, 7, 9]) (W := [(0, 25, .pointer (some ⟨b8, 2, none⟩)), (1, 26, .slice ad37 s36.length cp38), (2, 27, .func (.func 65) #[] #[v2]), (3, 28, iv s35), (4, 29, iv s15), (5, 30, .bool r50)]) rfl S ?_
  refine node_by (A := anc_grid_build_s0_0) (nf := [6, 7, 9]) (Y := []) (W := [(0, 25, .pointer (some ⟨b8, 2, none⟩)), (1, 26, .slice ad37 s36.length cp38), (2, 27, .func (.func 65) #[] #[v2]), (3, 28, iv s35), (4, 29, iv s15), (5, 30, .bool r50)]) 10 (by kernel_rfl) (by kernel_rfl) (by kernel_rfl) (by kernel_rfl) (by kernel_rfl) [0, 1, 2, 3, 4, 5] (by kernel_rfl) (by decide) (by decide) (aF 0 9 (by decide) ?_ (aF 1 8 (by decide) ?_ (aF 2 7 (by decide) ?_ (aF 3 6 (by decide) ?_ (aF 4 5 (by decide) ?_ (aF 5 4 (by decide) ?_ (aN 6 3 (by decide) ?_ (aB 7 2 6 (by decide) (aE 8 1 6 (by decide) (aB 9 0 6 (by decide) (trivial))))))))))) [] (fun q hq => by cases hq) (fun hY => absurd (hY 6 (by decide)) (by decide))
  · refine fI 25 (.pointer (some ⟨b8, 2, none⟩)) [(7, .pointer (some ⟨b8, 0, none⟩))] 0 [none] rfl rfl rfl rfl rfl rfl fun G a w S => ?_
    refine sField (b := b8) (off := 0) 2 2 S (wN rfl) rfl rfl rfl rfl rfl (lb rfl) fun a S => ?_
    exact leafL ⟨rfl, S⟩
  · refine fI 26 (.slice ad37 s36.length cp38) [(25, .pointer (some ⟨b8, 2, none⟩))] 1 [some 0] rfl rfl rfl rfl rfl rfl fun G a w S => ?_
    refine sLoad1 (p := b8) (off := 2) (T := 24) (vs := [iv p0, iv p1, .slice ad37 s36.length cp38]) 1 (.slice ad37 s36.length cp38) S (wN rfl) rfl rfl rfl rfl rfl rfl (lb rfl) fun a S => ?_
    exact leafL ⟨rfl, S⟩
  · refine fI 27 (.func (.func 65) #[] #[v2]) [(2, .func (.func 65) #[] #[v2])] 2 [none] rfl rfl rfl rfl rfl rfl fun G a w S => ?_
    refine sMove (.func (.func 65) #[] #[v2]) S (wN rfl) (.inl rfl) rfl rfl (lb rfl) fun a S => ?_
    exact leafL ⟨rfl, S⟩
  · refine fI 28 (iv s35) [(9, iv s35)] 3 [none] rfl rfl rfl rfl rfl rfl fun G a w S => ?_
    refine sMove (iv s35) S (wN rfl) (.inl rfl) rfl rfl (lb rfl) fun a S => ?_
    exact leafL ⟨rfl, S⟩
  · refine fI 29 (iv s15) [(8, iv s15)] 4 [none] rfl rfl rfl rfl rfl rfl fun G a w S => ?_
    refine sMove (iv s15) S (wN rfl) (.inl rfl) rfl rfl (lb rfl) fun a S => ?_
    exact leafL ⟨rfl, S⟩
  · refine fI 30 (.bool r50) [(27, .func (.func 65) #[] #[v2]), (28, iv s35), (29, iv s15)] 5 [some 2, some 3, some 4] rfl rfl rfl rfl rfl rfl fun G a w S => ?_
    have S1 := S.mem
    refine sCallVQ (X := Unit) (g := 65) (vs := [iv s35, iv s15]) (caps := [v2]) (val := fun _ => .bool r50) S (wN rfl) rfl rfl callee65 rfl (S1.quiet [0] rfl) (fun E1 w1 S1 => c_grid_Turn_1_s0 E1 w1 s35 s15 p2 v2 r50 hx51 S1) rfl (lb rfl) fun _ a w S => ?_
    exact leafL ⟨rfl, S⟩
  refine ⟨_, [(30, .bool r50)], rfl, (srcs_of [some 5] rfl rfl rfl), fun G a w S => ?_⟩
  refine sLit (r := rB) (T := 4) (xs := [r50]) [(0, .bool r50)] 1 [.bool r50] [.bool r50] (.bool false) 1 S (wN rfl) rfl rfl Try.underlying22 rfl (by decide) (by decide) (by kernel_rfl) rfl (fun E1 w1 hE => All.cons rfl (All.nil _ _ _)) rfl rfl (lb rfl) fun a w ad58 cp59 S => ?_
  refine leafL ⟨rfl, _, _, .inl ⟨31, (.slice ad58 [r50].length cp59), [], rfl, S, hz_of rfl, ?_⟩⟩
  refine node_by (A := anc_grid_build_s0_0) (nf := [6, 7, 9]) (Y := [6]) 10 (by kernel_rfl) (by kernel_rfl) (by kernel_rfl) (by kernel_rfl) (by kernel_rfl) [6, 0, 1, 2, 3, 4, 5] (by kernel_rfl) (by decide) (by decide) (aF 0 9 (by decide) ?_ (aF 1 8 (by decide) ?_ (aD 2 7 6 (by decide) (aD 3 6 6 (by decide) (aD 4 5 6 (by decide) (aD 5 4 6 (by decide) (aY 6 3 (by decide) (aN 7 2 (by decide) ?_ (aE 8 1 7 (by decide) (aB 9 0 7 (by decide) (trivial))))))))))) [] (fun q hq => by cases hq) (fun hY => absurd (hY 7 (by decide)) (by decide))
  · refine fI 25 (.pointer (some ⟨b8, 2, none⟩)) [(7, .pointer (some ⟨b8, 0, none⟩))] 1 [none] rfl rfl rfl rfl rfl rfl fun G a w S => ?_
    refine sField (b := b8) (off := 0) 2 2 S (wN rfl) rfl rfl rfl rfl rfl (lb rfl) fun a S => ?_
    exact leafL ⟨rfl, S⟩
  · refine fI 26 (.slice ad37 s36.length cp38) [(25, .pointer (some ⟨b8, 2, none⟩))] 2 [some 1] rfl rfl rfl rfl rfl rfl fun G a w S => ?_
    refine sLoad1 (p := b8) (off := 2) (T := 24) (vs := [iv p0, iv p1, .slice ad37 s36.length cp38]) 2 (.slice ad37 s36.length cp38) S (wN rfl) rfl rfl rfl rfl rfl rfl (lb rfl) fun a S => ?_
    exact leafL ⟨rfl, S⟩
  refine ⟨_, [(26, .slice ad37 s36.length cp38), (31, .slice ad58 [r50].length cp59)], rfl, (srcs_of [some 2, some 0] rfl rfl rfl), fun G a w S => ?_⟩
  refine sApp (r := rB) (T := 4) (xs := s36) (ys := [r50]) (v := .slice ad37 s36.length cp38) (u := .slice ad58 [r50].length cp59) 3 (.bool false) 1 S (wN rfl) rfl Try.underlying22 rfl rfl (by decide) rfl rfl rfl (src_R (T := 4) 0 S.mem rfl) hx55 rfl (lb rfl) fun a w ad60 cp61 S => ?_
  refine leafL ⟨rfl, _, _, .inl ⟨32, (.slice ad60 l54.length cp61), [(8, 33, .pointer (some ⟨b8, 2, none⟩))], rfl, S, hz_of rfl, ?_⟩⟩
  refine node_by (A := anc_grid_build_s0_0) (nf := [6, 7, 9]) (Y := [7, 6]) 10 (by kernel_rfl) (by kernel_rfl) (by kernel_rfl) (by kernel_rfl) (by kernel_rfl) [8, 7, 6, 0, 1, 2, 3, 4, 5] (by kernel_rfl) (by decide) (by decide) (aD 0 9 7 (by decide) (aD 1 8 7 (by decide) (aD 2 7 7 (by decide) (aD 3 6 7 (by decide) (aD 4 5 7 (by decide) (aD 5 4 7 (by decide) (aY 6 3 (by decide) (aY 7 2 (by decide) (aF 8 1 (by decide) ?_ (aN 9 0 (by decide) ?_ (trivial))))))))))) [] (fun q hq => by cases hq) (fun hY => absurd (hY 9 (by decide)) (by decide))
  · refine fI 33 (.pointer (some ⟨b8, 2, none⟩)) [(7, .pointer (some ⟨b8, 0, none⟩))] 0 [none] rfl rfl rfl rfl rfl rfl fun G a w S => ?_
    refine sField (b := b8) (off := 0) 2 2 S (wN rfl) rfl rfl rfl rfl rfl (lb rfl) fun a S => ?_
    exact leafL ⟨rfl, S⟩
  refine ⟨_, [(32, .slice ad60 l54.length cp61), (33, .pointer (some ⟨b8, 2, none⟩))], rfl, (srcs_of [some 1, some 0] rfl rfl rfl), fun G a w S => ?_⟩
  refine sStore (p := b8) (off := 2) (T := 24) (vs := [iv p0, iv p1, .slice ad37 s36.length cp38]) (v := .slice ad60 l54.length cp61) 3 [.slice ad60 l54.length cp61] S (wN rfl) rfl rfl rfl rfl rfl rfl rfl (by simp) rfl fun a w S => ?_
  refine leafL ⟨rfl, _, _, .inr ⟨[], rfl, S, hz_of rfl, ?_⟩⟩
  refine node_by (A := anc_grid_build_s0_0) (nf := [6, 7, 9]) (Y := [9, 7, 6]) 10 (by kernel_rfl) (by kernel_rfl) (by kernel_rfl) (by kernel_rfl) (by kernel_rfl) [8, 7, 6, 0, 1, 2, 3, 4, 5] (by kernel_rfl) (by decide) (by decide) (aD 0 9 9 (by decide) (aD 1 8 9 (by decide) (aD 2 7 9 (by decide) (aD 3 6 9 (by decide) (aD 4 5 9 (by decide) (aD 5 4 9 (by decide) (aY 6 3 (by decide) (aY 7 2 (by decide) (aD 8 1 9 (by decide) (aY 9 0 (by decide) (trivial))))))))))) [(0, iv p0), (2, .func (.func 65) #[] #[v2]), (6, .pointer (some ⟨b2, 0, none⟩)), (7, .pointer (some ⟨b8, 0, none⟩)), (8, iv s15), (17, iv p1), (18, iv s15), (21, iv p0), (22, iv s35)] (fin_of [none, none, none, none, none, none, none, none, none] rfl (by kernel_rfl) (by kernel_rfl)) (fun _ a w S => ?_)
  refine leafB (leafT (hK48 _ _ ?_))
  refine sRegion ?_
  refine sBin (iv (w64 (s35 + 1))) S (wN rfl) rfl rfl rfl (bAdd _ _ _ _ s35 1) rfl (lb rfl) fun a S => ?_
  refine sMove (iv (w64 (s35 + 1))) S (wN rfl) (.inl rfl) rfl rfl (lb rfl) fun a S => ?_
  exact leafL (leafT (⟨(w64 (s35 + 1), l54), (Option.some.inj h).symm, ⟨ad60, cp61, S.fix [3, 0, 1] [0] (by decide) rfl rfl rfl⟩⟩))

end Go.Proofs.Ythfifeabomdlpaa
namespace Go.Proofs.Ythfifeabomdlpaa
open Go.RowKit
set_option linter.unusedVariables false

noncomputable def F_grid_Turn (p0 : api_Grid) : Option (api_Grid × Int) :=
  Option.bind (F_grid_Check p0) fun r10 =>
  if r10 != 0 then
    some ((api_Grid.mk 0 0 ([] : (List Bool))), r10)
  else
    Option.bind (F_grid_build_s0 p0.H p0.W p0) fun r16 =>
    some (r16, 0)
def c_grid_Turn_val (r : (api_Grid × Int)) (x : Value) : Value := .tuple #[x, .int .i64 r.2]
def c_grid_Turn_D (r : (api_Grid × Int)) (x : Value) : List Fact := [fRep r_api_Grid x r.1]
set_option maxHeartbeats 4000000 in
set_option maxRecDepth 100000 in
theorem c_grid_Turn (E : Nat → Prop) (w0 : World) (p0 : api_Grid) (v0 : Value) (r : (api_Grid × Int)) (h : F_grid_Turn p0 = some r) (S : St0 E [] w0 w0 [] [fRep r_api_Grid (v0) p0]) :
    Calls Try.prog 33 #[v0] w0 (Ret (X := Value) E [] w0 (c_grid_Turn_val r) (fun _ => []) (c_grid_Turn_D r)) := by
  unfold F_grid_Turn at h
  obtain ⟨u1, rfl, hu2⟩ := S.know (i := 0) (e := fRep r_api_Grid (v0) p0) rfl
  have S := S.learn (fRep (rL rB) u1 p0.Bits) hu2
  obtain ⟨ad3, cp4, _, rfl, _⟩ := hu2
  refine sEnter (args := [.agg #[iv p0.W, iv p0.H, .slice ad3 p0.Bits.length cp4]]) 17 Try.func33 rfl rfl (by simp) S (fun a S => ?_)
  refine sSeq (fun K5 hK5 => ?_)
  refine sRegion ?_
  refine sBox (v := .agg #[iv p0.W, iv p0.H, .slice ad3 p0.Bits.length cp4]) S (wN rfl) rfl rfl [iv p0.W, iv p0.H, .slice ad3 p0.Bits.length cp4] rfl rfl (lb rfl) fun a b6 w S => ?_
  refine sAlloc (.agg #[iv 0, iv 0, .slice none 0 0]) S (wN rfl) rfl rfl [iv 0, iv 0, .slice none 0 0] rfl rfl (lb rfl) fun a b7 w S => ?_
  refine sMove (iv 0) S (wN rfl) (.inr rfl) rfl rfl (lb rfl) fun a S => ?_
  refine leafL (leafT (hK5 _ _ ?_))
  refine sSeq (fun K8 hK8 => ?_)
  refine sSeq (fun K9 hK9 => ?_)
  refine sRegion ?_
  refine sLoadN (p := b6) (off := 0) (T := 24) (vs := [iv p0.W, iv p0.H, .slice ad3 p0.Bits.length cp4]) 1 [iv p0.W, iv p0.H, .slice ad3 p0.Bits.length cp4] S (wN rfl) rfl rfl rfl rfl rfl rfl rfl (lb rfl) fun a S => ?_
  obtain ⟨r10, hx11, h⟩ := bindSome h
  have S1 := S.mem
  refine sCallQ (X := Unit) (f := 63) (vs := [.agg #[iv p0.W, iv p0.H, .slice ad3 p0.Bits.length cp4]]) (val := fun _ => iv r10) S (wN rfl) rfl callee63 rfl (S1.quiet [1] rfl) (fun E1 w1 S1 => c_grid_Check E1 w1 p0 (.agg #[iv p0.W, iv p0.H, .slice ad3 p0.Bits.length cp4]) r10 hx11 S1) rfl (lb rfl) fun _ a w S => ?_
  refine sMove (iv r10) S (wN rfl) (.inr rfl) rfl rfl (lb rfl) fun a S => ?_
  refine leafL (leafT (hK9 _ _ ?_))
  refine sSeq (fun K12 hK12 => ?_)
  refine sRegion ?_
  refine sMove (iv r10) S (wN rfl) (.inl rfl) rfl rfl (lb rfl) fun a S => ?_
  refine sBin (.bool (r10 != 0)) S (wN rfl) rfl rfl rfl (bNe _ _ _ _ .i64 r10 0) rfl (lb rfl) fun a S => ?_
  refine leafL (leafT (hK12 _ _ ?_))
  rcases iteSome h with ⟨hc13, h⟩ | ⟨hc13, h⟩
  · refine sCondT S rfl hc13 ?_
    refine sSeq (fun K14 hK14 => ?_)
    refine sRegion ?_
    refine sBuild [] [iv 0, iv 0, .slice none 0 0] S (wN rfl) rfl rfl rfl rfl (lb rfl) fun a S => ?_
    refine sMove (iv r10) S (wN rfl) (.inl rfl) rfl rfl (lb rfl) fun a S => ?_
    refine sStore (p := b7) (off := 0) (T := 24) (vs := [iv 0, iv 0, .slice none 0 0]) (v := .agg #[iv 0, iv 0, .slice none 0 0]) 0 [iv 0, iv 0, .slice none 0 0] S (wN rfl) rfl rfl rfl rfl rfl rfl rfl (by simp) rfl fun a w S => ?_
    refine sMove (iv r10) S (wN rfl) (.inr rfl) rfl rfl (lb rfl) fun a S => ?_
    refine leafL (leafT (hK14 _ _ ?_))
    obtain rfl := Option.some.inj h
    have S := S.learn (fRep (rL rB) (.slice none 0 0) ([] : (List Bool))) (rL_nil _ _ _)
    have S := S.learn (fRep r_api_Grid (.agg #[iv 0, iv 0, .slice none 0 0]) (api_Grid.mk 0 0 ([] : (List Bool)))) ⟨_, rfl, S.mem.know (i := 0) (e := fRep (rL rB) (.slice none 0 0) ([] : (List Bool))) rfl⟩
    exact wp_ret (rThen (sRet (.tuple #[.agg #[iv 0, iv 0, .slice none 0 0], iv r10]) S (rsl2 rfl (rvN (c := 2) (t := 24) (T := 24) (p := b7) 0 [iv 0, iv 0, .slice none 0 0] S rfl rfl rfl rfl) (rvT (t := 3) (v := iv r10) S rfl)) ⟨(.agg #[iv 0, iv 0, .slice none 0 0]), rfl, S.mem.sel [] [0] (by decide) rfl rfl⟩))
  refine sCondF S rfl hc13 ?_
  refine wp_skip (leafT (hK8 _ _ ?_))
  refine sSeq (fun K15 hK15 => ?_)
  refine sRegion ?_
  refine sField (b := b6) (off := 0) 1 1 S (wN rfl) rfl rfl rfl rfl rfl (lb rfl) fun a S => ?_
  refine sLoad1 (p := b6) (off := 1) (T := 24) (vs := [iv p0.W, iv p0.H, .slice ad3 p0.Bits.length cp4]) 1 (iv p0.H) S (wN rfl) rfl rfl rfl rfl rfl rfl (lb rfl) fun a S => ?_
  refine sField (b := b6) (off := 0) 0 0 S (wN rfl) rfl rfl rfl rfl rfl (lb rfl) fun a S => ?_
  refine sLoad1 (p := b6) (off := 0) (T := 24) (vs := [iv p0.W, iv p0.H, .slice ad3 p0.Bits.length cp4]) 1 (iv p0.W) S (wN rfl) rfl rfl rfl rfl rfl rfl (lb rfl) fun a S => ?_
  refine sFunc (g := 65) (vs := [.pointer (some ⟨b6, 0, none⟩)]) S (wN rfl) rfl rfl rfl (lb rfl) fun a S => ?_
  obtain ⟨r16, hx17, h⟩ := bindSome h
  have S := S.shutB (r := r_api_Grid) (T := 24) (b := b6) (cs := [iv p0.W, iv p0.H, .slice ad3 p0.Bits.length cp4]) 1 (.agg #[iv p0.W, iv p0.H, .slice ad3 p0.Bits.length cp4]) p0 rfl rfl (S.mem.know (i := 1) (e := fRep r_api_Grid (.agg #[iv p0.W, iv p0.H, .slice ad3 p0.Bits.length cp4]) p0) rfl)
  refine sCall (X := Value) (f := 64) (vs := [iv p0.H, iv p0.W, .func (.func 65) #[] #[.pointer (some ⟨b6, 0, none⟩)]]) (val := c_grid_build_s0_val r16) (B' := fun _ => []) (D' := c_grid_build_s0_D r16) [] [eBox b7 24 [iv 0, iv 0, .slice none 0 0]] [fPtr r_api_Grid (.pointer (some ⟨b6, 0, none⟩)) p0] [0] [0] S (wN rfl) rfl callee64 rfl (by decide) rfl rfl (fun E1 w1 S1 => c_grid_build_s0 E1 w1 p0.H p0.W p0 (.pointer (some ⟨b6, 0, none⟩)) r16 hx17 S1) rfl (lb rfl) fun u18 a w S => ?_
  obtain ⟨u19, rfl, hu20⟩ := S.mem.know (i := 0) (e := fRep r_api_Grid (u18) r16) rfl
  have S := S.learn (fRep (rL rB) u19 r16.Bits) hu20
  obtain ⟨ad21, cp22, _, rfl, _⟩ := hu20
  refine sStore (p := b7) (off := 0) (T := 24) (vs := [iv 0, iv 0, .slice none 0 0]) (v := .agg #[iv r16.W, iv r16.H, .slice ad21 r16.Bits.length cp22]) 0 [iv r16.W, iv r16.H, .slice ad21 r16.Bits.length cp22] S (wN rfl) rfl rfl rfl rfl rfl rfl rfl (by simp) rfl fun a w S => ?_
  refine sMove (iv 0) S (wN rfl) (.inr rfl) rfl rfl (lb rfl) fun a S => ?_
  refine leafL (leafT (hK15 _ _ ?_))
  obtain rfl := Option.some.inj h
  exact wp_ret (sRet (.tuple #[.agg #[iv r16.W, iv r16.H, .slice ad21 r16.Bits.length cp22], iv 0]) S (rsl2 rfl (rvN (c := 2) (t := 24) (T := 24) (p := b7) 0 [iv r16.W, iv r16.H, .slice ad21 r16.Bits.length cp22] S rfl rfl rfl rfl) (rvT (t := 3) (v := iv 0) S rfl)) ⟨(.agg #[iv r16.W, iv r16.H, .slice ad21 r16.Bits.length cp22]), rfl, S.mem.sel [] [1] (by decide) rfl rfl⟩)

end Go.Proofs.Ythfifeabomdlpaa
namespace Go.Proofs.Ythfifeabomdlpaa
open Go.RowKit
set_option linter.unusedVariables false

noncomputable def F_grid_around (p0 : Int) (p1 : Int) : Option Int :=
  Option.bind (α := Int) (
    Option.bind (remI p0 p1) fun z6 =>
    if decide (z6 < 0) then
      some (w64 (z6 + p1))
    else
      some z6) fun o2 =>
  some o2
set_option maxHeartbeats 4000000 in
set_option maxRecDepth 100000 in
theorem c_grid_around (E : Nat → Prop) (w0 : World) (p0 : Int) (p1 : Int) (r : Int) (h : F_grid_around p0 p1 = some r) (S : St0 E [] w0 w0 [] []) :
    Calls Try.prog 66 #[iv p0, iv p1] w0 (Ret (X := Unit) E [] w0 (fun _ => .int .i64 r) (fun _ => []) (fun _ => [])) := by
  unfold F_grid_around at h
  refine sEnter (args := [iv p0, iv p1]) 14 Try.func66 rfl rfl (by simp) S (fun a S => ?_)
  refine sSeq (fun K1 hK1 => ?_)
  refine sRegion ?_
  refine sMove (iv 0) S (wN rfl) (.inr rfl) rfl rfl (lb rfl) fun a S => ?_
  refine leafL (leafT (hK1 _ _ ?_))
  obtain ⟨t3, h, g4⟩ := bindSome h
  refine sCut (fun a w => ∃ o2, o2 = t3 ∧ St [] E [] w0 14 a w [(0, iv o2)] [] []) ?_ (fun a w hI => ?_)
  rotate_left
  · obtain ⟨o2, rfl, S⟩ := hI
    have h := g4
    clear g4
    try dsimp only at h
    refine sSeq (fun K10 hK10 => ?_)
    refine sRegion ?_
    refine sMove (iv o2) S (wN rfl) (.inl rfl) rfl rfl (lb rfl) fun a S => ?_
    refine sMove (iv o2) S (wN rfl) (.inr rfl) rfl rfl (lb rfl) fun a S => ?_
    refine leafL (leafT (hK10 _ _ ?_))
    obtain rfl := Option.some.inj h
    exact wp_ret (sRet (iv o2) S (rsl1 rfl (rvT (t := 4) (v := iv o2) S rfl)) ⟨(), rfl, S.mem.sel [] [] (by decide) rfl rfl⟩)
  refine sSeq (fun K5 hK5 => ?_)
  refine sRegion ?_
  refine sMove (iv p0) S (wN rfl) (.inl rfl) rfl rfl (lb rfl) fun a S => ?_
  refine sMove (iv p1) S (wN rfl) (.inl rfl) rfl rfl (lb rfl) fun a S => ?_
  obtain ⟨z6, hx7, h⟩ := bindSome h
  refine sBin (iv z6) S (wN rfl) rfl rfl rfl (bRem _ _ _ _ (x := p0) (y := p1) hx7) rfl (lb rfl) fun a S => ?_
  refine sMove (iv z6) S (wN rfl) (.inr rfl) rfl rfl (lb rfl) fun a S => ?_
  refine leafL (leafT (hK5 _ _ ?_))
  refine sSeq (fun K8 hK8 => ?_)
  refine sRegion ?_
  refine sMove (iv z6) S (wN rfl) (.inl rfl) rfl rfl (lb rfl) fun a S => ?_
  refine sBin (.bool (decide (z6 < 0))) S (wN rfl) rfl rfl rfl (bLt _ _ _ _ .i64 z6 0) rfl (lb rfl) fun a S => ?_
  refine leafL (leafT (hK8 _ _ ?_))
  rcases iteSome h with ⟨hc9, h⟩ | ⟨hc9, h⟩
  rotate_left
  · refine sCondF S rfl hc9 ?_
    exact wp_skip (leafT (⟨z6, Option.some.inj h, S.fix [] [] (by decide) rfl rfl rfl⟩))
  refine sCondT S rfl hc9 ?_
  refine sRegion ?_
  refine sMove (iv z6) S (wN rfl) (.inl rfl) rfl rfl (lb rfl) fun a S => ?_
  refine sMove (iv p1) S (wN rfl) (.inl rfl) rfl rfl (lb rfl) fun a S => ?_
  refine sBin (iv (w64 (z6 + p1))) S (wN rfl) rfl rfl rfl (bAdd _ _ _ _ z6 p1) rfl (lb rfl) fun a S => ?_
  refine sMove (iv (w64 (z6 + p1))) S (wN rfl) (.inr rfl) rfl rfl (lb rfl) fun a S => ?_
  exact leafL (leafT (⟨w64 (z6 + p1), Option.some.inj h, S.fix [] [] (by decide) rfl rfl rfl⟩))

end Go.Proofs.Ythfifeabomdlpaa
namespace Go.Proofs.Ythfifeabomdlpaa
open Go.RowKit
set_option linter.unusedVariables false

def anc_grid_Shift_1_s0_0 : List (List Nat) := [[], [0], [], [], [2, 3], [], [5], [2, 3, 4, 5, 6], [], [8], [2, 3, 4, 5, 6, 7, 8, 9], [], [], [11, 12], [], [14], [2, 3, 4, 5, 6, 7, 11, 12, 13, 14, 15], [2, 3, 4, 5, 6, 7, 8, 9, 10, 11, 12, 13, 14, 15, 16], [0, 1, 2, 3, 4, 5, 6, 7, 8, 9, 10, 11, 12, 13, 14, 15, 16, 17], [0, 1, 2, 3, 4, 5, 6, 7, 8, 9, 10, 11, 12, 13, 14, 15, 16, 17, 18], [0, 1, 2, 3, 4, 5, 6, 7, 8, 9, 10, 11, 12, 13, 14, 15, 16, 17, 18, 19]]
noncomputable def F_grid_Shift_1_s0 (p0 : Int) (p1 : Int) (p2 : api_Grid) (p3 : Int) (p4 : Int) : Option Bool :=
  Option.bind (F_grid_around (w64 (p1 - p3)) p2.H) fun r12 =>
  Option.bind (F_grid_around (w64 (p0 - p4)) p2.W) fun r21 =>
  Option.bind (idxO p2.Bits (w64 ((w64 (r12 * p2.W)) + r21))) fun x23 =>
  some x23
set_option maxHeartbeats 4000000 in
set_option maxRecDepth 100000 in
theorem c_grid_Shift_1_s0 (E : Nat → Prop) (w0 : World) (p0 : Int) (p1 : Int) (p2 : api_Grid) (v2 : Value) (p3 : Int) (v3 : Value) (p4 : Int) (v4 : Value) (r : Bool) (h : F_grid_Shift_1_s0 p0 p1 p2 p3 p4 = some r) (S : St0 E [] w0 w0 [] [fPtr r_api_Grid (v2) p2, fPtr (rI .i64) (v3) p3, fPtr (rI .i64) (v4) p4]) :
    Calls Try.prog 67 #[iv p0, iv p1, v2, v3, v4] w0 (Ret (X := Unit) E [] w0 (fun _ => .bool r) (fun _ => []) (fun _ => [])) := by
  unfold F_grid_Shift_1_s0 at h
  refine sEnter (args := [iv p0, iv p1, v2, v3, v4]) 28 Try.func67 rfl rfl (by simp) S (fun a S => ?_)
  refine sSeq (fun K1 hK1 => ?_)
  refine sRegion ?_
  refine sMove (.bool false) S (wN rfl) (.inr rfl) rfl rfl (lb rfl) fun a S => ?_
  refine leafL (leafT (hK1 _ _ ?_))
  refine sSeq (fun K2 hK2 => ?_)
  obtain ⟨r12, hx13, h⟩ := bindSome h
  obtain ⟨r21, hx22, h⟩ := bindSome h
  obtain ⟨x23, hx24, h⟩ := bindSome h
  obtain ⟨q28, hq29, S⟩ := pFld (P := Try.prog) (r := r_api_Grid) (s2 := (rL rB)) (g := (·.Bits)) (q := v2) (z := p2) 24 2 0 2 S rfl rfl comp_api_Grid_Bits
  obtain ⟨u30, S⟩ := pLoad (r := (rL rB)) (q := q28) (x := p2.Bits) 0 S rfl
  obtain ⟨ad31, cp32, _, rfl, _⟩ := S.mem.know (i := 1) (e := fRep (rL rB) (u30) p2.Bits) rfl
  obtain ⟨u33, S⟩ := pLoad (r := (rI .i64)) (q := v3) (x := p3) 4 S rfl
  obtain rfl : u33 = iv p3 := S.mem.know (i := 1) (e := fRep (rI .i64) (u33) p3) rfl
  obtain ⟨q34, hq35, S⟩ := pFld (P := Try.prog) (r := r_api_Grid) (s2 := (rI .i64)) (g := (·.H)) (q := v2) (z := p2) 24 1 5 1 S rfl rfl comp_api_Grid_H
  obtain ⟨u36, S⟩ := pLoad (r := (rI .i64)) (q := q34) (x := p2.H) 0 S rfl
  obtain rfl : u36 = iv p2.H := S.mem.know (i := 1) (e := fRep (rI .i64) (u36) p2.H) rfl
  obtain ⟨q37, hq38, S⟩ := pFld (P := Try.prog) (r := r_api_Grid) (s2 := (rI .i64)) (g := (·.W)) (q := v2) (z := p2) 24 0 8 0 S rfl rfl comp_api_Grid_W
  obtain ⟨u39, S⟩ := pLoad (r := (rI .i64)) (q := q37) (x := p2.W) 0 S rfl
  obtain rfl : u39 = iv p2.W := S.mem.know (i := 1) (e := fRep (rI .i64) (u39) p2.W) rfl
  obtain ⟨u40, S⟩ := pLoad (r := (rI .i64)) (q := v4) (x := p4) 13 S rfl
  obtain rfl : u40 = iv p4 := S.mem.know (i := 1) (e := fRep (rI .i64) (u40) p4) rfl
  obtain ⟨q41, hq42, S⟩ := pFld (P := Try.prog) (r := r_api_Grid) (s2 := (rI .i64)) (g := (·.W)) (q := v2) (z := p2) 24 0 13 0 S rfl rfl comp_api_Grid_W
  obtain ⟨u43, S⟩ := pLoad (r := (rI .i64)) (q := q41) (x := p2.W) 0 S rfl
  obtain rfl : u43 = iv p2.W := S.mem.know (i := 1) (e := fRep (rI .i64) (u43) p2.W) rfl
  obtain ⟨q44, hq45, S⟩ := pIdx (P := Try.prog) (r := rB) (v := .slice ad31 p2.Bits.length cp32) (xs := p2.Bits) (j := w64 ((w64 (r12 * p2.W)) + r21)) 22 4 14 S Try.underlying22 rfl rfl hx24
  obtain ⟨u46, S⟩ := pLoad (r := rB) (q := q44) (x := x23) 0 S rfl
  obtain rfl : u46 = .bool x23 := S.mem.know (i := 1) (e := fRep rB (u46) x23) rfl
  refine sDraw (nf := []) (W := [(0, 8, q28), (1, 9, .slice ad31 p2.Bits.length cp32), (2, 10, iv p1), (3, 11, iv p3), (4, 12, iv (w64 (p1 - p3))), (5, 13, q34), (6, 14, iv p2.H), (7, 15, iv r12), (8, 16, q37), (9, 17, iv p2.W), (10, 18, iv (w64 (r12 * p2.W))), (11, 19, iv p0), (12, 20, iv p4), (13, 21, iv (w64 (p0 - p4))), (14, 22, q41), (15, 23, iv p2.W), (16, 24, iv r21), (17, 25, iv (w64 ((w64 (r12 * p2.W)) + r21))), (18, 26, q44), (19, 27, .bool x23), (20, 7, .bool x23)]) rfl S ?_
  refine node_by (A := anc_grid_Shift_1_s0_0) (nf := []) (Y := []) (W := [(0, 8, q28), (1, 9, .slice ad31 p2.Bits.length cp32), (2, 10, iv p1), (3, 11, iv p3), (4, 12, iv (w64 (p1 - p3))), (5, 13, q34), (6, 14, iv p2.H), (7, 15, iv r12), (8, 16, q37), (9, 17, iv p2.W), (10, 18, iv (w64 (r12 * p2.W))), (11, 19, iv p0), (12, 20, iv p4), (13, 21, iv (w64 (p0 - p4))), (14, 22, q41), (15, 23, iv p2.W), (16, 24, iv r21), (17, 25, iv (w64 ((w64 (r12 * p2.W)) + r21))), (18, 26, q44), (19, 27, .bool x23), (20, 7, .bool x23)]) 21 (by kernel_rfl) (by kernel_rfl) (by kernel_rfl) (by kernel_rfl) (by kernel_rfl) [0, 1, 2, 3, 4, 5, 6, 7, 8, 9, 10, 11, 12, 13, 14, 15, 16, 17, 18, 19, 20] (by kernel_rfl) (by decide) (by decide) (aF 0 20 (by decide) ?_ (aF 1 19 (by decide) ?_ (aF 2 18 (by decide) ?_ (aF 3 17 (by decide) ?_ (aF 4 16 (by decide) ?_ (aF 5 15 (by decide) ?_ (aF 6 14 (by decide) ?_ (aF 7 13 (by decide) ?_ (aF 8 12 (by decide) ?_ (aF 9 11 (by decide) ?_ (aF 10 10 (by decide) ?_ (aF 11 9 (by decide) ?_ (aF 12 8 (by decide) ?_ (aF 13 7 (by decide) ?_ (aF 14 6 (by decide) ?_ (aF 15 5 (by decide) ?_ (aF 16 4 (by decide) ?_ (aF 17 3 (by decide) ?_ (aF 18 2 (by decide) ?_ (aF 19 1 (by decide) ?_ (aF 20 0 (by decide) ?_ (trivial)))))))))))))))))))))) [(7, .bool x23)] (fin_of [some 20] rfl (by kernel_rfl) (by kernel_rfl)) (fun _ a w S => ?_)
  · refine fI 8 q28 [(2, v2)] 0 [none] rfl rfl rfl rfl rfl rfl fun G a w S => ?_
    refine sFldV (q := v2) S (wN rfl) rfl rfl hq29 rfl (lb rfl) fun a S => ?_
    exact leafL ⟨rfl, S⟩
  · refine fI 9 (.slice ad31 p2.Bits.length cp32) [(8, q28)] 1 [some 0] rfl rfl rfl rfl rfl rfl fun G a w S => ?_
    refine sLoadV1 (vq := q28) 16 (.slice ad31 p2.Bits.length cp32) S (wN rfl) rfl rfl rfl rfl rfl (lb rfl) fun a S => ?_
    exact leafL ⟨rfl, S⟩
  · refine fI 10 (iv p1) [(1, iv p1)] 2 [none] rfl rfl rfl rfl rfl rfl fun G a w S => ?_
    refine sMove (iv p1) S (wN rfl) (.inl rfl) rfl rfl (lb rfl) fun a S => ?_
    exact leafL ⟨rfl, S⟩
  · refine fI 11 (iv p3) [(3, v3)] 3 [none] rfl rfl rfl rfl rfl rfl fun G a w S => ?_
    refine sLoadV1 (vq := v3) 14 (iv p3) S (wN rfl) rfl rfl rfl rfl rfl (lb rfl) fun a S => ?_
    exact leafL ⟨rfl, S⟩
  · refine fI 12 (iv (w64 (p1 - p3))) [(10, iv p1), (11, iv p3)] 4 [some 2, some 3] rfl rfl rfl rfl rfl rfl fun G a w S => ?_
    refine sBin (iv (w64 (p1 - p3))) S (wN rfl) rfl rfl rfl (bSub _ _ _ _ p1 p3) rfl (lb rfl) fun a S => ?_
    exact leafL ⟨rfl, S⟩
  · refine fI 13 q34 [(2, v2)] 5 [none] rfl rfl rfl rfl rfl rfl fun G a w S => ?_
    refine sFldV (q := v2) S (wN rfl) rfl rfl hq35 rfl (lb rfl) fun a S => ?_
    exact leafL ⟨rfl, S⟩
  · refine fI 14 (iv p2.H) [(13, q34)] 6 [some 5] rfl rfl rfl rfl rfl rfl fun G a w S => ?_
    refine sLoadV1 (vq := q34) 11 (iv p2.H) S (wN rfl) rfl rfl rfl rfl rfl (lb rfl) fun a S => ?_
    exact leafL ⟨rfl, S⟩
  · refine fI 15 (iv r12) [(12, iv (w64 (p1 - p3))), (14, iv p2.H)] 7 [some 4, some 6] rfl rfl rfl rfl rfl rfl fun G a w S => ?_
    have S1 := S.mem
    refine sCallQ (X := Unit) (f := 66) (vs := [iv (w64 (p1 - p3)), iv p2.H]) (val := fun _ => iv r12) S (wN rfl) rfl callee66 rfl (S1.quiet [] rfl) (fun E1 w1 S1 => c_grid_around E1 w1 (w64 (p1 - p3)) p2.H r12 hx13 S1) rfl (lb rfl) fun _ a w S => ?_
    exact leafL ⟨rfl, S⟩
  · refine fI 16 q37 [(2, v2)] 8 [none] rfl rfl rfl rfl rfl rfl fun G a w S => ?_
    refine sFldV (q := v2) S (wN rfl) rfl rfl hq38 rfl (lb rfl) fun a S => ?_
    exact leafL ⟨rfl, S⟩
  · refine fI 17 (iv p2.W) [(16, q37)] 9 [some 8] rfl rfl rfl rfl rfl rfl fun G a w S => ?_
    refine sLoadV1 (vq := q37) 8 (iv p2.W) S (wN rfl) rfl rfl rfl rfl rfl (lb rfl) fun a S => ?_
    exact leafL ⟨rfl, S⟩
  · refine fI 18 (iv (w64 (r12 * p2.W))) [(15, iv r12), (17, iv p2.W)] 10 [some 7, some 9] rfl rfl rfl rfl rfl rfl fun G a w S => ?_
    refine sBin (iv (w64 (r12 * p2.W))) S (wN rfl) rfl rfl rfl (bMul _ _ _ _ r12 p2.W) rfl (lb rfl) fun a S => ?_
    exact leafL ⟨rfl, S⟩
  · refine fI 19 (iv p0) [(0, iv p0)] 11 [none] rfl rfl rfl rfl rfl rfl fun G a w S => ?_
    refine sMove (iv p0) S (wN rfl) (.inl rfl) rfl rfl (lb rfl) fun a S => ?_
    exact leafL ⟨rfl, S⟩
  · refine fI 20 (iv p4) [(4, v4)] 12 [none] rfl rfl rfl rfl rfl rfl fun G a w S => ?_
    refine sLoadV1 (vq := v4) 6 (iv p4) S (wN rfl) rfl rfl rfl rfl rfl (lb rfl) fun a S => ?_
    exact leafL ⟨rfl, S⟩
  · refine fI 21 (iv (w64 (p0 - p4))) [(19, iv p0), (20, iv p4)] 13 [some 11, some 12] rfl rfl rfl rfl rfl rfl fun G a w S => ?_
    refine sBin (iv (w64 (p0 - p4))) S (wN rfl) rfl rfl rfl (bSub _ _ _ _ p0 p4) rfl (lb rfl) fun a S => ?_
    exact leafL ⟨rfl, S⟩
  · refine fI 22 q41 [(2, v2)] 14 [none] rfl rfl rfl rfl rfl rfl fun G a w S => ?_
    refine sFldV (q := v2) S (wN rfl) rfl rfl hq42 rfl (lb rfl) fun a S => ?_
    exact leafL ⟨rfl, S⟩
  · refine fI 23 (iv p2.W) [(22, q41)] 15 [some 14] rfl rfl rfl rfl rfl rfl fun G a w S => ?_
    refine sLoadV1 (vq := q41) 3 (iv p2.W) S (wN rfl) rfl rfl rfl rfl rfl (lb rfl) fun a S => ?_
    exact leafL ⟨rfl, S⟩
  · refine fI 24 (iv r21) [(21, iv (w64 (p0 - p4))), (23, iv p2.W)] 16 [some 13, some 15] rfl rfl rfl rfl rfl rfl fun G a w S => ?_
    have S1 := S.mem
    refine sCallQ (X := Unit) (f := 66) (vs := [iv (w64 (p0 - p4)), iv p2.W]) (val := fun _ => iv r21) S (wN rfl) rfl callee66 rfl (S1.quiet [] rfl) (fun E1 w1 S1 => c_grid_around E1 w1 (w64 (p0 - p4)) p2.W r21 hx22 S1) rfl (lb rfl) fun _ a w S => ?_
    exact leafL ⟨rfl, S⟩
  · refine fI 25 (iv (w64 ((w64 (r12 * p2.W)) + r21))) [(18, iv (w64 (r12 * p2.W))), (24, iv r21)] 17 [some 10, some 16] rfl rfl rfl rfl rfl rfl fun G a w S => ?_
    refine sBin (iv (w64 ((w64 (r12 * p2.W)) + r21))) S (wN rfl) rfl rfl rfl (bAdd _ _ _ _ (w64 (r12 * p2.W)) r21) rfl (lb rfl) fun a S => ?_
    exact leafL ⟨rfl, S⟩
  · refine fI 26 q44 [(9, .slice ad31 p2.Bits.length cp32), (25, iv (w64 ((w64 (r12 * p2.W)) + r21)))] 18 [some 1, some 17] rfl rfl rfl rfl rfl rfl fun G a w S => ?_
    refine sIdxV (v := .slice ad31 p2.Bits.length cp32) (k := .i64) (j := w64 ((w64 (r12 * p2.W)) + r21)) S (wN rfl) rfl rfl rfl hq45 rfl (lb rfl) fun a S => ?_
    exact leafL ⟨rfl, S⟩
  · refine fI 27 (.bool x23) [(26, q44)] 19 [some 18] rfl rfl rfl rfl rfl rfl fun G a w S => ?_
    refine sLoadV1 (vq := q44) 0 (.bool x23) S (wN rfl) rfl rfl rfl rfl rfl (lb rfl) fun a S => ?_
    exact leafL ⟨rfl, S⟩
  · refine fI 7 (.bool x23) [(27, .bool x23)] 20 [some 19] rfl rfl rfl rfl rfl rfl fun G a w S => ?_
    refine sMove (.bool x23) S (wN rfl) (.inr rfl) rfl rfl (lb rfl) fun a S => ?_
    exact leafL ⟨rfl, S⟩
  refine leafT (hK2 _ _ ?_)
  obtain rfl := Option.some.inj h
  exact wp_ret (sRet (.bool x23) S (rsl1 rfl (rvT (t := 7) (v := .bool x23) S rfl)) ⟨(), rfl, S.mem.sel [] [] (by decide) rfl rfl⟩)

end Go.Proofs.Ythfifeabomdlpaa
namespace Go.Proofs.Ythfifeabomdlpaa
open Go.RowKit
set_option linter.unusedVariables false

def anc_grid_build_s1_0 : List (List Nat) := [[], [0], [], [], [], [2, 3, 4], [2, 3, 4, 5], [0, 1, 2, 3, 4, 5, 6], [0, 1, 2, 3, 4, 5, 6, 7], [0, 1, 2, 3, 4, 5, 6, 7, 8]]
noncomputable def grid_build_s1_l1 (p0 : Int) (s15 : Int) (p2 : api_Grid) (p3 : Int) (p4 : Int) : (Int × List Bool) → Option ((Int × List Bool) ⊕ List Bool) := fun s0 => match s0 with
  | (s35, s36) =>
    if decide (s35 < p0) then
      Option.bind (F_grid_Shift_1_s0 s35 s15 p2 p3 p4) fun r50 =>
      Option.bind (appO s36 [r50]) fun l54 =>
      some (.inl (w64 (s35 + 1), l54))
    else
      some (.inr s36)
noncomputable def grid_build_s1_l2 (p1 : Int) (p0 : Int) (p2 : api_Grid) (p3 : Int) (p4 : Int) : (Int × List Bool) → Option ((Int × List Bool) ⊕ List Bool) := fun s0 => match s0 with
  | (s15, s16) =>
    if decide (s15 < p1) then
      Option.bind (α := List Bool) (
        Option.bind (whileO (grid_build_s1_l1 p0 s15 p2 p3 p4) (0, s16)) fun e42 =>
          some e42) fun o28 =>
      some (.inl (w64 (s15 + 1), o28))
    else
      some (.inr s16)
noncomputable def F_grid_build_s1 (p0 : Int) (p1 : Int) (p2 : api_Grid) (p3 : Int) (p4 : Int) : Option api_Grid :=
  Option.bind (capO (w64 (p0 * p1))) fun z6 =>
  Option.bind (α := List Bool) (
    Option.bind (whileO (grid_build_s1_l2 p1 p0 p2 p3 p4) (0, ([] : List Bool))) fun e22 =>
      some e22) fun o9 =>
  some (api_Grid.mk p0 p1 o9)
def c_grid_build_s1_val (r : api_Grid) (x : Value) : Value := x
def c_grid_build_s1_D (r : api_Grid) (x : Value) : List Fact := [fRep r_api_Grid x r]
set_option maxHeartbeats 4000000 in
set_option maxRecDepth 100000 in
theorem c_grid_build_s1 (E : Nat → Prop) (w0 : World) (p0 : Int) (p1 : Int) (p2 : api_Grid) (v2 : Value) (p3 : Int) (v3 : Value) (p4 : Int) (v4 : Value) (r : api_Grid) (h : F_grid_build_s1 p0 p1 p2 p3 p4 = some r) (S : St0 E [] w0 w0 [] [fPtr r_api_Grid (v2) p2, fPtr (rI .i64) (v3) p3, fPtr (rI .i64) (v4) p4]) :
    Calls Try.prog 64 #[iv p0, iv p1, .func (.func 67) #[] #[v2, v3, v4]] w0 (Ret (X := Value) E [] w0 (c_grid_build_s1_val r) (fun _ => []) (c_grid_build_s1_D r)) := by
  unfold F_grid_build_s1 at h
  refine sEnter (args := [iv p0, iv p1, .func (.func 67) #[] #[v2, v3, v4]]) 37 Try.func64 rfl rfl (by simp) S (fun a S => ?_)
  refine sSeq (fun K1 hK1 => ?_)
  refine sRegion ?_
  refine sAlloc (.agg #[iv 0, iv 0, .slice none 0 0]) S (wN rfl) rfl rfl [iv 0, iv 0, .slice none 0 0] rfl rfl (lb rfl) fun a b2 w S => ?_
  refine leafL (leafT (hK1 _ _ ?_))
  refine sSeq (fun K3 hK3 => ?_)
  refine sRegion ?_
  refine sMove (iv p0) S (wN rfl) (.inl rfl) rfl rfl (lb rfl) fun a S => ?_
  refine sMove (iv p1) S (wN rfl) (.inl rfl) rfl rfl (lb rfl) fun a S => ?_
  refine sMove (iv p0) S (wN rfl) (.inl rfl) rfl rfl (lb rfl) fun a S => ?_
  refine sMove (iv p1) S (wN rfl) (.inl rfl) rfl rfl (lb rfl) fun a S => ?_
  refine sBin (iv (w64 (p0 * p1))) S (wN rfl) rfl rfl rfl (bMul _ _ _ _ p0 p1) rfl (lb rfl) fun a S => ?_
  obtain ⟨z6, hx7, h⟩ := bindSome h
  refine sMake0 rB (m := w64 (p0 * p1)) (u := z6) (.bool false) 1 S (wN rfl) rfl Try.underlying22 rfl (by decide) rfl rfl hx7 rfl (lb rfl) fun a w ad4 cp5 S => ?_
  refine sBuild [(0, iv p0), (1, iv p1), (2, .slice ad4 ([] : List Bool).length cp5)] [iv p0, iv p1, .slice ad4 ([] : List Bool).length cp5] S (wN rfl) rfl rfl rfl rfl (lb rfl) fun a S => ?_
  refine sAlloc (.agg #[iv 0, iv 0, .slice none 0 0]) S (wN rfl) rfl rfl [iv 0, iv 0, .slice none 0 0] rfl rfl (lb rfl) fun a b8 w S => ?_
  refine sStore (p := b8) (off := 0) (T := 24) (vs := [iv 0, iv 0, .slice none 0 0]) (v := .agg #[iv p0, iv p1, .slice ad4 ([] : List Bool).length cp5]) 0 [iv p0, iv p1, .slice ad4 ([] : List Bool).length cp5] S (wN rfl) rfl rfl rfl rfl rfl rfl rfl (by simp) rfl fun a w S => ?_
  refine leafL (leafT (hK3 _ _ ?_))
  obtain ⟨t12, h, g13⟩ := bindSome h
  refine sCut (fun a w => ∃ o9, o9 = t12 ∧ ∃ ad10, ∃ cp11, St [] E [] w0 37 a w [(6, .pointer (some ⟨b2, 0, none⟩)), (7, .pointer (some ⟨b8, 0, none⟩))] [eBox b2 24 [iv 0, iv 0, .slice none 0 0], eBox b8 24 [iv p0, iv p1, .slice ad10 o9.length cp11], eRow rB 4 (.slice ad10 o9.length cp11) o9] []) ?_ (fun a w hI => ?_)
  rotate_left
  · obtain ⟨o9, rfl, ad10, cp11, S⟩ := hI
    have h := g13
    clear g13
    try dsimp only at h
    refine sSeq (fun K62 hK62 => ?_)
    refine sRegion ?_
    refine sLoadN (p := b8) (off := 0) (T := 24) (vs := [iv p0, iv p1, .slice ad10 o9.length cp11]) 1 [iv p0, iv p1, .slice ad10 o9.length cp11] S (wN rfl) rfl rfl rfl rfl rfl rfl rfl (lb rfl) fun a S => ?_
    refine sStore (p := b2) (off := 0) (T := 24) (vs := [iv 0, iv 0, .slice none 0 0]) (v := .agg #[iv p0, iv p1, .slice ad10 o9.length cp11]) 0 [iv p0, iv p1, .slice ad10 o9.length cp11] S (wN rfl) rfl rfl rfl rfl rfl rfl rfl (by simp) rfl fun a w S => ?_
    refine leafL (leafT (hK62 _ _ ?_))
    obtain rfl := Option.some.inj h
    have S := S.shutR (r := rB) (T := 4) (v := .slice ad10 o9.length cp11) (xs := o9) 2 rfl
    have S := S.learn (fRep r_api_Grid (.agg #[iv p0, iv p1, .slice ad10 o9.length cp11]) (api_Grid.mk p0 p1 o9)) ⟨_, rfl, S.mem.know (i := 0) (e := fRep (rL rB) (.slice ad10 o9.length cp11) o9) rfl⟩
    exact wp_ret (sRet (.agg #[iv p0, iv p1, .slice ad10 o9.length cp11]) S (rsl1 rfl (rvN (c := 6) (t := 24) (T := 24) (p := b2) 0 [iv p0, iv p1, .slice ad10 o9.length cp11] S rfl rfl rfl rfl)) ⟨(.agg #[iv p0, iv p1, .slice ad10 o9.length cp11]), rfl, S.mem.sel [] [0] (by decide) rfl rfl⟩)
  refine sSeq (fun K14 hK14 => ?_)
  refine sRegion ?_
  refine sMove (iv p1) S (wN rfl) (.inl rfl) rfl rfl (lb rfl) fun a S => ?_
  refine sMove (iv 0) S (wN rfl) (.inl rfl) rfl rfl (lb rfl) fun a S => ?_
  refine leafL (leafT (hK14 _ _ ?_))
  refine wp_block ?_
  obtain ⟨t21, hl, g20⟩ := bindSome h
  refine sLoop hl (fun s0 a w => match s0 with | (s15, s16) => ∃ ad17, ∃ cp18, St [] E [] w0 37 a w [(0, iv p0), (2, .func (.func 67) #[] #[v2, v3, v4]), (6, .pointer (some ⟨b2, 0, none⟩)), (7, .pointer (some ⟨b8, 0, none⟩)), (17, iv p1), (18, iv s15)] [eBox b2 24 [iv 0, iv 0, .slice none 0 0], eBox b8 24 [iv p0, iv p1, .slice ad17 s16.length cp18], eRow rB 4 (.slice ad17 s16.length cp18) s16] [fPtr r_api_Grid (v2) p2, fPtr (rI .i64) (v3) p3, fPtr (rI .i64) (v4) p4]) ⟨ad4, cp5, S.fix [2, 0, 1] [0, 1, 2] (by decide) rfl rfl rfl⟩ ?_
  clear hl h
  intro s0 a w c0 hI h hu19
  obtain ⟨s15, s16⟩ := s0
  unfold grid_build_s1_l2 at h
  dsimp only at h hI
  obtain ⟨ad17, cp18, S⟩ := hI
  refine sSeq (fun K25 hK25 => ?_)
  refine sRegion ?_
  refine sBin (.bool (decide (s15 < p1))) S (wN rfl) rfl rfl rfl (bLt _ _ _ _ .i64 s15 p1) rfl (lb rfl) fun a S => ?_
  refine leafL (leafT (hK25 _ _ ?_))
  refine sSeq (fun K26 hK26 => ?_)
  rcases iteSome h with ⟨hc27, h⟩ | ⟨hc27, h⟩
  rotate_left
  · refine sCondF S rfl hc27 ?_
    obtain rfl := Option.some.inj h
    obtain rfl := hu19 _ rfl
    have h := g20
    clear g20
    try dsimp only at h
    exact wp_exit (xThen (xThen (xHit (leafT (⟨s16, Option.some.inj h, ad17, cp18, S.fix [0, 1, 2] [] (by decide) rfl rfl rfl⟩)))))
  refine sCondT S rfl hc27 ?_
  refine wp_skip (leafT (hK26 _ _ ?_))
  obtain ⟨t31, h, g32⟩ := bindSome h
  refine sCut (fun a w => ∃ o28, o28 = t31 ∧ ∃ ad29, ∃ cp30, St [] E [] w0 37 a w [(0, iv p0), (2, .func (.func 67) #[] #[v2, v3, v4]), (6, .pointer (some ⟨b2, 0, none⟩)), (7, .pointer (some ⟨b8, 0, none⟩)), (17, iv p1), (18, iv s15)] [eBox b2 24 [iv 0, iv 0, .slice none 0 0], eBox b8 24 [iv p0, iv p1, .slice ad29 o28.length cp30], eRow rB 4 (.slice ad29 o28.length cp30) o28] [fPtr r_api_Grid (v2) p2, fPtr (rI .i64) (v3) p3, fPtr (rI .i64) (v4) p4]) ?_ (fun a w hI => ?_)
  rotate_left
  · obtain ⟨o28, rfl, ad29, cp30, S⟩ := hI
    have h := g32
    clear g32
    try dsimp only at h
    refine sRegion ?_
    refine sBin (iv (w64 (s15 + 1))) S (wN rfl) rfl rfl rfl (bAdd _ _ _ _ s15 1) rfl (lb rfl) fun a S => ?_
    refine sMove (iv (w64 (s15 + 1))) S (wN rfl) (.inl rfl) rfl rfl (lb rfl) fun a S => ?_
    exact leafL (leafT (⟨(w64 (s15 + 1), o28), (Option.some.inj h).symm, ⟨ad29, cp30, S.fix [0, 1, 2] [0, 1, 2] (by decide) rfl rfl rfl⟩⟩))
  refine wp_block ?_
  refine sSeq (fun K33 hK33 => ?_)
  refine sRegion ?_
  refine sMove (iv s15) S (wN rfl) (.inl rfl) rfl rfl (lb rfl) fun a S => ?_
  refine sMove (iv s15) S (wN rfl) (.inr rfl) rfl rfl (lb rfl) fun a S => ?_
  refine leafL (leafT (hK33 _ _ ?_))
  refine sSeq (fun K34 hK34 => ?_)
  refine sRegion ?_
  refine sMove (iv p0) S (wN rfl) (.inl rfl) rfl rfl (lb rfl) fun a S => ?_
  refine sMove (iv 0) S (wN rfl) (.inl rfl) rfl rfl (lb rfl) fun a S => ?_
  refine leafL (leafT (hK34 _ _ ?_))
  refine wp_block ?_
  obtain ⟨t41, hl, g40⟩ := bindSome h
  refine sLoop hl (fun s0 a w => match s0 with | (s35, s36) => ∃ ad37, ∃ cp38, St [] E [] w0 37 a w [(0, iv p0), (2, .func (.func 67) #[] #[v2, v3, v4]), (6, .pointer (some ⟨b2, 0, none⟩)), (7, .pointer (some ⟨b8, 0, none⟩)), (8, iv s15), (17, iv p1), (18, iv s15), (21, iv p0), (22, iv s35)] [eBox b2 24 [iv 0, iv 0, .slice none 0 0], eBox b8 24 [iv p0, iv p1, .slice ad37 s36.length cp38], eRow rB 4 (.slice ad37 s36.length cp38) s36] [fPtr r_api_Grid (v2) p2, fPtr (rI .i64) (v3) p3, fPtr (rI .i64) (v4) p4]) ⟨ad17, cp18, S.fix [0, 1, 2] [0, 1, 2] (by decide) rfl rfl rfl⟩ ?_
  clear hl h
  intro s0 a w c0 hI h hu39
  obtain ⟨s35, s36⟩ := s0
  unfold grid_build_s1_l1 at h
  dsimp only at h hI
  obtain ⟨ad37, cp38, S⟩ := hI
  refine sSeq (fun K45 hK45 => ?_)
  refine sRegion ?_
  refine sBin (.bool (decide (s35 < p0))) S (wN rfl) rfl rfl rfl (bLt _ _ _ _ .i64 s35 p0) rfl (lb rfl) fun a S => ?_
  refine leafL (leafT (hK45 _ _ ?_))
  refine sSeq (fun K46 hK46 => ?_)
  rcases iteSome h with ⟨hc47, h⟩ | ⟨hc47, h⟩
  rotate_left
  · refine sCondF S rfl hc47 ?_
    obtain rfl := Option.some.inj h
    obtain rfl := hu39 _ rfl
    have h := g40
    clear g40
    try dsimp only at h
    exact wp_exit (xThen (xThen (xHit (leafB (leafT (⟨s36, Option.some.inj h, ad37, cp38, S.fix [0, 1, 2] [0, 1, 2] (by decide) rfl rfl rfl⟩))))))
  refine sCondT S rfl hc47 ?_
  refine wp_skip (leafT (hK46 _ _ ?_))
  refine sSeq (fun K48 hK48 => ?_)
  refine wp_block ?_
  refine sSeq (fun K49 hK49 => ?_)
  refine sRegion ?_
  refine sMove (iv s35) S (wN rfl) (.inl rfl) rfl rfl (lb rfl) fun a S => ?_
  refine sMove (iv s35) S (wN rfl) (.inr rfl) rfl rfl (lb rfl) fun a S => ?_
  refine leafL (leafT (hK49 _ _ ?_))
  obtain ⟨r50, hx51, h⟩ := bindSome h
  obtain ⟨l54, hx55, h⟩ := bindSome h
  refine sDraw (nf := [6, 7, 9]) (W := [(0, 25, .pointer (some ⟨b8, 2, none⟩)), (1, 26, .slice ad37 s36.length cp38), (2, 27, .func (.func 67) #[] #[v2, v3, v4]), (3, 28, iv s35), (4, 29, iv s15), (5, 30, .bool r50)]) rfl S ?_
  refine node_by (A := anc_grid_build_s1_0) (nf := [6, 7, 9]) (Y := []) (W := [(0, 25, .pointer (some ⟨b8, 2, none⟩)), (1, 26, .slice ad37 s36.length cp38), (2, 27, .func (.func 67) #[] #[v2, v3, v4]), (3, 28, iv s35), (4, 29, iv s15), (5, 30, .bool r50)]) 10 (by kernel_rfl) (by kernel_rfl) (by kernel_rfl) (by kernel_rfl) (by kernel_rfl) [0, 1, 2, 3, 4, 5] (by kernel_rfl) (by decide) (by decide) (aF 0 9 (by decide) ?_ (aF 1 8 (by decide) ?_ (aF 2 7 (by decide) ?_ (aF 3 6 (by decide) ?_ (aF 4 5 (by decide) ?_ (aF 5 4 (by decide) ?_ (aN 6 3 (by decide) ?_ (aB 7 2 6 (by decide) (aE 8 1 6 (by decide) (aB 9 0 6 (by decide) (trivial))))))))))) [] (fun q hq => by cases hq) (fun hY => absurd (hY 6 (by decide)) (by decide))
  · refine fI 25 (.pointer (some ⟨b8, 2, none⟩)) [(7, .pointer (some ⟨b8, 0, none⟩))] 0 [none] rfl rfl rfl rfl rfl rfl fun G a w S => ?_
    refine sField (b := b8) (off := 0) 2 2 S (wN rfl) rfl rfl rfl rfl rfl (lb rfl) fun a S => ?_
    exact leafL ⟨rfl, S⟩
  · refine fI 26 (.slice ad37 s36.length cp38) [(25, .pointer (some ⟨b8, 2, none⟩))] 1 [some 0] rfl rfl rfl rfl rfl rfl fun G a w S => ?_
    refine sLoad1 (p := b8) (off := 2) (T := 24) (vs := [iv p0, iv p1, .slice ad37 s36.length cp38]) 1 (.slice ad37 s36.length cp38) S (wN rfl) rfl rfl rfl rfl rfl rfl (lb rfl) fun a S => ?_
    exact leafL ⟨rfl, S⟩
  · refine fI 27 (.func (.func 67) #[] #[v2, v3, v4]) [(2, .func (.func 67) #[] #[v2, v3, v4])] 2 [none] rfl rfl rfl rfl rfl rfl fun G a w S => ?_
    refine sMove (.func (.func 67) #[] #[v2, v3, v4]) S (wN rfl) (.inl rfl) rfl rfl (lb rfl) fun a S => ?_
    exact leafL ⟨rfl, S⟩
  · refine fI 28 (iv s35) [(9, iv s35)] 3 [none] rfl rfl rfl rfl rfl rfl fun G a w S => ?_
    refine sMove (iv s35) S (wN rfl) (.inl rfl) rfl rfl (lb rfl) fun a S => ?_
    exact leafL ⟨rfl, S⟩
  · refine fI 29 (iv s15) [(8, iv s15)] 4 [none] rfl rfl rfl rfl rfl rfl fun G a w S => ?_
    refine sMove (iv s15) S (wN rfl) (.inl rfl) rfl rfl (lb rfl) fun a S => ?_
    exact leafL ⟨rfl, S⟩
  · refine fI 30 (.bool r50) [(27, .func (.func 67) #[] #[v2, v3, v4]), (28, iv s35), (29, iv s15)] 5 [some 2, some 3, some 4] rfl rfl rfl rfl rfl rfl fun G a w S => ?_
    have S1 := S.mem
    refine sCallVQ (X := Unit) (g := 67) (vs := [iv s35, iv s15]) (caps := [v2, v3, v4]) (val := fun _ => .bool r50) S (wN rfl) rfl rfl callee67 rfl (S1.quiet [0, 1, 2] rfl) (fun E1 w1 S1 => c_grid_Shift_1_s0 E1 w1 s35 s15 p2 v2 p3 v3 p4 v4 r50 hx51 S1) rfl (lb rfl) fun _ a w S => ?_
    exact leafL ⟨rfl, S⟩
  refine ⟨_, [(30, .bool r50)], rfl, (srcs_of [some 5] rfl rfl rfl), fun G a w S => ?_⟩
  refine sLit (r := rB) (T := 4) (xs := [r50]) [(0, .bool r50)] 1 [.bool r50] [.bool r50] (.bool false) 1 S (wN rfl) rfl rfl Try.underlying22 rfl (by decide) (by decide) (by kernel_rfl) rfl (fun E1 w1 hE => All.cons rfl (All.nil _ _ _)) rfl rfl (lb rfl) fun a w ad58 cp59 S => ?_
  refine leafL ⟨rfl, _, _, .inl ⟨31, (.slice ad58 [r50].length cp59), [], rfl, S, hz_of rfl, ?_⟩⟩
  refine node_by (A := anc_grid_build_s1_0) (nf := [6, 7, 9]) (Y := [6]) 10 (by kernel_rfl) (by kernel_rfl) (by kernel_rfl) (by kernel_rfl) (by kernel_rfl) [6, 0, 1, 2, 3, 4, 5] (by kernel_rfl) (by decide) (by decide) (aF 0 9 (by decide) ?_ (aF 1 8 (by decide) ?_ (aD 2 7 6 (by decide) (aD 3 6 6 (by decide) (aD 4 5 6 (by decide) (aD 5 4 6 (by decide) (aY 6 3 (by decide) (aN 7 2 (by decide) ?_ (aE 8 1 7 (by decide) (aB 9 0 7 (by decide) (trivial))))))))))) [] (fun q hq => by cases hq) (fun hY => absurd (hY 7 (by decide)) (by decide))
  · refine fI 25 (.pointer (some ⟨b8, 2, none⟩)) [(7, .pointer (some ⟨b8, 0, none⟩))] 1 [none] rfl rfl rfl rfl rfl rfl fun G a w S => ?_
    refine sField (b := b8) (off := 0) 2 2 S (wN rfl) rfl rfl rfl rfl rfl (lb rfl) fun a S => ?_
    exact leafL ⟨rfl, S⟩
  · refine fI 26 (.slice ad37 s36.length cp38) [(25, .pointer (some ⟨b8, 2, none⟩))] 2 [some 1] rfl rfl rfl rfl rfl rfl fun G a w S => ?_
    refine sLoad1 (p := b8) (off := 2) (T := 24) (vs := [iv p0, iv p1, .slice ad37 s36.length cp38]) 2 (.slice ad37 s36.length cp38) S (wN rfl) rfl rfl rfl rfl rfl rfl (lb rfl) fun a S => ?_
    exact leafL ⟨rfl, S⟩
  refine ⟨_, [(26, .slice ad37 s36.length cp38), (31, .slice ad58 [r50].length cp59)], rfl, (srcs_of [some 2, some 0] rfl rfl rfl), fun G a w S => ?_⟩
  refine sApp (r := rB) (T := 4) (xs := s36) (ys := [r50]) (v := .slice ad37 s36.length cp38) (u := .slice ad58 [r50].length cp59) 3 (.bool false) 1 S (wN rfl) rfl Try.underlying22 rfl rfl (by decide) rfl rfl rfl (src_R (T := 4) 0 S.mem rfl) hx55 rfl (lb rfl) fun a w ad60 cp61 S => ?_
  refine leafL ⟨rfl, _, _, .inl ⟨32, (.slice ad60 l54.length cp61), [(8, 33, .pointer (some ⟨b8, 2, none⟩))], rfl, S, hz_of rfl, ?_⟩⟩
  refine node_by (A := anc_grid_build_s1_0) (nf := [6, 7, 9]) (Y := [7, 6]) 10 (by kernel_rfl) (by kernel_rfl) (by kernel_rfl) (by kernel_rfl) (by kernel_rfl) [8, 7, 6, 0, 1, 2, 3, 4, 5] (by kernel_rfl) (by decide) (by decide) (aD 0 9 7 (by decide) (aD 1 8 7 (by decide) (aD 2 7 7 (by decide) (aD 3 6 7 (by decide) (aD 4 5 7 (by decide) (aD 5 4 7 (by decide) (aY 6 3 (by decide) (aY 7 2 (by decide) (aF 8 1 (by decide) ?_ (aN 9 0 (by decide) ?_ (trivial))))))))))) [] (fun q hq => by cases hq) (fun hY => absurd (hY 9 (by decide)) (by decide))
  · refine fI 33 (.pointer (some ⟨b8, 2, none⟩)) [(7, .pointer (some ⟨b8, 0, none⟩))] 0 [none] rfl rfl rfl rfl rfl rfl fun G a w S => ?_
    refine sField (b := b8) (off := 0) 2 2 S (wN rfl) rfl rfl rfl rfl rfl (lb rfl) fun a S => ?_
    exact leafL ⟨rfl, S⟩
  refine ⟨_, [(32, .slice ad60 l54.length cp61), (33, .pointer (some ⟨b8, 2, none⟩))], rfl, (srcs_of [some 1, some 0] rfl rfl rfl), fun G a w S => ?_⟩
  refine sStore (p := b8) (off := 2) (T := 24) (vs := [iv p0, iv p1, .slice ad37 s36.length cp38]) (v := .slice ad60 l54.length cp61) 3 [.slice ad60 l54.length cp61] S (wN rfl) rfl rfl rfl rfl rfl rfl rfl (by simp) rfl fun a w S => ?_
  refine leafL ⟨rfl, _, _, .inr ⟨[], rfl, S, hz_of rfl, ?_⟩⟩
  refine node_by (A := anc_grid_build_s1_0) (nf := [6, 7, 9]) (Y := [9, 7, 6]) 10 (by kernel_rfl) (by kernel_rfl) (by kernel_rfl) (by kernel_rfl) (by kernel_rfl) [8, 7, 6, 0, 1, 2, 3, 4, 5] (by kernel_rfl) (by decide) (by decide) (aD 0 9 9 (by decide) (aD 1 8 9 (by decide) (aD 2 7 9 (by decide) (aD 3 6 9 (by decide) (aD 4 5 9 (by decide) (aD 5 4 9 (by decide) (aY 6 3 (by decide) (aY 7 2 (by decide) (aD 8 1 9 (by decide) (aY 9 0 (by decide) (trivial))))))))))) [(0, iv p0), (2, .func (.func 67) #[] #[v2, v3, v4]), (6, .pointer (some ⟨b2, 0, none⟩)), (7, .pointer (some ⟨b8, 0, none⟩)), (8, iv s15), (17, iv p1), (18, iv s15), (21, iv p0), (22, iv s35)] (fin_of [none, none, none, none, none, none, none, none, none] rfl (by kernel_rfl) (by kernel_rfl)) (fun _ a w S => ?_)
  refine leafB (leafT (hK48 _ _ ?_))
  refine sRegion ?_
  refine sBin (iv (w64 (s35 + 1))) S (wN rfl) rfl rfl rfl (bAdd _ _ _ _ s35 1) rfl (lb rfl) fun a S => ?_
  refine sMove (iv (w64 (s35 + 1))) S (wN rfl) (.inl rfl) rfl rfl (lb rfl) fun a S => ?_
  exact leafL (leafT (⟨(w64 (s35 + 1), l54), (Option.some.inj h).symm, ⟨ad60, cp61, S.fix [3, 0, 1] [0, 1, 2] (by decide) rfl rfl rfl⟩⟩))

end Go.Proofs.Ythfifeabomdlpaa
namespace Go.Proofs.Ythfifeabomdlpaa
open Go.RowKit
set_option linter.unusedVariables false

def anc_grid_Shift_0 : List (List Nat) := [[], [], [1], [0, 1, 2], [], [], [5], [0, 1, 2, 3, 4, 5, 6], [0, 1, 2, 3, 4, 5, 6, 7], [0, 1, 2, 3, 4, 5, 6, 7, 8]]
noncomputable def F_grid_Shift (p0 : api_Grid) (p1 : Int) (p2 : Int) : Option (api_Grid × Int) :=
  Option.bind (F_grid_Check p0) fun r12 =>
  if r12 != 0 then
    some ((api_Grid.mk 0 0 ([] : (List Bool))), r12)
  else
    Option.bind (F_grid_around p1 p0.W) fun r18 =>
    Option.bind (F_grid_around p2 p0.H) fun r20 =>
    Option.bind (F_grid_build_s1 p0.W p0.H p0 r20 r18) fun r23 =>
    some (r23, 0)
def c_grid_Shift_val (r : (api_Grid × Int)) (x : Value) : Value := .tuple #[x, .int .i64 r.2]
def c_grid_Shift_D (r : (api_Grid × Int)) (x : Value) : List Fact := [fRep r_api_Grid x r.1]
set_option maxHeartbeats 4000000 in
set_option maxRecDepth 100000 in
theorem c_grid_Shift (E : Nat → Prop) (w0 : World) (p0 : api_Grid) (v0 : Value) (p1 : Int) (p2 : Int) (r : (api_Grid × Int)) (h : F_grid_Shift p0 p1 p2 = some r) (S : St0 E [] w0 w0 [] [fRep r_api_Grid (v0) p0]) :
    Calls Try.prog 34 #[v0, iv p1, iv p2] w0 (Ret (X := Value) E [] w0 (c_grid_Shift_val r) (fun _ => []) (c_grid_Shift_D r)) := by
  unfold F_grid_Shift at h
  obtain ⟨u1, rfl, hu2⟩ := S.know (i := 0) (e := fRep r_api_Grid (v0) p0) rfl
  have S := S.learn (fRep (rL rB) u1 p0.Bits) hu2
  obtain ⟨ad3, cp4, _, rfl, _⟩ := hu2
  refine sEnter (args := [.agg #[iv p0.W, iv p0.H, .slice ad3 p0.Bits.length cp4], iv p1, iv p2]) 29 Try.func34 rfl rfl (by simp) S (fun a S => ?_)
  refine sSeq (fun K5 hK5 => ?_)
  refine sRegion ?_
  refine sBox (v := .agg #[iv p0.W, iv p0.H, .slice ad3 p0.Bits.length cp4]) S (wN rfl) rfl rfl [iv p0.W, iv p0.H, .slice ad3 p0.Bits.length cp4] rfl rfl (lb rfl) fun a b6 w S => ?_
  refine sBox (v := iv p1) S (wN rfl) rfl rfl [iv p1] rfl rfl (lb rfl) fun a b7 w S => ?_
  refine sBox (v := iv p2) S (wN rfl) rfl rfl [iv p2] rfl rfl (lb rfl) fun a b8 w S => ?_
  refine sAlloc (.agg #[iv 0, iv 0, .slice none 0 0]) S (wN rfl) rfl rfl [iv 0, iv 0, .slice none 0 0] rfl rfl (lb rfl) fun a b9 w S => ?_
  refine sMove (iv 0) S (wN rfl) (.inr rfl) rfl rfl (lb rfl) fun a S => ?_
  refine leafL (leafT (hK5 _ _ ?_))
  refine sSeq (fun K10 hK10 => ?_)
  refine sSeq (fun K11 hK11 => ?_)
  refine sRegion ?_
  refine sLoadN (p := b6) (off := 0) (T := 24) (vs := [iv p0.W, iv p0.H, .slice ad3 p0.Bits.length cp4]) 3 [iv p0.W, iv p0.H, .slice ad3 p0.Bits.length cp4] S (wN rfl) rfl rfl rfl rfl rfl rfl rfl (lb rfl) fun a S => ?_
  obtain ⟨r12, hx13, h⟩ := bindSome h
  have S1 := S.mem
  refine sCallQ (X := Unit) (f := 63) (vs := [.agg #[iv p0.W, iv p0.H, .slice ad3 p0.Bits.length cp4]]) (val := fun _ => iv r12) S (wN rfl) rfl callee63 rfl (S1.quiet [1] rfl) (fun E1 w1 S1 => c_grid_Check E1 w1 p0 (.agg #[iv p0.W, iv p0.H, .slice ad3 p0.Bits.length cp4]) r12 hx13 S1) rfl (lb rfl) fun _ a w S => ?_
  refine sMove (iv r12) S (wN rfl) (.inr rfl) rfl rfl (lb rfl) fun a S => ?_
  refine leafL (leafT (hK11 _ _ ?_))
  refine sSeq (fun K14 hK14 => ?_)
  refine sRegion ?_
  refine sMove (iv r12) S (wN rfl) (.inl rfl) rfl rfl (lb rfl) fun a S => ?_
  refine sBin (.bool (r12 != 0)) S (wN rfl) rfl rfl rfl (bNe _ _ _ _ .i64 r12 0) rfl (lb rfl) fun a S => ?_
  refine leafL (leafT (hK14 _ _ ?_))
  rcases iteSome h with ⟨hc15, h⟩ | ⟨hc15, h⟩
  · refine sCondT S rfl hc15 ?_
    refine sSeq (fun K16 hK16 => ?_)
    refine sRegion ?_
    refine sBuild [] [iv 0, iv 0, .slice none 0 0] S (wN rfl) rfl rfl rfl rfl (lb rfl) fun a S => ?_
    refine sMove (iv r12) S (wN rfl) (.inl rfl) rfl rfl (lb rfl) fun a S => ?_
    refine sStore (p := b9) (off := 0) (T := 24) (vs := [iv 0, iv 0, .slice none 0 0]) (v := .agg #[iv 0, iv 0, .slice none 0 0]) 0 [iv 0, iv 0, .slice none 0 0] S (wN rfl) rfl rfl rfl rfl rfl rfl rfl (by simp) rfl fun a w S => ?_
    refine sMove (iv r12) S (wN rfl) (.inr rfl) rfl rfl (lb rfl) fun a S => ?_
    refine leafL (leafT (hK16 _ _ ?_))
    obtain rfl := Option.some.inj h
    have S := S.learn (fRep (rL rB) (.slice none 0 0) ([] : (List Bool))) (rL_nil _ _ _)
    have S := S.learn (fRep r_api_Grid (.agg #[iv 0, iv 0, .slice none 0 0]) (api_Grid.mk 0 0 ([] : (List Bool)))) ⟨_, rfl, S.mem.know (i := 0) (e := fRep (rL rB) (.slice none 0 0) ([] : (List Bool))) rfl⟩
    exact wp_ret (rThen (sRet (.tuple #[.agg #[iv 0, iv 0, .slice none 0 0], iv r12]) S (rsl2 rfl (rvN (c := 6) (t := 24) (T := 24) (p := b9) 0 [iv 0, iv 0, .slice none 0 0] S rfl rfl rfl rfl) (rvT (t := 7) (v := iv r12) S rfl)) ⟨(.agg #[iv 0, iv 0, .slice none 0 0]), rfl, S.mem.sel [] [0] (by decide) rfl rfl⟩))
  refine sCondF S rfl hc15 ?_
  refine wp_skip (leafT (hK10 _ _ ?_))
  refine sSeq (fun K17 hK17 => ?_)
  obtain ⟨r18, hx19, h⟩ := bindSome h
  obtain ⟨r20, hx21, h⟩ := bindSome h
  refine sDraw (nf := [8, 9]) (W := [(0, 15, iv p1), (1, 16, .pointer (some ⟨b6, 0, none⟩)), (2, 17, iv p0.W), (3, 18, iv r18), (4, 19, iv p2), (5, 20, .pointer (some ⟨b6, 1, none⟩)), (6, 21, iv p0.H), (7, 22, iv r20)]) rfl S ?_
  refine node_by (A := anc_grid_Shift_0) (nf := [8, 9]) (Y := []) (W := [(0, 15, iv p1), (1, 16, .pointer (some ⟨b6, 0, none⟩)), (2, 17, iv p0.W), (3, 18, iv r18), (4, 19, iv p2), (5, 20, .pointer (some ⟨b6, 1, none⟩)), (6, 21, iv p0.H), (7, 22, iv r20)]) 10 (by kernel_rfl) (by kernel_rfl) (by kernel_rfl) (by kernel_rfl) (by kernel_rfl) [0, 1, 2, 3, 4, 5, 6, 7] (by kernel_rfl) (by decide) (by decide) (aF 0 9 (by decide) ?_ (aF 1 8 (by decide) ?_ (aF 2 7 (by decide) ?_ (aF 3 6 (by decide) ?_ (aF 4 5 (by decide) ?_ (aF 5 4 (by decide) ?_ (aF 6 3 (by decide) ?_ (aF 7 2 (by decide) ?_ (aN 8 1 (by decide) ?_ (aB 9 0 8 (by decide) (trivial))))))))))) [] (fun q hq => by cases hq) (fun hY => absurd (hY 8 (by decide)) (by decide))
  · refine fI 15 (iv p1) [(4, .pointer (some ⟨b7, 0, none⟩))] 0 [none] rfl rfl rfl rfl rfl rfl fun G a w S => ?_
    refine sLoad1 (p := b7) (off := 0) (T := 3) (vs := [iv p1]) 2 (iv p1) S (wN rfl) rfl rfl rfl rfl rfl rfl (lb rfl) fun a S => ?_
    exact leafL ⟨rfl, S⟩
  · refine fI 16 (.pointer (some ⟨b6, 0, none⟩)) [(3, .pointer (some ⟨b6, 0, none⟩))] 1 [none] rfl rfl rfl rfl rfl rfl fun G a w S => ?_
    refine sField (b := b6) (off := 0) 0 0 S (wN rfl) rfl rfl rfl rfl rfl (lb rfl) fun a S => ?_
    exact leafL ⟨rfl, S⟩
  · refine fI 17 (iv p0.W) [(16, .pointer (some ⟨b6, 0, none⟩))] 2 [some 1] rfl rfl rfl rfl rfl rfl fun G a w S => ?_
    refine sLoad1 (p := b6) (off := 0) (T := 24) (vs := [iv p0.W, iv p0.H, .slice ad3 p0.Bits.length cp4]) 3 (iv p0.W) S (wN rfl) rfl rfl rfl rfl rfl rfl (lb rfl) fun a S => ?_
    exact leafL ⟨rfl, S⟩
  · refine fI 18 (iv r18) [(15, iv p1), (17, iv p0.W)] 3 [some 0, some 2] rfl rfl rfl rfl rfl rfl fun G a w S => ?_
    have S1 := S.mem
    refine sCallQ (X := Unit) (f := 66) (vs := [iv p1, iv p0.W]) (val := fun _ => iv r18) S (wN rfl) rfl callee66 rfl (S1.quiet [] rfl) (fun E1 w1 S1 => c_grid_around E1 w1 p1 p0.W r18 hx19 S1) rfl (lb rfl) fun _ a w S => ?_
    exact leafL ⟨rfl, S⟩
  · refine fI 19 (iv p2) [(5, .pointer (some ⟨b8, 0, none⟩))] 4 [none] rfl rfl rfl rfl rfl rfl fun G a w S => ?_
    refine sLoad1 (p := b8) (off := 0) (T := 3) (vs := [iv p2]) 1 (iv p2) S (wN rfl) rfl rfl rfl rfl rfl rfl (lb rfl) fun a S => ?_
    exact leafL ⟨rfl, S⟩
  · refine fI 20 (.pointer (some ⟨b6, 1, none⟩)) [(3, .pointer (some ⟨b6, 0, none⟩))] 5 [none] rfl rfl rfl rfl rfl rfl fun G a w S => ?_
    refine sField (b := b6) (off := 0) 1 1 S (wN rfl) rfl rfl rfl rfl rfl (lb rfl) fun a S => ?_
    exact leafL ⟨rfl, S⟩
  · refine fI 21 (iv p0.H) [(20, .pointer (some ⟨b6, 1, none⟩))] 6 [some 5] rfl rfl rfl rfl rfl rfl fun G a w S => ?_
    refine sLoad1 (p := b6) (off := 1) (T := 24) (vs := [iv p0.W, iv p0.H, .slice ad3 p0.Bits.length cp4]) 3 (iv p0.H) S (wN rfl) rfl rfl rfl rfl rfl rfl (lb rfl) fun a S => ?_
    exact leafL ⟨rfl, S⟩
  · refine fI 22 (iv r20) [(19, iv p2), (21, iv p0.H)] 7 [some 4, some 6] rfl rfl rfl rfl rfl rfl fun G a w S => ?_
    have S1 := S.mem
    refine sCallQ (X := Unit) (f := 66) (vs := [iv p2, iv p0.H]) (val := fun _ => iv r20) S (wN rfl) rfl callee66 rfl (S1.quiet [] rfl) (fun E1 w1 S1 => c_grid_around E1 w1 p2 p0.H r20 hx21 S1) rfl (lb rfl) fun _ a w S => ?_
    exact leafL ⟨rfl, S⟩
  refine ⟨_, [(4, .pointer (some ⟨b7, 0, none⟩)), (18, iv r18)], rfl, (srcs_of [none, some 3] rfl rfl rfl), fun G a w S => ?_⟩
  refine sStore (p := b7) (off := 0) (T := 3) (vs := [iv p1]) (v := iv r18) 2 [iv r18] S (wN rfl) rfl rfl rfl rfl rfl rfl rfl (by simp) rfl fun a w S => ?_
  refine leafL ⟨rfl, _, _, .inr ⟨[], rfl, S, hz_of rfl, ?_⟩⟩
  refine node_by (A := anc_grid_Shift_0) (nf := [8, 9]) (Y := [8]) 10 (by kernel_rfl) (by kernel_rfl) (by kernel_rfl) (by kernel_rfl) (by kernel_rfl) [0, 1, 2, 3, 4, 5, 6, 7] (by kernel_rfl) (by decide) (by decide) (aD 0 9 8 (by decide) (aD 1 8 8 (by decide) (aD 2 7 8 (by decide) (aD 3 6 8 (by decide) (aD 4 5 8 (by decide) (aD 5 4 8 (by decide) (aD 6 3 8 (by decide) (aD 7 2 8 (by decide) (aY 8 1 (by decide) (aN 9 0 (by decide) ?_ (trivial))))))))))) [] (fun q hq => by cases hq) (fun hY => absurd (hY 9 (by decide)) (by decide))
  refine ⟨_, [(5, .pointer (some ⟨b8, 0, none⟩)), (22, iv r20)], rfl, (srcs_of [none, some 7] rfl rfl rfl), fun G a w S => ?_⟩
  refine sStore (p := b8) (off := 0) (T := 3) (vs := [iv p2]) (v := iv r20) 2 [iv r20] S (wN rfl) rfl rfl rfl rfl rfl rfl rfl (by simp) rfl fun a w S => ?_
  refine leafL ⟨rfl, _, _, .inr ⟨[], rfl, S, hz_of rfl, ?_⟩⟩
  refine node_by (A := anc_grid_Shift_0) (nf := [8, 9]) (Y := [9, 8]) 10 (by kernel_rfl) (by kernel_rfl) (by kernel_rfl) (by kernel_rfl) (by kernel_rfl) [0, 1, 2, 3, 4, 5, 6, 7] (by kernel_rfl) (by decide) (by decide) (aD 0 9 9 (by decide) (aD 1 8 9 (by decide) (aD 2 7 9 (by decide) (aD 3 6 9 (by decide) (aD 4 5 9 (by decide) (aD 5 4 9 (by decide) (aD 6 3 9 (by decide) (aD 7 2 9 (by decide) (aY 8 1 (by decide) (aY 9 0 (by decide) (trivial))))))))))) [(3, .pointer (some ⟨b6, 0, none⟩)), (4, .pointer (some ⟨b7, 0, none⟩)), (5, .pointer (some ⟨b8, 0, none⟩)), (6, .pointer (some ⟨b9, 0, none⟩))] (fin_of [none, none, none, none] rfl (by kernel_rfl) (by kernel_rfl)) (fun _ a w S => ?_)
  refine leafT (hK17 _ _ ?_)
  refine sSeq (fun K22 hK22 => ?_)
  refine sRegion ?_
  refine sField (b := b6) (off := 0) 0 0 S (wN rfl) rfl rfl rfl rfl rfl (lb rfl) fun a S => ?_
  refine sLoad1 (p := b6) (off := 0) (T := 24) (vs := [iv p0.W, iv p0.H, .slice ad3 p0.Bits.length cp4]) 3 (iv p0.W) S (wN rfl) rfl rfl rfl rfl rfl rfl (lb rfl) fun a S => ?_
  refine sField (b := b6) (off := 0) 1 1 S (wN rfl) rfl rfl rfl rfl rfl (lb rfl) fun a S => ?_
  refine sLoad1 (p := b6) (off := 1) (T := 24) (vs := [iv p0.W, iv p0.H, .slice ad3 p0.Bits.length cp4]) 3 (iv p0.H) S (wN rfl) rfl rfl rfl rfl rfl rfl (lb rfl) fun a S => ?_
  refine sFunc (g := 67) (vs := [.pointer (some ⟨b6, 0, none⟩), .pointer (some ⟨b8, 0, none⟩), .pointer (some ⟨b7, 0, none⟩)]) S (wN rfl) rfl rfl rfl (lb rfl) fun a S => ?_
  obtain ⟨r23, hx24, h⟩ := bindSome h
  have S := S.shutB (r := r_api_Grid) (T := 24) (b := b6) (cs := [iv p0.W, iv p0.H, .slice ad3 p0.Bits.length cp4]) 3 (.agg #[iv p0.W, iv p0.H, .slice ad3 p0.Bits.length cp4]) p0 rfl rfl (S.mem.know (i := 1) (e := fRep r_api_Grid (.agg #[iv p0.W, iv p0.H, .slice ad3 p0.Bits.length cp4]) p0) rfl)
  have S := S.shutB (r := (rI .i64)) (T := 3) (b := b8) (cs := [iv r20]) 0 (iv r20) r20 rfl rfl (rfl)
  have S := S.shutB (r := (rI .i64)) (T := 3) (b := b7) (cs := [iv r18]) 0 (iv r18) r18 rfl rfl (rfl)
  refine sCall (X := Value) (f := 64) (vs := [iv p0.W, iv p0.H, .func (.func 67) #[] #[.pointer (some ⟨b6, 0, none⟩), .pointer (some ⟨b8, 0, none⟩), .pointer (some ⟨b7, 0, none⟩)]]) (val := c_grid_build_s1_val r23) (B' := fun _ => []) (D' := c_grid_build_s1_D r23) [] [eBox b9 24 [iv 0, iv 0, .slice none 0 0]] [fPtr r_api_Grid (.pointer (some ⟨b6, 0, none⟩)) p0, fPtr (rI .i64) (.pointer (some ⟨b8, 0, none⟩)) r20, fPtr (rI .i64) (.pointer (some ⟨b7, 0, none⟩)) r18] [0] [2, 1, 0] S (wN rfl) rfl callee64 rfl (by decide) rfl rfl (fun E1 w1 S1 => c_grid_build_s1 E1 w1 p0.W p0.H p0 (.pointer (some ⟨b6, 0, none⟩)) r20 (.pointer (some ⟨b8, 0, none⟩)) r18 (.pointer (some ⟨b7, 0, none⟩)) r23 hx24 S1) rfl (lb rfl) fun u25 a w S => ?_
  obtain ⟨u26, rfl, hu27⟩ := S.mem.know (i := 0) (e := fRep r_api_Grid (u25) r23) rfl
  have S := S.learn (fRep (rL rB) u26 r23.Bits) hu27
  obtain ⟨ad28, cp29, _, rfl, _⟩ := hu27
  refine sStore (p := b9) (off := 0) (T := 24) (vs := [iv 0, iv 0, .slice none 0 0]) (v := .agg #[iv r23.W, iv r23.H, .slice ad28 r23.Bits.length cp29]) 0 [iv r23.W, iv r23.H, .slice ad28 r23.Bits.length cp29] S (wN rfl) rfl rfl rfl rfl rfl rfl rfl (by simp) rfl fun a w S => ?_
  refine sMove (iv 0) S (wN rfl) (.inr rfl) rfl rfl (lb rfl) fun a S => ?_
  refine leafL (leafT (hK22 _ _ ?_))
  obtain rfl := Option.some.inj h
  exact wp_ret (sRet (.tuple #[.agg #[iv r23.W, iv r23.H, .slice ad28 r23.Bits.length cp29], iv 0]) S (rsl2 rfl (rvN (c := 6) (t := 24) (T := 24) (p := b9) 0 [iv r23.W, iv r23.H, .slice ad28 r23.Bits.length cp29] S rfl rfl rfl rfl) (rvT (t := 7) (v := iv 0) S rfl)) ⟨(.agg #[iv r23.W, iv r23.H, .slice ad28 r23.Bits.length cp29]), rfl, S.mem.sel [] [1] (by decide) rfl rfl⟩)

end Go.Proofs.Ythfifeabomdlpaa
namespace Go.Proofs.Ythfifeabomdlpaa
open Go.RowKit
set_option linter.unusedVariables false

noncomputable def F_raddlelaw13_BlockTurns (p0 : api_Grid) (p1 : api_Grid) (p2 : api_Grid) (p3 : Int) (p4 : Int) : Option Bool :=
  Option.bind (F_raddlelaw13_alive) fun r18 =>
  Option.bind (α := Bool) (
    Option.bind (F_raddlelaw13_fit p0) fun r24 =>
    if !r24 then
      some true
    else
      Option.bind (F_raddlelaw13_fit p1) fun r27 =>
      if !r27 then
        some true
      else
        Option.bind (F_raddlelaw13_fit p2) fun r30 =>
        if !r30 then
          some true
        else
          if decide (p3 < (-20)) then
            some true
          else
            if decide (20 < p3) then
              some true
            else
              if decide (p4 < (-20)) then
                some true
              else
                if decide (20 < p4) then
                  some true
                else
                  some (!r18)) fun o21 =>
  if o21 then
    some r18
  else
    Option.bind (F_block_Fill p0 p1 p2) fun r40 =>
    if r40.2 != 0 then
      some r18
    else
      Option.bind (F_grid_Turn p0) fun r53 =>
      Option.bind (F_grid_Turn p1) fun r62 =>
      Option.bind (F_grid_Turn p2) fun r71 =>
      Option.bind (F_block_Fill r53.1 r62.1 r71.1) fun r80 =>
      Option.bind (F_grid_Turn r40.1) fun r89 =>
      Option.bind (α := Bool) (
        if r53.2 != 0 then
          some true
        else
          if r62.2 != 0 then
            some true
          else
            if r71.2 != 0 then
              some true
            else
              if r80.2 != 0 then
                some true
              else
                if r89.2 != 0 then
                  some true
                else
                  Option.bind (F_raddleref01_Same r80.1 r89.1) fun r106 =>
                  some (!r106)) fun o98 =>
      if o98 then
        some false
      else
        Option.bind (F_grid_Shift p0 p3 p4) fun r111 =>
        Option.bind (F_grid_Shift r40.1 (w64 (p3 * p1.W)) (w64 (p4 * p1.H))) fun r120 =>
        Option.bind (α := Bool) (
          if r111.2 != 0 then
            some true
          else
            some (r120.2 != 0)) fun o129 =>
        if o129 then
          some r18
        else
          Option.bind (F_block_Fill r111.1 p1 p2) fun r136 =>
          Option.bind (α := Bool) (
            if r18 then
              if r136.2 == 0 then
                Option.bind (F_raddleref01_Same r120.1 r136.1) fun r149 =>
                some r149
              else
                some false
            else
              some false) fun o144 =>
          some o144
set_option maxHeartbeats 4000000 in
set_option maxRecDepth 100000 in
theorem c_raddlelaw13_BlockTurns (E : Nat → Prop) (w0 : World) (p0 : api_Grid) (v0 : Value) (p1 : api_Grid) (v1 : Value) (p2 : api_Grid) (v2 : Value) (p3 : Int) (p4 : Int) (r : Bool) (h : F_raddlelaw13_BlockTurns p0 p1 p2 p3 p4 = some r) (S : St0 E [] w0 w0 [] [fRep r_api_Grid (v0) p0, fRep r_api_Grid (v1) p1, fRep r_api_Grid (v2) p2]) :
    Calls Try.prog 6 #[v0, v1, v2, iv p3, iv p4] w0 (Ret (X := Unit) E [] w0 (fun _ => .bool r) (fun _ => []) (fun _ => [])) := by
  unfold F_raddlelaw13_BlockTurns at h
  obtain ⟨u1, rfl, hu2⟩ := S.know (i := 0) (e := fRep r_api_Grid (v0) p0) rfl
  have S := S.learn (fRep (rL rB) u1 p0.Bits) hu2
  obtain ⟨ad3, cp4, _, rfl, _⟩ := hu2
  obtain ⟨u5, rfl, hu6⟩ := S.know (i := 2) (e := fRep r_api_Grid (v1) p1) rfl
  have S := S.learn (fRep (rL rB) u5 p1.Bits) hu6
  obtain ⟨ad7, cp8, _, rfl, _⟩ := hu6
  obtain ⟨u9, rfl, hu10⟩ := S.know (i := 4) (e := fRep r_api_Grid (v2) p2) rfl
  have S := S.learn (fRep (rL rB) u9 p2.Bits) hu10
  obtain ⟨ad11, cp12, _, rfl, _⟩ := hu10
  refine sEnter (args := [.agg #[iv p0.W, iv p0.H, .slice ad3 p0.Bits.length cp4], .agg #[iv p1.W, iv p1.H, .slice ad7 p1.Bits.length cp8], .agg #[iv p2.W, iv p2.H, .slice ad11 p2.Bits.length cp12], iv p3, iv p4]) 170 Try.func6 rfl rfl (by simp) S (fun a S => ?_)
  refine sSeq (fun K13 hK13 => ?_)
  refine sRegion ?_
  refine sBox (v := .agg #[iv p0.W, iv p0.H, .slice ad3 p0.Bits.length cp4]) S (wN rfl) rfl rfl [iv p0.W, iv p0.H, .slice ad3 p0.Bits.length cp4] rfl rfl (lb rfl) fun a b14 w S => ?_
  refine sBox (v := .agg #[iv p1.W, iv p1.H, .slice ad7 p1.Bits.length cp8]) S (wN rfl) rfl rfl [iv p1.W, iv p1.H, .slice ad7 p1.Bits.length cp8] rfl rfl (lb rfl) fun a b15 w S => ?_
  refine sBox (v := .agg #[iv p2.W, iv p2.H, .slice ad11 p2.Bits.length cp12]) S (wN rfl) rfl rfl [iv p2.W, iv p2.H, .slice ad11 p2.Bits.length cp12] rfl rfl (lb rfl) fun a b16 w S => ?_
  refine sMove (.bool false) S (wN rfl) (.inr rfl) rfl rfl (lb rfl) fun a S => ?_
  refine leafL (leafT (hK13 _ _ ?_))
  refine sSeq (fun K17 hK17 => ?_)
  refine sRegion ?_
  obtain ⟨r18, hx19, h⟩ := bindSome h
  have S1 := S.mem
  refine sCallQ (X := Unit) (f := 31) (vs := []) (val := fun _ => .bool r18) S (wN rfl) rfl callee31 rfl (S1.quiet [] rfl) (fun E1 w1 S1 => c_raddlelaw13_alive E1 w1  r18 hx19 S1) rfl (lb rfl) fun _ a w S => ?_
  refine sMove (.bool r18) S (wN rfl) (.inr rfl) rfl rfl (lb rfl) fun a S => ?_
  refine leafL (leafT (hK17 _ _ ?_))
  refine sSeq (fun K20 hK20 => ?_)
  obtain ⟨t22, h, g23⟩ := bindSome h
  refine sCut (fun a w => ∃ o21, o21 = t22 ∧ St [] E [] w0 170 a w [(3, iv p3), (4, iv p4), (5, .pointer (some ⟨b14, 0, none⟩)), (6, .pointer (some ⟨b15, 0, none⟩)), (7, .pointer (some ⟨b16, 0, none⟩)), (11, .bool r18), (63, .bool o21)] [eBox b14 24 [iv p0.W, iv p0.H, .slice ad3 p0.Bits.length cp4], eBox b15 24 [iv p1.W, iv p1.H, .slice ad7 p1.Bits.length cp8], eBox b16 24 [iv p2.W, iv p2.H, .slice ad11 p2.Bits.length cp12]] [fRep (rL rB) (.slice ad3 p0.Bits.length cp4) p0.Bits, fRep (rL rB) (.slice ad7 p1.Bits.length cp8) p1.Bits, fRep (rL rB) (.slice ad11 p2.Bits.length cp12) p2.Bits]) ?_ (fun a w hI => ?_)
  · refine sRegion ?_
    refine sLoadN (p := b14) (off := 0) (T := 24) (vs := [iv p0.W, iv p0.H, .slice ad3 p0.Bits.length cp4]) 2 [iv p0.W, iv p0.H, .slice ad3 p0.Bits.length cp4] S (wN rfl) rfl rfl rfl rfl rfl rfl rfl (lb rfl) fun a S => ?_
    obtain ⟨r24, hx25, h⟩ := bindSome h
    have S1 := S.mem
    refine sCallQ (X := Unit) (f := 32) (vs := [.agg #[iv p0.W, iv p0.H, .slice ad3 p0.Bits.length cp4]]) (val := fun _ => .bool r24) S (wN rfl) rfl callee32 rfl (S1.quiet [3] rfl) (fun E1 w1 S1 => c_raddlelaw13_fit E1 w1 p0 (.agg #[iv p0.W, iv p0.H, .slice ad3 p0.Bits.length cp4]) r24 hx25 S1) rfl (lb rfl) fun _ a w S => ?_
    refine sNot (b := r24) S (wN rfl) rfl rfl rfl (lb rfl) fun a S => ?_
    refine sMove (.bool (!r24)) S (wN rfl) (.inl rfl) rfl rfl (lb rfl) fun a S => ?_
    rcases iteSome h with ⟨hc26, h⟩ | ⟨hc26, h⟩
    · refine sSkip 3 false 34 35 S rfl rfl rfl hc26 rfl (lb rfl) fun a S => ?_
      refine sSkip 3 false 34 36 S rfl rfl rfl hc26 rfl (lb rfl) fun a S => ?_
      refine sSkip 3 false 34 37 S rfl rfl rfl hc26 rfl (lb rfl) fun a S => ?_
      refine sPickT (.bool true) S (wN rfl) rfl rfl hc26 rfl rfl (lb rfl) fun a S => ?_
      refine sMove (.bool true) S (wN rfl) (.inl rfl) rfl rfl (lb rfl) fun a S => ?_
      refine sSkip 8 false 39 40 S rfl rfl rfl rfl rfl (lb rfl) fun a S => ?_
      refine sSkip 8 false 39 41 S rfl rfl rfl rfl rfl (lb rfl) fun a S => ?_
      refine sSkip 8 false 39 42 S rfl rfl rfl rfl rfl (lb rfl) fun a S => ?_
      refine sPickT (.bool true) S (wN rfl) rfl rfl rfl rfl rfl (lb rfl) fun a S => ?_
      refine sMove (.bool true) S (wN rfl) (.inl rfl) rfl rfl (lb rfl) fun a S => ?_
      refine sSkip 13 false 44 45 S rfl rfl rfl rfl rfl (lb rfl) fun a S => ?_
      refine sSkip 13 false 44 46 S rfl rfl rfl rfl rfl (lb rfl) fun a S => ?_
      refine sPickT (.bool true) S (wN rfl) rfl rfl rfl rfl rfl (lb rfl) fun a S => ?_
      refine sMove (.bool true) S (wN rfl) (.inl rfl) rfl rfl (lb rfl) fun a S => ?_
      refine sSkip 17 false 48 49 S rfl rfl rfl rfl rfl (lb rfl) fun a S => ?_
      refine sSkip 17 false 48 50 S rfl rfl rfl rfl rfl (lb rfl) fun a S => ?_
      refine sPickT (.bool true) S (wN rfl) rfl rfl rfl rfl rfl (lb rfl) fun a S => ?_
      refine sMove (.bool true) S (wN rfl) (.inl rfl) rfl rfl (lb rfl) fun a S => ?_
      refine sSkip 21 false 52 53 S rfl rfl rfl rfl rfl (lb rfl) fun a S => ?_
      refine sSkip 21 false 52 54 S rfl rfl rfl rfl rfl (lb rfl) fun a S => ?_
      refine sPickT (.bool true) S (wN rfl) rfl rfl rfl rfl rfl (lb rfl) fun a S => ?_
      refine sMove (.bool true) S (wN rfl) (.inl rfl) rfl rfl (lb rfl) fun a S => ?_
      refine sSkip 25 false 56 57 S rfl rfl rfl rfl rfl (lb rfl) fun a S => ?_
      refine sSkip 25 false 56 58 S rfl rfl rfl rfl rfl (lb rfl) fun a S => ?_
      refine sPickT (.bool true) S (wN rfl) rfl rfl rfl rfl rfl (lb rfl) fun a S => ?_
      refine sMove (.bool true) S (wN rfl) (.inl rfl) rfl rfl (lb rfl) fun a S => ?_
      refine sSkip 29 false 60 61 S rfl rfl rfl rfl rfl (lb rfl) fun a S => ?_
      refine sSkip 29 false 60 62 S rfl rfl rfl rfl rfl (lb rfl) fun a S => ?_
      refine sPickT (.bool true) S (wN rfl) rfl rfl rfl rfl rfl (lb rfl) fun a S => ?_
      exact leafL (leafT (⟨true, Option.some.inj h, S.fix [2, 1, 0] [2, 1, 0] (by decide) rfl rfl rfl⟩))
    refine sLoadN (p := b15) (off := 0) (T := 24) (vs := [iv p1.W, iv p1.H, .slice ad7 p1.Bits.length cp8]) 1 [iv p1.W, iv p1.H, .slice ad7 p1.Bits.length cp8] S (wG 3 false 34 rfl rfl rfl hc26) rfl rfl rfl rfl rfl rfl rfl (lb rfl) fun a S => ?_
    obtain ⟨r27, hx28, h⟩ := bindSome h
    have S1 := S.mem
    refine sCallQ (X := Unit) (f := 32) (vs := [.agg #[iv p1.W, iv p1.H, .slice ad7 p1.Bits.length cp8]]) (val := fun _ => .bool r27) S (wG 3 false 34 rfl rfl rfl hc26) rfl callee32 rfl (S1.quiet [4] rfl) (fun E1 w1 S1 => c_raddlelaw13_fit E1 w1 p1 (.agg #[iv p1.W, iv p1.H, .slice ad7 p1.Bits.length cp8]) r27 hx28 S1) rfl (lb rfl) fun _ a w S => ?_
    refine sNot (b := r27) S (wG 3 false 34 rfl rfl rfl hc26) rfl rfl rfl (lb rfl) fun a S => ?_
    refine sPickF (.bool (!r27)) S (wN rfl) rfl rfl hc26 rfl rfl (lb rfl) fun a S => ?_
    refine sMove (.bool (!r27)) S (wN rfl) (.inl rfl) rfl rfl (lb rfl) fun a S => ?_
    rcases iteSome h with ⟨hc29, h⟩ | ⟨hc29, h⟩
    · refine sSkip 8 false 39 40 S rfl rfl rfl hc29 rfl (lb rfl) fun a S => ?_
      refine sSkip 8 false 39 41 S rfl rfl rfl hc29 rfl (lb rfl) fun a S => ?_
      refine sSkip 8 false 39 42 S rfl rfl rfl hc29 rfl (lb rfl) fun a S => ?_
      refine sPickT (.bool true) S (wN rfl) rfl rfl hc29 rfl rfl (lb rfl) fun a S => ?_
      refine sMove (.bool true) S (wN rfl) (.inl rfl) rfl rfl (lb rfl) fun a S => ?_
      refine sSkip 13 false 44 45 S rfl rfl rfl rfl rfl (lb rfl) fun a S => ?_
      refine sSkip 13 false 44 46 S rfl rfl rfl rfl rfl (lb rfl) fun a S => ?_
      refine sPickT (.bool true) S (wN rfl) rfl rfl rfl rfl rfl (lb rfl) fun a S => ?_
      refine sMove (.bool true) S (wN rfl) (.inl rfl) rfl rfl (lb rfl) fun a S => ?_
      refine sSkip 17 false 48 49 S rfl rfl rfl rfl rfl (lb rfl) fun a S => ?_
      refine sSkip 17 false 48 50 S rfl rfl rfl rfl rfl (lb rfl) fun a S => ?_
      refine sPickT (.bool true) S (wN rfl) rfl rfl rfl rfl rfl (lb rfl) fun a S => ?_
      refine sMove (.bool true) S (wN rfl) (.inl rfl) rfl rfl (lb rfl) fun a S => ?_
      refine sSkip 21 false 52 53 S rfl rfl rfl rfl rfl (lb rfl) fun a S => ?_
      refine sSkip 21 false 52 54 S rfl rfl rfl rfl rfl (lb rfl) fun a S => ?_
      refine sPickT (.bool true) S (wN rfl) rfl rfl rfl rfl rfl (lb rfl) fun a S => ?_
      refine sMove (.bool true) S (wN rfl) (.inl rfl) rfl rfl (lb rfl) fun a S => ?_
      refine sSkip 25 false 56 57 S rfl rfl rfl rfl rfl (lb rfl) fun a S => ?_
      refine sSkip 25 false 56 58 S rfl rfl rfl rfl rfl (lb rfl) fun a S => ?_
      refine sPickT (.bool true) S (wN rfl) rfl rfl rfl rfl rfl (lb rfl) fun a S => ?_
      refine sMove (.bool true) S (wN rfl) (.inl rfl) rfl rfl (lb rfl) fun a S => ?_
      refine sSkip 29 false 60 61 S rfl rfl rfl rfl rfl (lb rfl) fun a S => ?_
      refine sSkip 29 false 60 62 S rfl rfl rfl rfl rfl (lb rfl) fun a S => ?_
      refine sPickT (.bool true) S (wN rfl) rfl rfl rfl rfl rfl (lb rfl) fun a S => ?_
      exact leafL (leafT (⟨true, Option.some.inj h, S.fix [2, 1, 0] [2, 1, 0] (by decide) rfl rfl rfl⟩))
    refine sLoadN (p := b16) (off := 0) (T := 24) (vs := [iv p2.W, iv p2.H, .slice ad11 p2.Bits.length cp12]) 0 [iv p2.W, iv p2.H, .slice ad11 p2.Bits.length cp12] S (wG 8 false 39 rfl rfl rfl hc29) rfl rfl rfl rfl rfl rfl rfl (lb rfl) fun a S => ?_
    obtain ⟨r30, hx31, h⟩ := bindSome h
    have S1 := S.mem
    refine sCallQ (X := Unit) (f := 32) (vs := [.agg #[iv p2.W, iv p2.H, .slice ad11 p2.Bits.length cp12]]) (val := fun _ => .bool r30) S (wG 8 false 39 rfl rfl rfl hc29) rfl callee32 rfl (S1.quiet [5] rfl) (fun E1 w1 S1 => c_raddlelaw13_fit E1 w1 p2 (.agg #[iv p2.W, iv p2.H, .slice ad11 p2.Bits.length cp12]) r30 hx31 S1) rfl (lb rfl) fun _ a w S => ?_
    refine sNot (b := r30) S (wG 8 false 39 rfl rfl rfl hc29) rfl rfl rfl (lb rfl) fun a S => ?_
    refine sPickF (.bool (!r30)) S (wN rfl) rfl rfl hc29 rfl rfl (lb rfl) fun a S => ?_
    refine sMove (.bool (!r30)) S (wN rfl) (.inl rfl) rfl rfl (lb rfl) fun a S => ?_
    rcases iteSome h with ⟨hc32, h⟩ | ⟨hc32, h⟩
    · refine sSkip 13 false 44 45 S rfl rfl rfl hc32 rfl (lb rfl) fun a S => ?_
      refine sSkip 13 false 44 46 S rfl rfl rfl hc32 rfl (lb rfl) fun a S => ?_
      refine sPickT (.bool true) S (wN rfl) rfl rfl hc32 rfl rfl (lb rfl) fun a S => ?_
      refine sMove (.bool true) S (wN rfl) (.inl rfl) rfl rfl (lb rfl) fun a S => ?_
      refine sSkip 17 false 48 49 S rfl rfl rfl rfl rfl (lb rfl) fun a S => ?_
      refine sSkip 17 false 48 50 S rfl rfl rfl rfl rfl (lb rfl) fun a S => ?_
      refine sPickT (.bool true) S (wN rfl) rfl rfl rfl rfl rfl (lb rfl) fun a S => ?_
      refine sMove (.bool true) S (wN rfl) (.inl rfl) rfl rfl (lb rfl) fun a S => ?_
      refine sSkip 21 false 52 53 S rfl rfl rfl rfl rfl (lb rfl) fun a S => ?_
      refine sSkip 21 false 52 54 S rfl rfl rfl rfl rfl (lb rfl) fun a S => ?_
      refine sPickT (.bool true) S (wN rfl) rfl rfl rfl rfl rfl (lb rfl) fun a S => ?_
      refine sMove (.bool true) S (wN rfl) (.inl rfl) rfl rfl (lb rfl) fun a S => ?_
      refine sSkip 25 false 56 57 S rfl rfl rfl rfl rfl (lb rfl) fun a S => ?_
      refine sSkip 25 false 56 58 S rfl rfl rfl rfl rfl (lb rfl) fun a S => ?_
      refine sPickT (.bool true) S (wN rfl) rfl rfl rfl rfl rfl (lb rfl) fun a S => ?_
      refine sMove (.bool true) S (wN rfl) (.inl rfl) rfl rfl (lb rfl) fun a S => ?_
      refine sSkip 29 false 60 61 S rfl rfl rfl rfl rfl (lb rfl) fun a S => ?_
      refine sSkip 29 false 60 62 S rfl rfl rfl rfl rfl (lb rfl) fun a S => ?_
      refine sPickT (.bool true) S (wN rfl) rfl rfl rfl rfl rfl (lb rfl) fun a S => ?_
      exact leafL (leafT (⟨true, Option.some.inj h, S.fix [2, 1, 0] [2, 1, 0] (by decide) rfl rfl rfl⟩))
    refine sMove (iv p3) S (wG 13 false 44 rfl rfl rfl hc32) (.inl rfl) rfl rfl (lb rfl) fun a S => ?_
    refine sBin (.bool (decide (p3 < (-20)))) S (wG 13 false 44 rfl rfl rfl hc32) rfl rfl rfl (bLt _ _ _ _ .i64 p3 (-20)) rfl (lb rfl) fun a S => ?_
    refine sPickF (.bool (decide (p3 < (-20)))) S (wN rfl) rfl rfl hc32 rfl rfl (lb rfl) fun a S => ?_
    refine sMove (.bool (decide (p3 < (-20)))) S (wN rfl) (.inl rfl) rfl rfl (lb rfl) fun a S => ?_
    rcases iteSome h with ⟨hc33, h⟩ | ⟨hc33, h⟩
    · refine sSkip 17 false 48 49 S rfl rfl rfl hc33 rfl (lb rfl) fun a S => ?_
      refine sSkip 17 false 48 50 S rfl rfl rfl hc33 rfl (lb rfl) fun a S => ?_
      refine sPickT (.bool true) S (wN rfl) rfl rfl hc33 rfl rfl (lb rfl) fun a S => ?_
      refine sMove (.bool true) S (wN rfl) (.inl rfl) rfl rfl (lb rfl) fun a S => ?_
      refine sSkip 21 false 52 53 S rfl rfl rfl rfl rfl (lb rfl) fun a S => ?_
      refine sSkip 21 false 52 54 S rfl rfl rfl rfl rfl (lb rfl) fun a S => ?_
      refine sPickT (.bool true) S (wN rfl) rfl rfl rfl rfl rfl (lb rfl) fun a S => ?_
      refine sMove (.bool true) S (wN rfl) (.inl rfl) rfl rfl (lb rfl) fun a S => ?_
      refine sSkip 25 false 56 57 S rfl rfl rfl rfl rfl (lb rfl) fun a S => ?_
      refine sSkip 25 false 56 58 S rfl rfl rfl rfl rfl (lb rfl) fun a S => ?_
      refine sPickT (.bool true) S (wN rfl) rfl rfl rfl rfl rfl (lb rfl) fun a S => ?_
      refine sMove (.bool true) S (wN rfl) (.inl rfl) rfl rfl (lb rfl) fun a S => ?_
      refine sSkip 29 false 60 61 S rfl rfl rfl rfl rfl (lb rfl) fun a S => ?_
      refine sSkip 29 false 60 62 S rfl rfl rfl rfl rfl (lb rfl) fun a S => ?_
      refine sPickT (.bool true) S (wN rfl) rfl rfl rfl rfl rfl (lb rfl) fun a S => ?_
      exact leafL (leafT (⟨true, Option.some.inj h, S.fix [2, 1, 0] [2, 1, 0] (by decide) rfl rfl rfl⟩))
    refine sMove (iv p3) S (wG 17 false 48 rfl rfl rfl hc33) (.inl rfl) rfl rfl (lb rfl) fun a S => ?_
    refine sBin (.bool (decide (20 < p3))) S (wG 17 false 48 rfl rfl rfl hc33) rfl rfl rfl (bGt _ _ _ _ .i64 p3 20) rfl (lb rfl) fun a S => ?_
    refine sPickF (.bool (decide (20 < p3))) S (wN rfl) rfl rfl hc33 rfl rfl (lb rfl) fun a S => ?_
    refine sMove (.bool (decide (20 < p3))) S (wN rfl) (.inl rfl) rfl rfl (lb rfl) fun a S => ?_
    rcases iteSome h with ⟨hc34, h⟩ | ⟨hc34, h⟩
    · refine sSkip 21 false 52 53 S rfl rfl rfl hc34 rfl (lb rfl) fun a S => ?_
      refine sSkip 21 false 52 54 S rfl rfl rfl hc34 rfl (lb rfl) fun a S => ?_
      refine sPickT (.bool true) S (wN rfl) rfl rfl hc34 rfl rfl (lb rfl) fun a S => ?_
      refine sMove (.bool true) S (wN rfl) (.inl rfl) rfl rfl (lb rfl) fun a S => ?_
      refine sSkip 25 false 56 57 S rfl rfl rfl rfl rfl (lb rfl) fun a S => ?_
      refine sSkip 25 false 56 58 S rfl rfl rfl rfl rfl (lb rfl) fun a S => ?_
      refine sPickT (.bool true) S (wN rfl) rfl rfl rfl rfl rfl (lb rfl) fun a S => ?_
      refine sMove (.bool true) S (wN rfl) (.inl rfl) rfl rfl (lb rfl) fun a S => ?_
      refine sSkip 29 false 60 61 S rfl rfl rfl rfl rfl (lb rfl) fun a S => ?_
      refine sSkip 29 false 60 62 S rfl rfl rfl rfl rfl (lb rfl) fun a S => ?_
      refine sPickT (.bool true) S (wN rfl) rfl rfl rfl rfl rfl (lb rfl) fun a S => ?_
      exact leafL (leafT (⟨true, Option.some.inj h, S.fix [2, 1, 0] [2, 1, 0] (by decide) rfl rfl rfl⟩))
    refine sMove (iv p4) S (wG 21 false 52 rfl rfl rfl hc34) (.inl rfl) rfl rfl (lb rfl) fun a S => ?_
    refine sBin (.bool (decide (p4 < (-20)))) S (wG 21 false 52 rfl rfl rfl hc34) rfl rfl rfl (bLt _ _ _ _ .i64 p4 (-20)) rfl (lb rfl) fun a S => ?_
    refine sPickF (.bool (decide (p4 < (-20)))) S (wN rfl) rfl rfl hc34 rfl rfl (lb rfl) fun a S => ?_
    refine sMove (.bool (decide (p4 < (-20)))) S (wN rfl) (.inl rfl) rfl rfl (lb rfl) fun a S => ?_
    rcases iteSome h with ⟨hc35, h⟩ | ⟨hc35, h⟩
    · refine sSkip 25 false 56 57 S rfl rfl rfl hc35 rfl (lb rfl) fun a S => ?_
      refine sSkip 25 false 56 58 S rfl rfl rfl hc35 rfl (lb rfl) fun a S => ?_
      refine sPickT (.bool true) S (wN rfl) rfl rfl hc35 rfl rfl (lb rfl) fun a S => ?_
      refine sMove (.bool true) S (wN rfl) (.inl rfl) rfl rfl (lb rfl) fun a S => ?_
      refine sSkip 29 false 60 61 S rfl rfl rfl rfl rfl (lb rfl) fun a S => ?_
      refine sSkip 29 false 60 62 S rfl rfl rfl rfl rfl (lb rfl) fun a S => ?_
      refine sPickT (.bool true) S (wN rfl) rfl rfl rfl rfl rfl (lb rfl) fun a S => ?_
      exact leafL (leafT (⟨true, Option.some.inj h, S.fix [2, 1, 0] [2, 1, 0] (by decide) rfl rfl rfl⟩))
    refine sMove (iv p4) S (wG 25 false 56 rfl rfl rfl hc35) (.inl rfl) rfl rfl (lb rfl) fun a S => ?_
    refine sBin (.bool (decide (20 < p4))) S (wG 25 false 56 rfl rfl rfl hc35) rfl rfl rfl (bGt _ _ _ _ .i64 p4 20) rfl (lb rfl) fun a S => ?_
    refine sPickF (.bool (decide (20 < p4))) S (wN rfl) rfl rfl hc35 rfl rfl (lb rfl) fun a S => ?_
    refine sMove (.bool (decide (20 < p4))) S (wN rfl) (.inl rfl) rfl rfl (lb rfl) fun a S => ?_
    rcases iteSome h with ⟨hc36, h⟩ | ⟨hc36, h⟩
    · refine sSkip 29 false 60 61 S rfl rfl rfl hc36 rfl (lb rfl) fun a S => ?_
      refine sSkip 29 false 60 62 S rfl rfl rfl hc36 rfl (lb rfl) fun a S => ?_
      refine sPickT (.bool true) S (wN rfl) rfl rfl hc36 rfl rfl (lb rfl) fun a S => ?_
      exact leafL (leafT (⟨true, Option.some.inj h, S.fix [2, 1, 0] [2, 1, 0] (by decide) rfl rfl rfl⟩))
    refine sMove (.bool r18) S (wG 29 false 60 rfl rfl rfl hc36) (.inl rfl) rfl rfl (lb rfl) fun a S => ?_
    refine sNot (b := r18) S (wG 29 false 60 rfl rfl rfl hc36) rfl rfl rfl (lb rfl) fun a S => ?_
    refine sPickF (.bool (!r18)) S (wN rfl) rfl rfl hc36 rfl rfl (lb rfl) fun a S => ?_
    exact leafL (leafT (⟨!r18, Option.some.inj h, S.fix [2, 1, 0] [2, 1, 0] (by decide) rfl rfl rfl⟩))
  obtain ⟨o21, rfl, S⟩ := hI
  have h := g23
  clear g23
  try dsimp only at h
  rcases iteSome h with ⟨hc37, h⟩ | ⟨hc37, h⟩
  · refine sCondT S rfl hc37 ?_
    refine sSeq (fun K38 hK38 => ?_)
    refine sRegion ?_
    refine sMove (.bool r18) S (wN rfl) (.inl rfl) rfl rfl (lb rfl) fun a S => ?_
    refine sMove (.bool r18) S (wN rfl) (.inr rfl) rfl rfl (lb rfl) fun a S => ?_
    refine leafL (leafT (hK38 _ _ ?_))
    obtain rfl := Option.some.inj h
    exact wp_ret (rThen (sRet (.bool r18) S (rsl1 rfl (rvT (t := 10) (v := .bool r18) S rfl)) ⟨(), rfl, S.mem.sel [] [] (by decide) rfl rfl⟩))
  refine sCondF S rfl hc37 ?_
  refine wp_skip (leafT (hK20 _ _ ?_))
  refine sSeq (fun K39 hK39 => ?_)
  refine sRegion ?_
  refine sLoadN (p := b14) (off := 0) (T := 24) (vs := [iv p0.W, iv p0.H, .slice ad3 p0.Bits.length cp4]) 0 [iv p0.W, iv p0.H, .slice ad3 p0.Bits.length cp4] S (wN rfl) rfl rfl rfl rfl rfl rfl rfl (lb rfl) fun a S => ?_
  refine sLoadN (p := b15) (off := 0) (T := 24) (vs := [iv p1.W, iv p1.H, .slice ad7 p1.Bits.length cp8]) 1 [iv p1.W, iv p1.H, .slice ad7 p1.Bits.length cp8] S (wN rfl) rfl rfl rfl rfl rfl rfl rfl (lb rfl) fun a S => ?_
  refine sLoadN (p := b16) (off := 0) (T := 24) (vs := [iv p2.W, iv p2.H, .slice ad11 p2.Bits.length cp12]) 2 [iv p2.W, iv p2.H, .slice ad11 p2.Bits.length cp12] S (wN rfl) rfl rfl rfl rfl rfl rfl rfl (lb rfl) fun a S => ?_
  obtain ⟨r40, hx41, h⟩ := bindSome h
  have S := S.learn (fRep r_api_Grid (.agg #[iv p0.W, iv p0.H, .slice ad3 p0.Bits.length cp4]) p0) ⟨_, rfl, S.mem.know (i := 0) (e := fRep (rL rB) (.slice ad3 p0.Bits.length cp4) p0.Bits) rfl⟩
  have S := S.learn (fRep r_api_Grid (.agg #[iv p1.W, iv p1.H, .slice ad7 p1.Bits.length cp8]) p1) ⟨_, rfl, S.mem.know (i := 2) (e := fRep (rL rB) (.slice ad7 p1.Bits.length cp8) p1.Bits) rfl⟩
  have S := S.learn (fRep r_api_Grid (.agg #[iv p2.W, iv p2.H, .slice ad11 p2.Bits.length cp12]) p2) ⟨_, rfl, S.mem.know (i := 4) (e := fRep (rL rB) (.slice ad11 p2.Bits.length cp12) p2.Bits) rfl⟩
  refine sCall (X := Value) (f := 13) (vs := [.agg #[iv p0.W, iv p0.H, .slice ad3 p0.Bits.length cp4], .agg #[iv p1.W, iv p1.H, .slice ad7 p1.Bits.length cp8], .agg #[iv p2.W, iv p2.H, .slice ad11 p2.Bits.length cp12]]) (val := c_block_Fill_val r40) (B' := fun _ => []) (D' := c_block_Fill_D r40) [] [eBox b14 24 [iv p0.W, iv p0.H, .slice ad3 p0.Bits.length cp4], eBox b15 24 [iv p1.W, iv p1.H, .slice ad7 p1.Bits.length cp8], eBox b16 24 [iv p2.W, iv p2.H, .slice ad11 p2.Bits.length cp12]] [fRep r_api_Grid (.agg #[iv p0.W, iv p0.H, .slice ad3 p0.Bits.length cp4]) p0, fRep r_api_Grid (.agg #[iv p1.W, iv p1.H, .slice ad7 p1.Bits.length cp8]) p1, fRep r_api_Grid (.agg #[iv p2.W, iv p2.H, .slice ad11 p2.Bits.length cp12]) p2] [0, 1, 2] [2, 1, 0] S (wN rfl) rfl callee13 rfl (by decide) rfl rfl (fun E1 w1 S1 => c_block_Fill E1 w1 p0 (.agg #[iv p0.W, iv p0.H, .slice ad3 p0.Bits.length cp4]) p1 (.agg #[iv p1.W, iv p1.H, .slice ad7 p1.Bits.length cp8]) p2 (.agg #[iv p2.W, iv p2.H, .slice ad11 p2.Bits.length cp12]) r40 hx41 S1) rfl (lb rfl) fun u42 a w S => ?_
  obtain ⟨u43, rfl, hu44⟩ := S.mem.know (i := 0) (e := fRep r_api_Grid (u42) r40.1) rfl
  have S := S.learn (fRep (rL rB) u43 r40.1.Bits) hu44
  obtain ⟨ad45, cp46, _, rfl, _⟩ := hu44
  refine sMove (.tuple #[.agg #[iv r40.1.W, iv r40.1.H, .slice ad45 r40.1.Bits.length cp46], iv r40.2]) S (wN rfl) (.inl rfl) rfl rfl (lb rfl) fun a S => ?_
  refine sExtract (vs := [.agg #[iv r40.1.W, iv r40.1.H, .slice ad45 r40.1.Bits.length cp46], iv r40.2]) (.agg #[iv r40.1.W, iv r40.1.H, .slice ad45 r40.1.Bits.length cp46]) S (wN rfl) rfl rfl rfl rfl (lb rfl) fun a S => ?_
  refine sExtract (vs := [.agg #[iv r40.1.W, iv r40.1.H, .slice ad45 r40.1.Bits.length cp46], iv r40.2]) (iv r40.2) S (wN rfl) rfl rfl rfl rfl (lb rfl) fun a S => ?_
  refine sAlloc (.agg #[iv 0, iv 0, .slice none 0 0]) S (wN rfl) rfl rfl [iv 0, iv 0, .slice none 0 0] rfl rfl (lb rfl) fun a b47 w S => ?_
  refine sStore (p := b47) (off := 0) (T := 24) (vs := [iv 0, iv 0, .slice none 0 0]) (v := .agg #[iv r40.1.W, iv r40.1.H, .slice ad45 r40.1.Bits.length cp46]) 0 [iv r40.1.W, iv r40.1.H, .slice ad45 r40.1.Bits.length cp46] S (wN rfl) rfl rfl rfl rfl rfl rfl rfl (by simp) rfl fun a w S => ?_
  refine sMove (iv r40.2) S (wN rfl) (.inr rfl) rfl rfl (lb rfl) fun a S => ?_
  refine leafL (leafT (hK39 _ _ ?_))
  refine sSeq (fun K48 hK48 => ?_)
  refine sSeq (fun K49 hK49 => ?_)
  refine sRegion ?_
  refine sMove (iv r40.2) S (wN rfl) (.inl rfl) rfl rfl (lb rfl) fun a S => ?_
  refine sBin (.bool (r40.2 != 0)) S (wN rfl) rfl rfl rfl (bNe _ _ _ _ .i64 r40.2 0) rfl (lb rfl) fun a S => ?_
  refine leafL (leafT (hK49 _ _ ?_))
  rcases iteSome h with ⟨hc50, h⟩ | ⟨hc50, h⟩
  · refine sCondT S rfl hc50 ?_
    refine sSeq (fun K51 hK51 => ?_)
    refine sRegion ?_
    refine sMove (.bool r18) S (wN rfl) (.inl rfl) rfl rfl (lb rfl) fun a S => ?_
    refine sMove (.bool r18) S (wN rfl) (.inr rfl) rfl rfl (lb rfl) fun a S => ?_
    refine leafL (leafT (hK51 _ _ ?_))
    obtain rfl := Option.some.inj h
    exact wp_ret (rThen (sRet (.bool r18) S (rsl1 rfl (rvT (t := 10) (v := .bool r18) S rfl)) ⟨(), rfl, S.mem.sel [] [] (by decide) rfl rfl⟩))
  refine sCondF S rfl hc50 ?_
  refine wp_skip (leafT (hK48 _ _ ?_))
  refine sSeq (fun K52 hK52 => ?_)
  refine sRegion ?_
  refine sLoadN (p := b14) (off := 0) (T := 24) (vs := [iv p0.W, iv p0.H, .slice ad3 p0.Bits.length cp4]) 1 [iv p0.W, iv p0.H, .slice ad3 p0.Bits.length cp4] S (wN rfl) rfl rfl rfl rfl rfl rfl rfl (lb rfl) fun a S => ?_
  obtain ⟨r53, hx54, h⟩ := bindSome h
  refine sCall (X := Value) (f := 33) (vs := [.agg #[iv p0.W, iv p0.H, .slice ad3 p0.Bits.length cp4]]) (val := c_grid_Turn_val r53) (B' := fun _ => []) (D' := c_grid_Turn_D r53) [] [eBox b47 24 [iv r40.1.W, iv r40.1.H, .slice ad45 r40.1.Bits.length cp46], eBox b14 24 [iv p0.W, iv p0.H, .slice ad3 p0.Bits.length cp4], eBox b15 24 [iv p1.W, iv p1.H, .slice ad7 p1.Bits.length cp8], eBox b16 24 [iv p2.W, iv p2.H, .slice ad11 p2.Bits.length cp12]] [fRep r_api_Grid (.agg #[iv p0.W, iv p0.H, .slice ad3 p0.Bits.length cp4]) p0] [0, 1, 2, 3] [4] S (wN rfl) rfl callee33 rfl (by decide) rfl rfl (fun E1 w1 S1 => c_grid_Turn E1 w1 p0 (.agg #[iv p0.W, iv p0.H, .slice ad3 p0.Bits.length cp4]) r53 hx54 S1) rfl (lb rfl) fun u55 a w S => ?_
  obtain ⟨u56, rfl, hu57⟩ := S.mem.know (i := 0) (e := fRep r_api_Grid (u55) r53.1) rfl
  have S := S.learn (fRep (rL rB) u56 r53.1.Bits) hu57
  obtain ⟨ad58, cp59, _, rfl, _⟩ := hu57
  refine sMove (.tuple #[.agg #[iv r53.1.W, iv r53.1.H, .slice ad58 r53.1.Bits.length cp59], iv r53.2]) S (wN rfl) (.inl rfl) rfl rfl (lb rfl) fun a S => ?_
  refine sExtract (vs := [.agg #[iv r53.1.W, iv r53.1.H, .slice ad58 r53.1.Bits.length cp59], iv r53.2]) (.agg #[iv r53.1.W, iv r53.1.H, .slice ad58 r53.1.Bits.length cp59]) S (wN rfl) rfl rfl rfl rfl (lb rfl) fun a S => ?_
  refine sExtract (vs := [.agg #[iv r53.1.W, iv r53.1.H, .slice ad58 r53.1.Bits.length cp59], iv r53.2]) (iv r53.2) S (wN rfl) rfl rfl rfl rfl (lb rfl) fun a S => ?_
  refine sAlloc (.agg #[iv 0, iv 0, .slice none 0 0]) S (wN rfl) rfl rfl [iv 0, iv 0, .slice none 0 0] rfl rfl (lb rfl) fun a b60 w S => ?_
  refine sStore (p := b60) (off := 0) (T := 24) (vs := [iv 0, iv 0, .slice none 0 0]) (v := .agg #[iv r53.1.W, iv r53.1.H, .slice ad58 r53.1.Bits.length cp59]) 0 [iv r53.1.W, iv r53.1.H, .slice ad58 r53.1.Bits.length cp59] S (wN rfl) rfl rfl rfl rfl rfl rfl rfl (by simp) rfl fun a w S => ?_
  refine sMove (iv r53.2) S (wN rfl) (.inr rfl) rfl rfl (lb rfl) fun a S => ?_
  refine leafL (leafT (hK52 _ _ ?_))
  refine sSeq (fun K61 hK61 => ?_)
  refine sRegion ?_
  refine sLoadN (p := b15) (off := 0) (T := 24) (vs := [iv p1.W, iv p1.H, .slice ad7 p1.Bits.length cp8]) 3 [iv p1.W, iv p1.H, .slice ad7 p1.Bits.length cp8] S (wN rfl) rfl rfl rfl rfl rfl rfl rfl (lb rfl) fun a S => ?_
  obtain ⟨r62, hx63, h⟩ := bindSome h
  refine sCall (X := Value) (f := 33) (vs := [.agg #[iv p1.W, iv p1.H, .slice ad7 p1.Bits.length cp8]]) (val := c_grid_Turn_val r62) (B' := fun _ => []) (D' := c_grid_Turn_D r62) [] [eBox b60 24 [iv r53.1.W, iv r53.1.H, .slice ad58 r53.1.Bits.length cp59], eBox b47 24 [iv r40.1.W, iv r40.1.H, .slice ad45 r40.1.Bits.length cp46], eBox b14 24 [iv p0.W, iv p0.H, .slice ad3 p0.Bits.length cp4], eBox b15 24 [iv p1.W, iv p1.H, .slice ad7 p1.Bits.length cp8], eBox b16 24 [iv p2.W, iv p2.H, .slice ad11 p2.Bits.length cp12]] [fRep r_api_Grid (.agg #[iv p1.W, iv p1.H, .slice ad7 p1.Bits.length cp8]) p1] [0, 1, 2, 3, 4] [5] S (wN rfl) rfl callee33 rfl (by decide) rfl rfl (fun E1 w1 S1 => c_grid_Turn E1 w1 p1 (.agg #[iv p1.W, iv p1.H, .slice ad7 p1.Bits.length cp8]) r62 hx63 S1) rfl (lb rfl) fun u64 a w S => ?_
  obtain ⟨u65, rfl, hu66⟩ := S.mem.know (i := 0) (e := fRep r_api_Grid (u64) r62.1) rfl
  have S := S.learn (fRep (rL rB) u65 r62.1.Bits) hu66
  obtain ⟨ad67, cp68, _, rfl, _⟩ := hu66
  refine sMove (.tuple #[.agg #[iv r62.1.W, iv r62.1.H, .slice ad67 r62.1.Bits.length cp68], iv r62.2]) S (wN rfl) (.inl rfl) rfl rfl (lb rfl) fun a S => ?_
  refine sExtract (vs := [.agg #[iv r62.1.W, iv r62.1.H, .slice ad67 r62.1.Bits.length cp68], iv r62.2]) (.agg #[iv r62.1.W, iv r62.1.H, .slice ad67 r62.1.Bits.length cp68]) S (wN rfl) rfl rfl rfl rfl (lb rfl) fun a S => ?_
  refine sExtract (vs := [.agg #[iv r62.1.W, iv r62.1.H, .slice ad67 r62.1.Bits.length cp68], iv r62.2]) (iv r62.2) S (wN rfl) rfl rfl rfl rfl (lb rfl) fun a S => ?_
  refine sAlloc (.agg #[iv 0, iv 0, .slice none 0 0]) S (wN rfl) rfl rfl [iv 0, iv 0, .slice none 0 0] rfl rfl (lb rfl) fun a b69 w S => ?_
  refine sStore (p := b69) (off := 0) (T := 24) (vs := [iv 0, iv 0, .slice none 0 0]) (v := .agg #[iv r62.1.W, iv r62.1.H, .slice ad67 r62.1.Bits.length cp68]) 0 [iv r62.1.W, iv r62.1.H, .slice ad67 r62.1.Bits.length cp68] S (wN rfl) rfl rfl rfl rfl rfl rfl rfl (by simp) rfl fun a w S => ?_
  refine sMove (iv r62.2) S (wN rfl) (.inr rfl) rfl rfl (lb rfl) fun a S => ?_
  refine leafL (leafT (hK61 _ _ ?_))
  refine sSeq (fun K70 hK70 => ?_)
  refine sRegion ?_
  refine sLoadN (p := b16) (off := 0) (T := 24) (vs := [iv p2.W, iv p2.H, .slice ad11 p2.Bits.length cp12]) 5 [iv p2.W, iv p2.H, .slice ad11 p2.Bits.length cp12] S (wN rfl) rfl rfl rfl rfl rfl rfl rfl (lb rfl) fun a S => ?_
  obtain ⟨r71, hx72, h⟩ := bindSome h
  refine sCall (X := Value) (f := 33) (vs := [.agg #[iv p2.W, iv p2.H, .slice ad11 p2.Bits.length cp12]]) (val := c_grid_Turn_val r71) (B' := fun _ => []) (D' := c_grid_Turn_D r71) [] [eBox b69 24 [iv r62.1.W, iv r62.1.H, .slice ad67 r62.1.Bits.length cp68], eBox b60 24 [iv r53.1.W, iv r53.1.H, .slice ad58 r53.1.Bits.length cp59], eBox b47 24 [iv r40.1.W, iv r40.1.H, .slice ad45 r40.1.Bits.length cp46], eBox b14 24 [iv p0.W, iv p0.H, .slice ad3 p0.Bits.length cp4], eBox b15 24 [iv p1.W, iv p1.H, .slice ad7 p1.Bits.length cp8], eBox b16 24 [iv p2.W, iv p2.H, .slice ad11 p2.Bits.length cp12]] [fRep r_api_Grid (.agg #[iv p2.W, iv p2.H, .slice ad11 p2.Bits.length cp12]) p2] [0, 1, 2, 3, 4, 5] [6] S (wN rfl) rfl callee33 rfl (by decide) rfl rfl (fun E1 w1 S1 => c_grid_Turn E1 w1 p2 (.agg #[iv p2.W, iv p2.H, .slice ad11 p2.Bits.length cp12]) r71 hx72 S1) rfl (lb rfl) fun u73 a w S => ?_
  obtain ⟨u74, rfl, hu75⟩ := S.mem.know (i := 0) (e := fRep r_api_Grid (u73) r71.1) rfl
  have S := S.learn (fRep (rL rB) u74 r71.1.Bits) hu75
  obtain ⟨ad76, cp77, _, rfl, _⟩ := hu75
  refine sMove (.tuple #[.agg #[iv r71.1.W, iv r71.1.H, .slice ad76 r71.1.Bits.length cp77], iv r71.2]) S (wN rfl) (.inl rfl) rfl rfl (lb rfl) fun a S => ?_
  refine sExtract (vs := [.agg #[iv r71.1.W, iv r71.1.H, .slice ad76 r71.1.Bits.length cp77], iv r71.2]) (.agg #[iv r71.1.W, iv r71.1.H, .slice ad76 r71.1.Bits.length cp77]) S (wN rfl) rfl rfl rfl rfl (lb rfl) fun a S => ?_
  refine sExtract (vs := [.agg #[iv r71.1.W, iv r71.1.H, .slice ad76 r71.1.Bits.length cp77], iv r71.2]) (iv r71.2) S (wN rfl) rfl rfl rfl rfl (lb rfl) fun a S => ?_
  refine sAlloc (.agg #[iv 0, iv 0, .slice none 0 0]) S (wN rfl) rfl rfl [iv 0, iv 0, .slice none 0 0] rfl rfl (lb rfl) fun a b78 w S => ?_
  refine sStore (p := b78) (off := 0) (T := 24) (vs := [iv 0, iv 0, .slice none 0 0]) (v := .agg #[iv r71.1.W, iv r71.1.H, .slice ad76 r71.1.Bits.length cp77]) 0 [iv r71.1.W, iv r71.1.H, .slice ad76 r71.1.Bits.length cp77] S (wN rfl) rfl rfl rfl rfl rfl rfl rfl (by simp) rfl fun a w S => ?_
  refine sMove (iv r71.2) S (wN rfl) (.inr rfl) rfl rfl (lb rfl) fun a S => ?_
  refine leafL (leafT (hK70 _ _ ?_))
  refine sSeq (fun K79 hK79 => ?_)
  refine sRegion ?_
  refine sLoadN (p := b60) (off := 0) (T := 24) (vs := [iv r53.1.W, iv r53.1.H, .slice ad58 r53.1.Bits.length cp59]) 2 [iv r53.1.W, iv r53.1.H, .slice ad58 r53.1.Bits.length cp59] S (wN rfl) rfl rfl rfl rfl rfl rfl rfl (lb rfl) fun a S => ?_
  refine sLoadN (p := b69) (off := 0) (T := 24) (vs := [iv r62.1.W, iv r62.1.H, .slice ad67 r62.1.Bits.length cp68]) 1 [iv r62.1.W, iv r62.1.H, .slice ad67 r62.1.Bits.length cp68] S (wN rfl) rfl rfl rfl rfl rfl rfl rfl (lb rfl) fun a S => ?_
  refine sLoadN (p := b78) (off := 0) (T := 24) (vs := [iv r71.1.W, iv r71.1.H, .slice ad76 r71.1.Bits.length cp77]) 0 [iv r71.1.W, iv r71.1.H, .slice ad76 r71.1.Bits.length cp77] S (wN rfl) rfl rfl rfl rfl rfl rfl rfl (lb rfl) fun a S => ?_
  obtain ⟨r80, hx81, h⟩ := bindSome h
  refine sCall (X := Value) (f := 13) (vs := [.agg #[iv r53.1.W, iv r53.1.H, .slice ad58 r53.1.Bits.length cp59], .agg #[iv r62.1.W, iv r62.1.H, .slice ad67 r62.1.Bits.length cp68], .agg #[iv r71.1.W, iv r71.1.H, .slice ad76 r71.1.Bits.length cp77]]) (val := c_block_Fill_val r80) (B' := fun _ => []) (D' := c_block_Fill_D r80) [] [eBox b78 24 [iv r71.1.W, iv r71.1.H, .slice ad76 r71.1.Bits.length cp77], eBox b69 24 [iv r62.1.W, iv r62.1.H, .slice ad67 r62.1.Bits.length cp68], eBox b60 24 [iv r53.1.W, iv r53.1.H, .slice ad58 r53.1.Bits.length cp59], eBox b47 24 [iv r40.1.W, iv r40.1.H, .slice ad45 r40.1.Bits.length cp46], eBox b14 24 [iv p0.W, iv p0.H, .slice ad3 p0.Bits.length cp4], eBox b15 24 [iv p1.W, iv p1.H, .slice ad7 p1.Bits.length cp8], eBox b16 24 [iv p2.W, iv p2.H, .slice ad11 p2.Bits.length cp12]] [fRep r_api_Grid (.agg #[iv r53.1.W, iv r53.1.H, .slice ad58 r53.1.Bits.length cp59]) r53.1, fRep r_api_Grid (.agg #[iv r62.1.W, iv r62.1.H, .slice ad67 r62.1.Bits.length cp68]) r62.1, fRep r_api_Grid (.agg #[iv r71.1.W, iv r71.1.H, .slice ad76 r71.1.Bits.length cp77]) r71.1] [0, 1, 2, 3, 4, 5, 6] [5, 3, 1] S (wN rfl) rfl callee13 rfl (by decide) rfl rfl (fun E1 w1 S1 => c_block_Fill E1 w1 r53.1 (.agg #[iv r53.1.W, iv r53.1.H, .slice ad58 r53.1.Bits.length cp59]) r62.1 (.agg #[iv r62.1.W, iv r62.1.H, .slice ad67 r62.1.Bits.length cp68]) r71.1 (.agg #[iv r71.1.W, iv r71.1.H, .slice ad76 r71.1.Bits.length cp77]) r80 hx81 S1) rfl (lb rfl) fun u82 a w S => ?_
  obtain ⟨u83, rfl, hu84⟩ := S.mem.know (i := 0) (e := fRep r_api_Grid (u82) r80.1) rfl
  have S := S.learn (fRep (rL rB) u83 r80.1.Bits) hu84
  obtain ⟨ad85, cp86, _, rfl, _⟩ := hu84
  refine sMove (.tuple #[.agg #[iv r80.1.W, iv r80.1.H, .slice ad85 r80.1.Bits.length cp86], iv r80.2]) S (wN rfl) (.inl rfl) rfl rfl (lb rfl) fun a S => ?_
  refine sExtract (vs := [.agg #[iv r80.1.W, iv r80.1.H, .slice ad85 r80.1.Bits.length cp86], iv r80.2]) (.agg #[iv r80.1.W, iv r80.1.H, .slice ad85 r80.1.Bits.length cp86]) S (wN rfl) rfl rfl rfl rfl (lb rfl) fun a S => ?_
  refine sExtract (vs := [.agg #[iv r80.1.W, iv r80.1.H, .slice ad85 r80.1.Bits.length cp86], iv r80.2]) (iv r80.2) S (wN rfl) rfl rfl rfl rfl (lb rfl) fun a S => ?_
  refine sAlloc (.agg #[iv 0, iv 0, .slice none 0 0]) S (wN rfl) rfl rfl [iv 0, iv 0, .slice none 0 0] rfl rfl (lb rfl) fun a b87 w S => ?_
  refine sStore (p := b87) (off := 0) (T := 24) (vs := [iv 0, iv 0, .slice none 0 0]) (v := .agg #[iv r80.1.W, iv r80.1.H, .slice ad85 r80.1.Bits.length cp86]) 0 [iv r80.1.W, iv r80.1.H, .slice ad85 r80.1.Bits.length cp86] S (wN rfl) rfl rfl rfl rfl rfl rfl rfl (by simp) rfl fun a w S => ?_
  refine sMove (iv r80.2) S (wN rfl) (.inr rfl) rfl rfl (lb rfl) fun a S => ?_
  refine leafL (leafT (hK79 _ _ ?_))
  refine sSeq (fun K88 hK88 => ?_)
  refine sRegion ?_
  refine sLoadN (p := b47) (off := 0) (T := 24) (vs := [iv r40.1.W, iv r40.1.H, .slice ad45 r40.1.Bits.length cp46]) 4 [iv r40.1.W, iv r40.1.H, .slice ad45 r40.1.Bits.length cp46] S (wN rfl) rfl rfl rfl rfl rfl rfl rfl (lb rfl) fun a S => ?_
  obtain ⟨r89, hx90, h⟩ := bindSome h
  refine sCall (X := Value) (f := 33) (vs := [.agg #[iv r40.1.W, iv r40.1.H, .slice ad45 r40.1.Bits.length cp46]]) (val := c_grid_Turn_val r89) (B' := fun _ => []) (D' := c_grid_Turn_D r89) [] [eBox b87 24 [iv r80.1.W, iv r80.1.H, .slice ad85 r80.1.Bits.length cp86], eBox b78 24 [iv r71.1.W, iv r71.1.H, .slice ad76 r71.1.Bits.length cp77], eBox b69 24 [iv r62.1.W, iv r62.1.H, .slice ad67 r62.1.Bits.length cp68], eBox b60 24 [iv r53.1.W, iv r53.1.H, .slice ad58 r53.1.Bits.length cp59], eBox b47 24 [iv r40.1.W, iv r40.1.H, .slice ad45 r40.1.Bits.length cp46], eBox b14 24 [iv p0.W, iv p0.H, .slice ad3 p0.Bits.length cp4], eBox b15 24 [iv p1.W, iv p1.H, .slice ad7 p1.Bits.length cp8], eBox b16 24 [iv p2.W, iv p2.H, .slice ad11 p2.Bits.length cp12]] [fRep r_api_Grid (.agg #[iv r40.1.W, iv r40.1.H, .slice ad45 r40.1.Bits.length cp46]) r40.1] [0, 1, 2, 3, 4, 5, 6, 7] [9] S (wN rfl) rfl callee33 rfl (by decide) rfl rfl (fun E1 w1 S1 => c_grid_Turn E1 w1 r40.1 (.agg #[iv r40.1.W, iv r40.1.H, .slice ad45 r40.1.Bits.length cp46]) r89 hx90 S1) rfl (lb rfl) fun u91 a w S => ?_
  obtain ⟨u92, rfl, hu93⟩ := S.mem.know (i := 0) (e := fRep r_api_Grid (u91) r89.1) rfl
  have S := S.learn (fRep (rL rB) u92 r89.1.Bits) hu93
  obtain ⟨ad94, cp95, _, rfl, _⟩ := hu93
  refine sMove (.tuple #[.agg #[iv r89.1.W, iv r89.1.H, .slice ad94 r89.1.Bits.length cp95], iv r89.2]) S (wN rfl) (.inl rfl) rfl rfl (lb rfl) fun a S => ?_
  refine sExtract (vs := [.agg #[iv r89.1.W, iv r89.1.H, .slice ad94 r89.1.Bits.length cp95], iv r89.2]) (.agg #[iv r89.1.W, iv r89.1.H, .slice ad94 r89.1.Bits.length cp95]) S (wN rfl) rfl rfl rfl rfl (lb rfl) fun a S => ?_
  refine sExtract (vs := [.agg #[iv r89.1.W, iv r89.1.H, .slice ad94 r89.1.Bits.length cp95], iv r89.2]) (iv r89.2) S (wN rfl) rfl rfl rfl rfl (lb rfl) fun a S => ?_
  refine sAlloc (.agg #[iv 0, iv 0, .slice none 0 0]) S (wN rfl) rfl rfl [iv 0, iv 0, .slice none 0 0] rfl rfl (lb rfl) fun a b96 w S => ?_
  refine sStore (p := b96) (off := 0) (T := 24) (vs := [iv 0, iv 0, .slice none 0 0]) (v := .agg #[iv r89.1.W, iv r89.1.H, .slice ad94 r89.1.Bits.length cp95]) 0 [iv r89.1.W, iv r89.1.H, .slice ad94 r89.1.Bits.length cp95] S (wN rfl) rfl rfl rfl rfl rfl rfl rfl (by simp) rfl fun a w S => ?_
  refine sMove (iv r89.2) S (wN rfl) (.inr rfl) rfl rfl (lb rfl) fun a S => ?_
  refine leafL (leafT (hK88 _ _ ?_))
  refine sSeq (fun K97 hK97 => ?_)
  obtain ⟨t99, h, g100⟩ := bindSome h
  refine sCut (fun a w => ∃ o98, o98 = t99 ∧ St [] E [] w0 170 a w [(3, iv p3), (4, iv p4), (5, .pointer (some ⟨b14, 0, none⟩)), (6, .pointer (some ⟨b15, 0, none⟩)), (7, .pointer (some ⟨b16, 0, none⟩)), (11, .bool r18), (12, .pointer (some ⟨b47, 0, none⟩)), (125, .bool o98)] [eBox b14 24 [iv p0.W, iv p0.H, .slice ad3 p0.Bits.length cp4], eBox b15 24 [iv p1.W, iv p1.H, .slice ad7 p1.Bits.length cp8], eBox b16 24 [iv p2.W, iv p2.H, .slice ad11 p2.Bits.length cp12], eBox b47 24 [iv r40.1.W, iv r40.1.H, .slice ad45 r40.1.Bits.length cp46]] [fRep (rL rB) (.slice ad3 p0.Bits.length cp4) p0.Bits, fRep (rL rB) (.slice ad7 p1.Bits.length cp8) p1.Bits, fRep (rL rB) (.slice ad11 p2.Bits.length cp12) p2.Bits, fRep (rL rB) (.slice ad45 r40.1.Bits.length cp46) r40.1.Bits]) ?_ (fun a w hI => ?_)
  · refine sRegion ?_
    refine sMove (iv r53.2) S (wN rfl) (.inl rfl) rfl rfl (lb rfl) fun a S => ?_
    refine sBin (.bool (r53.2 != 0)) S (wN rfl) rfl rfl rfl (bNe _ _ _ _ .i64 r53.2 0) rfl (lb rfl) fun a S => ?_
    refine sMove (.bool (r53.2 != 0)) S (wN rfl) (.inl rfl) rfl rfl (lb rfl) fun a S => ?_
    rcases iteSome h with ⟨hc101, h⟩ | ⟨hc101, h⟩
    · refine sSkip 2 false 104 105 S rfl rfl rfl hc101 rfl (lb rfl) fun a S => ?_
      refine sSkip 2 false 104 106 S rfl rfl rfl hc101 rfl (lb rfl) fun a S => ?_
      refine sPickT (.bool true) S (wN rfl) rfl rfl hc101 rfl rfl (lb rfl) fun a S => ?_
      refine sMove (.bool true) S (wN rfl) (.inl rfl) rfl rfl (lb rfl) fun a S => ?_
      refine sSkip 6 false 108 109 S rfl rfl rfl rfl rfl (lb rfl) fun a S => ?_
      refine sSkip 6 false 108 110 S rfl rfl rfl rfl rfl (lb rfl) fun a S => ?_
      refine sPickT (.bool true) S (wN rfl) rfl rfl rfl rfl rfl (lb rfl) fun a S => ?_
      refine sMove (.bool true) S (wN rfl) (.inl rfl) rfl rfl (lb rfl) fun a S => ?_
      refine sSkip 10 false 112 113 S rfl rfl rfl rfl rfl (lb rfl) fun a S => ?_
      refine sSkip 10 false 112 114 S rfl rfl rfl rfl rfl (lb rfl) fun a S => ?_
      refine sPickT (.bool true) S (wN rfl) rfl rfl rfl rfl rfl (lb rfl) fun a S => ?_
      refine sMove (.bool true) S (wN rfl) (.inl rfl) rfl rfl (lb rfl) fun a S => ?_
      refine sSkip 14 false 116 117 S rfl rfl rfl rfl rfl (lb rfl) fun a S => ?_
      refine sSkip 14 false 116 118 S rfl rfl rfl rfl rfl (lb rfl) fun a S => ?_
      refine sPickT (.bool true) S (wN rfl) rfl rfl rfl rfl rfl (lb rfl) fun a S => ?_
      refine sMove (.bool true) S (wN rfl) (.inl rfl) rfl rfl (lb rfl) fun a S => ?_
      refine sSkip 18 false 120 121 S rfl rfl rfl rfl rfl (lb rfl) fun a S => ?_
      refine sSkip 18 false 120 122 S rfl rfl rfl rfl rfl (lb rfl) fun a S => ?_
      refine sSkip 18 false 120 123 S rfl rfl rfl rfl rfl (lb rfl) fun a S => ?_
      refine sSkip 18 false 120 124 S rfl rfl rfl rfl rfl (lb rfl) fun a S => ?_
      refine sPickT (.bool true) S (wN rfl) rfl rfl rfl rfl rfl (lb rfl) fun a S => ?_
      exact leafL (leafT (⟨true, Option.some.inj h, S.fix [6, 7, 8, 5] [15, 16, 17, 10] (by decide) rfl rfl rfl⟩))
    refine sMove (iv r62.2) S (wG 2 false 104 rfl rfl rfl hc101) (.inl rfl) rfl rfl (lb rfl) fun a S => ?_
    refine sBin (.bool (r62.2 != 0)) S (wG 2 false 104 rfl rfl rfl hc101) rfl rfl rfl (bNe _ _ _ _ .i64 r62.2 0) rfl (lb rfl) fun a S => ?_
    refine sPickF (.bool (r62.2 != 0)) S (wN rfl) rfl rfl hc101 rfl rfl (lb rfl) fun a S => ?_
    refine sMove (.bool (r62.2 != 0)) S (wN rfl) (.inl rfl) rfl rfl (lb rfl) fun a S => ?_
    rcases iteSome h with ⟨hc102, h⟩ | ⟨hc102, h⟩
    · refine sSkip 6 false 108 109 S rfl rfl rfl hc102 rfl (lb rfl) fun a S => ?_
      refine sSkip 6 false 108 110 S rfl rfl rfl hc102 rfl (lb rfl) fun a S => ?_
      refine sPickT (.bool true) S (wN rfl) rfl rfl hc102 rfl rfl (lb rfl) fun a S => ?_
      refine sMove (.bool true) S (wN rfl) (.inl rfl) rfl rfl (lb rfl) fun a S => ?_
      refine sSkip 10 false 112 113 S rfl rfl rfl rfl rfl (lb rfl) fun a S => ?_
      refine sSkip 10 false 112 114 S rfl rfl rfl rfl rfl (lb rfl) fun a S => ?_
      refine sPickT (.bool true) S (wN rfl) rfl rfl rfl rfl rfl (lb rfl) fun a S => ?_
      refine sMove (.bool true) S (wN rfl) (.inl rfl) rfl rfl (lb rfl) fun a S => ?_
      refine sSkip 14 false 116 117 S rfl rfl rfl rfl rfl (lb rfl) fun a S => ?_
      refine sSkip 14 false 116 118 S rfl rfl rfl rfl rfl (lb rfl) fun a S => ?_
      refine sPickT (.bool true) S (wN rfl) rfl rfl rfl rfl rfl (lb rfl) fun a S => ?_
      refine sMove (.bool true) S (wN rfl) (.inl rfl) rfl rfl (lb rfl) fun a S => ?_
      refine sSkip 18 false 120 121 S rfl rfl rfl rfl rfl (lb rfl) fun a S => ?_
      refine sSkip 18 false 120 122 S rfl rfl rfl rfl rfl (lb rfl) fun a S => ?_
      refine sSkip 18 false 120 123 S rfl rfl rfl rfl rfl (lb rfl) fun a S => ?_
      refine sSkip 18 false 120 124 S rfl rfl rfl rfl rfl (lb rfl) fun a S => ?_
      refine sPickT (.bool true) S (wN rfl) rfl rfl rfl rfl rfl (lb rfl) fun a S => ?_
      exact leafL (leafT (⟨true, Option.some.inj h, S.fix [6, 7, 8, 5] [15, 16, 17, 10] (by decide) rfl rfl rfl⟩))
    refine sMove (iv r71.2) S (wG 6 false 108 rfl rfl rfl hc102) (.inl rfl) rfl rfl (lb rfl) fun a S => ?_
    refine sBin (.bool (r71.2 != 0)) S (wG 6 false 108 rfl rfl rfl hc102) rfl rfl rfl (bNe _ _ _ _ .i64 r71.2 0) rfl (lb rfl) fun a S => ?_
    refine sPickF (.bool (r71.2 != 0)) S (wN rfl) rfl rfl hc102 rfl rfl (lb rfl) fun a S => ?_
    refine sMove (.bool (r71.2 != 0)) S (wN rfl) (.inl rfl) rfl rfl (lb rfl) fun a S => ?_
    rcases iteSome h with ⟨hc103, h⟩ | ⟨hc103, h⟩
    · refine sSkip 10 false 112 113 S rfl rfl rfl hc103 rfl (lb rfl) fun a S => ?_
      refine sSkip 10 false 112 114 S rfl rfl rfl hc103 rfl (lb rfl) fun a S => ?_
      refine sPickT (.bool true) S (wN rfl) rfl rfl hc103 rfl rfl (lb rfl) fun a S => ?_
      refine sMove (.bool true) S (wN rfl) (.inl rfl) rfl rfl (lb rfl) fun a S => ?_
      refine sSkip 14 false 116 117 S rfl rfl rfl rfl rfl (lb rfl) fun a S => ?_
      refine sSkip 14 false 116 118 S rfl rfl rfl rfl rfl (lb rfl) fun a S => ?_
      refine sPickT (.bool true) S (wN rfl) rfl rfl rfl rfl rfl (lb rfl) fun a S => ?_
      refine sMove (.bool true) S (wN rfl) (.inl rfl) rfl rfl (lb rfl) fun a S => ?_
      refine sSkip 18 false 120 121 S rfl rfl rfl rfl rfl (lb rfl) fun a S => ?_
      refine sSkip 18 false 120 122 S rfl rfl rfl rfl rfl (lb rfl) fun a S => ?_
      refine sSkip 18 false 120 123 S rfl rfl rfl rfl rfl (lb rfl) fun a S => ?_
      refine sSkip 18 false 120 124 S rfl rfl rfl rfl rfl (lb rfl) fun a S => ?_
      refine sPickT (.bool true) S (wN rfl) rfl rfl rfl rfl rfl (lb rfl) fun a S => ?_
      exact leafL (leafT (⟨true, Option.some.inj h, S.fix [6, 7, 8, 5] [15, 16, 17, 10] (by decide) rfl rfl rfl⟩))
    refine sMove (iv r80.2) S (wG 10 false 112 rfl rfl rfl hc103) (.inl rfl) rfl rfl (lb rfl) fun a S => ?_
    refine sBin (.bool (r80.2 != 0)) S (wG 10 false 112 rfl rfl rfl hc103) rfl rfl rfl (bNe _ _ _ _ .i64 r80.2 0) rfl (lb rfl) fun a S => ?_
    refine sPickF (.bool (r80.2 != 0)) S (wN rfl) rfl rfl hc103 rfl rfl (lb rfl) fun a S => ?_
    refine sMove (.bool (r80.2 != 0)) S (wN rfl) (.inl rfl) rfl rfl (lb rfl) fun a S => ?_
    rcases iteSome h with ⟨hc104, h⟩ | ⟨hc104, h⟩
    · refine sSkip 14 false 116 117 S rfl rfl rfl hc104 rfl (lb rfl) fun a S => ?_
      refine sSkip 14 false 116 118 S rfl rfl rfl hc104 rfl (lb rfl) fun a S => ?_
      refine sPickT (.bool true) S (wN rfl) rfl rfl hc104 rfl rfl (lb rfl) fun a S => ?_
      refine sMove (.bool true) S (wN rfl) (.inl rfl) rfl rfl (lb rfl) fun a S => ?_
      refine sSkip 18 false 120 121 S rfl rfl rfl rfl rfl (lb rfl) fun a S => ?_
      refine sSkip 18 false 120 122 S rfl rfl rfl rfl rfl (lb rfl) fun a S => ?_
      refine sSkip 18 false 120 123 S rfl rfl rfl rfl rfl (lb rfl) fun a S => ?_
      refine sSkip 18 false 120 124 S rfl rfl rfl rfl rfl (lb rfl) fun a S => ?_
      refine sPickT (.bool true) S (wN rfl) rfl rfl rfl rfl rfl (lb rfl) fun a S => ?_
      exact leafL (leafT (⟨true, Option.some.inj h, S.fix [6, 7, 8, 5] [15, 16, 17, 10] (by decide) rfl rfl rfl⟩))
    refine sMove (iv r89.2) S (wG 14 false 116 rfl rfl rfl hc104) (.inl rfl) rfl rfl (lb rfl) fun a S => ?_
    refine sBin (.bool (r89.2 != 0)) S (wG 14 false 116 rfl rfl rfl hc104) rfl rfl rfl (bNe _ _ _ _ .i64 r89.2 0) rfl (lb rfl) fun a S => ?_
    refine sPickF (.bool (r89.2 != 0)) S (wN rfl) rfl rfl hc104 rfl rfl (lb rfl) fun a S => ?_
    refine sMove (.bool (r89.2 != 0)) S (wN rfl) (.inl rfl) rfl rfl (lb rfl) fun a S => ?_
    rcases iteSome h with ⟨hc105, h⟩ | ⟨hc105, h⟩
    · refine sSkip 18 false 120 121 S rfl rfl rfl hc105 rfl (lb rfl) fun a S => ?_
      refine sSkip 18 false 120 122 S rfl rfl rfl hc105 rfl (lb rfl) fun a S => ?_
      refine sSkip 18 false 120 123 S rfl rfl rfl hc105 rfl (lb rfl) fun a S => ?_
      refine sSkip 18 false 120 124 S rfl rfl rfl hc105 rfl (lb rfl) fun a S => ?_
      refine sPickT (.bool true) S (wN rfl) rfl rfl hc105 rfl rfl (lb rfl) fun a S => ?_
      exact leafL (leafT (⟨true, Option.some.inj h, S.fix [6, 7, 8, 5] [15, 16, 17, 10] (by decide) rfl rfl rfl⟩))
    refine sLoadN (p := b87) (off := 0) (T := 24) (vs := [iv r80.1.W, iv r80.1.H, .slice ad85 r80.1.Bits.length cp86]) 1 [iv r80.1.W, iv r80.1.H, .slice ad85 r80.1.Bits.length cp86] S (wG 18 false 120 rfl rfl rfl hc105) rfl rfl rfl rfl rfl rfl rfl (lb rfl) fun a S => ?_
    refine sLoadN (p := b96) (off := 0) (T := 24) (vs := [iv r89.1.W, iv r89.1.H, .slice ad94 r89.1.Bits.length cp95]) 0 [iv r89.1.W, iv r89.1.H, .slice ad94 r89.1.Bits.length cp95] S (wG 18 false 120 rfl rfl rfl hc105) rfl rfl rfl rfl rfl rfl rfl (lb rfl) fun a S => ?_
    obtain ⟨r106, hx107, h⟩ := bindSome h
    have S1 := S.mem
    refine sCallQ (X := Unit) (f := 17) (vs := [.agg #[iv r80.1.W, iv r80.1.H, .slice ad85 r80.1.Bits.length cp86], .agg #[iv r89.1.W, iv r89.1.H, .slice ad94 r89.1.Bits.length cp95]]) (val := fun _ => .bool r106) S (wG 18 false 120 rfl rfl rfl hc105) rfl callee17 rfl (S1.quiet [3, 1] rfl) (fun E1 w1 S1 => c_raddleref01_Same E1 w1 r80.1 (.agg #[iv r80.1.W, iv r80.1.H, .slice ad85 r80.1.Bits.length cp86]) r89.1 (.agg #[iv r89.1.W, iv r89.1.H, .slice ad94 r89.1.Bits.length cp95]) r106 hx107 S1) rfl (lb rfl) fun _ a w S => ?_
    refine sNot (b := r106) S (wG 18 false 120 rfl rfl rfl hc105) rfl rfl rfl (lb rfl) fun a S => ?_
    refine sPickF (.bool (!r106)) S (wN rfl) rfl rfl hc105 rfl rfl (lb rfl) fun a S => ?_
    exact leafL (leafT (⟨!r106, Option.some.inj h, S.fix [6, 7, 8, 5] [15, 16, 17, 10] (by decide) rfl rfl rfl⟩))
  obtain ⟨o98, rfl, S⟩ := hI
  have h := g100
  clear g100
  try dsimp only at h
  rcases iteSome h with ⟨hc108, h⟩ | ⟨hc108, h⟩
  · refine sCondT S rfl hc108 ?_
    refine sSeq (fun K109 hK109 => ?_)
    refine sRegion ?_
    refine sMove (.bool false) S (wN rfl) (.inr rfl) rfl rfl (lb rfl) fun a S => ?_
    refine leafL (leafT (hK109 _ _ ?_))
    obtain rfl := Option.some.inj h
    exact wp_ret (rThen (sRet (.bool false) S (rsl1 rfl (rvT (t := 10) (v := .bool false) S rfl)) ⟨(), rfl, S.mem.sel [] [] (by decide) rfl rfl⟩))
  refine sCondF S rfl hc108 ?_
  refine wp_skip (leafT (hK97 _ _ ?_))
  refine sSeq (fun K110 hK110 => ?_)
  refine sRegion ?_
  refine sLoadN (p := b14) (off := 0) (T := 24) (vs := [iv p0.W, iv p0.H, .slice ad3 p0.Bits.length cp4]) 0 [iv p0.W, iv p0.H, .slice ad3 p0.Bits.length cp4] S (wN rfl) rfl rfl rfl rfl rfl rfl rfl (lb rfl) fun a S => ?_
  refine sMove (iv p3) S (wN rfl) (.inl rfl) rfl rfl (lb rfl) fun a S => ?_
  refine sMove (iv p4) S (wN rfl) (.inl rfl) rfl rfl (lb rfl) fun a S => ?_
  obtain ⟨r111, hx112, h⟩ := bindSome h
  have S := S.learn (fRep r_api_Grid (.agg #[iv p0.W, iv p0.H, .slice ad3 p0.Bits.length cp4]) p0) ⟨_, rfl, S.mem.know (i := 0) (e := fRep (rL rB) (.slice ad3 p0.Bits.length cp4) p0.Bits) rfl⟩
  refine sCall (X := Value) (f := 34) (vs := [.agg #[iv p0.W, iv p0.H, .slice ad3 p0.Bits.length cp4], iv p3, iv p4]) (val := c_grid_Shift_val r111) (B' := fun _ => []) (D' := c_grid_Shift_D r111) [] [eBox b14 24 [iv p0.W, iv p0.H, .slice ad3 p0.Bits.length cp4], eBox b15 24 [iv p1.W, iv p1.H, .slice ad7 p1.Bits.length cp8], eBox b16 24 [iv p2.W, iv p2.H, .slice ad11 p2.Bits.length cp12], eBox b47 24 [iv r40.1.W, iv r40.1.H, .slice ad45 r40.1.Bits.length cp46]] [fRep r_api_Grid (.agg #[iv p0.W, iv p0.H, .slice ad3 p0.Bits.length cp4]) p0] [0, 1, 2, 3] [0] S (wN rfl) rfl callee34 rfl (by decide) rfl rfl (fun E1 w1 S1 => c_grid_Shift E1 w1 p0 (.agg #[iv p0.W, iv p0.H, .slice ad3 p0.Bits.length cp4]) p3 p4 r111 hx112 S1) rfl (lb rfl) fun u113 a w S => ?_
  obtain ⟨u114, rfl, hu115⟩ := S.mem.know (i := 0) (e := fRep r_api_Grid (u113) r111.1) rfl
  have S := S.learn (fRep (rL rB) u114 r111.1.Bits) hu115
  obtain ⟨ad116, cp117, _, rfl, _⟩ := hu115
  refine sMove (.tuple #[.agg #[iv r111.1.W, iv r111.1.H, .slice ad116 r111.1.Bits.length cp117], iv r111.2]) S (wN rfl) (.inl rfl) rfl rfl (lb rfl) fun a S => ?_
  refine sExtract (vs := [.agg #[iv r111.1.W, iv r111.1.H, .slice ad116 r111.1.Bits.length cp117], iv r111.2]) (.agg #[iv r111.1.W, iv r111.1.H, .slice ad116 r111.1.Bits.length cp117]) S (wN rfl) rfl rfl rfl rfl (lb rfl) fun a S => ?_
  refine sExtract (vs := [.agg #[iv r111.1.W, iv r111.1.H, .slice ad116 r111.1.Bits.length cp117], iv r111.2]) (iv r111.2) S (wN rfl) rfl rfl rfl rfl (lb rfl) fun a S => ?_
  refine sAlloc (.agg #[iv 0, iv 0, .slice none 0 0]) S (wN rfl) rfl rfl [iv 0, iv 0, .slice none 0 0] rfl rfl (lb rfl) fun a b118 w S => ?_
  refine sStore (p := b118) (off := 0) (T := 24) (vs := [iv 0, iv 0, .slice none 0 0]) (v := .agg #[iv r111.1.W, iv r111.1.H, .slice ad116 r111.1.Bits.length cp117]) 0 [iv r111.1.W, iv r111.1.H, .slice ad116 r111.1.Bits.length cp117] S (wN rfl) rfl rfl rfl rfl rfl rfl rfl (by simp) rfl fun a w S => ?_
  refine sMove (iv r111.2) S (wN rfl) (.inr rfl) rfl rfl (lb rfl) fun a S => ?_
  refine leafL (leafT (hK110 _ _ ?_))
  refine sSeq (fun K119 hK119 => ?_)
  refine sRegion ?_
  refine sLoadN (p := b47) (off := 0) (T := 24) (vs := [iv r40.1.W, iv r40.1.H, .slice ad45 r40.1.Bits.length cp46]) 4 [iv r40.1.W, iv r40.1.H, .slice ad45 r40.1.Bits.length cp46] S (wN rfl) rfl rfl rfl rfl rfl rfl rfl (lb rfl) fun a S => ?_
  refine sMove (iv p3) S (wN rfl) (.inl rfl) rfl rfl (lb rfl) fun a S => ?_
  refine sField (b := b15) (off := 0) 0 0 S (wN rfl) rfl rfl rfl rfl rfl (lb rfl) fun a S => ?_
  refine sLoad1 (p := b15) (off := 0) (T := 24) (vs := [iv p1.W, iv p1.H, .slice ad7 p1.Bits.length cp8]) 2 (iv p1.W) S (wN rfl) rfl rfl rfl rfl rfl rfl (lb rfl) fun a S => ?_
  refine sBin (iv (w64 (p3 * p1.W))) S (wN rfl) rfl rfl rfl (bMul _ _ _ _ p3 p1.W) rfl (lb rfl) fun a S => ?_
  refine sMove (iv p4) S (wN rfl) (.inl rfl) rfl rfl (lb rfl) fun a S => ?_
  refine sField (b := b15) (off := 0) 1 1 S (wN rfl) rfl rfl rfl rfl rfl (lb rfl) fun a S => ?_
  refine sLoad1 (p := b15) (off := 1) (T := 24) (vs := [iv p1.W, iv p1.H, .slice ad7 p1.Bits.length cp8]) 2 (iv p1.H) S (wN rfl) rfl rfl rfl rfl rfl rfl (lb rfl) fun a S => ?_
  refine sBin (iv (w64 (p4 * p1.H))) S (wN rfl) rfl rfl rfl (bMul _ _ _ _ p4 p1.H) rfl (lb rfl) fun a S => ?_
  obtain ⟨r120, hx121, h⟩ := bindSome h
  have S := S.learn (fRep r_api_Grid (.agg #[iv r40.1.W, iv r40.1.H, .slice ad45 r40.1.Bits.length cp46]) r40.1) ⟨_, rfl, S.mem.know (i := 6) (e := fRep (rL rB) (.slice ad45 r40.1.Bits.length cp46) r40.1.Bits) rfl⟩
  refine sCall (X := Value) (f := 34) (vs := [.agg #[iv r40.1.W, iv r40.1.H, .slice ad45 r40.1.Bits.length cp46], iv (w64 (p3 * p1.W)), iv (w64 (p4 * p1.H))]) (val := c_grid_Shift_val r120) (B' := fun _ => []) (D' := c_grid_Shift_D r120) [] [eBox b118 24 [iv r111.1.W, iv r111.1.H, .slice ad116 r111.1.Bits.length cp117], eBox b14 24 [iv p0.W, iv p0.H, .slice ad3 p0.Bits.length cp4], eBox b15 24 [iv p1.W, iv p1.H, .slice ad7 p1.Bits.length cp8], eBox b16 24 [iv p2.W, iv p2.H, .slice ad11 p2.Bits.length cp12], eBox b47 24 [iv r40.1.W, iv r40.1.H, .slice ad45 r40.1.Bits.length cp46]] [fRep r_api_Grid (.agg #[iv r40.1.W, iv r40.1.H, .slice ad45 r40.1.Bits.length cp46]) r40.1] [0, 1, 2, 3, 4] [0] S (wN rfl) rfl callee34 rfl (by decide) rfl rfl (fun E1 w1 S1 => c_grid_Shift E1 w1 r40.1 (.agg #[iv r40.1.W, iv r40.1.H, .slice ad45 r40.1.Bits.length cp46]) (w64 (p3 * p1.W)) (w64 (p4 * p1.H)) r120 hx121 S1) rfl (lb rfl) fun u122 a w S => ?_
  obtain ⟨u123, rfl, hu124⟩ := S.mem.know (i := 0) (e := fRep r_api_Grid (u122) r120.1) rfl
  have S := S.learn (fRep (rL rB) u123 r120.1.Bits) hu124
  obtain ⟨ad125, cp126, _, rfl, _⟩ := hu124
  refine sMove (.tuple #[.agg #[iv r120.1.W, iv r120.1.H, .slice ad125 r120.1.Bits.length cp126], iv r120.2]) S (wN rfl) (.inl rfl) rfl rfl (lb rfl) fun a S => ?_
  refine sExtract (vs := [.agg #[iv r120.1.W, iv r120.1.H, .slice ad125 r120.1.Bits.length cp126], iv r120.2]) (.agg #[iv r120.1.W, iv r120.1.H, .slice ad125 r120.1.Bits.length cp126]) S (wN rfl) rfl rfl rfl rfl (lb rfl) fun a S => ?_
  refine sExtract (vs := [.agg #[iv r120.1.W, iv r120.1.H, .slice ad125 r120.1.Bits.length cp126], iv r120.2]) (iv r120.2) S (wN rfl) rfl rfl rfl rfl (lb rfl) fun a S => ?_
  refine sAlloc (.agg #[iv 0, iv 0, .slice none 0 0]) S (wN rfl) rfl rfl [iv 0, iv 0, .slice none 0 0] rfl rfl (lb rfl) fun a b127 w S => ?_
  refine sStore (p := b127) (off := 0) (T := 24) (vs := [iv 0, iv 0, .slice none 0 0]) (v := .agg #[iv r120.1.W, iv r120.1.H, .slice ad125 r120.1.Bits.length cp126]) 0 [iv r120.1.W, iv r120.1.H, .slice ad125 r120.1.Bits.length cp126] S (wN rfl) rfl rfl rfl rfl rfl rfl rfl (by simp) rfl fun a w S => ?_
  refine sMove (iv r120.2) S (wN rfl) (.inr rfl) rfl rfl (lb rfl) fun a S => ?_
  refine leafL (leafT (hK119 _ _ ?_))
  refine sSeq (fun K128 hK128 => ?_)
  obtain ⟨t130, h, g131⟩ := bindSome h
  refine sCut (fun a w => ∃ o129, o129 = t130 ∧ St [] E [] w0 170 a w [(6, .pointer (some ⟨b15, 0, none⟩)), (7, .pointer (some ⟨b16, 0, none⟩)), (11, .bool r18), (24, .pointer (some ⟨b118, 0, none⟩)), (26, .pointer (some ⟨b127, 0, none⟩)), (151, .bool o129)] [eBox b15 24 [iv p1.W, iv p1.H, .slice ad7 p1.Bits.length cp8], eBox b16 24 [iv p2.W, iv p2.H, .slice ad11 p2.Bits.length cp12], eBox b118 24 [iv r111.1.W, iv r111.1.H, .slice ad116 r111.1.Bits.length cp117], eBox b127 24 [iv r120.1.W, iv r120.1.H, .slice ad125 r120.1.Bits.length cp126]] [fRep (rL rB) (.slice ad7 p1.Bits.length cp8) p1.Bits, fRep (rL rB) (.slice ad11 p2.Bits.length cp12) p2.Bits, fRep (rL rB) (.slice ad116 r111.1.Bits.length cp117) r111.1.Bits, fRep (rL rB) (.slice ad125 r120.1.Bits.length cp126) r120.1.Bits]) ?_ (fun a w hI => ?_)
  · refine sRegion ?_
    refine sMove (iv r111.2) S (wN rfl) (.inl rfl) rfl rfl (lb rfl) fun a S => ?_
    refine sBin (.bool (r111.2 != 0)) S (wN rfl) rfl rfl rfl (bNe _ _ _ _ .i64 r111.2 0) rfl (lb rfl) fun a S => ?_
    refine sMove (.bool (r111.2 != 0)) S (wN rfl) (.inl rfl) rfl rfl (lb rfl) fun a S => ?_
    rcases iteSome h with ⟨hc132, h⟩ | ⟨hc132, h⟩
    · refine sSkip 2 false 148 149 S rfl rfl rfl hc132 rfl (lb rfl) fun a S => ?_
      refine sSkip 2 false 148 150 S rfl rfl rfl hc132 rfl (lb rfl) fun a S => ?_
      refine sPickT (.bool true) S (wN rfl) rfl rfl hc132 rfl rfl (lb rfl) fun a S => ?_
      exact leafL (leafT (⟨true, Option.some.inj h, S.fix [3, 4, 1, 0] [7, 8, 3, 0] (by decide) rfl rfl rfl⟩))
    refine sMove (iv r120.2) S (wG 2 false 148 rfl rfl rfl hc132) (.inl rfl) rfl rfl (lb rfl) fun a S => ?_
    refine sBin (.bool (r120.2 != 0)) S (wG 2 false 148 rfl rfl rfl hc132) rfl rfl rfl (bNe _ _ _ _ .i64 r120.2 0) rfl (lb rfl) fun a S => ?_
    refine sPickF (.bool (r120.2 != 0)) S (wN rfl) rfl rfl hc132 rfl rfl (lb rfl) fun a S => ?_
    exact leafL (leafT (⟨r120.2 != 0, Option.some.inj h, S.fix [3, 4, 1, 0] [7, 8, 3, 0] (by decide) rfl rfl rfl⟩))
  obtain ⟨o129, rfl, S⟩ := hI
  have h := g131
  clear g131
  try dsimp only at h
  rcases iteSome h with ⟨hc133, h⟩ | ⟨hc133, h⟩
  · refine sCondT S rfl hc133 ?_
    refine sSeq (fun K134 hK134 => ?_)
    refine sRegion ?_
    refine sMove (.bool r18) S (wN rfl) (.inl rfl) rfl rfl (lb rfl) fun a S => ?_
    refine sMove (.bool r18) S (wN rfl) (.inr rfl) rfl rfl (lb rfl) fun a S => ?_
    refine leafL (leafT (hK134 _ _ ?_))
    obtain rfl := Option.some.inj h
    exact wp_ret (rThen (sRet (.bool r18) S (rsl1 rfl (rvT (t := 10) (v := .bool r18) S rfl)) ⟨(), rfl, S.mem.sel [] [] (by decide) rfl rfl⟩))
  refine sCondF S rfl hc133 ?_
  refine wp_skip (leafT (hK128 _ _ ?_))
  refine sSeq (fun K135 hK135 => ?_)
  refine sRegion ?_
  refine sLoadN (p := b118) (off := 0) (T := 24) (vs := [iv r111.1.W, iv r111.1.H, .slice ad116 r111.1.Bits.length cp117]) 2 [iv r111.1.W, iv r111.1.H, .slice ad116 r111.1.Bits.length cp117] S (wN rfl) rfl rfl rfl rfl rfl rfl rfl (lb rfl) fun a S => ?_
  refine sLoadN (p := b15) (off := 0) (T := 24) (vs := [iv p1.W, iv p1.H, .slice ad7 p1.Bits.length cp8]) 0 [iv p1.W, iv p1.H, .slice ad7 p1.Bits.length cp8] S (wN rfl) rfl rfl rfl rfl rfl rfl rfl (lb rfl) fun a S => ?_
  refine sLoadN (p := b16) (off := 0) (T := 24) (vs := [iv p2.W, iv p2.H, .slice ad11 p2.Bits.length cp12]) 1 [iv p2.W, iv p2.H, .slice ad11 p2.Bits.length cp12] S (wN rfl) rfl rfl rfl rfl rfl rfl rfl (lb rfl) fun a S => ?_
  obtain ⟨r136, hx137, h⟩ := bindSome h
  have S := S.learn (fRep r_api_Grid (.agg #[iv r111.1.W, iv r111.1.H, .slice ad116 r111.1.Bits.length cp117]) r111.1) ⟨_, rfl, S.mem.know (i := 2) (e := fRep (rL rB) (.slice ad116 r111.1.Bits.length cp117) r111.1.Bits) rfl⟩
  have S := S.learn (fRep r_api_Grid (.agg #[iv p1.W, iv p1.H, .slice ad7 p1.Bits.length cp8]) p1) ⟨_, rfl, S.mem.know (i := 1) (e := fRep (rL rB) (.slice ad7 p1.Bits.length cp8) p1.Bits) rfl⟩
  have S := S.learn (fRep r_api_Grid (.agg #[iv p2.W, iv p2.H, .slice ad11 p2.Bits.length cp12]) p2) ⟨_, rfl, S.mem.know (i := 3) (e := fRep (rL rB) (.slice ad11 p2.Bits.length cp12) p2.Bits) rfl⟩
  refine sCall (X := Value) (f := 13) (vs := [.agg #[iv r111.1.W, iv r111.1.H, .slice ad116 r111.1.Bits.length cp117], .agg #[iv p1.W, iv p1.H, .slice ad7 p1.Bits.length cp8], .agg #[iv p2.W, iv p2.H, .slice ad11 p2.Bits.length cp12]]) (val := c_block_Fill_val r136) (B' := fun _ => []) (D' := c_block_Fill_D r136) [] [eBox b15 24 [iv p1.W, iv p1.H, .slice ad7 p1.Bits.length cp8], eBox b16 24 [iv p2.W, iv p2.H, .slice ad11 p2.Bits.length cp12], eBox b118 24 [iv r111.1.W, iv r111.1.H, .slice ad116 r111.1.Bits.length cp117], eBox b127 24 [iv r120.1.W, iv r120.1.H, .slice ad125 r120.1.Bits.length cp126]] [fRep r_api_Grid (.agg #[iv r111.1.W, iv r111.1.H, .slice ad116 r111.1.Bits.length cp117]) r111.1, fRep r_api_Grid (.agg #[iv p1.W, iv p1.H, .slice ad7 p1.Bits.length cp8]) p1, fRep r_api_Grid (.agg #[iv p2.W, iv p2.H, .slice ad11 p2.Bits.length cp12]) p2] [0, 1, 2, 3] [2, 1, 0] S (wN rfl) rfl callee13 rfl (by decide) rfl rfl (fun E1 w1 S1 => c_block_Fill E1 w1 r111.1 (.agg #[iv r111.1.W, iv r111.1.H, .slice ad116 r111.1.Bits.length cp117]) p1 (.agg #[iv p1.W, iv p1.H, .slice ad7 p1.Bits.length cp8]) p2 (.agg #[iv p2.W, iv p2.H, .slice ad11 p2.Bits.length cp12]) r136 hx137 S1) rfl (lb rfl) fun u138 a w S => ?_
  obtain ⟨u139, rfl, hu140⟩ := S.mem.know (i := 0) (e := fRep r_api_Grid (u138) r136.1) rfl
  have S := S.learn (fRep (rL rB) u139 r136.1.Bits) hu140
  obtain ⟨ad141, cp142, _, rfl, _⟩ := hu140
  refine sMove (.tuple #[.agg #[iv r136.1.W, iv r136.1.H, .slice ad141 r136.1.Bits.length cp142], iv r136.2]) S (wN rfl) (.inl rfl) rfl rfl (lb rfl) fun a S => ?_
  refine sExtract (vs := [.agg #[iv r136.1.W, iv r136.1.H, .slice ad141 r136.1.Bits.length cp142], iv r136.2]) (.agg #[iv r136.1.W, iv r136.1.H, .slice ad141 r136.1.Bits.length cp142]) S (wN rfl) rfl rfl rfl rfl (lb rfl) fun a S => ?_
  refine sExtract (vs := [.agg #[iv r136.1.W, iv r136.1.H, .slice ad141 r136.1.Bits.length cp142], iv r136.2]) (iv r136.2) S (wN rfl) rfl rfl rfl rfl (lb rfl) fun a S => ?_
  refine sAlloc (.agg #[iv 0, iv 0, .slice none 0 0]) S (wN rfl) rfl rfl [iv 0, iv 0, .slice none 0 0] rfl rfl (lb rfl) fun a b143 w S => ?_
  refine sStore (p := b143) (off := 0) (T := 24) (vs := [iv 0, iv 0, .slice none 0 0]) (v := .agg #[iv r136.1.W, iv r136.1.H, .slice ad141 r136.1.Bits.length cp142]) 0 [iv r136.1.W, iv r136.1.H, .slice ad141 r136.1.Bits.length cp142] S (wN rfl) rfl rfl rfl rfl rfl rfl rfl (by simp) rfl fun a w S => ?_
  refine sMove (iv r136.2) S (wN rfl) (.inr rfl) rfl rfl (lb rfl) fun a S => ?_
  refine leafL (leafT (hK135 _ _ ?_))
  obtain ⟨t145, h, g146⟩ := bindSome h
  refine sCut (fun a w => ∃ o144, o144 = t145 ∧ St [] E [] w0 170 a w [(10, .bool o144)] [] []) ?_ (fun a w hI => ?_)
  rotate_left
  · obtain ⟨o144, rfl, S⟩ := hI
    have h := g146
    clear g146
    try dsimp only at h
    obtain rfl := Option.some.inj h
    exact wp_ret (sRet (.bool o144) S (rsl1 rfl (rvT (t := 10) (v := .bool o144) S rfl)) ⟨(), rfl, S.mem.sel [] [] (by decide) rfl rfl⟩)
  refine sRegion ?_
  refine sMove (.bool r18) S (wN rfl) (.inl rfl) rfl rfl (lb rfl) fun a S => ?_
  refine sMove (.bool r18) S (wN rfl) (.inl rfl) rfl rfl (lb rfl) fun a S => ?_
  rcases iteSome h with ⟨hc147, h⟩ | ⟨hc147, h⟩
  rotate_left
  · refine sSkip 1 true 161 162 S rfl rfl rfl hc147 rfl (lb rfl) fun a S => ?_
    refine sSkip 1 true 161 163 S rfl rfl rfl hc147 rfl (lb rfl) fun a S => ?_
    refine sPickF (.bool false) S (wN rfl) rfl rfl hc147 rfl rfl (lb rfl) fun a S => ?_
    refine sMove (.bool false) S (wN rfl) (.inl rfl) rfl rfl (lb rfl) fun a S => ?_
    refine sSkip 5 true 165 166 S rfl rfl rfl rfl rfl (lb rfl) fun a S => ?_
    refine sSkip 5 true 165 167 S rfl rfl rfl rfl rfl (lb rfl) fun a S => ?_
    refine sSkip 5 true 165 168 S rfl rfl rfl rfl rfl (lb rfl) fun a S => ?_
    refine sPickF (.bool false) S (wN rfl) rfl rfl rfl rfl rfl (lb rfl) fun a S => ?_
    refine sMove (.bool false) S (wN rfl) (.inr rfl) rfl rfl (lb rfl) fun a S => ?_
    exact leafL (leafT (⟨false, Option.some.inj h, S.fix [] [] (by decide) rfl rfl rfl⟩))
  refine sMove (iv r136.2) S (wG 1 true 161 rfl rfl rfl hc147) (.inl rfl) rfl rfl (lb rfl) fun a S => ?_
  refine sBin (.bool (r136.2 == 0)) S (wG 1 true 161 rfl rfl rfl hc147) rfl rfl rfl (bEq _ _ _ _ .i64 r136.2 0) rfl (lb rfl) fun a S => ?_
  refine sPickT (.bool (r136.2 == 0)) S (wN rfl) rfl rfl hc147 rfl rfl (lb rfl) fun a S => ?_
  refine sMove (.bool (r136.2 == 0)) S (wN rfl) (.inl rfl) rfl rfl (lb rfl) fun a S => ?_
  rcases iteSome h with ⟨hc148, h⟩ | ⟨hc148, h⟩
  rotate_left
  · refine sSkip 5 true 165 166 S rfl rfl rfl hc148 rfl (lb rfl) fun a S => ?_
    refine sSkip 5 true 165 167 S rfl rfl rfl hc148 rfl (lb rfl) fun a S => ?_
    refine sSkip 5 true 165 168 S rfl rfl rfl hc148 rfl (lb rfl) fun a S => ?_
    refine sPickF (.bool false) S (wN rfl) rfl rfl hc148 rfl rfl (lb rfl) fun a S => ?_
    refine sMove (.bool false) S (wN rfl) (.inr rfl) rfl rfl (lb rfl) fun a S => ?_
    exact leafL (leafT (⟨false, Option.some.inj h, S.fix [] [] (by decide) rfl rfl rfl⟩))
  refine sLoadN (p := b127) (off := 0) (T := 24) (vs := [iv r120.1.W, iv r120.1.H, .slice ad125 r120.1.Bits.length cp126]) 4 [iv r120.1.W, iv r120.1.H, .slice ad125 r120.1.Bits.length cp126] S (wG 5 true 165 rfl rfl rfl hc148) rfl rfl rfl rfl rfl rfl rfl (lb rfl) fun a S => ?_
  refine sLoadN (p := b143) (off := 0) (T := 24) (vs := [iv r136.1.W, iv r136.1.H, .slice ad141 r136.1.Bits.length cp142]) 0 [iv r136.1.W, iv r136.1.H, .slice ad141 r136.1.Bits.length cp142] S (wG 5 true 165 rfl rfl rfl hc148) rfl rfl rfl rfl rfl rfl rfl (lb rfl) fun a S => ?_
  obtain ⟨r149, hx150, h⟩ := bindSome h
  have S1 := S.mem
  have S1 := S1.learn (fRep r_api_Grid (.agg #[iv r120.1.W, iv r120.1.H, .slice ad125 r120.1.Bits.length cp126]) r120.1) ⟨_, rfl, S1.know (i := 8) (e := fRep (rL rB) (.slice ad125 r120.1.Bits.length cp126) r120.1.Bits) rfl⟩
  refine sCallQ (X := Unit) (f := 17) (vs := [.agg #[iv r120.1.W, iv r120.1.H, .slice ad125 r120.1.Bits.length cp126], .agg #[iv r136.1.W, iv r136.1.H, .slice ad141 r136.1.Bits.length cp142]]) (val := fun _ => .bool r149) S (wG 5 true 165 rfl rfl rfl hc148) rfl callee17 rfl (S1.quiet [0, 2] rfl) (fun E1 w1 S1 => c_raddleref01_Same E1 w1 r120.1 (.agg #[iv r120.1.W, iv r120.1.H, .slice ad125 r120.1.Bits.length cp126]) r136.1 (.agg #[iv r136.1.W, iv r136.1.H, .slice ad141 r136.1.Bits.length cp142]) r149 hx150 S1) rfl (lb rfl) fun _ a w S => ?_
  refine sPickT (.bool r149) S (wN rfl) rfl rfl hc148 rfl rfl (lb rfl) fun a S => ?_
  refine sMove (.bool r149) S (wN rfl) (.inr rfl) rfl rfl (lb rfl) fun a S => ?_
  exact leafL (leafT (⟨r149, Option.some.inj h, S.fix [] [] (by decide) rfl rfl rfl⟩))

end Go.Proofs.Ythfifeabomdlpaa
namespace Go.Proofs.Ythfifeabomdlpaa
open Go.RowKit
set_option linter.unusedVariables false

theorem build_eq2 {l1 : Int → Int × List Bool → Option ((Int × List Bool) ⊕ List Bool)} {l2 : Int × List Bool → Option ((Int × List Bool) ⊕ List Bool)} (f : Nat → Nat → Bool) (w h : Nat) (hw : w ≤ 64) (hh : h ≤ 64)
    (h1 : ∀ y x s, y < h → x < w → l1 (y : Int) ((x : Int), s) = Option.bind (appO s [f x y]) fun l => some (.inl (w64 ((x : Int) + 1), l))) (h1e : ∀ (y : Nat) s, l1 (y : Int) ((w : Int), s) = some (.inr s))
    (h2 : ∀ (y : Nat) s, y < h → l2 ((y : Int), s) = Option.bind (Option.bind (whileO (l1 (y : Int)) (0, s)) fun e => some e) fun o => some (.inl (w64 ((y : Int) + 1), o))) (h2e : ∀ s, l2 ((h : Int), s) = some (.inr s)) :
    whileO l2 (0, ([] : List Bool)) = some (gl f w h) := by
  have this := loop2 (l1 := fun y => l1 (y : Int)) (l2 := l2) (fun y x => ((x : Int), glf f w (y * w + x))) (fun y => ((y : Int), glf f w (y * w))) (fun y => glf f w (y * w + w)) w h (t := glf f w (h * w))
    (fun y x hy hx => by
      have hlt := pl_lt hx hy
      have hp : w * h ≤ 64 * 64 := Nat.mul_le_mul hw hh
      rw [h1 y x _ hy hx, appO_of (by simp [glf]; omega), Option.bind_some, w64_succ (by omega), show y * w + (x + 1) = y * w + x + 1 from rfl, glf_succ, pl_mod hx, pl_div hx])
    (fun y hy => h1e y _)
    (fun y hy hl => by
      have e0 : (((0 : Nat) : Int), glf f w (y * w + 0)) = ((0 : Int), glf f w (y * w)) := rfl
      rw [e0] at hl
      rw [h2 y _ hy, hl]
      simp only [Option.bind_some, w64_succ (show y < 9223372036854775807 by omega)]
      rw [show (y + 1) * w = y * w + w by rw [Nat.add_mul, Nat.one_mul]])
    (h2e _)
  have e0 : (((0 : Nat) : Int), glf f w (0 * w)) = ((0 : Int), ([] : List Bool)) := by simp [glf]
  simp only [e0] at this
  rw [this, Nat.mul_comm h w]
  rfl
theorem cap_ok2 {w h : Nat} (hw : w ≤ 64) (hh : h ≤ 64) : capO (w64 ((w : Int) * (h : Int))) = some () := by
  have hp : w * h ≤ 64 * 64 := Nat.mul_le_mul hw hh
  rw [wmul (by omega)]
  exact capO_of rfl (by omega)
theorem turn_eq {g : api_Grid} {w h : Nat} (G : Gr g w h) : F_grid_Turn g = some (gm (fun x y => cell g w y x) h w, 0) := by
  have hb : whileO (grid_build_s0_l2 (w : Int) (h : Int) g) (0, ([] : List Bool)) = some (gl (fun x y => cell g w y x) h w) := by
    refine build_eq2 (l1 := fun y => grid_build_s0_l1 (h : Int) y g) (fun x y => cell g w y x) h w G.h1 G.w1 (fun y x s hy hx => ?_) (fun y s => ?_) (fun y s hy => ?_) (fun s => ?_)
    · unfold grid_build_s0_l1 F_grid_Turn_1_s0
      simp only [dT (show (x : Int) < (h : Int) by omega), if_true, G.at hy hx, Option.bind_some]
    · unfold grid_build_s0_l1
      simp only [dF (show ¬ (h : Int) < (h : Int) by omega), Bool.false_eq_true, if_false]
    · unfold grid_build_s0_l2
      simp only [dT (show (y : Int) < (w : Int) by omega), if_true]
    · unfold grid_build_s0_l2
      simp only [dF (show ¬ (w : Int) < (w : Int) by omega), Bool.false_eq_true, if_false]
  unfold F_grid_Turn F_grid_build_s0
  simp only [(gcheck_eq g).1, gr_err G, Option.bind_some, bne_self_eq_false, Bool.false_eq_true, if_false, G.hw, G.hh, cap_ok2 G.h1 G.w1, hb]
  rfl
/-- numbers taken around -/
theorem around_eq {z : Int} {n : Nat} (n0 : 1 ≤ n) (n1 : n ≤ 64) (z0 : -5000 ≤ z) (z1 : z ≤ 5000) : F_grid_around z (n : Int) = some (z % (n : Int)) := by
  have hn : ¬ (n : Int) = 0 := by omega
  have e0 := Int.emod_nonneg z hn
  have e1 := Int.emod_lt_of_pos z (show (0 : Int) < n by omega)
  have ht : z.tmod (n : Int) = z % (n : Int) ∨ z.tmod (n : Int) = z % (n : Int) - n ∧ z.tmod (n : Int) < 0 := by
    by_cases hz : 0 ≤ z
    · exact .inl (Int.tmod_eq_emod_of_nonneg hz)
    · rw [Int.tmod_eq_emod]
      by_cases hd : (n : Int) ∣ z
      · left; simp [hd]
      · right
        have hc : ¬ (0 ≤ z ∨ (n : Int) ∣ z) := by rintro (h | h); exact hz h; exact hd h
        rw [if_neg hc]
        have : ((n : Int).natAbs : Int) = n := by omega
        rw [this]
        omega
  unfold F_grid_around remI
  rw [if_neg hn]
  rcases ht with h | ⟨h, hl⟩
  · simp only [Option.bind_some, h, dF (show ¬ z % (n : Int) < 0 by omega), Bool.false_eq_true, if_false]
  · simp only [Option.bind_some, dT hl, if_true]
    rw [h, w64_of (by omega) (by omega)]
    congr 1
    omega
theorem emod_back {x d n : Nat} (hd : d ≤ n) : (((x : Int) - (d : Int)) % (n : Int)) = (((x + (n - d)) % n : Nat) : Int) := by
  rw [Int.natCast_emod, show ((x + (n - d) : Nat) : Int) = ((x : Int) - d) + n by omega, Int.add_emod_right]
theorem shift_eq {g : api_Grid} {w h : Nat} (G : Gr g w h) {dx dy : Int} (x0 : -4000 ≤ dx) (x1 : dx ≤ 4000) (y0 : -4000 ≤ dy) (y1 : dy ≤ 4000) :
    F_grid_Shift g dx dy = some (gm (fun x y => cell g w ((x + (w - (dx % (w : Int)).toNat)) % w) ((y + (h - (dy % (h : Int)).toNat)) % h)) w h, 0) := by
  have w0 := G.w0
  have w1 := G.w1
  have h0 := G.h0
  have h1 := G.h1
  have a1 := around_eq (z := dx) w0 w1 (by omega) (by omega)
  have a2 := around_eq (z := dy) h0 h1 (by omega) (by omega)
  have b0 := Int.emod_nonneg dx (show (w : Int) ≠ 0 by omega)
  have b1 := Int.emod_lt_of_pos dx (show (0 : Int) < w by omega)
  have b2 := Int.emod_nonneg dy (show (h : Int) ≠ 0 by omega)
  have b3 := Int.emod_lt_of_pos dy (show (0 : Int) < h by omega)
  obtain ⟨d, hd⟩ : ∃ d : Nat, dx % (w : Int) = d := ⟨(dx % (w : Int)).toNat, by omega⟩
  obtain ⟨e, he⟩ : ∃ e : Nat, dy % (h : Int) = e := ⟨(dy % (h : Int)).toNat, by omega⟩
  rw [hd] at a1 b1
  rw [he] at a2 b3
  rw [hd, he, Int.toNat_natCast, Int.toNat_natCast]
  have hb : whileO (grid_build_s1_l2 (h : Int) (w : Int) g (e : Int) (d : Int)) (0, ([] : List Bool)) = some (gl (fun x y => cell g w ((x + (w - d)) % w) ((y + (h - e)) % h)) w h) := by
    refine build_eq2 (l1 := fun y => grid_build_s1_l1 (w : Int) y g (e : Int) (d : Int)) (fun x y => cell g w ((x + (w - d)) % w) ((y + (h - e)) % h)) w h w1 h1 (fun y x s hy hx => ?_) (fun y s => ?_) (fun y s hy => ?_) (fun s => ?_)
    · have k1 : F_grid_around (w64 ((y : Int) - (e : Int))) g.H = some (((y + (h - e)) % h : Nat) : Int) := by
        rw [G.hh, w64_of (by omega) (by omega), around_eq h0 h1 (by omega) (by omega), emod_back (by omega)]
      have k2 : F_grid_around (w64 ((x : Int) - (d : Int))) g.W = some (((x + (w - d)) % w : Nat) : Int) := by
        rw [G.hw, w64_of (by omega) (by omega), around_eq w0 w1 (by omega) (by omega), emod_back (by omega)]
      unfold grid_build_s1_l1 F_grid_Shift_1_s0
      simp only [dT (show (x : Int) < (w : Int) by omega), if_true, k1, k2, G.at (Nat.mod_lt (x + (w - d)) (show 0 < w by omega)) (Nat.mod_lt (y + (h - e)) (show 0 < h by omega)), Option.bind_some]
    · unfold grid_build_s1_l1
      simp only [dF (show ¬ (w : Int) < (w : Int) by omega), Bool.false_eq_true, if_false]
    · unfold grid_build_s1_l2
      simp only [dT (show (y : Int) < (h : Int) by omega), if_true]
    · unfold grid_build_s1_l2
      simp only [dF (show ¬ (h : Int) < (h : Int) by omega), Bool.false_eq_true, if_false]
  unfold F_grid_Shift F_grid_build_s1
  simp only [(gcheck_eq g).1, gr_err G, Option.bind_some, bne_self_eq_false, Bool.false_eq_true, if_false, G.hw, G.hh, a1, a2, cap_ok2 w1 h1, hb]
  rfl

end Go.Proofs.Ythfifeabomdlpaa
namespace Go.Proofs.Ythfifeabomdlpaa
open Go.RowKit
set_option linter.unusedVariables false

end Go.Proofs.Ythfifeabomdlpaa
namespace Go.Proofs.Ythfifeabomdlpaa
open Go.RowKit
set_option linter.unusedVariables false

end Go.Proofs.Ythfifeabomdlpaa
namespace Go.Proofs.Ythfifeabomdlpaa
open Go.RowKit
set_option linter.unusedVariables false

end Go.Proofs.Ythfifeabomdlpaa
namespace Go.Proofs.Ythfifeabomdlpaa
open Go.RowKit
set_option linter.unusedVariables false

end Go.Proofs.Ythfifeabomdlpaa
namespace Go.Proofs.Ythfifeabomdlpaa
open Go.RowKit
set_option linter.unusedVariables false

theorem fit_eq (g : api_Grid) : F_raddlelaw13_fit g = some (!decide (4200 < g.Bits.length) && decide (gerr g = 0)) := by
  unfold F_raddlelaw13_fit
  simp only [rgreat_eq, (gcheck_eq g).2, Option.bind_some]
  by_cases h : 4200 < g.Bits.length
  · simp only [dT h, Bool.not_true, Bool.false_eq_true, if_false, Option.bind_some, Bool.false_and]
  · simp only [dF h, Bool.not_false, if_true, Option.bind_some, Bool.true_and]
    by_cases h0 : gerr g = 0
    · rw [dT h0, h0]; rfl
    · rw [dF h0, bF h0]
theorem fit_gr {g : api_Grid} {w h : Nat} (G : Gr g w h) : F_raddlelaw13_fit g = some true := by
  have := G.bits
  rw [fit_eq, dF (show ¬ 4200 < g.Bits.length by omega), dT (gr_err G)]; rfl
theorem fit_no {g : api_Grid} (h : ¬ gerr g = 0) : F_raddlelaw13_fit g = some false := by
  rw [fit_eq, dF h, Bool.and_false]

end Go.Proofs.Ythfifeabomdlpaa
namespace Go.Proofs.Ythfifeabomdlpaa
open Go.RowKit
set_option linter.unusedVariables false

theorem fill_turn {p a b : api_Grid} {pw ph uw uh : Nat} (u0 : 1 ≤ uw) (v0 : 1 ≤ uh) :
    gm (fillf (gm (fun x y => cell p pw y x) ph pw) (gm (fun x y => cell a uw y x) uh uw) (gm (fun x y => cell b uw y x) uh uw) ph uh uw) (ph * uh) (pw * uw) = gm (fun x y => cell (gm (fillf p a b pw uw uh) (pw * uw) (ph * uh)) (pw * uw) y x) (ph * uh) (pw * uw) := by
  refine gm_cong fun x y hx hy => ?_
  rw [gm_cell _ hy hx]
  unfold fillf
  rw [gm_cell _ (blk_lt hx) (blk_lt hy), gm_cell _ (pl_modlt v0) (pl_modlt u0), gm_cell _ (pl_modlt v0) (pl_modlt u0)]
theorem blk_shift {x uw pw R : Nat} (u0 : 1 ≤ uw) : ((x + R * uw) % (pw * uw)) / uw = (x / uw + R) % pw ∧ ((x + R * uw) % (pw * uw)) % uw = x % uw := by
  rw [Nat.mod_mul_left_div_self, Nat.add_mul_div_right _ _ u0, Nat.mod_mul_left_mod, Nat.add_mul_mod_self_right]
  exact ⟨rfl, rfl⟩
theorem fill_shift {p a b : api_Grid} {pw ph uw uh R S : Nat} (p0 : 1 ≤ pw) (q0 : 1 ≤ ph) (u0 : 1 ≤ uw) (v0 : 1 ≤ uh) :
    gm (fun x y => cell (gm (fillf p a b pw uw uh) (pw * uw) (ph * uh)) (pw * uw) ((x + R * uw) % (pw * uw)) ((y + S * uh) % (ph * uh))) (pw * uw) (ph * uh) = gm (fillf (gm (fun x y => cell p pw ((x + R) % pw) ((y + S) % ph)) pw ph) a b pw uw uh) (pw * uw) (ph * uh) := by
  refine gm_cong fun x y hx hy => ?_
  obtain ⟨e1, e2⟩ := blk_shift (x := x) (pw := pw) (R := R) u0
  obtain ⟨e3, e4⟩ := blk_shift (x := y) (pw := ph) (R := S) v0
  rw [gm_cell _ (pl_modlt (Nat.mul_pos p0 u0)) (pl_modlt (Nat.mul_pos q0 v0))]
  unfold fillf
  rw [gm_cell _ (blk_lt hx) (blk_lt hy), e1, e2, e3, e4]
theorem mod_blk (d : Int) {pw uw : Nat} (p0 : 1 ≤ pw) (u0 : 1 ≤ uw) : pw * uw - ((d * (uw : Int)) % ((pw * uw : Nat) : Int)).toNat = (pw - (d % (pw : Int)).toNat) * uw := by
  have h1 := Int.emod_nonneg d (show (pw : Int) ≠ 0 by omega)
  obtain ⟨r, hr⟩ : ∃ r : Nat, d % (pw : Int) = r := ⟨(d % (pw : Int)).toNat, by omega⟩
  rw [Int.natCast_mul, Int.mul_comm d, Int.mul_comm (pw : Int), Int.mul_emod_mul_of_pos _ _ (show (0 : Int) < uw by omega), hr, ← Int.natCast_mul, Int.toNat_natCast, Int.toNat_natCast, Nat.sub_mul, Nat.mul_comm uw r]
theorem law_BlockTurns' (ha : F_raddlelaw13_alive = some true) (p a b : api_Grid) (dx dy : Int) (wp : wf_api_Grid p) (wa : wf_api_Grid a) (wb : wf_api_Grid b) (wx : InK .i64 dx) (wy : InK .i64 dy) : F_raddlelaw13_BlockTurns p a b dx dy = some true := by
  unfold F_raddlelaw13_BlockTurns
  rw [ha]
  by_cases g1 : gerr p = 0
  case neg => simp only [Option.bind_some, fit_no g1, Bool.not_false, if_true]
  obtain ⟨pw, ph, P⟩ := gerr_zero g1
  by_cases g2 : gerr a = 0
  case neg => simp only [Option.bind_some, fit_gr P, fit_no g2, Bool.not_true, Bool.not_false, Bool.false_eq_true, if_false, if_true]
  obtain ⟨uw, uh, A⟩ := gerr_zero g2
  by_cases g3 : gerr b = 0
  case neg => simp only [Option.bind_some, fit_gr P, fit_gr A, fit_no g3, Bool.not_true, Bool.not_false, Bool.false_eq_true, if_false, if_true]
  obtain ⟨bw, bh, B⟩ := gerr_zero g3
  simp only [Option.bind_some, fit_gr P, fit_gr A, fit_gr B, Bool.not_true, Bool.false_eq_true, if_false]
  by_cases c1 : dx < -20
  · simp only [dT c1, if_true, Option.bind_some]
  by_cases c2 : 20 < dx
  · simp only [dF c1, dT c2, Bool.false_eq_true, if_false, if_true, Option.bind_some]
  by_cases c3 : dy < -20
  · simp only [dF c1, dF c2, dT c3, Bool.false_eq_true, if_false, if_true, Option.bind_some]
  by_cases c4 : 20 < dy
  · simp only [dF c1, dF c2, dF c3, dT c4, Bool.false_eq_true, if_false, if_true, Option.bind_some]
  simp only [dF c1, dF c2, dF c3, dF c4, Bool.false_eq_true, if_false, Option.bind_some, fill_eq]
  rcases fillS_cases P A B with h | h | ⟨B', hW, hH⟩
  · rw [h]; rfl
  · rw [h]; rfl
  have p0 := P.w0
  have q0 := P.h0
  have u0 := A.w0
  have v0 := A.h0
  have u1 := A.w1
  have v1 := A.h1
  have G := fill_gr (b := b) P A hW hH
  have P2 := gm_gr (fun x y => cell p pw y x) P.h0 P.h1 P.w0 P.w1
  have A2 := gm_gr (fun x y => cell a uw y x) A.h0 A.h1 A.w0 A.w1
  have B2 := gm_gr (fun x y => cell b uw y x) B'.h0 B'.h1 B'.w0 B'.w1
  have hf2 := fillS_ok P2 A2 B2 hH hW
  rw [fill_turn u0 v0] at hf2
  have ht := turn_eq G
  have P3 := gm_gr (fun x y => cell p pw ((x + (pw - (dx % (pw : Int)).toNat)) % pw) ((y + (ph - (dy % (ph : Int)).toNat)) % ph)) P.w0 P.w1 P.h0 P.h1
  have hf3 := fillS_ok P3 A B' hW hH
  rw [← fill_shift p0 q0 u0 v0] at hf3
  have m1 := mul_bd (u := dx + 20) (v := (uw : Int)) (a := 40) (b := 64) (by omega) (by omega) (by omega) (by omega)
  have m2 := mul_bd (u := dy + 20) (v := (uh : Int)) (a := 40) (b := 64) (by omega) (by omega) (by omega) (by omega)
  rw [Int.add_mul] at m1 m2
  have e1 : w64 (dx * a.W) = dx * (uw : Int) := by rw [A.hw]; exact w64_of (by omega) (by omega)
  have e2 : w64 (dy * a.H) = dy * (uh : Int) := by rw [A.hh]; exact w64_of (by omega) (by omega)
  have hs := shift_eq G (dx := dx * (uw : Int)) (dy := dy * (uh : Int)) (by omega) (by omega) (by omega) (by omega)
  rw [mod_blk dx p0 u0, mod_blk dy q0 v0] at hs
  have hsp := shift_eq P (dx := dx) (dy := dy) (by omega) (by omega) (by omega) (by omega)
  have L1 := (gm_gr (fun x y => cell (gm (fillf p a b pw uw uh) (pw * uw) (ph * uh)) (pw * uw) y x) G.h0 G.h1 G.w0 G.w1).bits
  have L2 := (gm_gr (fun x y => cell (gm (fillf p a b pw uw uh) (pw * uw) (ph * uh)) (pw * uw) ((x + (pw - (dx % (pw : Int)).toNat) * uw) % (pw * uw)) ((y + (ph - (dy % (ph : Int)).toNat) * uh) % (ph * uh))) G.w0 G.w1 G.h0 G.h1).bits
  rw [fillS_ok P A B' hW hH]
  simp only [bne_self_eq_false, Bool.false_eq_true, if_false, Option.bind_some, turn_eq P, turn_eq A, turn_eq B', hf2, ht, rsame_grid _ _ (Nat.le_trans L1 (by decide)), decide_true, Bool.not_true, hsp, e1, e2, hs, hf3, if_true, beq_self_eq_true, rsame_grid _ _ (Nat.le_trans L2 (by decide))]

end Go.Proofs.Ythfifeabomdlpaa
namespace Go.Proofs.Ythfifeabomdlpaa
open Go.RowKit
set_option linter.unusedVariables false

theorem law_BlockTurns (p a b : api_Grid) (dx dy : Int) (wp : wf_api_Grid p) (wa : wf_api_Grid a) (wb : wf_api_Grid b) (wx : InK .i64 dx) (wy : InK .i64 dy) : F_raddlelaw13_BlockTurns p a b dx dy = some true := law_BlockTurns' k_raddlelaw13_alive p a b dx dy wp wa wb wx wy

end Go.Proofs.Ythfifeabomdlpaa
namespace Go.Proofs.Ythfifeabomdlpaa
open Go.RowKit
set_option linter.unusedVariables false

namespace frameBlockTurns
open Go.ChangeShapes Go.WideShapes Go.ChangeAt Go.Joins
theorem own : ownKnob Try.prog.godebug = none := by kernel_rfl
theorem laidOut : laidOutB Try.prog = true := by kernel_rfl
set_option maxRecDepth 100000 in
theorem lifted (os : Os) (started : os.Started) (H : Type) (enc : TypeId × Value → H) :
    ReturnsInHanded {} Try.checked os 6 .any (Rows.blockTurnsSpec.pre6 enc Try.prog Try.f6 Rows.blockTurnsRow.domain false) (Rows.blockTurnsSpec.post enc Try.prog Try.f6 false true false false) := by
  refine returnsInHanded_of_change (C := Try.checked) own started (by kernel_rfl) Try.func6
    (ChangeSpec.witness6 (enc := enc) (C := Try.checked) false ⟨#[], #[.agg #[iv 0, iv 0, .slice none 0 0], .agg #[iv 0, iv 0, .slice none 0 0], .agg #[iv 0, iv 0, .slice none 0 0], .int .i64 0, .int .i64 0], []⟩ 8 (by kernel_rfl) (by kernel_rfl) (by kernel_rfl) (by kernel_rfl)) ?_
  intro W base args ds gs before hval0 hW hcnd _
  have hval : ∀ (j : Nat) t v, Try.f6.params[j]? = some t → args[j]? = some v → Value.okWide Try.prog W .any base t v := hval0
  have hW' := hW
  obtain ⟨p, q, hA0, hV, rfl, hfz, hnd⟩ := hW
  have hA : DataW.TrodAll enc Try.prog W 0 (fun _ => true) true Try.f6.params.toList args.toList ds p := hA0
  rw [Try.params6] at hA hval
  obtain ⟨v0, vs0, d0, ds0, p0, q0, hargs, rfl, rfl, h0, r0⟩ := trodAll_cons hA
  obtain ⟨v1, vs1, d1, ds1, p1, q1, rfl, rfl, rfl, h1, r1⟩ := trodAll_cons r0
  obtain ⟨v2, vs2, d2, ds2, p2, q2, rfl, rfl, rfl, h2, r2⟩ := trodAll_cons r1
  obtain ⟨v3, vs3, d3, ds3, p3, q3, rfl, rfl, rfl, h3, r3⟩ := trodAll_cons r2
  obtain ⟨v4, vs4, d4, ds4, p4, q4, rfl, rfl, rfl, h4, r4⟩ := trodAll_cons r3
  obtain ⟨rfl, rfl, rfl⟩ := trodAll_nil r4
  obtain rfl : args = #[v0, v1, v2, v3, v4] := by cases args; simp_all
  obtain ⟨rfl, rfl⟩ := trodVars_none hV
  have k0 := h0
  have lt0 : ∀ x ∈ p0, x.block < W.heap.size := by obtain ⟨m, hm⟩ := k0; exact DataW.trod_lt m _ _ _ hm
  have k1 := h1
  have lt1 : ∀ x ∈ p1, x.block < W.heap.size := by obtain ⟨m, hm⟩ := k1; exact DataW.trod_lt m _ _ _ hm
  have k2 := h2
  have lt2 : ∀ x ∈ p2, x.block < W.heap.size := by obtain ⟨m, hm⟩ := k2; exact DataW.trod_lt m _ _ _ hm
  have k3 := h3
  have lt3 : ∀ x ∈ p3, x.block < W.heap.size := by obtain ⟨m, hm⟩ := k3; exact DataW.trod_lt m _ _ _ hm
  have k4 := h4
  have lt4 : ∀ x ∈ p4, x.block < W.heap.size := by obtain ⟨m, hm⟩ := k4; exact DataW.trod_lt m _ _ _ hm
  obtain ⟨x0, rep0, wf0⟩ := top_agg Try.underlying24 aggr_api_Grid op_api_Grid (hval 0 _ v0 rfl rfl) h0
  obtain ⟨x1, rep1, wf1⟩ := top_agg Try.underlying24 aggr_api_Grid op_api_Grid (hval 1 _ v1 rfl rfl) h1
  obtain ⟨x2, rep2, wf2⟩ := top_agg Try.underlying24 aggr_api_Grid op_api_Grid (hval 2 _ v2 rfl rfl) h2
  obtain ⟨x3, rfl, rfl, rfl, wf3⟩ := open_int Try.underlying3 (hval 3 _ v3 rfl rfl) h3
  obtain ⟨x4, rfl, rfl, rfl, wf4⟩ := open_int Try.underlying3 (hval 4 _ v4 rfl rfl) h4
  clear hA0 hval0
  refine (c_raddlelaw13_BlockTurns (fun _ => False) W x0 v0 x1 v1 x2 v2 x3 x4 true (law_BlockTurns x0 x1 x2 x3 x4 wf0 wf1 wf2 wf3 wf4) (St0.start (by intro d hd; simp only [List.mem_cons, List.not_mem_nil, or_false] at hd; rcases hd with rfl | rfl | rfl; exact rep0; exact rep1; exact rep2))).mono fun e W' hr => ?_
  obtain ⟨_, he, hS⟩ := hr
  have bel := hS.chg.below
  subst he
  exact ⟨_, rfl, _, _, _, [], _, [], hW', trodAll_mk1 (shut_bool Try.underlying4 _), (trodAll_cons_mk (Below.trod laidOut (by kernel_rfl) (of_decide_eq_true (by kernel_rfl)) k0 bel lt0) (trodAll_cons_mk (Below.trod laidOut (by kernel_rfl) (of_decide_eq_true (by kernel_rfl)) k1 bel lt1) (trodAll_cons_mk (Below.trod laidOut (by kernel_rfl) (of_decide_eq_true (by kernel_rfl)) k2 bel lt2) (trodAll_cons_mk (Below.trod laidOut (by kernel_rfl) (of_decide_eq_true (by kernel_rfl)) k3 bel lt3) (trodAll_cons_mk (Below.trod laidOut (by kernel_rfl) (of_decide_eq_true (by kernel_rfl)) k4 bel lt4) trodAll_mk0))))), rfl, bel.frame _, fun h => by cases h⟩
theorem over : Rows.blockTurnsRow.holds Try.pinned (OpenSpec.ofChange Rows.blockTurnsSpec) :=
  OpenClaim.holds_of_wide 6 Try.f6 rfl rfl rfl rfl rfl rfl rfl ⟨rfl, rfl, rfl, rfl, rfl⟩ rfl rfl rfl rfl rfl (by kernel_rfl) Try.func6 (by kernel_rfl)
    (of_decide_eq_true (by kernel_rfl)) (by unfold Func.isWrapper; first | (rw [if_pos (by decide +kernel)]; kernel_rfl) | (rw [if_neg (by decide +kernel)]; exact ⟨rfl, rfl⟩))
    (fun os started H enc _ => lifted os started H enc)
end frameBlockTurns
theorem blockTurns_holds : Rows.BlockTurnsSaid := frameBlockTurns.over

end Go.Proofs.Ythfifeabomdlpaa
