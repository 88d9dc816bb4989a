/- Several texts in one: G83s0 G54 G23 G57 G24 G90 G58 G25 G91 G59 G26 G27 G28 G29 G30 G5 PlTb PlSt G100 G101 G75 G76 PlSu -/
import Derived.WalkKit
import Derived.Maps.AppendAt
import Derived.Deep.AppendLies
import Derived.KernelRfl
import Derived.Laws.OwnMore
import Derived.Great.BuildSlice
import Derived.Orders
import Derived.Laws.StructEq
import Derived.ChangeKeysEq
import Derived.Defers
import Derived.Laws.BytesString
import Derived.RangeFuncNested
import Derived.RangeFuncBound
import Derived.RangeFuncCalls
import Derived.RangeFuncLeaves
import Derived.OrdersIn
import Derived.LoopNIn
import Derived.ArgAppend
import Derived.Test.YtffikfajljbmnaaProg
import Derived.ProofKit
import Derived.OpenShut
import Derived.ChangeOld
import Derived.Deep.Slices
import Derived.Lib.SmallJoins
import Derived.JoinedOf
import Derived.JoinedAt
import Derived.Below
import Derived.Test.YtffikfajljbmnaaRows
import Derived.Test.YtffikfajljbmnaaMCompareCharts2
namespace Go.Proofs.Ytffikfajljbmnaa
open Go.RowKit
set_option linter.unusedVariables false

def anc_compare_table_api_Stitch__s0_0 : List (List Nat) := [[], [], [0, 1], [0, 1, 2], [], [], [], [5, 6], [5, 6, 7], [], [9], [5, 6, 7, 8, 9, 10], [5, 6, 7, 8, 9, 10, 11], [], [], [], [14, 15], [14, 15, 16], [13, 14, 15, 16, 17], [5, 6, 7, 8, 9, 10, 11, 12, 13, 14, 15, 16, 17, 18], [0, 1, 2, 3, 4, 5, 6, 7, 8, 9, 10, 11, 12, 13, 14, 15, 16, 17, 18, 19], [0, 1, 2, 3, 4, 5, 6, 7, 8, 9, 10, 11, 12, 13, 14, 15, 16, 17, 18, 19, 20]]
def anc_compare_table_api_Stitch__s0_1 : List (List Nat) := [[], [], [0, 1], [0, 1, 2], [], [], [], [6], [5, 6, 7], [5, 6, 7, 8], [], [5, 6, 7, 8, 9, 10], [5, 6, 7, 8, 9, 10, 11], [], [], [], [14, 15], [14, 15, 16], [13, 14, 15, 16, 17], [5, 6, 7, 8, 9, 10, 11, 12, 13, 14, 15, 16, 17, 18], [0, 1, 2, 3, 4, 5, 6, 7, 8, 9, 10, 11, 12, 13, 14, 15, 16, 17, 18, 19], [0, 1, 2, 3, 4, 5, 6, 7, 8, 9, 10, 11, 12, 13, 14, 15, 16, 17, 18, 19, 20]]
def anc_compare_table_api_Stitch__s0_2 : List (List Nat) := [[], [], [0, 1], [0, 1, 2], [], [], [], [6], [5, 6, 7], [5, 6, 7, 8], [], [5, 6, 7, 8, 9, 10], [5, 6, 7, 8, 9, 10, 11], [], [], [], [14, 15], [14, 15, 16], [13, 14, 15, 16, 17], [5, 6, 7, 8, 9, 10, 11, 12, 13, 14, 15, 16, 17, 18], [], [], [20, 21], [20, 21, 22], [], [24], [20, 21, 22, 23, 24, 25], [20, 21, 22, 23, 24, 25, 26], [], [], [], [29, 30], [29, 30, 31], [13, 14, 15, 16, 17, 18, 28, 29, 30, 31, 32], [13, 14, 15, 16, 17, 18, 20, 21, 22, 23, 24, 25, 26, 27, 28, 29, 30, 31, 32, 33], [], [], [36], [35, 36, 37], [35, 36, 37, 38], [], [40], [35, 36, 37, 38, 39, 40, 41], [35, 36, 37, 38, 39, 40, 41, 42], [], [], [], [45, 46], [45, 46, 47], [], [], [49, 50], [49, 50, 51], [13, 14, 15, 16, 17, 18, 28, 29, 30, 31, 32, 33, 44, 45, 46, 47, 48, 49, 50, 51, 52], [13, 14, 15, 16, 17, 18, 28, 29, 30, 31, 32, 33, 35, 36, 37, 38, 39, 40, 41, 42, 43, 44, 45, 46, 47, 48, 49, 50, 51, 52, 53], [5, 6, 7, 8, 9, 10, 11, 12, 13, 14, 15, 16, 17, 18, 19, 20, 21, 22, 23, 24, 25, 26, 27, 28, 29, 30, 31, 32, 33, 34, 35, 36, 37, 38, 39, 40, 41, 42, 43, 44, 45, 46, 47, 48, 49, 50, 51, 52, 53, 54], [0, 1, 2, 3, 4, 5, 6, 7, 8, 9, 10, 11, 12, 13, 14, 15, 16, 17, 18, 19, 20, 21, 22, 23, 24, 25, 26, 27, 28, 29, 30, 31, 32, 33, 34, 35, 36, 37, 38, 39, 40, 41, 42, 43, 44, 45, 46, 47, 48, 49, 50, 51, 52, 53, 54, 55], [0, 1, 2, 3, 4, 5, 6, 7, 8, 9, 10, 11, 12, 13, 14, 15, 16, 17, 18, 19, 20, 21, 22, 23, 24, 25, 26, 27, 28, 29, 30, 31, 32, 33, 34, 35, 36, 37, 38, 39, 40, 41, 42, 43, 44, 45, 46, 47, 48, 49, 50, 51, 52, 53, 54, 55, 56]]
noncomputable def compare_table_api_Stitch__s0_l1 (s16 : Int) (p0 : (List api_Stitch)) (p1 : (List api_Stitch)) (s15 : List (List Int)) : (Int × List Int) → Option ((Int × List Int) ⊕ List Int) := fun s0 => match s0 with
  | (s40, s41) =>
    if decide (0 ≤ s40) then
      Option.bind (α := List Int) (
        Option.bind (α := Bool) (
          if s16 == (p0.length : Int) then
            some (s40 == (p1.length : Int))
          else
            some false) fun o52 =>
        if o52 then
          some s41
        else
          if s16 == (p0.length : Int) then
            Option.bind (idxO s41 (w64 (s40 + 1))) fun x65 =>
            Option.bind (idxO p1 s40) fun x70 =>
            Option.bind (F_compare_cellTable_1 x70) fun r75 =>
            Option.bind (idxO s41 s40) fun x77 =>
            Option.bind (setO s41 s40 (w64 (x65 + r75))) fun l82 =>
            some l82
          else
            if s40 == (p1.length : Int) then
              Option.bind (idxO s15 (w64 (s16 + 1))) fun x104 =>
              Option.bind (idxO x104 s40) fun x112 =>
              Option.bind (idxO p0 s16) fun x117 =>
              Option.bind (F_compare_cellTable_1 x117) fun r122 =>
              Option.bind (idxO s41 s40) fun x124 =>
              Option.bind (setO s41 s40 (w64 (x112 + r122))) fun l129 =>
              some l129
            else
              Option.bind (idxO s15 (w64 (s16 + 1))) fun x152 =>
              Option.bind (idxO x152 s40) fun x160 =>
              Option.bind (idxO p0 s16) fun x165 =>
              Option.bind (F_compare_cellTable_1 x165) fun r170 =>
              Option.bind (idxO s41 (w64 (s40 + 1))) fun x175 =>
              Option.bind (idxO p1 s40) fun x180 =>
              Option.bind (F_compare_cellTable_1 x180) fun r185 =>
              Option.bind (idxO x152 (w64 (s40 + 1))) fun x193 =>
              Option.bind (F_compare_cellTable_2 x165 x180) fun r204 =>
              Option.bind (idxO s41 s40) fun x206 =>
              Option.bind (setO s41 s40 (min3 (w64 (x160 + r170)) (w64 (x175 + r185)) (w64 (x193 + r204)))) fun l211 =>
              some l211) fun o49 =>
      some (.inl (w64 (s40 - 1), o49))
    else
      some (.inr s41)
noncomputable def compare_table_api_Stitch__s0_l2 (p1 : (List api_Stitch)) (p0 : (List api_Stitch)) : (List (List Int) × Int) → Option ((List (List Int) × Int) ⊕ List (List Int)) := fun s0 => match s0 with
  | (s15, s16) =>
    if decide (0 ≤ s16) then
      Option.bind (α := List Int) (
        Option.bind (makeO (w64 ((p1.length : Int) + 1)) (0 : Int)) fun m32 =>
        Option.bind (idxO s15 s16) fun x34 =>
        Option.bind (whileO (compare_table_api_Stitch__s0_l1 s16 p0 p1 s15) ((p1.length : Int), m32)) fun e45 =>
          some e45) fun o24 =>
      some (.inl ((s15.set (s16).toNat o24), w64 (s16 - 1)))
    else
      some (.inr s15)
noncomputable def F_compare_table_api_Stitch__s0 (p0 : (List api_Stitch)) (p1 : (List api_Stitch)) : Option (List (List Int)) :=
  Option.bind (makeO (w64 ((p0.length : Int) + 1)) ([] : (List Int))) fun m9 =>
  Option.bind (α := List (List Int)) (
    Option.bind (whileO (compare_table_api_Stitch__s0_l2 p1 p0) (m9, (p0.length : Int))) fun e20 =>
      some e20) fun o11 =>
  some o11
def c_compare_table_api_Stitch__s0_val (r : (List (List Int))) (x : Value) : Value := x
def c_compare_table_api_Stitch__s0_D (r : (List (List Int))) (x : Value) : List Fact := [fRep (rL (rL (rI .i64))) x r]
set_option maxHeartbeats 4000000 in
set_option maxRecDepth 100000 in
theorem c_compare_table_api_Stitch__s0 (E : Nat → Prop) (w0 : World) (p0 : (List api_Stitch)) (v0 : Value) (p1 : (List api_Stitch)) (v1 : Value) (r : (List (List Int))) (h : F_compare_table_api_Stitch__s0 p0 p1 = some r) (S : St0 E [] w0 w0 [] [fRep (rL r_api_Stitch) (v0) p0, fRep (rL r_api_Stitch) (v1) p1]) :
    Calls Try.prog 83 #[v0, v1, .func (.func 84) #[] #[], .func (.func 85) #[] #[]] w0 (Ret (X := Value) E [] w0 (c_compare_table_api_Stitch__s0_val r) (fun _ => []) (c_compare_table_api_Stitch__s0_D r)) := by
  unfold F_compare_table_api_Stitch__s0 at h
  obtain ⟨ad1, cp2, _, rfl, _⟩ := S.know (i := 0) (e := fRep (rL r_api_Stitch) (v0) p0) rfl
  obtain ⟨ad3, cp4, _, rfl, _⟩ := S.know (i := 1) (e := fRep (rL r_api_Stitch) (v1) p1) rfl
  refine sEnter (args := [.slice ad1 p0.length cp2, .slice ad3 p1.length cp4, .func (.func 84) #[] #[], .func (.func 85) #[] #[]]) 156 Try.func83 rfl rfl (by simp) S (fun a S => ?_)
  refine sSeq (fun K5 hK5 => ?_)
  refine sRegion ?_
  refine sMove (.slice none 0 0) S (wN rfl) (.inr rfl) rfl rfl (lb rfl) fun a S => ?_
  refine leafL (leafT (hK5 _ _ ?_))
  refine sSeq (fun K6 hK6 => ?_)
  refine sRegion ?_
  refine sMove (.slice ad1 p0.length cp2) S (wN rfl) (.inl rfl) rfl rfl (lb rfl) fun a S => ?_
  refine sLen (ad := ad1) (m := p0.length) (c := cp2) S (wN rfl) rfl Try.underlying47 rfl rfl (lb rfl) fun a S => ?_
  refine sBin (iv (w64 ((p0.length : Int) + 1))) S (wN rfl) rfl rfl rfl (bAdd _ _ _ _ (p0.length : Int) 1) rfl (lb rfl) fun a S => ?_
  obtain ⟨m9, hx10, h⟩ := bindSome h
  refine sMake (r := (rL (rI .i64))) (m := w64 ((p0.length : Int) + 1)) (xs := m9) (.slice none 0 0) ([] : (List Int)) 24 S (wN rfl) rfl Try.underlying98 rfl rfl (by decide) (fun E w => rL_nil _ E w) rfl rfl hx10 rfl (lb rfl) fun a w ad7 cp8 S => ?_
  refine sMove (.slice ad7 m9.length cp8) S (wN rfl) (.inr rfl) rfl rfl (lb rfl) fun a S => ?_
  refine leafL (leafT (hK6 _ _ ?_))
  obtain ⟨t12, h, g13⟩ := bindSome h
  refine sCut (fun a w => ∃ o11, o11 = t12 ∧ St [] E [] w0 156 a w [(9, .slice ad7 o11.length cp8)] [eRow (rL (rI .i64)) 101 (.slice ad7 o11.length cp8) o11] []) ?_ (fun a w hI => ?_)
  rotate_left
  · obtain ⟨o11, rfl, S⟩ := hI
    have h := g13
    clear g13
    try dsimp only at h
    refine sSeq (fun K270 hK270 => ?_)
    refine sRegion ?_
    refine sMove (.slice ad7 o11.length cp8) S (wN rfl) (.inl rfl) rfl rfl (lb rfl) fun a S => ?_
    refine sMove (.slice ad7 o11.length cp8) S (wN rfl) (.inr rfl) rfl rfl (lb rfl) fun a S => ?_
    refine leafL (leafT (hK270 _ _ ?_))
    obtain rfl := Option.some.inj h
    have S := S.shutR (r := (rL (rI .i64))) (T := 101) (v := .slice ad7 o11.length cp8) (xs := o11) 0 rfl
    exact wp_ret (sRet (.slice ad7 o11.length cp8) S (rsl1 rfl (rvT (t := 8) (v := .slice ad7 o11.length cp8) S rfl)) ⟨(.slice ad7 o11.length cp8), rfl, S.mem.sel [] [0] (by decide) rfl rfl⟩)
  refine sSeq (fun K14 hK14 => ?_)
  refine sRegion ?_
  refine sMove (.slice ad1 p0.length cp2) S (wN rfl) (.inl rfl) rfl rfl (lb rfl) fun a S => ?_
  refine sLen (ad := ad1) (m := p0.length) (c := cp2) S (wN rfl) rfl Try.underlying47 rfl rfl (lb rfl) fun a S => ?_
  refine sMove (iv (p0.length : Int)) S (wN rfl) (.inr rfl) rfl rfl (lb rfl) fun a S => ?_
  refine leafL (leafT (hK14 _ _ ?_))
  refine wp_block ?_
  obtain ⟨t19, hl, g18⟩ := bindSome h
  refine sLoop hl (fun s0 a w => match s0 with | (s15, s16) => St [] E [] w0 156 a w [(0, .slice ad1 p0.length cp2), (1, .slice ad3 p1.length cp4), (2, .func (.func 84) #[] #[]), (3, .func (.func 85) #[] #[]), (9, .slice ad7 s15.length cp8), (10, iv s16)] [eRow (rL (rI .i64)) 101 (.slice ad7 s15.length cp8) s15] [fRep (rL r_api_Stitch) (.slice ad1 p0.length cp2) p0, fRep (rL r_api_Stitch) (.slice ad3 p1.length cp4) p1]) (S.fix [0] [0, 1] (by decide) rfl rfl rfl) ?_
  clear hl h
  intro s0 a w c0 hI h hu17
  obtain ⟨s15, s16⟩ := s0
  unfold compare_table_api_Stitch__s0_l2 at h
  dsimp only at h hI
  have S := hI
  refine sSeq (fun K21 hK21 => ?_)
  refine sSeq (fun K22 hK22 => ?_)
  refine sRegion ?_
  refine sMove (iv s16) S (wN rfl) (.inl rfl) rfl rfl (lb rfl) fun a S => ?_
  refine sBin (.bool (decide (0 ≤ s16))) S (wN rfl) rfl rfl rfl (bGe _ _ _ _ .i64 s16 0) rfl (lb rfl) fun a S => ?_
  refine leafL (leafT (hK22 _ _ ?_))
  rcases iteSome h with ⟨hc23, h⟩ | ⟨hc23, h⟩
  rotate_left
  · refine sCondF S rfl hc23 ?_
    obtain rfl := Option.some.inj h
    obtain rfl := hu17 _ rfl
    have h := g18
    clear g18
    try dsimp only at h
    exact wp_exit (xThen (xThen (xHit (leafT (⟨s15, Option.some.inj h, S.fix [0] [] (by decide) rfl rfl rfl⟩)))))
  refine sCondT S rfl hc23 ?_
  refine wp_skip (leafT (hK21 _ _ ?_))
  obtain ⟨t27, h, g28⟩ := bindSome h
  refine sCut (fun a w => ∃ o24, o24 = t27 ∧ ∃ ad25, ∃ cp26, St [] E [] w0 156 a w [(0, .slice ad1 p0.length cp2), (1, .slice ad3 p1.length cp4), (2, .func (.func 84) #[] #[]), (3, .func (.func 85) #[] #[]), (9, .slice ad7 s15.length cp8), (10, iv s16)] [eHole (rL (rI .i64)) 101 (.slice ad7 s15.length cp8) s15 ((s16).toNat * (rL (rI .i64)).sz + 0) (.slice ad25 o24.length cp26), eRow (rI .i64) 3 (.slice ad25 o24.length cp26) o24] [fRep (rL r_api_Stitch) (.slice ad1 p0.length cp2) p0, fRep (rL r_api_Stitch) (.slice ad3 p1.length cp4) p1]) ?_ (fun a w hI => ?_)
  rotate_left
  · obtain ⟨o24, rfl, ad25, cp26, S⟩ := hI
    have h := g28
    clear g28
    try dsimp only at h
    refine sRegion ?_
    refine sMove (iv s16) S (wN rfl) (.inl rfl) rfl rfl (lb rfl) fun a S => ?_
    refine sBin (iv (w64 (s16 - 1))) S (wN rfl) rfl rfl rfl (bSub _ _ _ _ s16 1) rfl (lb rfl) fun a S => ?_
    refine sMove (iv (w64 (s16 - 1))) S (wN rfl) (.inr rfl) rfl rfl (lb rfl) fun a S => ?_
    have S := S.shutR (r := (rI .i64)) (T := 3) (v := .slice ad25 o24.length cp26) (xs := o24) 1 rfl
    have S := S.closeHN (r := (rL (rI .i64))) (T := 101) (xs := s15) (y := o24) (v := .slice ad7 s15.length cp8) (u := .slice ad25 o24.length cp26) (j := s16) 0 rfl (S.mem.know (i := 0) (e := fRep (rL (rI .i64)) (.slice ad25 o24.length cp26) o24) rfl) rfl (scal_L _)
    rw [set_v s15 (s16).toNat o24 ad7 cp8] at S
    exact leafL (leafT (⟨((s15.set (s16).toNat o24), w64 (s16 - 1)), (Option.some.inj h).symm, (S.fix [0] [1, 2] (by decide) rfl rfl rfl)⟩))
  refine wp_block ?_
  refine sSeq (fun K29 hK29 => ?_)
  refine sRegion ?_
  refine sMove (.slice ad7 s15.length cp8) S (wN rfl) (.inl rfl) rfl rfl (lb rfl) fun a S => ?_
  refine sMove (iv s16) S (wN rfl) (.inl rfl) rfl rfl (lb rfl) fun a S => ?_
  refine sMove (.slice ad3 p1.length cp4) S (wN rfl) (.inl rfl) rfl rfl (lb rfl) fun a S => ?_
  refine sLen (ad := ad3) (m := p1.length) (c := cp4) S (wN rfl) rfl Try.underlying47 rfl rfl (lb rfl) fun a S => ?_
  refine sBin (iv (w64 ((p1.length : Int) + 1))) S (wN rfl) rfl rfl rfl (bAdd _ _ _ _ (p1.length : Int) 1) rfl (lb rfl) fun a S => ?_
  obtain ⟨m32, hx33, h⟩ := bindSome h
  refine sMake (r := (rI .i64)) (m := w64 ((p1.length : Int) + 1)) (xs := m32) (iv 0) (0 : Int) 8 S (wN rfl) rfl Try.underlying101 rfl rfl (by decide) (fun _ _ => rfl) rfl rfl hx33 rfl (lb rfl) fun a w ad30 cp31 S => ?_
  obtain ⟨x34, hx35, h⟩ := bindSome h
  obtain ⟨q36, hq37, hp38⟩ := pIdxR (P := Try.prog) (r := (rL (rI .i64))) (T := 101) (v := .slice ad7 s15.length cp8) (xs := s15) (j := s16) 98 101 1 S Try.underlying98 rfl rfl hx35
  refine sIdxV (v := .slice ad7 s15.length cp8) (k := .i64) (j := s16) S (wN rfl) rfl rfl rfl hq37 rfl (lb rfl) fun a S => ?_
  refine sStoreHE (r := (rL (rI .i64))) (T := 101) (xs := s15) (x := x34) (v := .slice ad7 s15.length cp8) (vq := q36) (u := .slice ad30 m32.length cp31) (j := s16) 1 S hp38 (wN rfl) rfl rfl rfl rfl hx35 rfl rfl rfl rfl fun a w S => ?_
  refine leafL (leafT (hK29 _ _ ?_))
  refine sSeq (fun K39 hK39 => ?_)
  refine sRegion ?_
  refine sMove (.slice ad3 p1.length cp4) S (wN rfl) (.inl rfl) rfl rfl (lb rfl) fun a S => ?_
  refine sLen (ad := ad3) (m := p1.length) (c := cp4) S (wN rfl) rfl Try.underlying47 rfl rfl (lb rfl) fun a S => ?_
  refine sMove (iv (p1.length : Int)) S (wN rfl) (.inr rfl) rfl rfl (lb rfl) fun a S => ?_
  refine leafL (leafT (hK39 _ _ ?_))
  refine wp_block ?_
  obtain ⟨t44, hl, g43⟩ := bindSome h
  refine sLoop hl (fun s0 a w => match s0 with | (s40, s41) => St [] E [] w0 156 a w [(0, .slice ad1 p0.length cp2), (1, .slice ad3 p1.length cp4), (2, .func (.func 84) #[] #[]), (3, .func (.func 85) #[] #[]), (9, .slice ad7 s15.length cp8), (10, iv s16), (11, iv s40)] [eHole (rL (rI .i64)) 101 (.slice ad7 s15.length cp8) s15 ((s16).toNat * (rL (rI .i64)).sz + 0) (.slice ad30 s41.length cp31), eRow (rI .i64) 3 (.slice ad30 s41.length cp31) s41] [fRep (rL r_api_Stitch) (.slice ad1 p0.length cp2) p0, fRep (rL r_api_Stitch) (.slice ad3 p1.length cp4) p1]) (S.fix [0, 1] [0, 1] (by decide) rfl rfl rfl) ?_
  clear hl h
  intro s0 a w c0 hI h hu42
  obtain ⟨s40, s41⟩ := s0
  unfold compare_table_api_Stitch__s0_l1 at h
  dsimp only at h hI
  have S := hI
  refine sSeq (fun K46 hK46 => ?_)
  refine sSeq (fun K47 hK47 => ?_)
  refine sRegion ?_
  refine sMove (iv s40) S (wN rfl) (.inl rfl) rfl rfl (lb rfl) fun a S => ?_
  refine sBin (.bool (decide (0 ≤ s40))) S (wN rfl) rfl rfl rfl (bGe _ _ _ _ .i64 s40 0) rfl (lb rfl) fun a S => ?_
  refine leafL (leafT (hK47 _ _ ?_))
  rcases iteSome h with ⟨hc48, h⟩ | ⟨hc48, h⟩
  rotate_left
  · refine sCondF S rfl hc48 ?_
    obtain rfl := Option.some.inj h
    obtain rfl := hu42 _ rfl
    have h := g43
    clear g43
    try dsimp only at h
    exact wp_exit (xThen (xThen (xHit (leafB (leafT (⟨s41, Option.some.inj h, ad30, cp31, S.fix [0, 1] [0, 1] (by decide) rfl rfl rfl⟩))))))
  refine sCondT S rfl hc48 ?_
  refine wp_skip (leafT (hK46 _ _ ?_))
  obtain ⟨t50, h, g51⟩ := bindSome h
  refine sCut (fun a w => ∃ o49, o49 = t50 ∧ St [] E [] w0 156 a w [(0, .slice ad1 p0.length cp2), (1, .slice ad3 p1.length cp4), (2, .func (.func 84) #[] #[]), (3, .func (.func 85) #[] #[]), (9, .slice ad7 s15.length cp8), (10, iv s16), (11, iv s40)] [eHole (rL (rI .i64)) 101 (.slice ad7 s15.length cp8) s15 ((s16).toNat * (rL (rI .i64)).sz + 0) (.slice ad30 o49.length cp31), eRow (rI .i64) 3 (.slice ad30 o49.length cp31) o49] [fRep (rL r_api_Stitch) (.slice ad1 p0.length cp2) p0, fRep (rL r_api_Stitch) (.slice ad3 p1.length cp4) p1]) ?_ (fun a w hI => ?_)
  rotate_left
  · obtain ⟨o49, rfl, S⟩ := hI
    have h := g51
    clear g51
    try dsimp only at h
    refine sRegion ?_
    refine sMove (iv s40) S (wN rfl) (.inl rfl) rfl rfl (lb rfl) fun a S => ?_
    refine sBin (iv (w64 (s40 - 1))) S (wN rfl) rfl rfl rfl (bSub _ _ _ _ s40 1) rfl (lb rfl) fun a S => ?_
    refine sMove (iv (w64 (s40 - 1))) S (wN rfl) (.inr rfl) rfl rfl (lb rfl) fun a S => ?_
    exact leafL (leafT (⟨(w64 (s40 - 1), o49), (Option.some.inj h).symm, (S.fix [0, 1] [0, 1] (by decide) rfl rfl rfl)⟩))
  refine wp_block ?_
  refine wp_block ?_
  obtain ⟨t53, h, g54⟩ := bindSome h
  refine sCut (fun a w => ∃ o52, o52 = t53 ∧ St [] E [] w0 156 a w [(0, .slice ad1 p0.length cp2), (1, .slice ad3 p1.length cp4), (2, .func (.func 84) #[] #[]), (3, .func (.func 85) #[] #[]), (9, .slice ad7 s15.length cp8), (10, iv s16), (11, iv s40), (92, .bool o52)] [eHole (rL (rI .i64)) 101 (.slice ad7 s15.length cp8) s15 ((s16).toNat * (rL (rI .i64)).sz + 0) (.slice ad30 s41.length cp31), eRow (rI .i64) 3 (.slice ad30 s41.length cp31) s41] [fRep (rL r_api_Stitch) (.slice ad1 p0.length cp2) p0, fRep (rL r_api_Stitch) (.slice ad3 p1.length cp4) p1]) ?_ (fun a w hI => ?_)
  · refine sRegion ?_
    refine sMove (iv s16) S (wN rfl) (.inl rfl) rfl rfl (lb rfl) fun a S => ?_
    refine sMove (.slice ad1 p0.length cp2) S (wN rfl) (.inl rfl) rfl rfl (lb rfl) fun a S => ?_
    refine sLen (ad := ad1) (m := p0.length) (c := cp2) S (wN rfl) rfl Try.underlying47 rfl rfl (lb rfl) fun a S => ?_
    refine sBin (.bool (s16 == (p0.length : Int))) S (wN rfl) rfl rfl rfl (bEq _ _ _ _ .i64 s16 (p0.length : Int)) rfl (lb rfl) fun a S => ?_
    refine sMove (.bool (s16 == (p0.length : Int))) S (wN rfl) (.inl rfl) rfl rfl (lb rfl) fun a S => ?_
    rcases iteSome h with ⟨hc55, h⟩ | ⟨hc55, h⟩
    rotate_left
    · refine sSkip 4 true 97 98 S rfl rfl rfl hc55 rfl (lb rfl) fun a S => ?_
      refine sSkip 4 true 97 99 S rfl rfl rfl hc55 rfl (lb rfl) fun a S => ?_
      refine sSkip 4 true 97 100 S rfl rfl rfl hc55 rfl (lb rfl) fun a S => ?_
      refine sSkip 4 true 97 101 S rfl rfl rfl hc55 rfl (lb rfl) fun a S => ?_
      refine sPickF (.bool false) S (wN rfl) rfl rfl hc55 rfl rfl (lb rfl) fun a S => ?_
      refine sMove (.bool false) S (wN rfl) (.inr rfl) rfl rfl (lb rfl) fun a S => ?_
      exact leafL (leafT (⟨false, Option.some.inj h, S.fix [0, 1] [0, 1] (by decide) rfl rfl rfl⟩))
    refine sMove (iv s40) S (wG 4 true 97 rfl rfl rfl hc55) (.inl rfl) rfl rfl (lb rfl) fun a S => ?_
    refine sMove (.slice ad3 p1.length cp4) S (wG 4 true 97 rfl rfl rfl hc55) (.inl rfl) rfl rfl (lb rfl) fun a S => ?_
    refine sLen (ad := ad3) (m := p1.length) (c := cp4) S (wG 4 true 97 rfl rfl rfl hc55) rfl Try.underlying47 rfl rfl (lb rfl) fun a S => ?_
    refine sBin (.bool (s40 == (p1.length : Int))) S (wG 4 true 97 rfl rfl rfl hc55) rfl rfl rfl (bEq _ _ _ _ .i64 s40 (p1.length : Int)) rfl (lb rfl) fun a S => ?_
    refine sPickT (.bool (s40 == (p1.length : Int))) S (wN rfl) rfl rfl hc55 rfl rfl (lb rfl) fun a S => ?_
    refine sMove (.bool (s40 == (p1.length : Int))) S (wN rfl) (.inr rfl) rfl rfl (lb rfl) fun a S => ?_
    exact leafL (leafT (⟨s40 == (p1.length : Int), Option.some.inj h, S.fix [0, 1] [0, 1] (by decide) rfl rfl rfl⟩))
  obtain ⟨o52, rfl, S⟩ := hI
  have h := g54
  clear g54
  try dsimp only at h
  rcases iteSome h with ⟨hc56, h⟩ | ⟨hc56, h⟩
  · refine sCondT S rfl hc56 ?_
    exact wp_skip (leafB (leafB (leafT (⟨s41, Option.some.inj h, S.fix [0, 1] [0, 1] (by decide) rfl rfl rfl⟩))))
  refine sCondF S rfl hc56 ?_
  refine sSeq (fun K57 hK57 => ?_)
  refine sRegion ?_
  refine sMove (iv s16) S (wN rfl) (.inl rfl) rfl rfl (lb rfl) fun a S => ?_
  refine sMove (.slice ad1 p0.length cp2) S (wN rfl) (.inl rfl) rfl rfl (lb rfl) fun a S => ?_
  refine sLen (ad := ad1) (m := p0.length) (c := cp2) S (wN rfl) rfl Try.underlying47 rfl rfl (lb rfl) fun a S => ?_
  refine sBin (.bool (s16 == (p0.length : Int))) S (wN rfl) rfl rfl rfl (bEq _ _ _ _ .i64 s16 (p0.length : Int)) rfl (lb rfl) fun a S => ?_
  refine sMove (.bool (s16 == (p0.length : Int))) S (wN rfl) (.inr rfl) rfl rfl (lb rfl) fun a S => ?_
  refine leafL (leafT (hK57 _ _ ?_))
  rcases iteSome h with ⟨hc58, h⟩ | ⟨hc58, h⟩
  · refine sCondT S rfl hc58 ?_
    obtain ⟨x65, hx66, h⟩ := bindSome h
    obtain ⟨x70, hx71, h⟩ := bindSome h
    obtain ⟨r75, hx76, h⟩ := bindSome h
    obtain ⟨x77, hx78, h⟩ := bindSome h
    obtain ⟨l82, hx83, h⟩ := bindSome h
    obtain ⟨q84, hq85, hp86⟩ := pIdxH (P := Try.prog) (r := (rL (rI .i64))) (T := 101) (v := .slice ad7 s15.length cp8) (xs := s15) (j := s16) 98 101 0 S Try.underlying98 rfl rfl hx35
    obtain ⟨q87, hq88, hp89⟩ := pIdxH (P := Try.prog) (r := (rL (rI .i64))) (T := 101) (v := .slice ad7 s15.length cp8) (xs := s15) (j := s16) 98 101 0 S Try.underlying98 rfl rfl hx35
    obtain ⟨q90, hq91, hp92⟩ := pIdxR (P := Try.prog) (r := (rI .i64)) (T := 3) (v := .slice ad30 s41.length cp31) (xs := s41) (j := w64 (s40 + 1)) 101 3 1 S Try.underlying101 rfl rfl hx66
    obtain ⟨q93, hq94, S⟩ := pIdx (P := Try.prog) (r := r_api_Stitch) (v := .slice ad3 p1.length cp4) (xs := p1) (j := s40) 47 81 1 S Try.underlying47 rfl rfl hx71
    obtain ⟨u95, S⟩ := pLoad (r := r_api_Stitch) (q := q93) (x := x70) 0 S rfl
    obtain rfl : u95 = .agg #[.int .u8 x70.Kind, .bool x70.Purl, iv x70.A, iv x70.B] := S.mem.know (i := 1) (e := fRep r_api_Stitch (u95) x70) rfl
    obtain ⟨q96, hq97, hp98⟩ := pIdxR (P := Try.prog) (r := (rI .i64)) (T := 3) (v := .slice ad30 s41.length cp31) (xs := s41) (j := s40) 101 3 1 S Try.underlying101 rfl rfl hx78
    refine sDraw (nf := [21]) (W := [(0, 108, .slice ad7 s15.length cp8), (1, 109, iv s16), (2, 110, q84), (3, 111, .slice ad30 s41.length cp31), (4, 112, iv s40), (5, 113, .slice ad7 s15.length cp8), (6, 114, iv s16), (7, 115, q87), (8, 116, .slice ad30 s41.length cp31), (9, 117, iv s40), (10, 118, iv (w64 (s40 + 1))), (11, 119, q90), (12, 120, iv x65), (13, 121, .func (.func 84) #[] #[]), (14, 122, .slice ad3 p1.length cp4), (15, 123, iv s40), (16, 124, q93), (17, 125, .agg #[.int .u8 x70.Kind, .bool x70.Purl, iv x70.A, iv x70.B]), (18, 126, iv r75), (19, 127, iv (w64 (x65 + r75))), (20, 128, q96)]) rfl S ?_
    refine node_by (A := anc_compare_table_api_Stitch__s0_0) (nf := [21]) (Y := []) (W := [(0, 108, .slice ad7 s15.length cp8), (1, 109, iv s16), (2, 110, q84), (3, 111, .slice ad30 s41.length cp31), (4, 112, iv s40), (5, 113, .slice ad7 s15.length cp8), (6, 114, iv s16), (7, 115, q87), (8, 116, .slice ad30 s41.length cp31), (9, 117, iv s40), (10, 118, iv (w64 (s40 + 1))), (11, 119, q90), (12, 120, iv x65), (13, 121, .func (.func 84) #[] #[]), (14, 122, .slice ad3 p1.length cp4), (15, 123, iv s40), (16, 124, q93), (17, 125, .agg #[.int .u8 x70.Kind, .bool x70.Purl, iv x70.A, iv x70.B]), (18, 126, iv r75), (19, 127, iv (w64 (x65 + r75))), (20, 128, q96)]) 22 (by kernel_rfl) (by kernel_rfl) (by kernel_rfl) (by kernel_rfl) (by kernel_rfl) [0, 1, 2, 3, 4, 5, 6, 7, 8, 9, 10, 11, 12, 13, 14, 15, 16, 17, 18, 19, 20] (by kernel_rfl) (by decide) (by decide) (aF 0 21 (by decide) ?_ (aF 1 20 (by decide) ?_ (aF 2 19 (by decide) ?_ (aF 3 18 (by decide) ?_ (aF 4 17 (by decide) ?_ (aF 5 16 (by decide) ?_ (aF 6 15 (by decide) ?_ (aF 7 14 (by decide) ?_ (aF 8 13 (by decide) ?_ (aF 9 12 (by decide) ?_ (aF 10 11 (by decide) ?_ (aF 11 10 (by decide) ?_ (aF 12 9 (by decide) ?_ (aF 13 8 (by decide) ?_ (aF 14 7 (by decide) ?_ (aF 15 6 (by decide) ?_ (aF 16 5 (by decide) ?_ (aF 17 4 (by decide) ?_ (aF 18 3 (by decide) ?_ (aF 19 2 (by decide) ?_ (aF 20 1 (by decide) ?_ (aN 21 0 (by decide) ?_ (trivial))))))))))))))))))))))) [] (fun q hq => by cases hq) (fun hY => absurd (hY 21 (by decide)) (by decide))
    · refine fI 108 (.slice ad7 s15.length cp8) [(9, .slice ad7 s15.length cp8)] 0 [none] rfl rfl rfl rfl rfl rfl fun G a w S => ?_
      refine sMove (.slice ad7 s15.length cp8) S (wN rfl) (.inl rfl) rfl rfl (lb rfl) fun a S => ?_
      exact leafL ⟨rfl, S⟩
    · refine fI 109 (iv s16) [(10, iv s16)] 1 [none] rfl rfl rfl rfl rfl rfl fun G a w S => ?_
      refine sMove (iv s16) S (wN rfl) (.inl rfl) rfl rfl (lb rfl) fun a S => ?_
      exact leafL ⟨rfl, S⟩
    · refine fI 110 q84 [(108, .slice ad7 s15.length cp8), (109, iv s16)] 2 [some 0, some 1] rfl rfl rfl rfl rfl rfl fun G a w S => ?_
      refine sIdxV (v := .slice ad7 s15.length cp8) (k := .i64) (j := s16) S (wN rfl) rfl rfl rfl hq85 rfl (lb rfl) fun a S => ?_
      exact leafL ⟨rfl, S⟩
    · refine fI 111 (.slice ad30 s41.length cp31) [(110, q84)] 3 [some 2] rfl rfl rfl rfl rfl rfl fun G a w S => ?_
      refine sLoadHE (r := (rL (rI .i64))) (T := 101) (xs := s15) (u := .slice ad30 s41.length cp31) (v := .slice ad7 s15.length cp8) (vq := q84) (j := s16) 0 S hp86 (wN rfl) rfl rfl rfl rfl rfl (lb rfl) fun a S => ?_
      exact leafL ⟨rfl, S⟩
    · refine fI 112 (iv s40) [(11, iv s40)] 4 [none] rfl rfl rfl rfl rfl rfl fun G a w S => ?_
      refine sMove (iv s40) S (wN rfl) (.inl rfl) rfl rfl (lb rfl) fun a S => ?_
      exact leafL ⟨rfl, S⟩
    · refine fI 113 (.slice ad7 s15.length cp8) [(9, .slice ad7 s15.length cp8)] 5 [none] rfl rfl rfl rfl rfl rfl fun G a w S => ?_
      refine sMove (.slice ad7 s15.length cp8) S (wN rfl) (.inl rfl) rfl rfl (lb rfl) fun a S => ?_
      exact leafL ⟨rfl, S⟩
    · refine fI 114 (iv s16) [(10, iv s16)] 6 [none] rfl rfl rfl rfl rfl rfl fun G a w S => ?_
      refine sMove (iv s16) S (wN rfl) (.inl rfl) rfl rfl (lb rfl) fun a S => ?_
      exact leafL ⟨rfl, S⟩
    · refine fI 115 q87 [(113, .slice ad7 s15.length cp8), (114, iv s16)] 7 [some 5, some 6] rfl rfl rfl rfl rfl rfl fun G a w S => ?_
      refine sIdxV (v := .slice ad7 s15.length cp8) (k := .i64) (j := s16) S (wN rfl) rfl rfl rfl hq88 rfl (lb rfl) fun a S => ?_
      exact leafL ⟨rfl, S⟩
    · refine fI 116 (.slice ad30 s41.length cp31) [(115, q87)] 8 [some 7] rfl rfl rfl rfl rfl rfl fun G a w S => ?_
      refine sLoadHE (r := (rL (rI .i64))) (T := 101) (xs := s15) (u := .slice ad30 s41.length cp31) (v := .slice ad7 s15.length cp8) (vq := q87) (j := s16) 0 S hp89 (wN rfl) rfl rfl rfl rfl rfl (lb rfl) fun a S => ?_
      exact leafL ⟨rfl, S⟩
    · refine fI 117 (iv s40) [(11, iv s40)] 9 [none] rfl rfl rfl rfl rfl rfl fun G a w S => ?_
      refine sMove (iv s40) S (wN rfl) (.inl rfl) rfl rfl (lb rfl) fun a S => ?_
      exact leafL ⟨rfl, S⟩
    · refine fI 118 (iv (w64 (s40 + 1))) [(117, iv s40)] 10 [some 9] rfl rfl rfl rfl rfl rfl fun G a w S => ?_
      refine sBin (iv (w64 (s40 + 1))) S (wN rfl) rfl rfl rfl (bAdd _ _ _ _ s40 1) rfl (lb rfl) fun a S => ?_
      exact leafL ⟨rfl, S⟩
    · refine fI 119 q90 [(116, .slice ad30 s41.length cp31), (118, iv (w64 (s40 + 1)))] 11 [some 8, some 10] rfl rfl rfl rfl rfl rfl fun G a w S => ?_
      refine sIdxV (v := .slice ad30 s41.length cp31) (k := .i64) (j := w64 (s40 + 1)) S (wN rfl) rfl rfl rfl hq91 rfl (lb rfl) fun a S => ?_
      exact leafL ⟨rfl, S⟩
    · refine fI 120 (iv x65) [(119, q90)] 12 [some 11] rfl rfl rfl rfl rfl rfl fun G a w S => ?_
      refine sLoadR (r := (rI .i64)) (T := 3) (xs := s41) (x := x65) (v := .slice ad30 s41.length cp31) (vq := q90) (j := w64 (s40 + 1)) 1 (iv x65) S hp92 (wN rfl) rfl rfl rfl hx66 (fun _ _ _ h => h) (scal_I _) rfl rfl (lb rfl) fun a S => ?_
      exact leafL ⟨rfl, S⟩
    · refine fI 121 (.func (.func 84) #[] #[]) [(2, .func (.func 84) #[] #[])] 13 [none] rfl rfl rfl rfl rfl rfl fun G a w S => ?_
      refine sMove (.func (.func 84) #[] #[]) S (wN rfl) (.inl rfl) rfl rfl (lb rfl) fun a S => ?_
      exact leafL ⟨rfl, S⟩
    · refine fI 122 (.slice ad3 p1.length cp4) [(1, .slice ad3 p1.length cp4)] 14 [none] rfl rfl rfl rfl rfl rfl fun G a w S => ?_
      refine sMove (.slice ad3 p1.length cp4) S (wN rfl) (.inl rfl) rfl rfl (lb rfl) fun a S => ?_
      exact leafL ⟨rfl, S⟩
    · refine fI 123 (iv s40) [(11, iv s40)] 15 [none] rfl rfl rfl rfl rfl rfl fun G a w S => ?_
      refine sMove (iv s40) S (wN rfl) (.inl rfl) rfl rfl (lb rfl) fun a S => ?_
      exact leafL ⟨rfl, S⟩
    · refine fI 124 q93 [(122, .slice ad3 p1.length cp4), (123, iv s40)] 16 [some 14, some 15] rfl rfl rfl rfl rfl rfl fun G a w S => ?_
      refine sIdxV (v := .slice ad3 p1.length cp4) (k := .i64) (j := s40) S (wN rfl) rfl rfl rfl hq94 rfl (lb rfl) fun a S => ?_
      exact leafL ⟨rfl, S⟩
    · refine fI 125 (.agg #[.int .u8 x70.Kind, .bool x70.Purl, iv x70.A, iv x70.B]) [(124, q93)] 17 [some 16] rfl rfl rfl rfl rfl rfl fun G a w S => ?_
      refine sLoadVN (vq := q93) 0 [.int .u8 x70.Kind, .bool x70.Purl, iv x70.A, iv x70.B] S (wN rfl) rfl rfl rfl rfl rfl rfl (lb rfl) fun a S => ?_
      exact leafL ⟨rfl, S⟩
    · refine fI 126 (iv r75) [(121, .func (.func 84) #[] #[]), (125, .agg #[.int .u8 x70.Kind, .bool x70.Purl, iv x70.A, iv x70.B])] 18 [some 13, some 17] rfl rfl rfl rfl rfl rfl fun G a w S => ?_
      have S1 := S.mem
      refine sCallVQ (X := Unit) (g := 84) (vs := [.agg #[.int .u8 x70.Kind, .bool x70.Purl, iv x70.A, iv x70.B]]) (caps := []) (val := fun _ => iv r75) S (wN rfl) rfl rfl callee84 rfl (S1.quiet [1] rfl) (fun E1 w1 S1 => c_compare_cellTable_1 E1 w1 x70 (.agg #[.int .u8 x70.Kind, .bool x70.Purl, iv x70.A, iv x70.B]) r75 hx76 S1) rfl (lb rfl) fun _ a w S => ?_
      exact leafL ⟨rfl, S⟩
    · refine fI 127 (iv (w64 (x65 + r75))) [(120, iv x65), (126, iv r75)] 19 [some 12, some 18] rfl rfl rfl rfl rfl rfl fun G a w S => ?_
      refine sBin (iv (w64 (x65 + r75))) S (wN rfl) rfl rfl rfl (bAdd _ _ _ _ x65 r75) rfl (lb rfl) fun a S => ?_
      exact leafL ⟨rfl, S⟩
    · refine fI 128 q96 [(111, .slice ad30 s41.length cp31), (112, iv s40)] 20 [some 3, some 4] rfl rfl rfl rfl rfl rfl fun G a w S => ?_
      refine sIdxV (v := .slice ad30 s41.length cp31) (k := .i64) (j := s40) S (wN rfl) rfl rfl rfl hq97 rfl (lb rfl) fun a S => ?_
      exact leafL ⟨rfl, S⟩
    refine ⟨_, [(127, iv (w64 (x65 + r75))), (128, q96)], rfl, (srcs_of [some 19, some 20] rfl rfl rfl), fun G a w S => ?_⟩
    refine sStoreR (r := (rI .i64)) (T := 3) (xs := s41) (ys := l82) (y := (w64 (x65 + r75))) (v := .slice ad30 s41.length cp31) (vq := q96) (u := iv (w64 (x65 + r75))) (j := s40) 1 S hp98 (wN rfl) rfl rfl rfl rfl rfl hx83 rfl rfl fun a w S => ?_
    refine leafL ⟨rfl, _, _, .inr ⟨[], rfl, S, hz_of rfl, ?_⟩⟩
    refine node_by (A := anc_compare_table_api_Stitch__s0_0) (nf := [21]) (Y := [21]) 22 (by kernel_rfl) (by kernel_rfl) (by kernel_rfl) (by kernel_rfl) (by kernel_rfl) [0, 1, 2, 3, 4, 5, 6, 7, 8, 9, 10, 11, 12, 13, 14, 15, 16, 17, 18, 19, 20] (by kernel_rfl) (by decide) (by decide) (aD 0 21 21 (by decide) (aD 1 20 21 (by decide) (aD 2 19 21 (by decide) (aD 3 18 21 (by decide) (aD 4 17 21 (by decide) (aD 5 16 21 (by decide) (aD 6 15 21 (by decide) (aD 7 14 21 (by decide) (aD 8 13 21 (by decide) (aD 9 12 21 (by decide) (aD 10 11 21 (by decide) (aD 11 10 21 (by decide) (aD 12 9 21 (by decide) (aD 13 8 21 (by decide) (aD 14 7 21 (by decide) (aD 15 6 21 (by decide) (aD 16 5 21 (by decide) (aD 17 4 21 (by decide) (aD 18 3 21 (by decide) (aD 19 2 21 (by decide) (aD 20 1 21 (by decide) (aY 21 0 (by decide) (trivial))))))))))))))))))))))) [(0, .slice ad1 p0.length cp2), (1, .slice ad3 p1.length cp4), (2, .func (.func 84) #[] #[]), (3, .func (.func 85) #[] #[]), (9, .slice ad7 s15.length cp8), (10, iv s16), (11, iv s40)] (fin_of [none, none, none, none, none, none, none] rfl (by kernel_rfl) (by kernel_rfl)) (fun _ a w S => ?_)
    rw [setO_v hx83 ad30 cp31] at S
    exact leafB (leafB (leafT (⟨l82, Option.some.inj h, S.fix [1, 0] [3, 4] (by decide) rfl rfl rfl⟩)))
  refine sCondF S rfl hc58 ?_
  refine sSeq (fun K99 hK99 => ?_)
  refine sRegion ?_
  refine sMove (iv s40) S (wN rfl) (.inl rfl) rfl rfl (lb rfl) fun a S => ?_
  refine sMove (.slice ad3 p1.length cp4) S (wN rfl) (.inl rfl) rfl rfl (lb rfl) fun a S => ?_
  refine sLen (ad := ad3) (m := p1.length) (c := cp4) S (wN rfl) rfl Try.underlying47 rfl rfl (lb rfl) fun a S => ?_
  refine sBin (.bool (s40 == (p1.length : Int))) S (wN rfl) rfl rfl rfl (bEq _ _ _ _ .i64 s40 (p1.length : Int)) rfl (lb rfl) fun a S => ?_
  refine sMove (.bool (s40 == (p1.length : Int))) S (wN rfl) (.inr rfl) rfl rfl (lb rfl) fun a S => ?_
  refine leafL (leafT (hK99 _ _ ?_))
  rcases iteSome h with ⟨hc100, h⟩ | ⟨hc100, h⟩
  · refine sCondT S rfl hc100 ?_
    obtain ⟨x104, hx105, h⟩ := bindSome h
    obtain ⟨x112, hx113, h⟩ := bindSome h
    obtain ⟨x117, hx118, h⟩ := bindSome h
    obtain ⟨r122, hx123, h⟩ := bindSome h
    obtain ⟨x124, hx125, h⟩ := bindSome h
    obtain ⟨l129, hx130, h⟩ := bindSome h
    obtain ⟨q131, hq132, hp133⟩ := pIdxH (P := Try.prog) (r := (rL (rI .i64))) (T := 101) (v := .slice ad7 s15.length cp8) (xs := s15) (j := s16) 98 101 0 S Try.underlying98 rfl rfl hx35
    obtain ⟨q134, hq135, hp136⟩ := pIdxH (P := Try.prog) (r := (rL (rI .i64))) (T := 101) (v := .slice ad7 s15.length cp8) (xs := s15) (j := w64 (s16 + 1)) 98 101 0 S Try.underlying98 rfl rfl hx105
    obtain ⟨q137, hq138, S⟩ := pIdx (P := Try.prog) (r := r_api_Stitch) (v := .slice ad1 p0.length cp2) (xs := p0) (j := s16) 47 81 0 S Try.underlying47 rfl rfl hx118
    obtain ⟨u139, S⟩ := pLoad (r := r_api_Stitch) (q := q137) (x := x117) 0 S rfl
    obtain rfl : u139 = .agg #[.int .u8 x117.Kind, .bool x117.Purl, iv x117.A, iv x117.B] := S.mem.know (i := 1) (e := fRep r_api_Stitch (u139) x117) rfl
    refine sDraw (nf := [9, 21]) (W := [(0, 134, .slice ad7 s15.length cp8), (1, 135, iv s16), (2, 136, q131), (3, 137, .slice ad30 s41.length cp31), (4, 138, iv s40), (5, 139, .slice ad7 s15.length cp8), (6, 140, iv s16), (7, 141, iv (w64 (s16 + 1))), (8, 142, q134), (10, 144, iv s40), (13, 147, .func (.func 84) #[] #[]), (14, 148, .slice ad1 p0.length cp2), (15, 149, iv s16), (16, 150, q137), (17, 151, .agg #[.int .u8 x117.Kind, .bool x117.Purl, iv x117.A, iv x117.B]), (18, 152, iv r122)]) rfl S ?_
    refine node_by (A := anc_compare_table_api_Stitch__s0_1) (nf := [9, 21]) (Y := []) (W := [(0, 134, .slice ad7 s15.length cp8), (1, 135, iv s16), (2, 136, q131), (3, 137, .slice ad30 s41.length cp31), (4, 138, iv s40), (5, 139, .slice ad7 s15.length cp8), (6, 140, iv s16), (7, 141, iv (w64 (s16 + 1))), (8, 142, q134), (10, 144, iv s40), (13, 147, .func (.func 84) #[] #[]), (14, 148, .slice ad1 p0.length cp2), (15, 149, iv s16), (16, 150, q137), (17, 151, .agg #[.int .u8 x117.Kind, .bool x117.Purl, iv x117.A, iv x117.B]), (18, 152, iv r122)]) 22 (by kernel_rfl) (by kernel_rfl) (by kernel_rfl) (by kernel_rfl) (by kernel_rfl) [0, 1, 2, 3, 4, 5, 6, 7, 8, 10, 13, 14, 15, 16, 17, 18] (by kernel_rfl) (by decide) (by decide) (aF 0 21 (by decide) ?_ (aF 1 20 (by decide) ?_ (aF 2 19 (by decide) ?_ (aF 3 18 (by decide) ?_ (aF 4 17 (by decide) ?_ (aF 5 16 (by decide) ?_ (aF 6 15 (by decide) ?_ (aF 7 14 (by decide) ?_ (aF 8 13 (by decide) ?_ (aN 9 12 (by decide) ?_ (aF 10 11 (by decide) ?_ (aE 11 10 9 (by decide) (aE 12 9 9 (by decide) (aF 13 8 (by decide) ?_ (aF 14 7 (by decide) ?_ (aF 15 6 (by decide) ?_ (aF 16 5 (by decide) ?_ (aF 17 4 (by decide) ?_ (aF 18 3 (by decide) ?_ (aE 19 2 9 (by decide) (aE 20 1 9 (by decide) (aB 21 0 9 (by decide) (trivial))))))))))))))))))))))) [] (fun q hq => by cases hq) (fun hY => absurd (hY 9 (by decide)) (by decide))
    · refine fI 134 (.slice ad7 s15.length cp8) [(9, .slice ad7 s15.length cp8)] 0 [none] rfl rfl rfl rfl rfl rfl fun G a w S => ?_
      refine sMove (.slice ad7 s15.length cp8) S (wN rfl) (.inl rfl) rfl rfl (lb rfl) fun a S => ?_
      exact leafL ⟨rfl, S⟩
    · refine fI 135 (iv s16) [(10, iv s16)] 1 [none] rfl rfl rfl rfl rfl rfl fun G a w S => ?_
      refine sMove (iv s16) S (wN rfl) (.inl rfl) rfl rfl (lb rfl) fun a S => ?_
      exact leafL ⟨rfl, S⟩
    · refine fI 136 q131 [(134, .slice ad7 s15.length cp8), (135, iv s16)] 2 [some 0, some 1] rfl rfl rfl rfl rfl rfl fun G a w S => ?_
      refine sIdxV (v := .slice ad7 s15.length cp8) (k := .i64) (j := s16) S (wN rfl) rfl rfl rfl hq132 rfl (lb rfl) fun a S => ?_
      exact leafL ⟨rfl, S⟩
    · refine fI 137 (.slice ad30 s41.length cp31) [(136, q131)] 3 [some 2] rfl rfl rfl rfl rfl rfl fun G a w S => ?_
      refine sLoadHE (r := (rL (rI .i64))) (T := 101) (xs := s15) (u := .slice ad30 s41.length cp31) (v := .slice ad7 s15.length cp8) (vq := q131) (j := s16) 0 S hp133 (wN rfl) rfl rfl rfl rfl rfl (lb rfl) fun a S => ?_
      exact leafL ⟨rfl, S⟩
    · refine fI 138 (iv s40) [(11, iv s40)] 4 [none] rfl rfl rfl rfl rfl rfl fun G a w S => ?_
      refine sMove (iv s40) S (wN rfl) (.inl rfl) rfl rfl (lb rfl) fun a S => ?_
      exact leafL ⟨rfl, S⟩
    · refine fI 139 (.slice ad7 s15.length cp8) [(9, .slice ad7 s15.length cp8)] 5 [none] rfl rfl rfl rfl rfl rfl fun G a w S => ?_
      refine sMove (.slice ad7 s15.length cp8) S (wN rfl) (.inl rfl) rfl rfl (lb rfl) fun a S => ?_
      exact leafL ⟨rfl, S⟩
    · refine fI 140 (iv s16) [(10, iv s16)] 6 [none] rfl rfl rfl rfl rfl rfl fun G a w S => ?_
      refine sMove (iv s16) S (wN rfl) (.inl rfl) rfl rfl (lb rfl) fun a S => ?_
      exact leafL ⟨rfl, S⟩
    · refine fI 141 (iv (w64 (s16 + 1))) [(140, iv s16)] 7 [some 6] rfl rfl rfl rfl rfl rfl fun G a w S => ?_
      refine sBin (iv (w64 (s16 + 1))) S (wN rfl) rfl rfl rfl (bAdd _ _ _ _ s16 1) rfl (lb rfl) fun a S => ?_
      exact leafL ⟨rfl, S⟩
    · refine fI 142 q134 [(139, .slice ad7 s15.length cp8), (141, iv (w64 (s16 + 1)))] 8 [some 5, some 7] rfl rfl rfl rfl rfl rfl fun G a w S => ?_
      refine sIdxV (v := .slice ad7 s15.length cp8) (k := .i64) (j := w64 (s16 + 1)) S (wN rfl) rfl rfl rfl hq135 rfl (lb rfl) fun a S => ?_
      exact leafL ⟨rfl, S⟩
    · refine ⟨_, [(142, q134)], rfl, (srcs_of [some 8] rfl rfl rfl), fun G a w S => ?_⟩
      refine sLoadHo (r := (rL (rI .i64))) (T := 101) (xs := s15) (x := x104) (p := (s16).toNat * (rL (rI .i64)).sz + 0) (u := .slice ad30 s41.length cp31) (v := .slice ad7 s15.length cp8) (vq := q134) (j := w64 (s16 + 1)) 0 S hp136 (wN rfl) rfl rfl rfl hx105 (idx_next (by decide) (hole_lim 0 S.mem rfl) hx35 hx105) (scal_L _) rfl rfl (lb rfl) fun a u140 S => ?_
      obtain ⟨ad141, cp142, _, rfl, _⟩ := S.mem.know (i := 0) (e := fRep (rL (rI .i64)) (u140) x104) rfl
      obtain ⟨q143, hq144, S⟩ := pIdx (P := Try.prog) (r := (rI .i64)) (v := .slice ad141 x104.length cp142) (xs := x104) (j := s40) 101 3 0 S Try.underlying101 rfl rfl hx113
      obtain ⟨u145, S⟩ := pLoad (r := (rI .i64)) (q := q143) (x := x112) 0 S rfl
      obtain rfl : u145 = iv x112 := S.mem.know (i := 1) (e := fRep (rI .i64) (u145) x112) rfl
      obtain ⟨q146, hq147, hp148⟩ := pIdxR (P := Try.prog) (r := (rI .i64)) (T := 3) (v := .slice ad30 s41.length cp31) (xs := s41) (j := s40) 101 3 1 S Try.underlying101 rfl rfl hx125
      refine leafL ⟨rfl, _, _, .inl ⟨143, (.slice ad141 x104.length cp142), [(11, 145, q143), (12, 146, iv x112), (19, 153, iv (w64 (x112 + r122))), (20, 154, q146)], rfl, S, hz_of rfl, ?_⟩⟩
      refine node_by (A := anc_compare_table_api_Stitch__s0_1) (nf := [9, 21]) (Y := [9]) 22 (by kernel_rfl) (by kernel_rfl) (by kernel_rfl) (by kernel_rfl) (by kernel_rfl) [11, 12, 19, 20, 9, 0, 1, 2, 3, 4, 5, 6, 7, 8, 10, 13, 14, 15, 16, 17, 18] (by kernel_rfl) (by decide) (by decide) (aF 0 21 (by decide) ?_ (aF 1 20 (by decide) ?_ (aF 2 19 (by decide) ?_ (aF 3 18 (by decide) ?_ (aF 4 17 (by decide) ?_ (aD 5 16 9 (by decide) (aD 6 15 9 (by decide) (aD 7 14 9 (by decide) (aD 8 13 9 (by decide) (aY 9 12 (by decide) (aF 10 11 (by decide) ?_ (aF 11 10 (by decide) ?_ (aF 12 9 (by decide) ?_ (aF 13 8 (by decide) ?_ (aF 14 7 (by decide) ?_ (aF 15 6 (by decide) ?_ (aF 16 5 (by decide) ?_ (aF 17 4 (by decide) ?_ (aF 18 3 (by decide) ?_ (aF 19 2 (by decide) ?_ (aF 20 1 (by decide) ?_ (aN 21 0 (by decide) ?_ (trivial))))))))))))))))))))))) [] (fun q hq => by cases hq) (fun hY => absurd (hY 21 (by decide)) (by decide))
      · refine fI 134 (.slice ad7 s15.length cp8) [(9, .slice ad7 s15.length cp8)] 5 [none] rfl rfl rfl rfl rfl rfl fun G a w S => ?_
        refine sMove (.slice ad7 s15.length cp8) S (wN rfl) (.inl rfl) rfl rfl (lb rfl) fun a S => ?_
        exact leafL ⟨rfl, S⟩
      · refine fI 135 (iv s16) [(10, iv s16)] 6 [none] rfl rfl rfl rfl rfl rfl fun G a w S => ?_
        refine sMove (iv s16) S (wN rfl) (.inl rfl) rfl rfl (lb rfl) fun a S => ?_
        exact leafL ⟨rfl, S⟩
      · refine fI 136 q131 [(134, .slice ad7 s15.length cp8), (135, iv s16)] 7 [some 5, some 6] rfl rfl rfl rfl rfl rfl fun G a w S => ?_
        refine sIdxV (v := .slice ad7 s15.length cp8) (k := .i64) (j := s16) S (wN rfl) rfl rfl rfl hq132 rfl (lb rfl) fun a S => ?_
        exact leafL ⟨rfl, S⟩
      · refine fI 137 (.slice ad30 s41.length cp31) [(136, q131)] 8 [some 7] rfl rfl rfl rfl rfl rfl fun G a w S => ?_
        refine sLoadHE (r := (rL (rI .i64))) (T := 101) (xs := s15) (u := .slice ad30 s41.length cp31) (v := .slice ad7 s15.length cp8) (vq := q131) (j := s16) 0 S hp133 (wN rfl) rfl rfl rfl rfl rfl (lb rfl) fun a S => ?_
        exact leafL ⟨rfl, S⟩
      · refine fI 138 (iv s40) [(11, iv s40)] 9 [none] rfl rfl rfl rfl rfl rfl fun G a w S => ?_
        refine sMove (iv s40) S (wN rfl) (.inl rfl) rfl rfl (lb rfl) fun a S => ?_
        exact leafL ⟨rfl, S⟩
      · refine fI 144 (iv s40) [(11, iv s40)] 14 [none] rfl rfl rfl rfl rfl rfl fun G a w S => ?_
        refine sMove (iv s40) S (wN rfl) (.inl rfl) rfl rfl (lb rfl) fun a S => ?_
        exact leafL ⟨rfl, S⟩
      · refine fI 145 q143 [(143, .slice ad141 x104.length cp142), (144, iv s40)] 0 [some 4, some 14] rfl rfl rfl rfl rfl rfl fun G a w S => ?_
        refine sIdxV (v := .slice ad141 x104.length cp142) (k := .i64) (j := s40) S (wN rfl) rfl rfl rfl hq144 rfl (lb rfl) fun a S => ?_
        exact leafL ⟨rfl, S⟩
      · refine fI 146 (iv x112) [(145, q143)] 1 [some 0] rfl rfl rfl rfl rfl rfl fun G a w S => ?_
        refine sLoadV1 (vq := q143) 0 (iv x112) S (wN rfl) rfl rfl rfl rfl rfl (lb rfl) fun a S => ?_
        exact leafL ⟨rfl, S⟩
      · refine fI 147 (.func (.func 84) #[] #[]) [(2, .func (.func 84) #[] #[])] 15 [none] rfl rfl rfl rfl rfl rfl fun G a w S => ?_
        refine sMove (.func (.func 84) #[] #[]) S (wN rfl) (.inl rfl) rfl rfl (lb rfl) fun a S => ?_
        exact leafL ⟨rfl, S⟩
      · refine fI 148 (.slice ad1 p0.length cp2) [(0, .slice ad1 p0.length cp2)] 16 [none] rfl rfl rfl rfl rfl rfl fun G a w S => ?_
        refine sMove (.slice ad1 p0.length cp2) S (wN rfl) (.inl rfl) rfl rfl (lb rfl) fun a S => ?_
        exact leafL ⟨rfl, S⟩
      · refine fI 149 (iv s16) [(10, iv s16)] 17 [none] rfl rfl rfl rfl rfl rfl fun G a w S => ?_
        refine sMove (iv s16) S (wN rfl) (.inl rfl) rfl rfl (lb rfl) fun a S => ?_
        exact leafL ⟨rfl, S⟩
      · refine fI 150 q137 [(148, .slice ad1 p0.length cp2), (149, iv s16)] 18 [some 16, some 17] rfl rfl rfl rfl rfl rfl fun G a w S => ?_
        refine sIdxV (v := .slice ad1 p0.length cp2) (k := .i64) (j := s16) S (wN rfl) rfl rfl rfl hq138 rfl (lb rfl) fun a S => ?_
        exact leafL ⟨rfl, S⟩
      · refine fI 151 (.agg #[.int .u8 x117.Kind, .bool x117.Purl, iv x117.A, iv x117.B]) [(150, q137)] 19 [some 18] rfl rfl rfl rfl rfl rfl fun G a w S => ?_
        refine sLoadVN (vq := q137) 4 [.int .u8 x117.Kind, .bool x117.Purl, iv x117.A, iv x117.B] S (wN rfl) rfl rfl rfl rfl rfl rfl (lb rfl) fun a S => ?_
        exact leafL ⟨rfl, S⟩
      · refine fI 152 (iv r122) [(147, .func (.func 84) #[] #[]), (151, .agg #[.int .u8 x117.Kind, .bool x117.Purl, iv x117.A, iv x117.B])] 20 [some 15, some 19] rfl rfl rfl rfl rfl rfl fun G a w S => ?_
        have S1 := S.mem
        refine sCallVQ (X := Unit) (g := 84) (vs := [.agg #[.int .u8 x117.Kind, .bool x117.Purl, iv x117.A, iv x117.B]]) (caps := []) (val := fun _ => iv r122) S (wN rfl) rfl rfl callee84 rfl (S1.quiet [5] rfl) (fun E1 w1 S1 => c_compare_cellTable_1 E1 w1 x117 (.agg #[.int .u8 x117.Kind, .bool x117.Purl, iv x117.A, iv x117.B]) r122 hx123 S1) rfl (lb rfl) fun _ a w S => ?_
        exact leafL ⟨rfl, S⟩
      · refine fI 153 (iv (w64 (x112 + r122))) [(146, iv x112), (152, iv r122)] 2 [some 1, some 20] rfl rfl rfl rfl rfl rfl fun G a w S => ?_
        refine sBin (iv (w64 (x112 + r122))) S (wN rfl) rfl rfl rfl (bAdd _ _ _ _ x112 r122) rfl (lb rfl) fun a S => ?_
        exact leafL ⟨rfl, S⟩
      · refine fI 154 q146 [(137, .slice ad30 s41.length cp31), (138, iv s40)] 3 [some 8, some 9] rfl rfl rfl rfl rfl rfl fun G a w S => ?_
        refine sIdxV (v := .slice ad30 s41.length cp31) (k := .i64) (j := s40) S (wN rfl) rfl rfl rfl hq147 rfl (lb rfl) fun a S => ?_
        exact leafL ⟨rfl, S⟩
      refine ⟨_, [(153, iv (w64 (x112 + r122))), (154, q146)], rfl, (srcs_of [some 2, some 3] rfl rfl rfl), fun G a w S => ?_⟩
      refine sStoreR (r := (rI .i64)) (T := 3) (xs := s41) (ys := l129) (y := (w64 (x112 + r122))) (v := .slice ad30 s41.length cp31) (vq := q146) (u := iv (w64 (x112 + r122))) (j := s40) 1 S hp148 (wN rfl) rfl rfl rfl rfl rfl hx130 rfl rfl fun a w S => ?_
      refine leafL ⟨rfl, _, _, .inr ⟨[], rfl, S, hz_of rfl, ?_⟩⟩
      refine node_by (A := anc_compare_table_api_Stitch__s0_1) (nf := [9, 21]) (Y := [21, 9]) 22 (by kernel_rfl) (by kernel_rfl) (by kernel_rfl) (by kernel_rfl) (by kernel_rfl) [11, 12, 19, 20, 9, 0, 1, 2, 3, 4, 5, 6, 7, 8, 10, 13, 14, 15, 16, 17, 18] (by kernel_rfl) (by decide) (by decide) (aD 0 21 21 (by decide) (aD 1 20 21 (by decide) (aD 2 19 21 (by decide) (aD 3 18 21 (by decide) (aD 4 17 21 (by decide) (aD 5 16 21 (by decide) (aD 6 15 21 (by decide) (aD 7 14 21 (by decide) (aD 8 13 21 (by decide) (aY 9 12 (by decide) (aD 10 11 21 (by decide) (aD 11 10 21 (by decide) (aD 12 9 21 (by decide) (aD 13 8 21 (by decide) (aD 14 7 21 (by decide) (aD 15 6 21 (by decide) (aD 16 5 21 (by decide) (aD 17 4 21 (by decide) (aD 18 3 21 (by decide) (aD 19 2 21 (by decide) (aD 20 1 21 (by decide) (aY 21 0 (by decide) (trivial))))))))))))))))))))))) [(0, .slice ad1 p0.length cp2), (1, .slice ad3 p1.length cp4), (2, .func (.func 84) #[] #[]), (3, .func (.func 85) #[] #[]), (9, .slice ad7 s15.length cp8), (10, iv s16), (11, iv s40)] (fin_of [none, none, none, none, none, none, none] rfl (by kernel_rfl) (by kernel_rfl)) (fun _ a w S => ?_)
      rw [setO_v hx130 ad30 cp31] at S
      exact leafB (leafB (leafT (⟨l129, Option.some.inj h, S.fix [1, 0] [7, 8] (by decide) rfl rfl rfl⟩)))
    · refine fI 144 (iv s40) [(11, iv s40)] 9 [none] rfl rfl rfl rfl rfl rfl fun G a w S => ?_
      refine sMove (iv s40) S (wN rfl) (.inl rfl) rfl rfl (lb rfl) fun a S => ?_
      exact leafL ⟨rfl, S⟩
    · refine fI 147 (.func (.func 84) #[] #[]) [(2, .func (.func 84) #[] #[])] 10 [none] rfl rfl rfl rfl rfl rfl fun G a w S => ?_
      refine sMove (.func (.func 84) #[] #[]) S (wN rfl) (.inl rfl) rfl rfl (lb rfl) fun a S => ?_
      exact leafL ⟨rfl, S⟩
    · refine fI 148 (.slice ad1 p0.length cp2) [(0, .slice ad1 p0.length cp2)] 11 [none] rfl rfl rfl rfl rfl rfl fun G a w S => ?_
      refine sMove (.slice ad1 p0.length cp2) S (wN rfl) (.inl rfl) rfl rfl (lb rfl) fun a S => ?_
      exact leafL ⟨rfl, S⟩
    · refine fI 149 (iv s16) [(10, iv s16)] 12 [none] rfl rfl rfl rfl rfl rfl fun G a w S => ?_
      refine sMove (iv s16) S (wN rfl) (.inl rfl) rfl rfl (lb rfl) fun a S => ?_
      exact leafL ⟨rfl, S⟩
    · refine fI 150 q137 [(148, .slice ad1 p0.length cp2), (149, iv s16)] 13 [some 11, some 12] rfl rfl rfl rfl rfl rfl fun G a w S => ?_
      refine sIdxV (v := .slice ad1 p0.length cp2) (k := .i64) (j := s16) S (wN rfl) rfl rfl rfl hq138 rfl (lb rfl) fun a S => ?_
      exact leafL ⟨rfl, S⟩
    · refine fI 151 (.agg #[.int .u8 x117.Kind, .bool x117.Purl, iv x117.A, iv x117.B]) [(150, q137)] 14 [some 13] rfl rfl rfl rfl rfl rfl fun G a w S => ?_
      refine sLoadVN (vq := q137) 0 [.int .u8 x117.Kind, .bool x117.Purl, iv x117.A, iv x117.B] S (wN rfl) rfl rfl rfl rfl rfl rfl (lb rfl) fun a S => ?_
      exact leafL ⟨rfl, S⟩
    refine fI 152 (iv r122) [(147, .func (.func 84) #[] #[]), (151, .agg #[.int .u8 x117.Kind, .bool x117.Purl, iv x117.A, iv x117.B])] 15 [some 10, some 14] rfl rfl rfl rfl rfl rfl fun G a w S => ?_
    have S1 := S.mem
    refine sCallVQ (X := Unit) (g := 84) (vs := [.agg #[.int .u8 x117.Kind, .bool x117.Purl, iv x117.A, iv x117.B]]) (caps := []) (val := fun _ => iv r122) S (wN rfl) rfl rfl callee84 rfl (S1.quiet [1] rfl) (fun E1 w1 S1 => c_compare_cellTable_1 E1 w1 x117 (.agg #[.int .u8 x117.Kind, .bool x117.Purl, iv x117.A, iv x117.B]) r122 hx123 S1) rfl (lb rfl) fun _ a w S => ?_
    exact leafL ⟨rfl, S⟩
  refine sCondF S rfl hc100 ?_
  obtain ⟨x152, hx153, h⟩ := bindSome h
  obtain ⟨x160, hx161, h⟩ := bindSome h
  obtain ⟨x165, hx166, h⟩ := bindSome h
  obtain ⟨r170, hx171, h⟩ := bindSome h
  obtain ⟨x175, hx176, h⟩ := bindSome h
  obtain ⟨x180, hx181, h⟩ := bindSome h
  obtain ⟨r185, hx186, h⟩ := bindSome h
  obtain ⟨x193, hx194, h⟩ := bindSome h
  obtain ⟨r204, hx205, h⟩ := bindSome h
  obtain ⟨x206, hx207, h⟩ := bindSome h
  obtain ⟨l211, hx212, h⟩ := bindSome h
  obtain ⟨q213, hq214, hp215⟩ := pIdxH (P := Try.prog) (r := (rL (rI .i64))) (T := 101) (v := .slice ad7 s15.length cp8) (xs := s15) (j := s16) 98 101 0 S Try.underlying98 rfl rfl hx35
  obtain ⟨q216, hq217, hp218⟩ := pIdxH (P := Try.prog) (r := (rL (rI .i64))) (T := 101) (v := .slice ad7 s15.length cp8) (xs := s15) (j := w64 (s16 + 1)) 98 101 0 S Try.underlying98 rfl rfl hx153
  obtain ⟨q219, hq220, S⟩ := pIdx (P := Try.prog) (r := r_api_Stitch) (v := .slice ad1 p0.length cp2) (xs := p0) (j := s16) 47 81 0 S Try.underlying47 rfl rfl hx166
  obtain ⟨u221, S⟩ := pLoad (r := r_api_Stitch) (q := q219) (x := x165) 0 S rfl
  obtain rfl : u221 = .agg #[.int .u8 x165.Kind, .bool x165.Purl, iv x165.A, iv x165.B] := S.mem.know (i := 1) (e := fRep r_api_Stitch (u221) x165) rfl
  obtain ⟨q222, hq223, hp224⟩ := pIdxH (P := Try.prog) (r := (rL (rI .i64))) (T := 101) (v := .slice ad7 s15.length cp8) (xs := s15) (j := s16) 98 101 0 S Try.underlying98 rfl rfl hx35
  obtain ⟨q225, hq226, hp227⟩ := pIdxR (P := Try.prog) (r := (rI .i64)) (T := 3) (v := .slice ad30 s41.length cp31) (xs := s41) (j := w64 (s40 + 1)) 101 3 1 S Try.underlying101 rfl rfl hx176
  obtain ⟨q228, hq229, S⟩ := pIdx (P := Try.prog) (r := r_api_Stitch) (v := .slice ad3 p1.length cp4) (xs := p1) (j := s40) 47 81 4 S Try.underlying47 rfl rfl hx181
  obtain ⟨u230, S⟩ := pLoad (r := r_api_Stitch) (q := q228) (x := x180) 0 S rfl
  obtain rfl : u230 = .agg #[.int .u8 x180.Kind, .bool x180.Purl, iv x180.A, iv x180.B] := S.mem.know (i := 1) (e := fRep r_api_Stitch (u230) x180) rfl
  obtain ⟨q231, hq232, hp233⟩ := pIdxH (P := Try.prog) (r := (rL (rI .i64))) (T := 101) (v := .slice ad7 s15.length cp8) (xs := s15) (j := w64 (s16 + 1)) 98 101 0 S Try.underlying98 rfl rfl hx153
  obtain ⟨q234, hq235, S⟩ := pIdx (P := Try.prog) (r := r_api_Stitch) (v := .slice ad1 p0.length cp2) (xs := p0) (j := s16) 47 81 6 S Try.underlying47 rfl rfl hx166
  obtain ⟨u236, S⟩ := pLoad (r := r_api_Stitch) (q := q234) (x := x165) 0 S rfl
  obtain rfl : u236 = .agg #[.int .u8 x165.Kind, .bool x165.Purl, iv x165.A, iv x165.B] := S.mem.know (i := 1) (e := fRep r_api_Stitch (u236) x165) rfl
  obtain ⟨q237, hq238, S⟩ := pIdx (P := Try.prog) (r := r_api_Stitch) (v := .slice ad3 p1.length cp4) (xs := p1) (j := s40) 47 81 10 S Try.underlying47 rfl rfl hx181
  obtain ⟨u239, S⟩ := pLoad (r := r_api_Stitch) (q := q237) (x := x180) 0 S rfl
  obtain rfl : u239 = .agg #[.int .u8 x180.Kind, .bool x180.Purl, iv x180.A, iv x180.B] := S.mem.know (i := 1) (e := fRep r_api_Stitch (u239) x180) rfl
  refine sDraw (nf := [9, 39, 57]) (W := [(0, 35, .slice ad7 s15.length cp8), (1, 36, iv s16), (2, 37, q213), (3, 38, .slice ad30 s41.length cp31), (4, 39, iv s40), (5, 40, .slice ad7 s15.length cp8), (6, 41, iv s16), (7, 42, iv (w64 (s16 + 1))), (8, 43, q216), (10, 45, iv s40), (13, 48, .func (.func 84) #[] #[]), (14, 49, .slice ad1 p0.length cp2), (15, 50, iv s16), (16, 51, q219), (17, 52, .agg #[.int .u8 x165.Kind, .bool x165.Purl, iv x165.A, iv x165.B]), (18, 53, iv r170), (20, 55, .slice ad7 s15.length cp8), (21, 56, iv s16), (22, 57, q222), (23, 58, .slice ad30 s41.length cp31), (24, 59, iv s40), (25, 60, iv (w64 (s40 + 1))), (26, 61, q225), (27, 62, iv x175), (28, 63, .func (.func 84) #[] #[]), (29, 64, .slice ad3 p1.length cp4), (30, 65, iv s40), (31, 66, q228), (32, 67, .agg #[.int .u8 x180.Kind, .bool x180.Purl, iv x180.A, iv x180.B]), (33, 68, iv r185), (34, 69, iv (w64 (x175 + r185))), (35, 70, .slice ad7 s15.length cp8), (36, 71, iv s16), (37, 72, iv (w64 (s16 + 1))), (38, 73, q231), (40, 75, iv s40), (41, 76, iv (w64 (s40 + 1))), (44, 79, .func (.func 85) #[] #[]), (45, 80, .slice ad1 p0.length cp2), (46, 81, iv s16), (47, 82, q234), (48, 83, .agg #[.int .u8 x165.Kind, .bool x165.Purl, iv x165.A, iv x165.B]), (49, 84, .slice ad3 p1.length cp4), (50, 85, iv s40), (51, 86, q237), (52, 87, .agg #[.int .u8 x180.Kind, .bool x180.Purl, iv x180.A, iv x180.B]), (53, 88, iv r204)]) rfl S ?_
  refine node_by (A := anc_compare_table_api_Stitch__s0_2) (nf := [9, 39, 57]) (Y := []) (W := [(0, 35, .slice ad7 s15.length cp8), (1, 36, iv s16), (2, 37, q213), (3, 38, .slice ad30 s41.length cp31), (4, 39, iv s40), (5, 40, .slice ad7 s15.length cp8), (6, 41, iv s16), (7, 42, iv (w64 (s16 + 1))), (8, 43, q216), (10, 45, iv s40), (13, 48, .func (.func 84) #[] #[]), (14, 49, .slice ad1 p0.length cp2), (15, 50, iv s16), (16, 51, q219), (17, 52, .agg #[.int .u8 x165.Kind, .bool x165.Purl, iv x165.A, iv x165.B]), (18, 53, iv r170), (20, 55, .slice ad7 s15.length cp8), (21, 56, iv s16), (22, 57, q222), (23, 58, .slice ad30 s41.length cp31), (24, 59, iv s40), (25, 60, iv (w64 (s40 + 1))), (26, 61, q225), (27, 62, iv x175), (28, 63, .func (.func 84) #[] #[]), (29, 64, .slice ad3 p1.length cp4), (30, 65, iv s40), (31, 66, q228), (32, 67, .agg #[.int .u8 x180.Kind, .bool x180.Purl, iv x180.A, iv x180.B]), (33, 68, iv r185), (34, 69, iv (w64 (x175 + r185))), (35, 70, .slice ad7 s15.length cp8), (36, 71, iv s16), (37, 72, iv (w64 (s16 + 1))), (38, 73, q231), (40, 75, iv s40), (41, 76, iv (w64 (s40 + 1))), (44, 79, .func (.func 85) #[] #[]), (45, 80, .slice ad1 p0.length cp2), (46, 81, iv s16), (47, 82, q234), (48, 83, .agg #[.int .u8 x165.Kind, .bool x165.Purl, iv x165.A, iv x165.B]), (49, 84, .slice ad3 p1.length cp4), (50, 85, iv s40), (51, 86, q237), (52, 87, .agg #[.int .u8 x180.Kind, .bool x180.Purl, iv x180.A, iv x180.B]), (53, 88, iv r204)]) 58 (by kernel_rfl) (by kernel_rfl) (by kernel_rfl) (by kernel_rfl) (by kernel_rfl) [0, 1, 2, 3, 4, 5, 6, 7, 8, 10, 13, 14, 15, 16, 17, 18, 20, 21, 22, 23, 24, 25, 26, 27, 28, 29, 30, 31, 32, 33, 34, 35, 36, 37, 38, 40, 41, 44, 45, 46, 47, 48, 49, 50, 51, 52, 53] (by kernel_rfl) (by decide) (by decide) (aF 0 57 (by decide) ?_ (aF 1 56 (by decide) ?_ (aF 2 55 (by decide) ?_ (aF 3 54 (by decide) ?_ (aF 4 53 (by decide) ?_ (aF 5 52 (by decide) ?_ (aF 6 51 (by decide) ?_ (aF 7 50 (by decide) ?_ (aF 8 49 (by decide) ?_ (aN 9 48 (by decide) ?_ (aF 10 47 (by decide) ?_ (aE 11 46 9 (by decide) (aE 12 45 9 (by decide) (aF 13 44 (by decide) ?_ (aF 14 43 (by decide) ?_ (aF 15 42 (by decide) ?_ (aF 16 41 (by decide) ?_ (aF 17 40 (by decide) ?_ (aF 18 39 (by decide) ?_ (aE 19 38 9 (by decide) (aF 20 37 (by decide) ?_ (aF 21 36 (by decide) ?_ (aF 22 35 (by decide) ?_ (aF 23 34 (by decide) ?_ (aF 24 33 (by decide) ?_ (aF 25 32 (by decide) ?_ (aF 26 31 (by decide) ?_ (aF 27 30 (by decide) ?_ (aF 28 29 (by decide) ?_ (aF 29 28 (by decide) ?_ (aF 30 27 (by decide) ?_ (aF 31 26 (by decide) ?_ (aF 32 25 (by decide) ?_ (aF 33 24 (by decide) ?_ (aF 34 23 (by decide) ?_ (aF 35 22 (by decide) ?_ (aF 36 21 (by decide) ?_ (aF 37 20 (by decide) ?_ (aF 38 19 (by decide) ?_ (aN 39 18 (by decide) ?_ (aF 40 17 (by decide) ?_ (aF 41 16 (by decide) ?_ (aE 42 15 39 (by decide) (aE 43 14 39 (by decide) (aF 44 13 (by decide) ?_ (aF 45 12 (by decide) ?_ (aF 46 11 (by decide) ?_ (aF 47 10 (by decide) ?_ (aF 48 9 (by decide) ?_ (aF 49 8 (by decide) ?_ (aF 50 7 (by decide) ?_ (aF 51 6 (by decide) ?_ (aF 52 5 (by decide) ?_ (aF 53 4 (by decide) ?_ (aE 54 3 39 (by decide) (aE 55 2 9 (by decide) (aE 56 1 9 (by decide) (aB 57 0 9 (by decide) (trivial))))))))))))))))))))))))))))))))))))))))))))))))))))))))))) [] (fun q hq => by cases hq) (fun hY => absurd (hY 9 (by decide)) (by decide))
  · refine fI 35 (.slice ad7 s15.length cp8) [(9, .slice ad7 s15.length cp8)] 0 [none] rfl rfl rfl rfl rfl rfl fun G a w S => ?_
    refine sMove (.slice ad7 s15.length cp8) S (wN rfl) (.inl rfl) rfl rfl (lb rfl) fun a S => ?_
    exact leafL ⟨rfl, S⟩
  · refine fI 36 (iv s16) [(10, iv s16)] 1 [none] rfl rfl rfl rfl rfl rfl fun G a w S => ?_
    refine sMove (iv s16) S (wN rfl) (.inl rfl) rfl rfl (lb rfl) fun a S => ?_
    exact leafL ⟨rfl, S⟩
  · refine fI 37 q213 [(35, .slice ad7 s15.length cp8), (36, iv s16)] 2 [some 0, some 1] rfl rfl rfl rfl rfl rfl fun G a w S => ?_
    refine sIdxV (v := .slice ad7 s15.length cp8) (k := .i64) (j := s16) S (wN rfl) rfl rfl rfl hq214 rfl (lb rfl) fun a S => ?_
    exact leafL ⟨rfl, S⟩
  · refine fI 38 (.slice ad30 s41.length cp31) [(37, q213)] 3 [some 2] rfl rfl rfl rfl rfl rfl fun G a w S => ?_
    refine sLoadHE (r := (rL (rI .i64))) (T := 101) (xs := s15) (u := .slice ad30 s41.length cp31) (v := .slice ad7 s15.length cp8) (vq := q213) (j := s16) 0 S hp215 (wN rfl) rfl rfl rfl rfl rfl (lb rfl) fun a S => ?_
    exact leafL ⟨rfl, S⟩
  · refine fI 39 (iv s40) [(11, iv s40)] 4 [none] rfl rfl rfl rfl rfl rfl fun G a w S => ?_
    refine sMove (iv s40) S (wN rfl) (.inl rfl) rfl rfl (lb rfl) fun a S => ?_
    exact leafL ⟨rfl, S⟩
  · refine fI 40 (.slice ad7 s15.length cp8) [(9, .slice ad7 s15.length cp8)] 5 [none] rfl rfl rfl rfl rfl rfl fun G a w S => ?_
    refine sMove (.slice ad7 s15.length cp8) S (wN rfl) (.inl rfl) rfl rfl (lb rfl) fun a S => ?_
    exact leafL ⟨rfl, S⟩
  · refine fI 41 (iv s16) [(10, iv s16)] 6 [none] rfl rfl rfl rfl rfl rfl fun G a w S => ?_
    refine sMove (iv s16) S (wN rfl) (.inl rfl) rfl rfl (lb rfl) fun a S => ?_
    exact leafL ⟨rfl, S⟩
  · refine fI 42 (iv (w64 (s16 + 1))) [(41, iv s16)] 7 [some 6] rfl rfl rfl rfl rfl rfl fun G a w S => ?_
    refine sBin (iv (w64 (s16 + 1))) S (wN rfl) rfl rfl rfl (bAdd _ _ _ _ s16 1) rfl (lb rfl) fun a S => ?_
    exact leafL ⟨rfl, S⟩
  · refine fI 43 q216 [(40, .slice ad7 s15.length cp8), (42, iv (w64 (s16 + 1)))] 8 [some 5, some 7] rfl rfl rfl rfl rfl rfl fun G a w S => ?_
    refine sIdxV (v := .slice ad7 s15.length cp8) (k := .i64) (j := w64 (s16 + 1)) S (wN rfl) rfl rfl rfl hq217 rfl (lb rfl) fun a S => ?_
    exact leafL ⟨rfl, S⟩
  · refine ⟨_, [(43, q216)], rfl, (srcs_of [some 8] rfl rfl rfl), fun G a w S => ?_⟩
    refine sLoadHo (r := (rL (rI .i64))) (T := 101) (xs := s15) (x := x152) (p := (s16).toNat * (rL (rI .i64)).sz + 0) (u := .slice ad30 s41.length cp31) (v := .slice ad7 s15.length cp8) (vq := q216) (j := w64 (s16 + 1)) 0 S hp218 (wN rfl) rfl rfl rfl hx153 (idx_next (by decide) (hole_lim 0 S.mem rfl) hx35 hx153) (scal_L _) rfl rfl (lb rfl) fun a u240 S => ?_
    obtain ⟨ad241, cp242, _, rfl, _⟩ := S.mem.know (i := 0) (e := fRep (rL (rI .i64)) (u240) x152) rfl
    obtain ⟨q243, hq244, S⟩ := pIdx (P := Try.prog) (r := (rI .i64)) (v := .slice ad241 x152.length cp242) (xs := x152) (j := s40) 101 3 0 S Try.underlying101 rfl rfl hx161
    obtain ⟨u245, S⟩ := pLoad (r := (rI .i64)) (q := q243) (x := x160) 0 S rfl
    obtain rfl : u245 = iv x160 := S.mem.know (i := 1) (e := fRep (rI .i64) (u245) x160) rfl
    refine leafL ⟨rfl, _, _, .inl ⟨44, (.slice ad241 x152.length cp242), [(11, 46, q243), (12, 47, iv x160), (19, 54, iv (w64 (x160 + r170)))], rfl, S, hz_of rfl, ?_⟩⟩
    refine node_by (A := anc_compare_table_api_Stitch__s0_2) (nf := [9, 39, 57]) (Y := [9]) 58 (by kernel_rfl) (by kernel_rfl) (by kernel_rfl) (by kernel_rfl) (by kernel_rfl) [11, 12, 19, 9, 0, 1, 2, 3, 4, 5, 6, 7, 8, 10, 13, 14, 15, 16, 17, 18, 20, 21, 22, 23, 24, 25, 26, 27, 28, 29, 30, 31, 32, 33, 34, 35, 36, 37, 38, 40, 41, 44, 45, 46, 47, 48, 49, 50, 51, 52, 53] (by kernel_rfl) (by decide) (by decide) (aF 0 57 (by decide) ?_ (aF 1 56 (by decide) ?_ (aF 2 55 (by decide) ?_ (aF 3 54 (by decide) ?_ (aF 4 53 (by decide) ?_ (aD 5 52 9 (by decide) (aD 6 51 9 (by decide) (aD 7 50 9 (by decide) (aD 8 49 9 (by decide) (aY 9 48 (by decide) (aF 10 47 (by decide) ?_ (aF 11 46 (by decide) ?_ (aF 12 45 (by decide) ?_ (aF 13 44 (by decide) ?_ (aF 14 43 (by decide) ?_ (aF 15 42 (by decide) ?_ (aF 16 41 (by decide) ?_ (aF 17 40 (by decide) ?_ (aF 18 39 (by decide) ?_ (aF 19 38 (by decide) ?_ (aF 20 37 (by decide) ?_ (aF 21 36 (by decide) ?_ (aF 22 35 (by decide) ?_ (aF 23 34 (by decide) ?_ (aF 24 33 (by decide) ?_ (aF 25 32 (by decide) ?_ (aF 26 31 (by decide) ?_ (aF 27 30 (by decide) ?_ (aF 28 29 (by decide) ?_ (aF 29 28 (by decide) ?_ (aF 30 27 (by decide) ?_ (aF 31 26 (by decide) ?_ (aF 32 25 (by decide) ?_ (aF 33 24 (by decide) ?_ (aF 34 23 (by decide) ?_ (aF 35 22 (by decide) ?_ (aF 36 21 (by decide) ?_ (aF 37 20 (by decide) ?_ (aF 38 19 (by decide) ?_ (aN 39 18 (by decide) ?_ (aF 40 17 (by decide) ?_ (aF 41 16 (by decide) ?_ (aE 42 15 39 (by decide) (aE 43 14 39 (by decide) (aF 44 13 (by decide) ?_ (aF 45 12 (by decide) ?_ (aF 46 11 (by decide) ?_ (aF 47 10 (by decide) ?_ (aF 48 9 (by decide) ?_ (aF 49 8 (by decide) ?_ (aF 50 7 (by decide) ?_ (aF 51 6 (by decide) ?_ (aF 52 5 (by decide) ?_ (aF 53 4 (by decide) ?_ (aE 54 3 39 (by decide) (aE 55 2 39 (by decide) (aE 56 1 39 (by decide) (aB 57 0 39 (by decide) (trivial))))))))))))))))))))))))))))))))))))))))))))))))))))))))))) [] (fun q hq => by cases hq) (fun hY => absurd (hY 39 (by decide)) (by decide))
    · refine fI 35 (.slice ad7 s15.length cp8) [(9, .slice ad7 s15.length cp8)] 4 [none] rfl rfl rfl rfl rfl rfl fun G a w S => ?_
      refine sMove (.slice ad7 s15.length cp8) S (wN rfl) (.inl rfl) rfl rfl (lb rfl) fun a S => ?_
      exact leafL ⟨rfl, S⟩
    · refine fI 36 (iv s16) [(10, iv s16)] 5 [none] rfl rfl rfl rfl rfl rfl fun G a w S => ?_
      refine sMove (iv s16) S (wN rfl) (.inl rfl) rfl rfl (lb rfl) fun a S => ?_
      exact leafL ⟨rfl, S⟩
    · refine fI 37 q213 [(35, .slice ad7 s15.length cp8), (36, iv s16)] 6 [some 4, some 5] rfl rfl rfl rfl rfl rfl fun G a w S => ?_
      refine sIdxV (v := .slice ad7 s15.length cp8) (k := .i64) (j := s16) S (wN rfl) rfl rfl rfl hq214 rfl (lb rfl) fun a S => ?_
      exact leafL ⟨rfl, S⟩
    · refine fI 38 (.slice ad30 s41.length cp31) [(37, q213)] 7 [some 6] rfl rfl rfl rfl rfl rfl fun G a w S => ?_
      refine sLoadHE (r := (rL (rI .i64))) (T := 101) (xs := s15) (u := .slice ad30 s41.length cp31) (v := .slice ad7 s15.length cp8) (vq := q213) (j := s16) 0 S hp215 (wN rfl) rfl rfl rfl rfl rfl (lb rfl) fun a S => ?_
      exact leafL ⟨rfl, S⟩
    · refine fI 39 (iv s40) [(11, iv s40)] 8 [none] rfl rfl rfl rfl rfl rfl fun G a w S => ?_
      refine sMove (iv s40) S (wN rfl) (.inl rfl) rfl rfl (lb rfl) fun a S => ?_
      exact leafL ⟨rfl, S⟩
    · refine fI 45 (iv s40) [(11, iv s40)] 13 [none] rfl rfl rfl rfl rfl rfl fun G a w S => ?_
      refine sMove (iv s40) S (wN rfl) (.inl rfl) rfl rfl (lb rfl) fun a S => ?_
      exact leafL ⟨rfl, S⟩
    · refine fI 46 q243 [(44, .slice ad241 x152.length cp242), (45, iv s40)] 0 [some 3, some 13] rfl rfl rfl rfl rfl rfl fun G a w S => ?_
      refine sIdxV (v := .slice ad241 x152.length cp242) (k := .i64) (j := s40) S (wN rfl) rfl rfl rfl hq244 rfl (lb rfl) fun a S => ?_
      exact leafL ⟨rfl, S⟩
    · refine fI 47 (iv x160) [(46, q243)] 1 [some 0] rfl rfl rfl rfl rfl rfl fun G a w S => ?_
      refine sLoadV1 (vq := q243) 0 (iv x160) S (wN rfl) rfl rfl rfl rfl rfl (lb rfl) fun a S => ?_
      exact leafL ⟨rfl, S⟩
    · refine fI 48 (.func (.func 84) #[] #[]) [(2, .func (.func 84) #[] #[])] 14 [none] rfl rfl rfl rfl rfl rfl fun G a w S => ?_
      refine sMove (.func (.func 84) #[] #[]) S (wN rfl) (.inl rfl) rfl rfl (lb rfl) fun a S => ?_
      exact leafL ⟨rfl, S⟩
    · refine fI 49 (.slice ad1 p0.length cp2) [(0, .slice ad1 p0.length cp2)] 15 [none] rfl rfl rfl rfl rfl rfl fun G a w S => ?_
      refine sMove (.slice ad1 p0.length cp2) S (wN rfl) (.inl rfl) rfl rfl (lb rfl) fun a S => ?_
      exact leafL ⟨rfl, S⟩
    · refine fI 50 (iv s16) [(10, iv s16)] 16 [none] rfl rfl rfl rfl rfl rfl fun G a w S => ?_
      refine sMove (iv s16) S (wN rfl) (.inl rfl) rfl rfl (lb rfl) fun a S => ?_
      exact leafL ⟨rfl, S⟩
    · refine fI 51 q219 [(49, .slice ad1 p0.length cp2), (50, iv s16)] 17 [some 15, some 16] rfl rfl rfl rfl rfl rfl fun G a w S => ?_
      refine sIdxV (v := .slice ad1 p0.length cp2) (k := .i64) (j := s16) S (wN rfl) rfl rfl rfl hq220 rfl (lb rfl) fun a S => ?_
      exact leafL ⟨rfl, S⟩
    · refine fI 52 (.agg #[.int .u8 x165.Kind, .bool x165.Purl, iv x165.A, iv x165.B]) [(51, q219)] 18 [some 17] rfl rfl rfl rfl rfl rfl fun G a w S => ?_
      refine sLoadVN (vq := q219) 13 [.int .u8 x165.Kind, .bool x165.Purl, iv x165.A, iv x165.B] S (wN rfl) rfl rfl rfl rfl rfl rfl (lb rfl) fun a S => ?_
      exact leafL ⟨rfl, S⟩
    · refine fI 53 (iv r170) [(48, .func (.func 84) #[] #[]), (52, .agg #[.int .u8 x165.Kind, .bool x165.Purl, iv x165.A, iv x165.B])] 19 [some 14, some 18] rfl rfl rfl rfl rfl rfl fun G a w S => ?_
      have S1 := S.mem
      refine sCallVQ (X := Unit) (g := 84) (vs := [.agg #[.int .u8 x165.Kind, .bool x165.Purl, iv x165.A, iv x165.B]]) (caps := []) (val := fun _ => iv r170) S (wN rfl) rfl rfl callee84 rfl (S1.quiet [8] rfl) (fun E1 w1 S1 => c_compare_cellTable_1 E1 w1 x165 (.agg #[.int .u8 x165.Kind, .bool x165.Purl, iv x165.A, iv x165.B]) r170 hx171 S1) rfl (lb rfl) fun _ a w S => ?_
      exact leafL ⟨rfl, S⟩
    · refine fI 54 (iv (w64 (x160 + r170))) [(47, iv x160), (53, iv r170)] 2 [some 1, some 19] rfl rfl rfl rfl rfl rfl fun G a w S => ?_
      refine sBin (iv (w64 (x160 + r170))) S (wN rfl) rfl rfl rfl (bAdd _ _ _ _ x160 r170) rfl (lb rfl) fun a S => ?_
      exact leafL ⟨rfl, S⟩
    · refine fI 55 (.slice ad7 s15.length cp8) [(9, .slice ad7 s15.length cp8)] 20 [none] rfl rfl rfl rfl rfl rfl fun G a w S => ?_
      refine sMove (.slice ad7 s15.length cp8) S (wN rfl) (.inl rfl) rfl rfl (lb rfl) fun a S => ?_
      exact leafL ⟨rfl, S⟩
    · refine fI 56 (iv s16) [(10, iv s16)] 21 [none] rfl rfl rfl rfl rfl rfl fun G a w S => ?_
      refine sMove (iv s16) S (wN rfl) (.inl rfl) rfl rfl (lb rfl) fun a S => ?_
      exact leafL ⟨rfl, S⟩
    · refine fI 57 q222 [(55, .slice ad7 s15.length cp8), (56, iv s16)] 22 [some 20, some 21] rfl rfl rfl rfl rfl rfl fun G a w S => ?_
      refine sIdxV (v := .slice ad7 s15.length cp8) (k := .i64) (j := s16) S (wN rfl) rfl rfl rfl hq223 rfl (lb rfl) fun a S => ?_
      exact leafL ⟨rfl, S⟩
    · refine fI 58 (.slice ad30 s41.length cp31) [(57, q222)] 23 [some 22] rfl rfl rfl rfl rfl rfl fun G a w S => ?_
      refine sLoadHE (r := (rL (rI .i64))) (T := 101) (xs := s15) (u := .slice ad30 s41.length cp31) (v := .slice ad7 s15.length cp8) (vq := q222) (j := s16) 0 S hp224 (wN rfl) rfl rfl rfl rfl rfl (lb rfl) fun a S => ?_
      exact leafL ⟨rfl, S⟩
    · refine fI 59 (iv s40) [(11, iv s40)] 24 [none] rfl rfl rfl rfl rfl rfl fun G a w S => ?_
      refine sMove (iv s40) S (wN rfl) (.inl rfl) rfl rfl (lb rfl) fun a S => ?_
      exact leafL ⟨rfl, S⟩
    · refine fI 60 (iv (w64 (s40 + 1))) [(59, iv s40)] 25 [some 24] rfl rfl rfl rfl rfl rfl fun G a w S => ?_
      refine sBin (iv (w64 (s40 + 1))) S (wN rfl) rfl rfl rfl (bAdd _ _ _ _ s40 1) rfl (lb rfl) fun a S => ?_
      exact leafL ⟨rfl, S⟩
    · refine fI 61 q225 [(58, .slice ad30 s41.length cp31), (60, iv (w64 (s40 + 1)))] 26 [some 23, some 25] rfl rfl rfl rfl rfl rfl fun G a w S => ?_
      refine sIdxV (v := .slice ad30 s41.length cp31) (k := .i64) (j := w64 (s40 + 1)) S (wN rfl) rfl rfl rfl hq226 rfl (lb rfl) fun a S => ?_
      exact leafL ⟨rfl, S⟩
    · refine fI 62 (iv x175) [(61, q225)] 27 [some 26] rfl rfl rfl rfl rfl rfl fun G a w S => ?_
      refine sLoadR (r := (rI .i64)) (T := 3) (xs := s41) (x := x175) (v := .slice ad30 s41.length cp31) (vq := q225) (j := w64 (s40 + 1)) 1 (iv x175) S hp227 (wN rfl) rfl rfl rfl hx176 (fun _ _ _ h => h) (scal_I _) rfl rfl (lb rfl) fun a S => ?_
      exact leafL ⟨rfl, S⟩
    · refine fI 63 (.func (.func 84) #[] #[]) [(2, .func (.func 84) #[] #[])] 28 [none] rfl rfl rfl rfl rfl rfl fun G a w S => ?_
      refine sMove (.func (.func 84) #[] #[]) S (wN rfl) (.inl rfl) rfl rfl (lb rfl) fun a S => ?_
      exact leafL ⟨rfl, S⟩
    · refine fI 64 (.slice ad3 p1.length cp4) [(1, .slice ad3 p1.length cp4)] 29 [none] rfl rfl rfl rfl rfl rfl fun G a w S => ?_
      refine sMove (.slice ad3 p1.length cp4) S (wN rfl) (.inl rfl) rfl rfl (lb rfl) fun a S => ?_
      exact leafL ⟨rfl, S⟩
    · refine fI 65 (iv s40) [(11, iv s40)] 30 [none] rfl rfl rfl rfl rfl rfl fun G a w S => ?_
      refine sMove (iv s40) S (wN rfl) (.inl rfl) rfl rfl (lb rfl) fun a S => ?_
      exact leafL ⟨rfl, S⟩
    · refine fI 66 q228 [(64, .slice ad3 p1.length cp4), (65, iv s40)] 31 [some 29, some 30] rfl rfl rfl rfl rfl rfl fun G a w S => ?_
      refine sIdxV (v := .slice ad3 p1.length cp4) (k := .i64) (j := s40) S (wN rfl) rfl rfl rfl hq229 rfl (lb rfl) fun a S => ?_
      exact leafL ⟨rfl, S⟩
    · refine fI 67 (.agg #[.int .u8 x180.Kind, .bool x180.Purl, iv x180.A, iv x180.B]) [(66, q228)] 32 [some 31] rfl rfl rfl rfl rfl rfl fun G a w S => ?_
      refine sLoadVN (vq := q228) 10 [.int .u8 x180.Kind, .bool x180.Purl, iv x180.A, iv x180.B] S (wN rfl) rfl rfl rfl rfl rfl rfl (lb rfl) fun a S => ?_
      exact leafL ⟨rfl, S⟩
    · refine fI 68 (iv r185) [(63, .func (.func 84) #[] #[]), (67, .agg #[.int .u8 x180.Kind, .bool x180.Purl, iv x180.A, iv x180.B])] 33 [some 28, some 32] rfl rfl rfl rfl rfl rfl fun G a w S => ?_
      have S1 := S.mem
      refine sCallVQ (X := Unit) (g := 84) (vs := [.agg #[.int .u8 x180.Kind, .bool x180.Purl, iv x180.A, iv x180.B]]) (caps := []) (val := fun _ => iv r185) S (wN rfl) rfl rfl callee84 rfl (S1.quiet [5] rfl) (fun E1 w1 S1 => c_compare_cellTable_1 E1 w1 x180 (.agg #[.int .u8 x180.Kind, .bool x180.Purl, iv x180.A, iv x180.B]) r185 hx186 S1) rfl (lb rfl) fun _ a w S => ?_
      exact leafL ⟨rfl, S⟩
    · refine fI 69 (iv (w64 (x175 + r185))) [(62, iv x175), (68, iv r185)] 34 [some 27, some 33] rfl rfl rfl rfl rfl rfl fun G a w S => ?_
      refine sBin (iv (w64 (x175 + r185))) S (wN rfl) rfl rfl rfl (bAdd _ _ _ _ x175 r185) rfl (lb rfl) fun a S => ?_
      exact leafL ⟨rfl, S⟩
    · refine fI 70 (.slice ad7 s15.length cp8) [(9, .slice ad7 s15.length cp8)] 35 [none] rfl rfl rfl rfl rfl rfl fun G a w S => ?_
      refine sMove (.slice ad7 s15.length cp8) S (wN rfl) (.inl rfl) rfl rfl (lb rfl) fun a S => ?_
      exact leafL ⟨rfl, S⟩
    · refine fI 71 (iv s16) [(10, iv s16)] 36 [none] rfl rfl rfl rfl rfl rfl fun G a w S => ?_
      refine sMove (iv s16) S (wN rfl) (.inl rfl) rfl rfl (lb rfl) fun a S => ?_
      exact leafL ⟨rfl, S⟩
    · refine fI 72 (iv (w64 (s16 + 1))) [(71, iv s16)] 37 [some 36] rfl rfl rfl rfl rfl rfl fun G a w S => ?_
      refine sBin (iv (w64 (s16 + 1))) S (wN rfl) rfl rfl rfl (bAdd _ _ _ _ s16 1) rfl (lb rfl) fun a S => ?_
      exact leafL ⟨rfl, S⟩
    · refine fI 73 q231 [(70, .slice ad7 s15.length cp8), (72, iv (w64 (s16 + 1)))] 38 [some 35, some 37] rfl rfl rfl rfl rfl rfl fun G a w S => ?_
      refine sIdxV (v := .slice ad7 s15.length cp8) (k := .i64) (j := w64 (s16 + 1)) S (wN rfl) rfl rfl rfl hq232 rfl (lb rfl) fun a S => ?_
      exact leafL ⟨rfl, S⟩
    · refine ⟨_, [(73, q231)], rfl, (srcs_of [some 38] rfl rfl rfl), fun G a w S => ?_⟩
      refine sLoadHo (r := (rL (rI .i64))) (T := 101) (xs := s15) (x := x152) (p := (s16).toNat * (rL (rI .i64)).sz + 0) (u := .slice ad30 s41.length cp31) (v := .slice ad7 s15.length cp8) (vq := q231) (j := w64 (s16 + 1)) 0 S hp233 (wN rfl) rfl rfl rfl hx153 (idx_next (by decide) (hole_lim 0 S.mem rfl) hx35 hx153) (scal_L _) rfl rfl (lb rfl) fun a u246 S => ?_
      obtain ⟨ad247, cp248, _, rfl, _⟩ := S.mem.know (i := 0) (e := fRep (rL (rI .i64)) (u246) x152) rfl
      obtain ⟨q249, hq250, S⟩ := pIdx (P := Try.prog) (r := (rI .i64)) (v := .slice ad247 x152.length cp248) (xs := x152) (j := w64 (s40 + 1)) 101 3 0 S Try.underlying101 rfl rfl hx194
      obtain ⟨u251, S⟩ := pLoad (r := (rI .i64)) (q := q249) (x := x193) 0 S rfl
      obtain rfl : u251 = iv x193 := S.mem.know (i := 1) (e := fRep (rI .i64) (u251) x193) rfl
      obtain ⟨q252, hq253, hp254⟩ := pIdxR (P := Try.prog) (r := (rI .i64)) (T := 3) (v := .slice ad30 s41.length cp31) (xs := s41) (j := s40) 101 3 1 S Try.underlying101 rfl rfl hx207
      refine leafL ⟨rfl, _, _, .inl ⟨74, (.slice ad247 x152.length cp248), [(42, 77, q249), (43, 78, iv x193), (54, 89, iv (w64 (x193 + r204))), (55, 90, iv (min3 (w64 (x160 + r170)) (w64 (x175 + r185)) (w64 (x193 + r204)))), (56, 91, q252)], rfl, S, hz_of rfl, ?_⟩⟩
      refine node_by (A := anc_compare_table_api_Stitch__s0_2) (nf := [9, 39, 57]) (Y := [39, 9]) 58 (by kernel_rfl) (by kernel_rfl) (by kernel_rfl) (by kernel_rfl) (by kernel_rfl) [42, 43, 54, 55, 56, 39, 11, 12, 19, 9, 0, 1, 2, 3, 4, 5, 6, 7, 8, 10, 13, 14, 15, 16, 17, 18, 20, 21, 22, 23, 24, 25, 26, 27, 28, 29, 30, 31, 32, 33, 34, 35, 36, 37, 38, 40, 41, 44, 45, 46, 47, 48, 49, 50, 51, 52, 53] (by kernel_rfl) (by decide) (by decide) (aF 0 57 (by decide) ?_ (aF 1 56 (by decide) ?_ (aF 2 55 (by decide) ?_ (aF 3 54 (by decide) ?_ (aF 4 53 (by decide) ?_ (aD 5 52 9 (by decide) (aD 6 51 9 (by decide) (aD 7 50 9 (by decide) (aD 8 49 9 (by decide) (aY 9 48 (by decide) (aF 10 47 (by decide) ?_ (aF 11 46 (by decide) ?_ (aF 12 45 (by decide) ?_ (aF 13 44 (by decide) ?_ (aF 14 43 (by decide) ?_ (aF 15 42 (by decide) ?_ (aF 16 41 (by decide) ?_ (aF 17 40 (by decide) ?_ (aF 18 39 (by decide) ?_ (aF 19 38 (by decide) ?_ (aF 20 37 (by decide) ?_ (aF 21 36 (by decide) ?_ (aF 22 35 (by decide) ?_ (aF 23 34 (by decide) ?_ (aF 24 33 (by decide) ?_ (aF 25 32 (by decide) ?_ (aF 26 31 (by decide) ?_ (aF 27 30 (by decide) ?_ (aF 28 29 (by decide) ?_ (aF 29 28 (by decide) ?_ (aF 30 27 (by decide) ?_ (aF 31 26 (by decide) ?_ (aF 32 25 (by decide) ?_ (aF 33 24 (by decide) ?_ (aF 34 23 (by decide) ?_ (aD 35 22 39 (by decide) (aD 36 21 39 (by decide) (aD 37 20 39 (by decide) (aD 38 19 39 (by decide) (aY 39 18 (by decide) (aF 40 17 (by decide) ?_ (aF 41 16 (by decide) ?_ (aF 42 15 (by decide) ?_ (aF 43 14 (by decide) ?_ (aF 44 13 (by decide) ?_ (aF 45 12 (by decide) ?_ (aF 46 11 (by decide) ?_ (aF 47 10 (by decide) ?_ (aF 48 9 (by decide) ?_ (aF 49 8 (by decide) ?_ (aF 50 7 (by decide) ?_ (aF 51 6 (by decide) ?_ (aF 52 5 (by decide) ?_ (aF 53 4 (by decide) ?_ (aF 54 3 (by decide) ?_ (aF 55 2 (by decide) ?_ (aF 56 1 (by decide) ?_ (aN 57 0 (by decide) ?_ (trivial))))))))))))))))))))))))))))))))))))))))))))))))))))))))))) [] (fun q hq => by cases hq) (fun hY => absurd (hY 57 (by decide)) (by decide))
      · refine fI 35 (.slice ad7 s15.length cp8) [(9, .slice ad7 s15.length cp8)] 10 [none] rfl rfl rfl rfl rfl rfl fun G a w S => ?_
        refine sMove (.slice ad7 s15.length cp8) S (wN rfl) (.inl rfl) rfl rfl (lb rfl) fun a S => ?_
        exact leafL ⟨rfl, S⟩
      · refine fI 36 (iv s16) [(10, iv s16)] 11 [none] rfl rfl rfl rfl rfl rfl fun G a w S => ?_
        refine sMove (iv s16) S (wN rfl) (.inl rfl) rfl rfl (lb rfl) fun a S => ?_
        exact leafL ⟨rfl, S⟩
      · refine fI 37 q213 [(35, .slice ad7 s15.length cp8), (36, iv s16)] 12 [some 10, some 11] rfl rfl rfl rfl rfl rfl fun G a w S => ?_
        refine sIdxV (v := .slice ad7 s15.length cp8) (k := .i64) (j := s16) S (wN rfl) rfl rfl rfl hq214 rfl (lb rfl) fun a S => ?_
        exact leafL ⟨rfl, S⟩
      · refine fI 38 (.slice ad30 s41.length cp31) [(37, q213)] 13 [some 12] rfl rfl rfl rfl rfl rfl fun G a w S => ?_
        refine sLoadHE (r := (rL (rI .i64))) (T := 101) (xs := s15) (u := .slice ad30 s41.length cp31) (v := .slice ad7 s15.length cp8) (vq := q213) (j := s16) 0 S hp215 (wN rfl) rfl rfl rfl rfl rfl (lb rfl) fun a S => ?_
        exact leafL ⟨rfl, S⟩
      · refine fI 39 (iv s40) [(11, iv s40)] 14 [none] rfl rfl rfl rfl rfl rfl fun G a w S => ?_
        refine sMove (iv s40) S (wN rfl) (.inl rfl) rfl rfl (lb rfl) fun a S => ?_
        exact leafL ⟨rfl, S⟩
      · refine fI 45 (iv s40) [(11, iv s40)] 19 [none] rfl rfl rfl rfl rfl rfl fun G a w S => ?_
        refine sMove (iv s40) S (wN rfl) (.inl rfl) rfl rfl (lb rfl) fun a S => ?_
        exact leafL ⟨rfl, S⟩
      · refine fI 46 q243 [(44, .slice ad241 x152.length cp242), (45, iv s40)] 6 [some 9, some 19] rfl rfl rfl rfl rfl rfl fun G a w S => ?_
        refine sIdxV (v := .slice ad241 x152.length cp242) (k := .i64) (j := s40) S (wN rfl) rfl rfl rfl hq244 rfl (lb rfl) fun a S => ?_
        exact leafL ⟨rfl, S⟩
      · refine fI 47 (iv x160) [(46, q243)] 7 [some 6] rfl rfl rfl rfl rfl rfl fun G a w S => ?_
        refine sLoadV1 (vq := q243) 4 (iv x160) S (wN rfl) rfl rfl rfl rfl rfl (lb rfl) fun a S => ?_
        exact leafL ⟨rfl, S⟩
      · refine fI 48 (.func (.func 84) #[] #[]) [(2, .func (.func 84) #[] #[])] 20 [none] rfl rfl rfl rfl rfl rfl fun G a w S => ?_
        refine sMove (.func (.func 84) #[] #[]) S (wN rfl) (.inl rfl) rfl rfl (lb rfl) fun a S => ?_
        exact leafL ⟨rfl, S⟩
      · refine fI 49 (.slice ad1 p0.length cp2) [(0, .slice ad1 p0.length cp2)] 21 [none] rfl rfl rfl rfl rfl rfl fun G a w S => ?_
        refine sMove (.slice ad1 p0.length cp2) S (wN rfl) (.inl rfl) rfl rfl (lb rfl) fun a S => ?_
        exact leafL ⟨rfl, S⟩
      · refine fI 50 (iv s16) [(10, iv s16)] 22 [none] rfl rfl rfl rfl rfl rfl fun G a w S => ?_
        refine sMove (iv s16) S (wN rfl) (.inl rfl) rfl rfl (lb rfl) fun a S => ?_
        exact leafL ⟨rfl, S⟩
      · refine fI 51 q219 [(49, .slice ad1 p0.length cp2), (50, iv s16)] 23 [some 21, some 22] rfl rfl rfl rfl rfl rfl fun G a w S => ?_
        refine sIdxV (v := .slice ad1 p0.length cp2) (k := .i64) (j := s16) S (wN rfl) rfl rfl rfl hq220 rfl (lb rfl) fun a S => ?_
        exact leafL ⟨rfl, S⟩
      · refine fI 52 (.agg #[.int .u8 x165.Kind, .bool x165.Purl, iv x165.A, iv x165.B]) [(51, q219)] 24 [some 23] rfl rfl rfl rfl rfl rfl fun G a w S => ?_
        refine sLoadVN (vq := q219) 17 [.int .u8 x165.Kind, .bool x165.Purl, iv x165.A, iv x165.B] S (wN rfl) rfl rfl rfl rfl rfl rfl (lb rfl) fun a S => ?_
        exact leafL ⟨rfl, S⟩
      · refine fI 53 (iv r170) [(48, .func (.func 84) #[] #[]), (52, .agg #[.int .u8 x165.Kind, .bool x165.Purl, iv x165.A, iv x165.B])] 25 [some 20, some 24] rfl rfl rfl rfl rfl rfl fun G a w S => ?_
        have S1 := S.mem
        refine sCallVQ (X := Unit) (g := 84) (vs := [.agg #[.int .u8 x165.Kind, .bool x165.Purl, iv x165.A, iv x165.B]]) (caps := []) (val := fun _ => iv r170) S (wN rfl) rfl rfl callee84 rfl (S1.quiet [12] rfl) (fun E1 w1 S1 => c_compare_cellTable_1 E1 w1 x165 (.agg #[.int .u8 x165.Kind, .bool x165.Purl, iv x165.A, iv x165.B]) r170 hx171 S1) rfl (lb rfl) fun _ a w S => ?_
        exact leafL ⟨rfl, S⟩
      · refine fI 54 (iv (w64 (x160 + r170))) [(47, iv x160), (53, iv r170)] 8 [some 7, some 25] rfl rfl rfl rfl rfl rfl fun G a w S => ?_
        refine sBin (iv (w64 (x160 + r170))) S (wN rfl) rfl rfl rfl (bAdd _ _ _ _ x160 r170) rfl (lb rfl) fun a S => ?_
        exact leafL ⟨rfl, S⟩
      · refine fI 55 (.slice ad7 s15.length cp8) [(9, .slice ad7 s15.length cp8)] 26 [none] rfl rfl rfl rfl rfl rfl fun G a w S => ?_
        refine sMove (.slice ad7 s15.length cp8) S (wN rfl) (.inl rfl) rfl rfl (lb rfl) fun a S => ?_
        exact leafL ⟨rfl, S⟩
      · refine fI 56 (iv s16) [(10, iv s16)] 27 [none] rfl rfl rfl rfl rfl rfl fun G a w S => ?_
        refine sMove (iv s16) S (wN rfl) (.inl rfl) rfl rfl (lb rfl) fun a S => ?_
        exact leafL ⟨rfl, S⟩
      · refine fI 57 q222 [(55, .slice ad7 s15.length cp8), (56, iv s16)] 28 [some 26, some 27] rfl rfl rfl rfl rfl rfl fun G a w S => ?_
        refine sIdxV (v := .slice ad7 s15.length cp8) (k := .i64) (j := s16) S (wN rfl) rfl rfl rfl hq223 rfl (lb rfl) fun a S => ?_
        exact leafL ⟨rfl, S⟩
      · refine fI 58 (.slice ad30 s41.length cp31) [(57, q222)] 29 [some 28] rfl rfl rfl rfl rfl rfl fun G a w S => ?_
        refine sLoadHE (r := (rL (rI .i64))) (T := 101) (xs := s15) (u := .slice ad30 s41.length cp31) (v := .slice ad7 s15.length cp8) (vq := q222) (j := s16) 0 S hp224 (wN rfl) rfl rfl rfl rfl rfl (lb rfl) fun a S => ?_
        exact leafL ⟨rfl, S⟩
      · refine fI 59 (iv s40) [(11, iv s40)] 30 [none] rfl rfl rfl rfl rfl rfl fun G a w S => ?_
        refine sMove (iv s40) S (wN rfl) (.inl rfl) rfl rfl (lb rfl) fun a S => ?_
        exact leafL ⟨rfl, S⟩
      · refine fI 60 (iv (w64 (s40 + 1))) [(59, iv s40)] 31 [some 30] rfl rfl rfl rfl rfl rfl fun G a w S => ?_
        refine sBin (iv (w64 (s40 + 1))) S (wN rfl) rfl rfl rfl (bAdd _ _ _ _ s40 1) rfl (lb rfl) fun a S => ?_
        exact leafL ⟨rfl, S⟩
      · refine fI 61 q225 [(58, .slice ad30 s41.length cp31), (60, iv (w64 (s40 + 1)))] 32 [some 29, some 31] rfl rfl rfl rfl rfl rfl fun G a w S => ?_
        refine sIdxV (v := .slice ad30 s41.length cp31) (k := .i64) (j := w64 (s40 + 1)) S (wN rfl) rfl rfl rfl hq226 rfl (lb rfl) fun a S => ?_
        exact leafL ⟨rfl, S⟩
      · refine fI 62 (iv x175) [(61, q225)] 33 [some 32] rfl rfl rfl rfl rfl rfl fun G a w S => ?_
        refine sLoadR (r := (rI .i64)) (T := 3) (xs := s41) (x := x175) (v := .slice ad30 s41.length cp31) (vq := q225) (j := w64 (s40 + 1)) 1 (iv x175) S hp227 (wN rfl) rfl rfl rfl hx176 (fun _ _ _ h => h) (scal_I _) rfl rfl (lb rfl) fun a S => ?_
        exact leafL ⟨rfl, S⟩
      · refine fI 63 (.func (.func 84) #[] #[]) [(2, .func (.func 84) #[] #[])] 34 [none] rfl rfl rfl rfl rfl rfl fun G a w S => ?_
        refine sMove (.func (.func 84) #[] #[]) S (wN rfl) (.inl rfl) rfl rfl (lb rfl) fun a S => ?_
        exact leafL ⟨rfl, S⟩
      · refine fI 64 (.slice ad3 p1.length cp4) [(1, .slice ad3 p1.length cp4)] 35 [none] rfl rfl rfl rfl rfl rfl fun G a w S => ?_
        refine sMove (.slice ad3 p1.length cp4) S (wN rfl) (.inl rfl) rfl rfl (lb rfl) fun a S => ?_
        exact leafL ⟨rfl, S⟩
      · refine fI 65 (iv s40) [(11, iv s40)] 36 [none] rfl rfl rfl rfl rfl rfl fun G a w S => ?_
        refine sMove (iv s40) S (wN rfl) (.inl rfl) rfl rfl (lb rfl) fun a S => ?_
        exact leafL ⟨rfl, S⟩
      · refine fI 66 q228 [(64, .slice ad3 p1.length cp4), (65, iv s40)] 37 [some 35, some 36] rfl rfl rfl rfl rfl rfl fun G a w S => ?_
        refine sIdxV (v := .slice ad3 p1.length cp4) (k := .i64) (j := s40) S (wN rfl) rfl rfl rfl hq229 rfl (lb rfl) fun a S => ?_
        exact leafL ⟨rfl, S⟩
      · refine fI 67 (.agg #[.int .u8 x180.Kind, .bool x180.Purl, iv x180.A, iv x180.B]) [(66, q228)] 38 [some 37] rfl rfl rfl rfl rfl rfl fun G a w S => ?_
        refine sLoadVN (vq := q228) 14 [.int .u8 x180.Kind, .bool x180.Purl, iv x180.A, iv x180.B] S (wN rfl) rfl rfl rfl rfl rfl rfl (lb rfl) fun a S => ?_
        exact leafL ⟨rfl, S⟩
      · refine fI 68 (iv r185) [(63, .func (.func 84) #[] #[]), (67, .agg #[.int .u8 x180.Kind, .bool x180.Purl, iv x180.A, iv x180.B])] 39 [some 34, some 38] rfl rfl rfl rfl rfl rfl fun G a w S => ?_
        have S1 := S.mem
        refine sCallVQ (X := Unit) (g := 84) (vs := [.agg #[.int .u8 x180.Kind, .bool x180.Purl, iv x180.A, iv x180.B]]) (caps := []) (val := fun _ => iv r185) S (wN rfl) rfl rfl callee84 rfl (S1.quiet [9] rfl) (fun E1 w1 S1 => c_compare_cellTable_1 E1 w1 x180 (.agg #[.int .u8 x180.Kind, .bool x180.Purl, iv x180.A, iv x180.B]) r185 hx186 S1) rfl (lb rfl) fun _ a w S => ?_
        exact leafL ⟨rfl, S⟩
      · refine fI 69 (iv (w64 (x175 + r185))) [(62, iv x175), (68, iv r185)] 40 [some 33, some 39] rfl rfl rfl rfl rfl rfl fun G a w S => ?_
        refine sBin (iv (w64 (x175 + r185))) S (wN rfl) rfl rfl rfl (bAdd _ _ _ _ x175 r185) rfl (lb rfl) fun a S => ?_
        exact leafL ⟨rfl, S⟩
      · refine fI 75 (iv s40) [(11, iv s40)] 45 [none] rfl rfl rfl rfl rfl rfl fun G a w S => ?_
        refine sMove (iv s40) S (wN rfl) (.inl rfl) rfl rfl (lb rfl) fun a S => ?_
        exact leafL ⟨rfl, S⟩
      · refine fI 76 (iv (w64 (s40 + 1))) [(75, iv s40)] 46 [some 45] rfl rfl rfl rfl rfl rfl fun G a w S => ?_
        refine sBin (iv (w64 (s40 + 1))) S (wN rfl) rfl rfl rfl (bAdd _ _ _ _ s40 1) rfl (lb rfl) fun a S => ?_
        exact leafL ⟨rfl, S⟩
      · refine fI 77 q249 [(74, .slice ad247 x152.length cp248), (76, iv (w64 (s40 + 1)))] 0 [some 5, some 46] rfl rfl rfl rfl rfl rfl fun G a w S => ?_
        refine sIdxV (v := .slice ad247 x152.length cp248) (k := .i64) (j := w64 (s40 + 1)) S (wN rfl) rfl rfl rfl hq250 rfl (lb rfl) fun a S => ?_
        exact leafL ⟨rfl, S⟩
      · refine fI 78 (iv x193) [(77, q249)] 1 [some 0] rfl rfl rfl rfl rfl rfl fun G a w S => ?_
        refine sLoadV1 (vq := q249) 0 (iv x193) S (wN rfl) rfl rfl rfl rfl rfl (lb rfl) fun a S => ?_
        exact leafL ⟨rfl, S⟩
      · refine fI 79 (.func (.func 85) #[] #[]) [(3, .func (.func 85) #[] #[])] 47 [none] rfl rfl rfl rfl rfl rfl fun G a w S => ?_
        refine sMove (.func (.func 85) #[] #[]) S (wN rfl) (.inl rfl) rfl rfl (lb rfl) fun a S => ?_
        exact leafL ⟨rfl, S⟩
      · refine fI 80 (.slice ad1 p0.length cp2) [(0, .slice ad1 p0.length cp2)] 48 [none] rfl rfl rfl rfl rfl rfl fun G a w S => ?_
        refine sMove (.slice ad1 p0.length cp2) S (wN rfl) (.inl rfl) rfl rfl (lb rfl) fun a S => ?_
        exact leafL ⟨rfl, S⟩
      · refine fI 81 (iv s16) [(10, iv s16)] 49 [none] rfl rfl rfl rfl rfl rfl fun G a w S => ?_
        refine sMove (iv s16) S (wN rfl) (.inl rfl) rfl rfl (lb rfl) fun a S => ?_
        exact leafL ⟨rfl, S⟩
      · refine fI 82 q234 [(80, .slice ad1 p0.length cp2), (81, iv s16)] 50 [some 48, some 49] rfl rfl rfl rfl rfl rfl fun G a w S => ?_
        refine sIdxV (v := .slice ad1 p0.length cp2) (k := .i64) (j := s16) S (wN rfl) rfl rfl rfl hq235 rfl (lb rfl) fun a S => ?_
        exact leafL ⟨rfl, S⟩
      · refine fI 83 (.agg #[.int .u8 x165.Kind, .bool x165.Purl, iv x165.A, iv x165.B]) [(82, q234)] 51 [some 50] rfl rfl rfl rfl rfl rfl fun G a w S => ?_
        refine sLoadVN (vq := q234) 11 [.int .u8 x165.Kind, .bool x165.Purl, iv x165.A, iv x165.B] S (wN rfl) rfl rfl rfl rfl rfl rfl (lb rfl) fun a S => ?_
        exact leafL ⟨rfl, S⟩
      · refine fI 84 (.slice ad3 p1.length cp4) [(1, .slice ad3 p1.length cp4)] 52 [none] rfl rfl rfl rfl rfl rfl fun G a w S => ?_
        refine sMove (.slice ad3 p1.length cp4) S (wN rfl) (.inl rfl) rfl rfl (lb rfl) fun a S => ?_
        exact leafL ⟨rfl, S⟩
      · refine fI 85 (iv s40) [(11, iv s40)] 53 [none] rfl rfl rfl rfl rfl rfl fun G a w S => ?_
        refine sMove (iv s40) S (wN rfl) (.inl rfl) rfl rfl (lb rfl) fun a S => ?_
        exact leafL ⟨rfl, S⟩
      · refine fI 86 q237 [(84, .slice ad3 p1.length cp4), (85, iv s40)] 54 [some 52, some 53] rfl rfl rfl rfl rfl rfl fun G a w S => ?_
        refine sIdxV (v := .slice ad3 p1.length cp4) (k := .i64) (j := s40) S (wN rfl) rfl rfl rfl hq238 rfl (lb rfl) fun a S => ?_
        exact leafL ⟨rfl, S⟩
      · refine fI 87 (.agg #[.int .u8 x180.Kind, .bool x180.Purl, iv x180.A, iv x180.B]) [(86, q237)] 55 [some 54] rfl rfl rfl rfl rfl rfl fun G a w S => ?_
        refine sLoadVN (vq := q237) 8 [.int .u8 x180.Kind, .bool x180.Purl, iv x180.A, iv x180.B] S (wN rfl) rfl rfl rfl rfl rfl rfl (lb rfl) fun a S => ?_
        exact leafL ⟨rfl, S⟩
      · refine fI 88 (iv r204) [(79, .func (.func 85) #[] #[]), (83, .agg #[.int .u8 x165.Kind, .bool x165.Purl, iv x165.A, iv x165.B]), (87, .agg #[.int .u8 x180.Kind, .bool x180.Purl, iv x180.A, iv x180.B])] 56 [some 47, some 51, some 55] rfl rfl rfl rfl rfl rfl fun G a w S => ?_
        have S1 := S.mem
        refine sCallVQ (X := Unit) (g := 85) (vs := [.agg #[.int .u8 x165.Kind, .bool x165.Purl, iv x165.A, iv x165.B], .agg #[.int .u8 x180.Kind, .bool x180.Purl, iv x180.A, iv x180.B]]) (caps := []) (val := fun _ => iv r204) S (wN rfl) rfl rfl callee85 rfl (S1.quiet [12, 9] rfl) (fun E1 w1 S1 => c_compare_cellTable_2 E1 w1 x165 (.agg #[.int .u8 x165.Kind, .bool x165.Purl, iv x165.A, iv x165.B]) x180 (.agg #[.int .u8 x180.Kind, .bool x180.Purl, iv x180.A, iv x180.B]) r204 hx205 S1) rfl (lb rfl) fun _ a w S => ?_
        exact leafL ⟨rfl, S⟩
      · refine fI 89 (iv (w64 (x193 + r204))) [(78, iv x193), (88, iv r204)] 2 [some 1, some 56] rfl rfl rfl rfl rfl rfl fun G a w S => ?_
        refine sBin (iv (w64 (x193 + r204))) S (wN rfl) rfl rfl rfl (bAdd _ _ _ _ x193 r204) rfl (lb rfl) fun a S => ?_
        exact leafL ⟨rfl, S⟩
      · refine fI 90 (iv (min3 (w64 (x160 + r170)) (w64 (x175 + r185)) (w64 (x193 + r204)))) [(54, iv (w64 (x160 + r170))), (69, iv (w64 (x175 + r185))), (89, iv (w64 (x193 + r204)))] 3 [some 8, some 40, some 2] rfl rfl rfl rfl rfl rfl fun G a w S => ?_
        refine sMin3 (p := w64 (x160 + r170)) (q := w64 (x175 + r185)) (r := w64 (x193 + r204)) S (wN rfl) rfl rfl rfl rfl rfl (lb rfl) fun a S => ?_
        exact leafL ⟨rfl, S⟩
      · refine fI 91 q252 [(38, .slice ad30 s41.length cp31), (39, iv s40)] 4 [some 13, some 14] rfl rfl rfl rfl rfl rfl fun G a w S => ?_
        refine sIdxV (v := .slice ad30 s41.length cp31) (k := .i64) (j := s40) S (wN rfl) rfl rfl rfl hq253 rfl (lb rfl) fun a S => ?_
        exact leafL ⟨rfl, S⟩
      refine ⟨_, [(90, iv (min3 (w64 (x160 + r170)) (w64 (x175 + r185)) (w64 (x193 + r204)))), (91, q252)], rfl, (srcs_of [some 3, some 4] rfl rfl rfl), fun G a w S => ?_⟩
      refine sStoreR (r := (rI .i64)) (T := 3) (xs := s41) (ys := l211) (y := (min3 (w64 (x160 + r170)) (w64 (x175 + r185)) (w64 (x193 + r204)))) (v := .slice ad30 s41.length cp31) (vq := q252) (u := iv (min3 (w64 (x160 + r170)) (w64 (x175 + r185)) (w64 (x193 + r204)))) (j := s40) 1 S hp254 (wN rfl) rfl rfl rfl rfl rfl hx212 rfl rfl fun a w S => ?_
      refine leafL ⟨rfl, _, _, .inr ⟨[], rfl, S, hz_of rfl, ?_⟩⟩
      refine node_by (A := anc_compare_table_api_Stitch__s0_2) (nf := [9, 39, 57]) (Y := [57, 39, 9]) 58 (by kernel_rfl) (by kernel_rfl) (by kernel_rfl) (by kernel_rfl) (by kernel_rfl) [42, 43, 54, 55, 56, 39, 11, 12, 19, 9, 0, 1, 2, 3, 4, 5, 6, 7, 8, 10, 13, 14, 15, 16, 17, 18, 20, 21, 22, 23, 24, 25, 26, 27, 28, 29, 30, 31, 32, 33, 34, 35, 36, 37, 38, 40, 41, 44, 45, 46, 47, 48, 49, 50, 51, 52, 53] (by kernel_rfl) (by decide) (by decide) (aD 0 57 57 (by decide) (aD 1 56 57 (by decide) (aD 2 55 57 (by decide) (aD 3 54 57 (by decide) (aD 4 53 57 (by decide) (aD 5 52 57 (by decide) (aD 6 51 57 (by decide) (aD 7 50 57 (by decide) (aD 8 49 57 (by decide) (aY 9 48 (by decide) (aD 10 47 57 (by decide) (aD 11 46 57 (by decide) (aD 12 45 57 (by decide) (aD 13 44 57 (by decide) (aD 14 43 57 (by decide) (aD 15 42 57 (by decide) (aD 16 41 57 (by decide) (aD 17 40 57 (by decide) (aD 18 39 57 (by decide) (aD 19 38 57 (by decide) (aD 20 37 57 (by decide) (aD 21 36 57 (by decide) (aD 22 35 57 (by decide) (aD 23 34 57 (by decide) (aD 24 33 57 (by decide) (aD 25 32 57 (by decide) (aD 26 31 57 (by decide) (aD 27 30 57 (by decide) (aD 28 29 57 (by decide) (aD 29 28 57 (by decide) (aD 30 27 57 (by decide) (aD 31 26 57 (by decide) (aD 32 25 57 (by decide) (aD 33 24 57 (by decide) (aD 34 23 57 (by decide) (aD 35 22 57 (by decide) (aD 36 21 57 (by decide) (aD 37 20 57 (by decide) (aD 38 19 57 (by decide) (aY 39 18 (by decide) (aD 40 17 57 (by decide) (aD 41 16 57 (by decide) (aD 42 15 57 (by decide) (aD 43 14 57 (by decide) (aD 44 13 57 (by decide) (aD 45 12 57 (by decide) (aD 46 11 57 (by decide) (aD 47 10 57 (by decide) (aD 48 9 57 (by decide) (aD 49 8 57 (by decide) (aD 50 7 57 (by decide) (aD 51 6 57 (by decide) (aD 52 5 57 (by decide) (aD 53 4 57 (by decide) (aD 54 3 57 (by decide) (aD 55 2 57 (by decide) (aD 56 1 57 (by decide) (aY 57 0 (by decide) (trivial))))))))))))))))))))))))))))))))))))))))))))))))))))))))))) [(0, .slice ad1 p0.length cp2), (1, .slice ad3 p1.length cp4), (2, .func (.func 84) #[] #[]), (3, .func (.func 85) #[] #[]), (9, .slice ad7 s15.length cp8), (10, iv s16), (11, iv s40)] (fin_of [none, none, none, none, none, none, none] rfl (by kernel_rfl) (by kernel_rfl)) (fun _ a w S => ?_)
      rw [setO_v hx212 ad30 cp31] at S
      exact leafB (leafB (leafT (⟨l211, Option.some.inj h, S.fix [1, 0] [20, 21] (by decide) rfl rfl rfl⟩)))
    · refine fI 75 (iv s40) [(11, iv s40)] 39 [none] rfl rfl rfl rfl rfl rfl fun G a w S => ?_
      refine sMove (iv s40) S (wN rfl) (.inl rfl) rfl rfl (lb rfl) fun a S => ?_
      exact leafL ⟨rfl, S⟩
    · refine fI 76 (iv (w64 (s40 + 1))) [(75, iv s40)] 40 [some 39] rfl rfl rfl rfl rfl rfl fun G a w S => ?_
      refine sBin (iv (w64 (s40 + 1))) S (wN rfl) rfl rfl rfl (bAdd _ _ _ _ s40 1) rfl (lb rfl) fun a S => ?_
      exact leafL ⟨rfl, S⟩
    · refine fI 79 (.func (.func 85) #[] #[]) [(3, .func (.func 85) #[] #[])] 41 [none] rfl rfl rfl rfl rfl rfl fun G a w S => ?_
      refine sMove (.func (.func 85) #[] #[]) S (wN rfl) (.inl rfl) rfl rfl (lb rfl) fun a S => ?_
      exact leafL ⟨rfl, S⟩
    · refine fI 80 (.slice ad1 p0.length cp2) [(0, .slice ad1 p0.length cp2)] 42 [none] rfl rfl rfl rfl rfl rfl fun G a w S => ?_
      refine sMove (.slice ad1 p0.length cp2) S (wN rfl) (.inl rfl) rfl rfl (lb rfl) fun a S => ?_
      exact leafL ⟨rfl, S⟩
    · refine fI 81 (iv s16) [(10, iv s16)] 43 [none] rfl rfl rfl rfl rfl rfl fun G a w S => ?_
      refine sMove (iv s16) S (wN rfl) (.inl rfl) rfl rfl (lb rfl) fun a S => ?_
      exact leafL ⟨rfl, S⟩
    · refine fI 82 q234 [(80, .slice ad1 p0.length cp2), (81, iv s16)] 44 [some 42, some 43] rfl rfl rfl rfl rfl rfl fun G a w S => ?_
      refine sIdxV (v := .slice ad1 p0.length cp2) (k := .i64) (j := s16) S (wN rfl) rfl rfl rfl hq235 rfl (lb rfl) fun a S => ?_
      exact leafL ⟨rfl, S⟩
    · refine fI 83 (.agg #[.int .u8 x165.Kind, .bool x165.Purl, iv x165.A, iv x165.B]) [(82, q234)] 45 [some 44] rfl rfl rfl rfl rfl rfl fun G a w S => ?_
      refine sLoadVN (vq := q234) 7 [.int .u8 x165.Kind, .bool x165.Purl, iv x165.A, iv x165.B] S (wN rfl) rfl rfl rfl rfl rfl rfl (lb rfl) fun a S => ?_
      exact leafL ⟨rfl, S⟩
    · refine fI 84 (.slice ad3 p1.length cp4) [(1, .slice ad3 p1.length cp4)] 46 [none] rfl rfl rfl rfl rfl rfl fun G a w S => ?_
      refine sMove (.slice ad3 p1.length cp4) S (wN rfl) (.inl rfl) rfl rfl (lb rfl) fun a S => ?_
      exact leafL ⟨rfl, S⟩
    · refine fI 85 (iv s40) [(11, iv s40)] 47 [none] rfl rfl rfl rfl rfl rfl fun G a w S => ?_
      refine sMove (iv s40) S (wN rfl) (.inl rfl) rfl rfl (lb rfl) fun a S => ?_
      exact leafL ⟨rfl, S⟩
    · refine fI 86 q237 [(84, .slice ad3 p1.length cp4), (85, iv s40)] 48 [some 46, some 47] rfl rfl rfl rfl rfl rfl fun G a w S => ?_
      refine sIdxV (v := .slice ad3 p1.length cp4) (k := .i64) (j := s40) S (wN rfl) rfl rfl rfl hq238 rfl (lb rfl) fun a S => ?_
      exact leafL ⟨rfl, S⟩
    · refine fI 87 (.agg #[.int .u8 x180.Kind, .bool x180.Purl, iv x180.A, iv x180.B]) [(86, q237)] 49 [some 48] rfl rfl rfl rfl rfl rfl fun G a w S => ?_
      refine sLoadVN (vq := q237) 4 [.int .u8 x180.Kind, .bool x180.Purl, iv x180.A, iv x180.B] S (wN rfl) rfl rfl rfl rfl rfl rfl (lb rfl) fun a S => ?_
      exact leafL ⟨rfl, S⟩
    refine fI 88 (iv r204) [(79, .func (.func 85) #[] #[]), (83, .agg #[.int .u8 x165.Kind, .bool x165.Purl, iv x165.A, iv x165.B]), (87, .agg #[.int .u8 x180.Kind, .bool x180.Purl, iv x180.A, iv x180.B])] 50 [some 41, some 45, some 49] rfl rfl rfl rfl rfl rfl fun G a w S => ?_
    have S1 := S.mem
    refine sCallVQ (X := Unit) (g := 85) (vs := [.agg #[.int .u8 x165.Kind, .bool x165.Purl, iv x165.A, iv x165.B], .agg #[.int .u8 x180.Kind, .bool x180.Purl, iv x180.A, iv x180.B]]) (caps := []) (val := fun _ => iv r204) S (wN rfl) rfl rfl callee85 rfl (S1.quiet [8, 5] rfl) (fun E1 w1 S1 => c_compare_cellTable_2 E1 w1 x165 (.agg #[.int .u8 x165.Kind, .bool x165.Purl, iv x165.A, iv x165.B]) x180 (.agg #[.int .u8 x180.Kind, .bool x180.Purl, iv x180.A, iv x180.B]) r204 hx205 S1) rfl (lb rfl) fun _ a w S => ?_
    exact leafL ⟨rfl, S⟩
  · refine fI 45 (iv s40) [(11, iv s40)] 9 [none] rfl rfl rfl rfl rfl rfl fun G a w S => ?_
    refine sMove (iv s40) S (wN rfl) (.inl rfl) rfl rfl (lb rfl) fun a S => ?_
    exact leafL ⟨rfl, S⟩
  · refine fI 48 (.func (.func 84) #[] #[]) [(2, .func (.func 84) #[] #[])] 10 [none] rfl rfl rfl rfl rfl rfl fun G a w S => ?_
    refine sMove (.func (.func 84) #[] #[]) S (wN rfl) (.inl rfl) rfl rfl (lb rfl) fun a S => ?_
    exact leafL ⟨rfl, S⟩
  · refine fI 49 (.slice ad1 p0.length cp2) [(0, .slice ad1 p0.length cp2)] 11 [none] rfl rfl rfl rfl rfl rfl fun G a w S => ?_
    refine sMove (.slice ad1 p0.length cp2) S (wN rfl) (.inl rfl) rfl rfl (lb rfl) fun a S => ?_
    exact leafL ⟨rfl, S⟩
  · refine fI 50 (iv s16) [(10, iv s16)] 12 [none] rfl rfl rfl rfl rfl rfl fun G a w S => ?_
    refine sMove (iv s16) S (wN rfl) (.inl rfl) rfl rfl (lb rfl) fun a S => ?_
    exact leafL ⟨rfl, S⟩
  · refine fI 51 q219 [(49, .slice ad1 p0.length cp2), (50, iv s16)] 13 [some 11, some 12] rfl rfl rfl rfl rfl rfl fun G a w S => ?_
    refine sIdxV (v := .slice ad1 p0.length cp2) (k := .i64) (j := s16) S (wN rfl) rfl rfl rfl hq220 rfl (lb rfl) fun a S => ?_
    exact leafL ⟨rfl, S⟩
  · refine fI 52 (.agg #[.int .u8 x165.Kind, .bool x165.Purl, iv x165.A, iv x165.B]) [(51, q219)] 14 [some 13] rfl rfl rfl rfl rfl rfl fun G a w S => ?_
    refine sLoadVN (vq := q219) 9 [.int .u8 x165.Kind, .bool x165.Purl, iv x165.A, iv x165.B] S (wN rfl) rfl rfl rfl rfl rfl rfl (lb rfl) fun a S => ?_
    exact leafL ⟨rfl, S⟩
  · refine fI 53 (iv r170) [(48, .func (.func 84) #[] #[]), (52, .agg #[.int .u8 x165.Kind, .bool x165.Purl, iv x165.A, iv x165.B])] 15 [some 10, some 14] rfl rfl rfl rfl rfl rfl fun G a w S => ?_
    have S1 := S.mem
    refine sCallVQ (X := Unit) (g := 84) (vs := [.agg #[.int .u8 x165.Kind, .bool x165.Purl, iv x165.A, iv x165.B]]) (caps := []) (val := fun _ => iv r170) S (wN rfl) rfl rfl callee84 rfl (S1.quiet [4] rfl) (fun E1 w1 S1 => c_compare_cellTable_1 E1 w1 x165 (.agg #[.int .u8 x165.Kind, .bool x165.Purl, iv x165.A, iv x165.B]) r170 hx171 S1) rfl (lb rfl) fun _ a w S => ?_
    exact leafL ⟨rfl, S⟩
  · refine fI 55 (.slice ad7 s15.length cp8) [(9, .slice ad7 s15.length cp8)] 16 [none] rfl rfl rfl rfl rfl rfl fun G a w S => ?_
    refine sMove (.slice ad7 s15.length cp8) S (wN rfl) (.inl rfl) rfl rfl (lb rfl) fun a S => ?_
    exact leafL ⟨rfl, S⟩
  · refine fI 56 (iv s16) [(10, iv s16)] 17 [none] rfl rfl rfl rfl rfl rfl fun G a w S => ?_
    refine sMove (iv s16) S (wN rfl) (.inl rfl) rfl rfl (lb rfl) fun a S => ?_
    exact leafL ⟨rfl, S⟩
  · refine fI 57 q222 [(55, .slice ad7 s15.length cp8), (56, iv s16)] 18 [some 16, some 17] rfl rfl rfl rfl rfl rfl fun G a w S => ?_
    refine sIdxV (v := .slice ad7 s15.length cp8) (k := .i64) (j := s16) S (wN rfl) rfl rfl rfl hq223 rfl (lb rfl) fun a S => ?_
    exact leafL ⟨rfl, S⟩
  · refine fI 58 (.slice ad30 s41.length cp31) [(57, q222)] 19 [some 18] rfl rfl rfl rfl rfl rfl fun G a w S => ?_
    refine sLoadHE (r := (rL (rI .i64))) (T := 101) (xs := s15) (u := .slice ad30 s41.length cp31) (v := .slice ad7 s15.length cp8) (vq := q222) (j := s16) 0 S hp224 (wN rfl) rfl rfl rfl rfl rfl (lb rfl) fun a S => ?_
    exact leafL ⟨rfl, S⟩
  · refine fI 59 (iv s40) [(11, iv s40)] 20 [none] rfl rfl rfl rfl rfl rfl fun G a w S => ?_
    refine sMove (iv s40) S (wN rfl) (.inl rfl) rfl rfl (lb rfl) fun a S => ?_
    exact leafL ⟨rfl, S⟩
  · refine fI 60 (iv (w64 (s40 + 1))) [(59, iv s40)] 21 [some 20] rfl rfl rfl rfl rfl rfl fun G a w S => ?_
    refine sBin (iv (w64 (s40 + 1))) S (wN rfl) rfl rfl rfl (bAdd _ _ _ _ s40 1) rfl (lb rfl) fun a S => ?_
    exact leafL ⟨rfl, S⟩
  · refine fI 61 q225 [(58, .slice ad30 s41.length cp31), (60, iv (w64 (s40 + 1)))] 22 [some 19, some 21] rfl rfl rfl rfl rfl rfl fun G a w S => ?_
    refine sIdxV (v := .slice ad30 s41.length cp31) (k := .i64) (j := w64 (s40 + 1)) S (wN rfl) rfl rfl rfl hq226 rfl (lb rfl) fun a S => ?_
    exact leafL ⟨rfl, S⟩
  · refine fI 62 (iv x175) [(61, q225)] 23 [some 22] rfl rfl rfl rfl rfl rfl fun G a w S => ?_
    refine sLoadR (r := (rI .i64)) (T := 3) (xs := s41) (x := x175) (v := .slice ad30 s41.length cp31) (vq := q225) (j := w64 (s40 + 1)) 1 (iv x175) S hp227 (wN rfl) rfl rfl rfl hx176 (fun _ _ _ h => h) (scal_I _) rfl rfl (lb rfl) fun a S => ?_
    exact leafL ⟨rfl, S⟩
  · refine fI 63 (.func (.func 84) #[] #[]) [(2, .func (.func 84) #[] #[])] 24 [none] rfl rfl rfl rfl rfl rfl fun G a w S => ?_
    refine sMove (.func (.func 84) #[] #[]) S (wN rfl) (.inl rfl) rfl rfl (lb rfl) fun a S => ?_
    exact leafL ⟨rfl, S⟩
  · refine fI 64 (.slice ad3 p1.length cp4) [(1, .slice ad3 p1.length cp4)] 25 [none] rfl rfl rfl rfl rfl rfl fun G a w S => ?_
    refine sMove (.slice ad3 p1.length cp4) S (wN rfl) (.inl rfl) rfl rfl (lb rfl) fun a S => ?_
    exact leafL ⟨rfl, S⟩
  · refine fI 65 (iv s40) [(11, iv s40)] 26 [none] rfl rfl rfl rfl rfl rfl fun G a w S => ?_
    refine sMove (iv s40) S (wN rfl) (.inl rfl) rfl rfl (lb rfl) fun a S => ?_
    exact leafL ⟨rfl, S⟩
  · refine fI 66 q228 [(64, .slice ad3 p1.length cp4), (65, iv s40)] 27 [some 25, some 26] rfl rfl rfl rfl rfl rfl fun G a w S => ?_
    refine sIdxV (v := .slice ad3 p1.length cp4) (k := .i64) (j := s40) S (wN rfl) rfl rfl rfl hq229 rfl (lb rfl) fun a S => ?_
    exact leafL ⟨rfl, S⟩
  · refine fI 67 (.agg #[.int .u8 x180.Kind, .bool x180.Purl, iv x180.A, iv x180.B]) [(66, q228)] 28 [some 27] rfl rfl rfl rfl rfl rfl fun G a w S => ?_
    refine sLoadVN (vq := q228) 6 [.int .u8 x180.Kind, .bool x180.Purl, iv x180.A, iv x180.B] S (wN rfl) rfl rfl rfl rfl rfl rfl (lb rfl) fun a S => ?_
    exact leafL ⟨rfl, S⟩
  · refine fI 68 (iv r185) [(63, .func (.func 84) #[] #[]), (67, .agg #[.int .u8 x180.Kind, .bool x180.Purl, iv x180.A, iv x180.B])] 29 [some 24, some 28] rfl rfl rfl rfl rfl rfl fun G a w S => ?_
    have S1 := S.mem
    refine sCallVQ (X := Unit) (g := 84) (vs := [.agg #[.int .u8 x180.Kind, .bool x180.Purl, iv x180.A, iv x180.B]]) (caps := []) (val := fun _ => iv r185) S (wN rfl) rfl rfl callee84 rfl (S1.quiet [1] rfl) (fun E1 w1 S1 => c_compare_cellTable_1 E1 w1 x180 (.agg #[.int .u8 x180.Kind, .bool x180.Purl, iv x180.A, iv x180.B]) r185 hx186 S1) rfl (lb rfl) fun _ a w S => ?_
    exact leafL ⟨rfl, S⟩
  · refine fI 69 (iv (w64 (x175 + r185))) [(62, iv x175), (68, iv r185)] 30 [some 23, some 29] rfl rfl rfl rfl rfl rfl fun G a w S => ?_
    refine sBin (iv (w64 (x175 + r185))) S (wN rfl) rfl rfl rfl (bAdd _ _ _ _ x175 r185) rfl (lb rfl) fun a S => ?_
    exact leafL ⟨rfl, S⟩
  · refine fI 70 (.slice ad7 s15.length cp8) [(9, .slice ad7 s15.length cp8)] 31 [none] rfl rfl rfl rfl rfl rfl fun G a w S => ?_
    refine sMove (.slice ad7 s15.length cp8) S (wN rfl) (.inl rfl) rfl rfl (lb rfl) fun a S => ?_
    exact leafL ⟨rfl, S⟩
  · refine fI 71 (iv s16) [(10, iv s16)] 32 [none] rfl rfl rfl rfl rfl rfl fun G a w S => ?_
    refine sMove (iv s16) S (wN rfl) (.inl rfl) rfl rfl (lb rfl) fun a S => ?_
    exact leafL ⟨rfl, S⟩
  · refine fI 72 (iv (w64 (s16 + 1))) [(71, iv s16)] 33 [some 32] rfl rfl rfl rfl rfl rfl fun G a w S => ?_
    refine sBin (iv (w64 (s16 + 1))) S (wN rfl) rfl rfl rfl (bAdd _ _ _ _ s16 1) rfl (lb rfl) fun a S => ?_
    exact leafL ⟨rfl, S⟩
  · refine fI 73 q231 [(70, .slice ad7 s15.length cp8), (72, iv (w64 (s16 + 1)))] 34 [some 31, some 33] rfl rfl rfl rfl rfl rfl fun G a w S => ?_
    refine sIdxV (v := .slice ad7 s15.length cp8) (k := .i64) (j := w64 (s16 + 1)) S (wN rfl) rfl rfl rfl hq232 rfl (lb rfl) fun a S => ?_
    exact leafL ⟨rfl, S⟩
  · refine ⟨_, [(73, q231)], rfl, (srcs_of [some 34] rfl rfl rfl), fun G a w S => ?_⟩
    refine sLoadHo (r := (rL (rI .i64))) (T := 101) (xs := s15) (x := x152) (p := (s16).toNat * (rL (rI .i64)).sz + 0) (u := .slice ad30 s41.length cp31) (v := .slice ad7 s15.length cp8) (vq := q231) (j := w64 (s16 + 1)) 0 S hp233 (wN rfl) rfl rfl rfl hx153 (idx_next (by decide) (hole_lim 0 S.mem rfl) hx35 hx153) (scal_L _) rfl rfl (lb rfl) fun a u255 S => ?_
    obtain ⟨ad256, cp257, _, rfl, _⟩ := S.mem.know (i := 0) (e := fRep (rL (rI .i64)) (u255) x152) rfl
    obtain ⟨q258, hq259, S⟩ := pIdx (P := Try.prog) (r := (rI .i64)) (v := .slice ad256 x152.length cp257) (xs := x152) (j := w64 (s40 + 1)) 101 3 0 S Try.underlying101 rfl rfl hx194
    obtain ⟨u260, S⟩ := pLoad (r := (rI .i64)) (q := q258) (x := x193) 0 S rfl
    obtain rfl : u260 = iv x193 := S.mem.know (i := 1) (e := fRep (rI .i64) (u260) x193) rfl
    refine leafL ⟨rfl, _, _, .inl ⟨74, (.slice ad256 x152.length cp257), [(42, 77, q258), (43, 78, iv x193), (54, 89, iv (w64 (x193 + r204)))], rfl, S, hz_of rfl, ?_⟩⟩
    refine node_by (A := anc_compare_table_api_Stitch__s0_2) (nf := [9, 39, 57]) (Y := [39]) 58 (by kernel_rfl) (by kernel_rfl) (by kernel_rfl) (by kernel_rfl) (by kernel_rfl) [42, 43, 54, 39, 0, 1, 2, 3, 4, 5, 6, 7, 8, 10, 13, 14, 15, 16, 17, 18, 20, 21, 22, 23, 24, 25, 26, 27, 28, 29, 30, 31, 32, 33, 34, 35, 36, 37, 38, 40, 41, 44, 45, 46, 47, 48, 49, 50, 51, 52, 53] (by kernel_rfl) (by decide) (by decide) (aF 0 57 (by decide) ?_ (aF 1 56 (by decide) ?_ (aF 2 55 (by decide) ?_ (aF 3 54 (by decide) ?_ (aF 4 53 (by decide) ?_ (aF 5 52 (by decide) ?_ (aF 6 51 (by decide) ?_ (aF 7 50 (by decide) ?_ (aF 8 49 (by decide) ?_ (aN 9 48 (by decide) ?_ (aF 10 47 (by decide) ?_ (aE 11 46 9 (by decide) (aE 12 45 9 (by decide) (aF 13 44 (by decide) ?_ (aF 14 43 (by decide) ?_ (aF 15 42 (by decide) ?_ (aF 16 41 (by decide) ?_ (aF 17 40 (by decide) ?_ (aF 18 39 (by decide) ?_ (aE 19 38 9 (by decide) (aF 20 37 (by decide) ?_ (aF 21 36 (by decide) ?_ (aF 22 35 (by decide) ?_ (aF 23 34 (by decide) ?_ (aF 24 33 (by decide) ?_ (aF 25 32 (by decide) ?_ (aF 26 31 (by decide) ?_ (aF 27 30 (by decide) ?_ (aF 28 29 (by decide) ?_ (aF 29 28 (by decide) ?_ (aF 30 27 (by decide) ?_ (aF 31 26 (by decide) ?_ (aF 32 25 (by decide) ?_ (aF 33 24 (by decide) ?_ (aF 34 23 (by decide) ?_ (aD 35 22 39 (by decide) (aD 36 21 39 (by decide) (aD 37 20 39 (by decide) (aD 38 19 39 (by decide) (aY 39 18 (by decide) (aF 40 17 (by decide) ?_ (aF 41 16 (by decide) ?_ (aF 42 15 (by decide) ?_ (aF 43 14 (by decide) ?_ (aF 44 13 (by decide) ?_ (aF 45 12 (by decide) ?_ (aF 46 11 (by decide) ?_ (aF 47 10 (by decide) ?_ (aF 48 9 (by decide) ?_ (aF 49 8 (by decide) ?_ (aF 50 7 (by decide) ?_ (aF 51 6 (by decide) ?_ (aF 52 5 (by decide) ?_ (aF 53 4 (by decide) ?_ (aF 54 3 (by decide) ?_ (aE 55 2 9 (by decide) (aE 56 1 9 (by decide) (aB 57 0 9 (by decide) (trivial))))))))))))))))))))))))))))))))))))))))))))))))))))))))))) [] (fun q hq => by cases hq) (fun hY => absurd (hY 9 (by decide)) (by decide))
    · refine fI 35 (.slice ad7 s15.length cp8) [(9, .slice ad7 s15.length cp8)] 4 [none] rfl rfl rfl rfl rfl rfl fun G a w S => ?_
      refine sMove (.slice ad7 s15.length cp8) S (wN rfl) (.inl rfl) rfl rfl (lb rfl) fun a S => ?_
      exact leafL ⟨rfl, S⟩
    · refine fI 36 (iv s16) [(10, iv s16)] 5 [none] rfl rfl rfl rfl rfl rfl fun G a w S => ?_
      refine sMove (iv s16) S (wN rfl) (.inl rfl) rfl rfl (lb rfl) fun a S => ?_
      exact leafL ⟨rfl, S⟩
    · refine fI 37 q213 [(35, .slice ad7 s15.length cp8), (36, iv s16)] 6 [some 4, some 5] rfl rfl rfl rfl rfl rfl fun G a w S => ?_
      refine sIdxV (v := .slice ad7 s15.length cp8) (k := .i64) (j := s16) S (wN rfl) rfl rfl rfl hq214 rfl (lb rfl) fun a S => ?_
      exact leafL ⟨rfl, S⟩
    · refine fI 38 (.slice ad30 s41.length cp31) [(37, q213)] 7 [some 6] rfl rfl rfl rfl rfl rfl fun G a w S => ?_
      refine sLoadHE (r := (rL (rI .i64))) (T := 101) (xs := s15) (u := .slice ad30 s41.length cp31) (v := .slice ad7 s15.length cp8) (vq := q213) (j := s16) 0 S hp215 (wN rfl) rfl rfl rfl rfl rfl (lb rfl) fun a S => ?_
      exact leafL ⟨rfl, S⟩
    · refine fI 39 (iv s40) [(11, iv s40)] 8 [none] rfl rfl rfl rfl rfl rfl fun G a w S => ?_
      refine sMove (iv s40) S (wN rfl) (.inl rfl) rfl rfl (lb rfl) fun a S => ?_
      exact leafL ⟨rfl, S⟩
    · refine fI 40 (.slice ad7 s15.length cp8) [(9, .slice ad7 s15.length cp8)] 9 [none] rfl rfl rfl rfl rfl rfl fun G a w S => ?_
      refine sMove (.slice ad7 s15.length cp8) S (wN rfl) (.inl rfl) rfl rfl (lb rfl) fun a S => ?_
      exact leafL ⟨rfl, S⟩
    · refine fI 41 (iv s16) [(10, iv s16)] 10 [none] rfl rfl rfl rfl rfl rfl fun G a w S => ?_
      refine sMove (iv s16) S (wN rfl) (.inl rfl) rfl rfl (lb rfl) fun a S => ?_
      exact leafL ⟨rfl, S⟩
    · refine fI 42 (iv (w64 (s16 + 1))) [(41, iv s16)] 11 [some 10] rfl rfl rfl rfl rfl rfl fun G a w S => ?_
      refine sBin (iv (w64 (s16 + 1))) S (wN rfl) rfl rfl rfl (bAdd _ _ _ _ s16 1) rfl (lb rfl) fun a S => ?_
      exact leafL ⟨rfl, S⟩
    · refine fI 43 q216 [(40, .slice ad7 s15.length cp8), (42, iv (w64 (s16 + 1)))] 12 [some 9, some 11] rfl rfl rfl rfl rfl rfl fun G a w S => ?_
      refine sIdxV (v := .slice ad7 s15.length cp8) (k := .i64) (j := w64 (s16 + 1)) S (wN rfl) rfl rfl rfl hq217 rfl (lb rfl) fun a S => ?_
      exact leafL ⟨rfl, S⟩
    · refine ⟨_, [(43, q216)], rfl, (srcs_of [some 12] rfl rfl rfl), fun G a w S => ?_⟩
      refine sLoadHo (r := (rL (rI .i64))) (T := 101) (xs := s15) (x := x152) (p := (s16).toNat * (rL (rI .i64)).sz + 0) (u := .slice ad30 s41.length cp31) (v := .slice ad7 s15.length cp8) (vq := q216) (j := w64 (s16 + 1)) 0 S hp218 (wN rfl) rfl rfl rfl hx153 (idx_next (by decide) (hole_lim 0 S.mem rfl) hx35 hx153) (scal_L _) rfl rfl (lb rfl) fun a u261 S => ?_
      obtain ⟨ad262, cp263, _, rfl, _⟩ := S.mem.know (i := 0) (e := fRep (rL (rI .i64)) (u261) x152) rfl
      obtain ⟨q264, hq265, S⟩ := pIdx (P := Try.prog) (r := (rI .i64)) (v := .slice ad262 x152.length cp263) (xs := x152) (j := s40) 101 3 0 S Try.underlying101 rfl rfl hx161
      obtain ⟨u266, S⟩ := pLoad (r := (rI .i64)) (q := q264) (x := x160) 0 S rfl
      obtain rfl : u266 = iv x160 := S.mem.know (i := 1) (e := fRep (rI .i64) (u266) x160) rfl
      obtain ⟨q267, hq268, hp269⟩ := pIdxR (P := Try.prog) (r := (rI .i64)) (T := 3) (v := .slice ad30 s41.length cp31) (xs := s41) (j := s40) 101 3 1 S Try.underlying101 rfl rfl hx207
      refine leafL ⟨rfl, _, _, .inl ⟨44, (.slice ad262 x152.length cp263), [(11, 46, q264), (12, 47, iv x160), (19, 54, iv (w64 (x160 + r170))), (55, 90, iv (min3 (w64 (x160 + r170)) (w64 (x175 + r185)) (w64 (x193 + r204)))), (56, 91, q267)], rfl, S, hz_of rfl, ?_⟩⟩
      refine node_by (A := anc_compare_table_api_Stitch__s0_2) (nf := [9, 39, 57]) (Y := [9, 39]) 58 (by kernel_rfl) (by kernel_rfl) (by kernel_rfl) (by kernel_rfl) (by kernel_rfl) [11, 12, 19, 55, 56, 9, 42, 43, 54, 39, 0, 1, 2, 3, 4, 5, 6, 7, 8, 10, 13, 14, 15, 16, 17, 18, 20, 21, 22, 23, 24, 25, 26, 27, 28, 29, 30, 31, 32, 33, 34, 35, 36, 37, 38, 40, 41, 44, 45, 46, 47, 48, 49, 50, 51, 52, 53] (by kernel_rfl) (by decide) (by decide) (aF 0 57 (by decide) ?_ (aF 1 56 (by decide) ?_ (aF 2 55 (by decide) ?_ (aF 3 54 (by decide) ?_ (aF 4 53 (by decide) ?_ (aD 5 52 9 (by decide) (aD 6 51 9 (by decide) (aD 7 50 9 (by decide) (aD 8 49 9 (by decide) (aY 9 48 (by decide) (aF 10 47 (by decide) ?_ (aF 11 46 (by decide) ?_ (aF 12 45 (by decide) ?_ (aF 13 44 (by decide) ?_ (aF 14 43 (by decide) ?_ (aF 15 42 (by decide) ?_ (aF 16 41 (by decide) ?_ (aF 17 40 (by decide) ?_ (aF 18 39 (by decide) ?_ (aF 19 38 (by decide) ?_ (aF 20 37 (by decide) ?_ (aF 21 36 (by decide) ?_ (aF 22 35 (by decide) ?_ (aF 23 34 (by decide) ?_ (aF 24 33 (by decide) ?_ (aF 25 32 (by decide) ?_ (aF 26 31 (by decide) ?_ (aF 27 30 (by decide) ?_ (aF 28 29 (by decide) ?_ (aF 29 28 (by decide) ?_ (aF 30 27 (by decide) ?_ (aF 31 26 (by decide) ?_ (aF 32 25 (by decide) ?_ (aF 33 24 (by decide) ?_ (aF 34 23 (by decide) ?_ (aD 35 22 39 (by decide) (aD 36 21 39 (by decide) (aD 37 20 39 (by decide) (aD 38 19 39 (by decide) (aY 39 18 (by decide) (aF 40 17 (by decide) ?_ (aF 41 16 (by decide) ?_ (aF 42 15 (by decide) ?_ (aF 43 14 (by decide) ?_ (aF 44 13 (by decide) ?_ (aF 45 12 (by decide) ?_ (aF 46 11 (by decide) ?_ (aF 47 10 (by decide) ?_ (aF 48 9 (by decide) ?_ (aF 49 8 (by decide) ?_ (aF 50 7 (by decide) ?_ (aF 51 6 (by decide) ?_ (aF 52 5 (by decide) ?_ (aF 53 4 (by decide) ?_ (aF 54 3 (by decide) ?_ (aF 55 2 (by decide) ?_ (aF 56 1 (by decide) ?_ (aN 57 0 (by decide) ?_ (trivial))))))))))))))))))))))))))))))))))))))))))))))))))))))))))) [] (fun q hq => by cases hq) (fun hY => absurd (hY 57 (by decide)) (by decide))
      · refine fI 35 (.slice ad7 s15.length cp8) [(9, .slice ad7 s15.length cp8)] 10 [none] rfl rfl rfl rfl rfl rfl fun G a w S => ?_
        refine sMove (.slice ad7 s15.length cp8) S (wN rfl) (.inl rfl) rfl rfl (lb rfl) fun a S => ?_
        exact leafL ⟨rfl, S⟩
      · refine fI 36 (iv s16) [(10, iv s16)] 11 [none] rfl rfl rfl rfl rfl rfl fun G a w S => ?_
        refine sMove (iv s16) S (wN rfl) (.inl rfl) rfl rfl (lb rfl) fun a S => ?_
        exact leafL ⟨rfl, S⟩
      · refine fI 37 q213 [(35, .slice ad7 s15.length cp8), (36, iv s16)] 12 [some 10, some 11] rfl rfl rfl rfl rfl rfl fun G a w S => ?_
        refine sIdxV (v := .slice ad7 s15.length cp8) (k := .i64) (j := s16) S (wN rfl) rfl rfl rfl hq214 rfl (lb rfl) fun a S => ?_
        exact leafL ⟨rfl, S⟩
      · refine fI 38 (.slice ad30 s41.length cp31) [(37, q213)] 13 [some 12] rfl rfl rfl rfl rfl rfl fun G a w S => ?_
        refine sLoadHE (r := (rL (rI .i64))) (T := 101) (xs := s15) (u := .slice ad30 s41.length cp31) (v := .slice ad7 s15.length cp8) (vq := q213) (j := s16) 0 S hp215 (wN rfl) rfl rfl rfl rfl rfl (lb rfl) fun a S => ?_
        exact leafL ⟨rfl, S⟩
      · refine fI 39 (iv s40) [(11, iv s40)] 14 [none] rfl rfl rfl rfl rfl rfl fun G a w S => ?_
        refine sMove (iv s40) S (wN rfl) (.inl rfl) rfl rfl (lb rfl) fun a S => ?_
        exact leafL ⟨rfl, S⟩
      · refine fI 45 (iv s40) [(11, iv s40)] 19 [none] rfl rfl rfl rfl rfl rfl fun G a w S => ?_
        refine sMove (iv s40) S (wN rfl) (.inl rfl) rfl rfl (lb rfl) fun a S => ?_
        exact leafL ⟨rfl, S⟩
      · refine fI 46 q264 [(44, .slice ad262 x152.length cp263), (45, iv s40)] 0 [some 5, some 19] rfl rfl rfl rfl rfl rfl fun G a w S => ?_
        refine sIdxV (v := .slice ad262 x152.length cp263) (k := .i64) (j := s40) S (wN rfl) rfl rfl rfl hq265 rfl (lb rfl) fun a S => ?_
        exact leafL ⟨rfl, S⟩
      · refine fI 47 (iv x160) [(46, q264)] 1 [some 0] rfl rfl rfl rfl rfl rfl fun G a w S => ?_
        refine sLoadV1 (vq := q264) 0 (iv x160) S (wN rfl) rfl rfl rfl rfl rfl (lb rfl) fun a S => ?_
        exact leafL ⟨rfl, S⟩
      · refine fI 48 (.func (.func 84) #[] #[]) [(2, .func (.func 84) #[] #[])] 20 [none] rfl rfl rfl rfl rfl rfl fun G a w S => ?_
        refine sMove (.func (.func 84) #[] #[]) S (wN rfl) (.inl rfl) rfl rfl (lb rfl) fun a S => ?_
        exact leafL ⟨rfl, S⟩
      · refine fI 49 (.slice ad1 p0.length cp2) [(0, .slice ad1 p0.length cp2)] 21 [none] rfl rfl rfl rfl rfl rfl fun G a w S => ?_
        refine sMove (.slice ad1 p0.length cp2) S (wN rfl) (.inl rfl) rfl rfl (lb rfl) fun a S => ?_
        exact leafL ⟨rfl, S⟩
      · refine fI 50 (iv s16) [(10, iv s16)] 22 [none] rfl rfl rfl rfl rfl rfl fun G a w S => ?_
        refine sMove (iv s16) S (wN rfl) (.inl rfl) rfl rfl (lb rfl) fun a S => ?_
        exact leafL ⟨rfl, S⟩
      · refine fI 51 q219 [(49, .slice ad1 p0.length cp2), (50, iv s16)] 23 [some 21, some 22] rfl rfl rfl rfl rfl rfl fun G a w S => ?_
        refine sIdxV (v := .slice ad1 p0.length cp2) (k := .i64) (j := s16) S (wN rfl) rfl rfl rfl hq220 rfl (lb rfl) fun a S => ?_
        exact leafL ⟨rfl, S⟩
      · refine fI 52 (.agg #[.int .u8 x165.Kind, .bool x165.Purl, iv x165.A, iv x165.B]) [(51, q219)] 24 [some 23] rfl rfl rfl rfl rfl rfl fun G a w S => ?_
        refine sLoadVN (vq := q219) 17 [.int .u8 x165.Kind, .bool x165.Purl, iv x165.A, iv x165.B] S (wN rfl) rfl rfl rfl rfl rfl rfl (lb rfl) fun a S => ?_
        exact leafL ⟨rfl, S⟩
      · refine fI 53 (iv r170) [(48, .func (.func 84) #[] #[]), (52, .agg #[.int .u8 x165.Kind, .bool x165.Purl, iv x165.A, iv x165.B])] 25 [some 20, some 24] rfl rfl rfl rfl rfl rfl fun G a w S => ?_
        have S1 := S.mem
        refine sCallVQ (X := Unit) (g := 84) (vs := [.agg #[.int .u8 x165.Kind, .bool x165.Purl, iv x165.A, iv x165.B]]) (caps := []) (val := fun _ => iv r170) S (wN rfl) rfl rfl callee84 rfl (S1.quiet [12] rfl) (fun E1 w1 S1 => c_compare_cellTable_1 E1 w1 x165 (.agg #[.int .u8 x165.Kind, .bool x165.Purl, iv x165.A, iv x165.B]) r170 hx171 S1) rfl (lb rfl) fun _ a w S => ?_
        exact leafL ⟨rfl, S⟩
      · refine fI 54 (iv (w64 (x160 + r170))) [(47, iv x160), (53, iv r170)] 2 [some 1, some 25] rfl rfl rfl rfl rfl rfl fun G a w S => ?_
        refine sBin (iv (w64 (x160 + r170))) S (wN rfl) rfl rfl rfl (bAdd _ _ _ _ x160 r170) rfl (lb rfl) fun a S => ?_
        exact leafL ⟨rfl, S⟩
      · refine fI 55 (.slice ad7 s15.length cp8) [(9, .slice ad7 s15.length cp8)] 26 [none] rfl rfl rfl rfl rfl rfl fun G a w S => ?_
        refine sMove (.slice ad7 s15.length cp8) S (wN rfl) (.inl rfl) rfl rfl (lb rfl) fun a S => ?_
        exact leafL ⟨rfl, S⟩
      · refine fI 56 (iv s16) [(10, iv s16)] 27 [none] rfl rfl rfl rfl rfl rfl fun G a w S => ?_
        refine sMove (iv s16) S (wN rfl) (.inl rfl) rfl rfl (lb rfl) fun a S => ?_
        exact leafL ⟨rfl, S⟩
      · refine fI 57 q222 [(55, .slice ad7 s15.length cp8), (56, iv s16)] 28 [some 26, some 27] rfl rfl rfl rfl rfl rfl fun G a w S => ?_
        refine sIdxV (v := .slice ad7 s15.length cp8) (k := .i64) (j := s16) S (wN rfl) rfl rfl rfl hq223 rfl (lb rfl) fun a S => ?_
        exact leafL ⟨rfl, S⟩
      · refine fI 58 (.slice ad30 s41.length cp31) [(57, q222)] 29 [some 28] rfl rfl rfl rfl rfl rfl fun G a w S => ?_
        refine sLoadHE (r := (rL (rI .i64))) (T := 101) (xs := s15) (u := .slice ad30 s41.length cp31) (v := .slice ad7 s15.length cp8) (vq := q222) (j := s16) 0 S hp224 (wN rfl) rfl rfl rfl rfl rfl (lb rfl) fun a S => ?_
        exact leafL ⟨rfl, S⟩
      · refine fI 59 (iv s40) [(11, iv s40)] 30 [none] rfl rfl rfl rfl rfl rfl fun G a w S => ?_
        refine sMove (iv s40) S (wN rfl) (.inl rfl) rfl rfl (lb rfl) fun a S => ?_
        exact leafL ⟨rfl, S⟩
      · refine fI 60 (iv (w64 (s40 + 1))) [(59, iv s40)] 31 [some 30] rfl rfl rfl rfl rfl rfl fun G a w S => ?_
        refine sBin (iv (w64 (s40 + 1))) S (wN rfl) rfl rfl rfl (bAdd _ _ _ _ s40 1) rfl (lb rfl) fun a S => ?_
        exact leafL ⟨rfl, S⟩
      · refine fI 61 q225 [(58, .slice ad30 s41.length cp31), (60, iv (w64 (s40 + 1)))] 32 [some 29, some 31] rfl rfl rfl rfl rfl rfl fun G a w S => ?_
        refine sIdxV (v := .slice ad30 s41.length cp31) (k := .i64) (j := w64 (s40 + 1)) S (wN rfl) rfl rfl rfl hq226 rfl (lb rfl) fun a S => ?_
        exact leafL ⟨rfl, S⟩
      · refine fI 62 (iv x175) [(61, q225)] 33 [some 32] rfl rfl rfl rfl rfl rfl fun G a w S => ?_
        refine sLoadR (r := (rI .i64)) (T := 3) (xs := s41) (x := x175) (v := .slice ad30 s41.length cp31) (vq := q225) (j := w64 (s40 + 1)) 1 (iv x175) S hp227 (wN rfl) rfl rfl rfl hx176 (fun _ _ _ h => h) (scal_I _) rfl rfl (lb rfl) fun a S => ?_
        exact leafL ⟨rfl, S⟩
      · refine fI 63 (.func (.func 84) #[] #[]) [(2, .func (.func 84) #[] #[])] 34 [none] rfl rfl rfl rfl rfl rfl fun G a w S => ?_
        refine sMove (.func (.func 84) #[] #[]) S (wN rfl) (.inl rfl) rfl rfl (lb rfl) fun a S => ?_
        exact leafL ⟨rfl, S⟩
      · refine fI 64 (.slice ad3 p1.length cp4) [(1, .slice ad3 p1.length cp4)] 35 [none] rfl rfl rfl rfl rfl rfl fun G a w S => ?_
        refine sMove (.slice ad3 p1.length cp4) S (wN rfl) (.inl rfl) rfl rfl (lb rfl) fun a S => ?_
        exact leafL ⟨rfl, S⟩
      · refine fI 65 (iv s40) [(11, iv s40)] 36 [none] rfl rfl rfl rfl rfl rfl fun G a w S => ?_
        refine sMove (iv s40) S (wN rfl) (.inl rfl) rfl rfl (lb rfl) fun a S => ?_
        exact leafL ⟨rfl, S⟩
      · refine fI 66 q228 [(64, .slice ad3 p1.length cp4), (65, iv s40)] 37 [some 35, some 36] rfl rfl rfl rfl rfl rfl fun G a w S => ?_
        refine sIdxV (v := .slice ad3 p1.length cp4) (k := .i64) (j := s40) S (wN rfl) rfl rfl rfl hq229 rfl (lb rfl) fun a S => ?_
        exact leafL ⟨rfl, S⟩
      · refine fI 67 (.agg #[.int .u8 x180.Kind, .bool x180.Purl, iv x180.A, iv x180.B]) [(66, q228)] 38 [some 37] rfl rfl rfl rfl rfl rfl fun G a w S => ?_
        refine sLoadVN (vq := q228) 14 [.int .u8 x180.Kind, .bool x180.Purl, iv x180.A, iv x180.B] S (wN rfl) rfl rfl rfl rfl rfl rfl (lb rfl) fun a S => ?_
        exact leafL ⟨rfl, S⟩
      · refine fI 68 (iv r185) [(63, .func (.func 84) #[] #[]), (67, .agg #[.int .u8 x180.Kind, .bool x180.Purl, iv x180.A, iv x180.B])] 39 [some 34, some 38] rfl rfl rfl rfl rfl rfl fun G a w S => ?_
        have S1 := S.mem
        refine sCallVQ (X := Unit) (g := 84) (vs := [.agg #[.int .u8 x180.Kind, .bool x180.Purl, iv x180.A, iv x180.B]]) (caps := []) (val := fun _ => iv r185) S (wN rfl) rfl rfl callee84 rfl (S1.quiet [9] rfl) (fun E1 w1 S1 => c_compare_cellTable_1 E1 w1 x180 (.agg #[.int .u8 x180.Kind, .bool x180.Purl, iv x180.A, iv x180.B]) r185 hx186 S1) rfl (lb rfl) fun _ a w S => ?_
        exact leafL ⟨rfl, S⟩
      · refine fI 69 (iv (w64 (x175 + r185))) [(62, iv x175), (68, iv r185)] 40 [some 33, some 39] rfl rfl rfl rfl rfl rfl fun G a w S => ?_
        refine sBin (iv (w64 (x175 + r185))) S (wN rfl) rfl rfl rfl (bAdd _ _ _ _ x175 r185) rfl (lb rfl) fun a S => ?_
        exact leafL ⟨rfl, S⟩
      · refine fI 75 (iv s40) [(11, iv s40)] 45 [none] rfl rfl rfl rfl rfl rfl fun G a w S => ?_
        refine sMove (iv s40) S (wN rfl) (.inl rfl) rfl rfl (lb rfl) fun a S => ?_
        exact leafL ⟨rfl, S⟩
      · refine fI 76 (iv (w64 (s40 + 1))) [(75, iv s40)] 46 [some 45] rfl rfl rfl rfl rfl rfl fun G a w S => ?_
        refine sBin (iv (w64 (s40 + 1))) S (wN rfl) rfl rfl rfl (bAdd _ _ _ _ s40 1) rfl (lb rfl) fun a S => ?_
        exact leafL ⟨rfl, S⟩
      · refine fI 77 q258 [(74, .slice ad256 x152.length cp257), (76, iv (w64 (s40 + 1)))] 6 [some 9, some 46] rfl rfl rfl rfl rfl rfl fun G a w S => ?_
        refine sIdxV (v := .slice ad256 x152.length cp257) (k := .i64) (j := w64 (s40 + 1)) S (wN rfl) rfl rfl rfl hq259 rfl (lb rfl) fun a S => ?_
        exact leafL ⟨rfl, S⟩
      · refine fI 78 (iv x193) [(77, q258)] 7 [some 6] rfl rfl rfl rfl rfl rfl fun G a w S => ?_
        refine sLoadV1 (vq := q258) 4 (iv x193) S (wN rfl) rfl rfl rfl rfl rfl (lb rfl) fun a S => ?_
        exact leafL ⟨rfl, S⟩
      · refine fI 79 (.func (.func 85) #[] #[]) [(3, .func (.func 85) #[] #[])] 47 [none] rfl rfl rfl rfl rfl rfl fun G a w S => ?_
        refine sMove (.func (.func 85) #[] #[]) S (wN rfl) (.inl rfl) rfl rfl (lb rfl) fun a S => ?_
        exact leafL ⟨rfl, S⟩
      · refine fI 80 (.slice ad1 p0.length cp2) [(0, .slice ad1 p0.length cp2)] 48 [none] rfl rfl rfl rfl rfl rfl fun G a w S => ?_
        refine sMove (.slice ad1 p0.length cp2) S (wN rfl) (.inl rfl) rfl rfl (lb rfl) fun a S => ?_
        exact leafL ⟨rfl, S⟩
      · refine fI 81 (iv s16) [(10, iv s16)] 49 [none] rfl rfl rfl rfl rfl rfl fun G a w S => ?_
        refine sMove (iv s16) S (wN rfl) (.inl rfl) rfl rfl (lb rfl) fun a S => ?_
        exact leafL ⟨rfl, S⟩
      · refine fI 82 q234 [(80, .slice ad1 p0.length cp2), (81, iv s16)] 50 [some 48, some 49] rfl rfl rfl rfl rfl rfl fun G a w S => ?_
        refine sIdxV (v := .slice ad1 p0.length cp2) (k := .i64) (j := s16) S (wN rfl) rfl rfl rfl hq235 rfl (lb rfl) fun a S => ?_
        exact leafL ⟨rfl, S⟩
      · refine fI 83 (.agg #[.int .u8 x165.Kind, .bool x165.Purl, iv x165.A, iv x165.B]) [(82, q234)] 51 [some 50] rfl rfl rfl rfl rfl rfl fun G a w S => ?_
        refine sLoadVN (vq := q234) 11 [.int .u8 x165.Kind, .bool x165.Purl, iv x165.A, iv x165.B] S (wN rfl) rfl rfl rfl rfl rfl rfl (lb rfl) fun a S => ?_
        exact leafL ⟨rfl, S⟩
      · refine fI 84 (.slice ad3 p1.length cp4) [(1, .slice ad3 p1.length cp4)] 52 [none] rfl rfl rfl rfl rfl rfl fun G a w S => ?_
        refine sMove (.slice ad3 p1.length cp4) S (wN rfl) (.inl rfl) rfl rfl (lb rfl) fun a S => ?_
        exact leafL ⟨rfl, S⟩
      · refine fI 85 (iv s40) [(11, iv s40)] 53 [none] rfl rfl rfl rfl rfl rfl fun G a w S => ?_
        refine sMove (iv s40) S (wN rfl) (.inl rfl) rfl rfl (lb rfl) fun a S => ?_
        exact leafL ⟨rfl, S⟩
      · refine fI 86 q237 [(84, .slice ad3 p1.length cp4), (85, iv s40)] 54 [some 52, some 53] rfl rfl rfl rfl rfl rfl fun G a w S => ?_
        refine sIdxV (v := .slice ad3 p1.length cp4) (k := .i64) (j := s40) S (wN rfl) rfl rfl rfl hq238 rfl (lb rfl) fun a S => ?_
        exact leafL ⟨rfl, S⟩
      · refine fI 87 (.agg #[.int .u8 x180.Kind, .bool x180.Purl, iv x180.A, iv x180.B]) [(86, q237)] 55 [some 54] rfl rfl rfl rfl rfl rfl fun G a w S => ?_
        refine sLoadVN (vq := q237) 8 [.int .u8 x180.Kind, .bool x180.Purl, iv x180.A, iv x180.B] S (wN rfl) rfl rfl rfl rfl rfl rfl (lb rfl) fun a S => ?_
        exact leafL ⟨rfl, S⟩
      · refine fI 88 (iv r204) [(79, .func (.func 85) #[] #[]), (83, .agg #[.int .u8 x165.Kind, .bool x165.Purl, iv x165.A, iv x165.B]), (87, .agg #[.int .u8 x180.Kind, .bool x180.Purl, iv x180.A, iv x180.B])] 56 [some 47, some 51, some 55] rfl rfl rfl rfl rfl rfl fun G a w S => ?_
        have S1 := S.mem
        refine sCallVQ (X := Unit) (g := 85) (vs := [.agg #[.int .u8 x165.Kind, .bool x165.Purl, iv x165.A, iv x165.B], .agg #[.int .u8 x180.Kind, .bool x180.Purl, iv x180.A, iv x180.B]]) (caps := []) (val := fun _ => iv r204) S (wN rfl) rfl rfl callee85 rfl (S1.quiet [12, 9] rfl) (fun E1 w1 S1 => c_compare_cellTable_2 E1 w1 x165 (.agg #[.int .u8 x165.Kind, .bool x165.Purl, iv x165.A, iv x165.B]) x180 (.agg #[.int .u8 x180.Kind, .bool x180.Purl, iv x180.A, iv x180.B]) r204 hx205 S1) rfl (lb rfl) fun _ a w S => ?_
        exact leafL ⟨rfl, S⟩
      · refine fI 89 (iv (w64 (x193 + r204))) [(78, iv x193), (88, iv r204)] 8 [some 7, some 56] rfl rfl rfl rfl rfl rfl fun G a w S => ?_
        refine sBin (iv (w64 (x193 + r204))) S (wN rfl) rfl rfl rfl (bAdd _ _ _ _ x193 r204) rfl (lb rfl) fun a S => ?_
        exact leafL ⟨rfl, S⟩
      · refine fI 90 (iv (min3 (w64 (x160 + r170)) (w64 (x175 + r185)) (w64 (x193 + r204)))) [(54, iv (w64 (x160 + r170))), (69, iv (w64 (x175 + r185))), (89, iv (w64 (x193 + r204)))] 3 [some 2, some 40, some 8] rfl rfl rfl rfl rfl rfl fun G a w S => ?_
        refine sMin3 (p := w64 (x160 + r170)) (q := w64 (x175 + r185)) (r := w64 (x193 + r204)) S (wN rfl) rfl rfl rfl rfl rfl (lb rfl) fun a S => ?_
        exact leafL ⟨rfl, S⟩
      · refine fI 91 q267 [(38, .slice ad30 s41.length cp31), (39, iv s40)] 4 [some 13, some 14] rfl rfl rfl rfl rfl rfl fun G a w S => ?_
        refine sIdxV (v := .slice ad30 s41.length cp31) (k := .i64) (j := s40) S (wN rfl) rfl rfl rfl hq268 rfl (lb rfl) fun a S => ?_
        exact leafL ⟨rfl, S⟩
      refine ⟨_, [(90, iv (min3 (w64 (x160 + r170)) (w64 (x175 + r185)) (w64 (x193 + r204)))), (91, q267)], rfl, (srcs_of [some 3, some 4] rfl rfl rfl), fun G a w S => ?_⟩
      refine sStoreR (r := (rI .i64)) (T := 3) (xs := s41) (ys := l211) (y := (min3 (w64 (x160 + r170)) (w64 (x175 + r185)) (w64 (x193 + r204)))) (v := .slice ad30 s41.length cp31) (vq := q267) (u := iv (min3 (w64 (x160 + r170)) (w64 (x175 + r185)) (w64 (x193 + r204)))) (j := s40) 1 S hp269 (wN rfl) rfl rfl rfl rfl rfl hx212 rfl rfl fun a w S => ?_
      refine leafL ⟨rfl, _, _, .inr ⟨[], rfl, S, hz_of rfl, ?_⟩⟩
      refine node_by (A := anc_compare_table_api_Stitch__s0_2) (nf := [9, 39, 57]) (Y := [57, 9, 39]) 58 (by kernel_rfl) (by kernel_rfl) (by kernel_rfl) (by kernel_rfl) (by kernel_rfl) [11, 12, 19, 55, 56, 9, 42, 43, 54, 39, 0, 1, 2, 3, 4, 5, 6, 7, 8, 10, 13, 14, 15, 16, 17, 18, 20, 21, 22, 23, 24, 25, 26, 27, 28, 29, 30, 31, 32, 33, 34, 35, 36, 37, 38, 40, 41, 44, 45, 46, 47, 48, 49, 50, 51, 52, 53] (by kernel_rfl) (by decide) (by decide) (aD 0 57 57 (by decide) (aD 1 56 57 (by decide) (aD 2 55 57 (by decide) (aD 3 54 57 (by decide) (aD 4 53 57 (by decide) (aD 5 52 57 (by decide) (aD 6 51 57 (by decide) (aD 7 50 57 (by decide) (aD 8 49 57 (by decide) (aY 9 48 (by decide) (aD 10 47 57 (by decide) (aD 11 46 57 (by decide) (aD 12 45 57 (by decide) (aD 13 44 57 (by decide) (aD 14 43 57 (by decide) (aD 15 42 57 (by decide) (aD 16 41 57 (by decide) (aD 17 40 57 (by decide) (aD 18 39 57 (by decide) (aD 19 38 57 (by decide) (aD 20 37 57 (by decide) (aD 21 36 57 (by decide) (aD 22 35 57 (by decide) (aD 23 34 57 (by decide) (aD 24 33 57 (by decide) (aD 25 32 57 (by decide) (aD 26 31 57 (by decide) (aD 27 30 57 (by decide) (aD 28 29 57 (by decide) (aD 29 28 57 (by decide) (aD 30 27 57 (by decide) (aD 31 26 57 (by decide) (aD 32 25 57 (by decide) (aD 33 24 57 (by decide) (aD 34 23 57 (by decide) (aD 35 22 57 (by decide) (aD 36 21 57 (by decide) (aD 37 20 57 (by decide) (aD 38 19 57 (by decide) (aY 39 18 (by decide) (aD 40 17 57 (by decide) (aD 41 16 57 (by decide) (aD 42 15 57 (by decide) (aD 43 14 57 (by decide) (aD 44 13 57 (by decide) (aD 45 12 57 (by decide) (aD 46 11 57 (by decide) (aD 47 10 57 (by decide) (aD 48 9 57 (by decide) (aD 49 8 57 (by decide) (aD 50 7 57 (by decide) (aD 51 6 57 (by decide) (aD 52 5 57 (by decide) (aD 53 4 57 (by decide) (aD 54 3 57 (by decide) (aD 55 2 57 (by decide) (aD 56 1 57 (by decide) (aY 57 0 (by decide) (trivial))))))))))))))))))))))))))))))))))))))))))))))))))))))))))) [(0, .slice ad1 p0.length cp2), (1, .slice ad3 p1.length cp4), (2, .func (.func 84) #[] #[]), (3, .func (.func 85) #[] #[]), (9, .slice ad7 s15.length cp8), (10, iv s16), (11, iv s40)] (fin_of [none, none, none, none, none, none, none] rfl (by kernel_rfl) (by kernel_rfl)) (fun _ a w S => ?_)
      rw [setO_v hx212 ad30 cp31] at S
      exact leafB (leafB (leafT (⟨l211, Option.some.inj h, S.fix [1, 0] [20, 21] (by decide) rfl rfl rfl⟩)))
    · refine fI 45 (iv s40) [(11, iv s40)] 13 [none] rfl rfl rfl rfl rfl rfl fun G a w S => ?_
      refine sMove (iv s40) S (wN rfl) (.inl rfl) rfl rfl (lb rfl) fun a S => ?_
      exact leafL ⟨rfl, S⟩
    · refine fI 48 (.func (.func 84) #[] #[]) [(2, .func (.func 84) #[] #[])] 14 [none] rfl rfl rfl rfl rfl rfl fun G a w S => ?_
      refine sMove (.func (.func 84) #[] #[]) S (wN rfl) (.inl rfl) rfl rfl (lb rfl) fun a S => ?_
      exact leafL ⟨rfl, S⟩
    · refine fI 49 (.slice ad1 p0.length cp2) [(0, .slice ad1 p0.length cp2)] 15 [none] rfl rfl rfl rfl rfl rfl fun G a w S => ?_
      refine sMove (.slice ad1 p0.length cp2) S (wN rfl) (.inl rfl) rfl rfl (lb rfl) fun a S => ?_
      exact leafL ⟨rfl, S⟩
    · refine fI 50 (iv s16) [(10, iv s16)] 16 [none] rfl rfl rfl rfl rfl rfl fun G a w S => ?_
      refine sMove (iv s16) S (wN rfl) (.inl rfl) rfl rfl (lb rfl) fun a S => ?_
      exact leafL ⟨rfl, S⟩
    · refine fI 51 q219 [(49, .slice ad1 p0.length cp2), (50, iv s16)] 17 [some 15, some 16] rfl rfl rfl rfl rfl rfl fun G a w S => ?_
      refine sIdxV (v := .slice ad1 p0.length cp2) (k := .i64) (j := s16) S (wN rfl) rfl rfl rfl hq220 rfl (lb rfl) fun a S => ?_
      exact leafL ⟨rfl, S⟩
    · refine fI 52 (.agg #[.int .u8 x165.Kind, .bool x165.Purl, iv x165.A, iv x165.B]) [(51, q219)] 18 [some 17] rfl rfl rfl rfl rfl rfl fun G a w S => ?_
      refine sLoadVN (vq := q219) 13 [.int .u8 x165.Kind, .bool x165.Purl, iv x165.A, iv x165.B] S (wN rfl) rfl rfl rfl rfl rfl rfl (lb rfl) fun a S => ?_
      exact leafL ⟨rfl, S⟩
    · refine fI 53 (iv r170) [(48, .func (.func 84) #[] #[]), (52, .agg #[.int .u8 x165.Kind, .bool x165.Purl, iv x165.A, iv x165.B])] 19 [some 14, some 18] rfl rfl rfl rfl rfl rfl fun G a w S => ?_
      have S1 := S.mem
      refine sCallVQ (X := Unit) (g := 84) (vs := [.agg #[.int .u8 x165.Kind, .bool x165.Purl, iv x165.A, iv x165.B]]) (caps := []) (val := fun _ => iv r170) S (wN rfl) rfl rfl callee84 rfl (S1.quiet [8] rfl) (fun E1 w1 S1 => c_compare_cellTable_1 E1 w1 x165 (.agg #[.int .u8 x165.Kind, .bool x165.Purl, iv x165.A, iv x165.B]) r170 hx171 S1) rfl (lb rfl) fun _ a w S => ?_
      exact leafL ⟨rfl, S⟩
    · refine fI 55 (.slice ad7 s15.length cp8) [(9, .slice ad7 s15.length cp8)] 20 [none] rfl rfl rfl rfl rfl rfl fun G a w S => ?_
      refine sMove (.slice ad7 s15.length cp8) S (wN rfl) (.inl rfl) rfl rfl (lb rfl) fun a S => ?_
      exact leafL ⟨rfl, S⟩
    · refine fI 56 (iv s16) [(10, iv s16)] 21 [none] rfl rfl rfl rfl rfl rfl fun G a w S => ?_
      refine sMove (iv s16) S (wN rfl) (.inl rfl) rfl rfl (lb rfl) fun a S => ?_
      exact leafL ⟨rfl, S⟩
    · refine fI 57 q222 [(55, .slice ad7 s15.length cp8), (56, iv s16)] 22 [some 20, some 21] rfl rfl rfl rfl rfl rfl fun G a w S => ?_
      refine sIdxV (v := .slice ad7 s15.length cp8) (k := .i64) (j := s16) S (wN rfl) rfl rfl rfl hq223 rfl (lb rfl) fun a S => ?_
      exact leafL ⟨rfl, S⟩
    · refine fI 58 (.slice ad30 s41.length cp31) [(57, q222)] 23 [some 22] rfl rfl rfl rfl rfl rfl fun G a w S => ?_
      refine sLoadHE (r := (rL (rI .i64))) (T := 101) (xs := s15) (u := .slice ad30 s41.length cp31) (v := .slice ad7 s15.length cp8) (vq := q222) (j := s16) 0 S hp224 (wN rfl) rfl rfl rfl rfl rfl (lb rfl) fun a S => ?_
      exact leafL ⟨rfl, S⟩
    · refine fI 59 (iv s40) [(11, iv s40)] 24 [none] rfl rfl rfl rfl rfl rfl fun G a w S => ?_
      refine sMove (iv s40) S (wN rfl) (.inl rfl) rfl rfl (lb rfl) fun a S => ?_
      exact leafL ⟨rfl, S⟩
    · refine fI 60 (iv (w64 (s40 + 1))) [(59, iv s40)] 25 [some 24] rfl rfl rfl rfl rfl rfl fun G a w S => ?_
      refine sBin (iv (w64 (s40 + 1))) S (wN rfl) rfl rfl rfl (bAdd _ _ _ _ s40 1) rfl (lb rfl) fun a S => ?_
      exact leafL ⟨rfl, S⟩
    · refine fI 61 q225 [(58, .slice ad30 s41.length cp31), (60, iv (w64 (s40 + 1)))] 26 [some 23, some 25] rfl rfl rfl rfl rfl rfl fun G a w S => ?_
      refine sIdxV (v := .slice ad30 s41.length cp31) (k := .i64) (j := w64 (s40 + 1)) S (wN rfl) rfl rfl rfl hq226 rfl (lb rfl) fun a S => ?_
      exact leafL ⟨rfl, S⟩
    · refine fI 62 (iv x175) [(61, q225)] 27 [some 26] rfl rfl rfl rfl rfl rfl fun G a w S => ?_
      refine sLoadR (r := (rI .i64)) (T := 3) (xs := s41) (x := x175) (v := .slice ad30 s41.length cp31) (vq := q225) (j := w64 (s40 + 1)) 1 (iv x175) S hp227 (wN rfl) rfl rfl rfl hx176 (fun _ _ _ h => h) (scal_I _) rfl rfl (lb rfl) fun a S => ?_
      exact leafL ⟨rfl, S⟩
    · refine fI 63 (.func (.func 84) #[] #[]) [(2, .func (.func 84) #[] #[])] 28 [none] rfl rfl rfl rfl rfl rfl fun G a w S => ?_
      refine sMove (.func (.func 84) #[] #[]) S (wN rfl) (.inl rfl) rfl rfl (lb rfl) fun a S => ?_
      exact leafL ⟨rfl, S⟩
    · refine fI 64 (.slice ad3 p1.length cp4) [(1, .slice ad3 p1.length cp4)] 29 [none] rfl rfl rfl rfl rfl rfl fun G a w S => ?_
      refine sMove (.slice ad3 p1.length cp4) S (wN rfl) (.inl rfl) rfl rfl (lb rfl) fun a S => ?_
      exact leafL ⟨rfl, S⟩
    · refine fI 65 (iv s40) [(11, iv s40)] 30 [none] rfl rfl rfl rfl rfl rfl fun G a w S => ?_
      refine sMove (iv s40) S (wN rfl) (.inl rfl) rfl rfl (lb rfl) fun a S => ?_
      exact leafL ⟨rfl, S⟩
    · refine fI 66 q228 [(64, .slice ad3 p1.length cp4), (65, iv s40)] 31 [some 29, some 30] rfl rfl rfl rfl rfl rfl fun G a w S => ?_
      refine sIdxV (v := .slice ad3 p1.length cp4) (k := .i64) (j := s40) S (wN rfl) rfl rfl rfl hq229 rfl (lb rfl) fun a S => ?_
      exact leafL ⟨rfl, S⟩
    · refine fI 67 (.agg #[.int .u8 x180.Kind, .bool x180.Purl, iv x180.A, iv x180.B]) [(66, q228)] 32 [some 31] rfl rfl rfl rfl rfl rfl fun G a w S => ?_
      refine sLoadVN (vq := q228) 10 [.int .u8 x180.Kind, .bool x180.Purl, iv x180.A, iv x180.B] S (wN rfl) rfl rfl rfl rfl rfl rfl (lb rfl) fun a S => ?_
      exact leafL ⟨rfl, S⟩
    · refine fI 68 (iv r185) [(63, .func (.func 84) #[] #[]), (67, .agg #[.int .u8 x180.Kind, .bool x180.Purl, iv x180.A, iv x180.B])] 33 [some 28, some 32] rfl rfl rfl rfl rfl rfl fun G a w S => ?_
      have S1 := S.mem
      refine sCallVQ (X := Unit) (g := 84) (vs := [.agg #[.int .u8 x180.Kind, .bool x180.Purl, iv x180.A, iv x180.B]]) (caps := []) (val := fun _ => iv r185) S (wN rfl) rfl rfl callee84 rfl (S1.quiet [5] rfl) (fun E1 w1 S1 => c_compare_cellTable_1 E1 w1 x180 (.agg #[.int .u8 x180.Kind, .bool x180.Purl, iv x180.A, iv x180.B]) r185 hx186 S1) rfl (lb rfl) fun _ a w S => ?_
      exact leafL ⟨rfl, S⟩
    · refine fI 69 (iv (w64 (x175 + r185))) [(62, iv x175), (68, iv r185)] 34 [some 27, some 33] rfl rfl rfl rfl rfl rfl fun G a w S => ?_
      refine sBin (iv (w64 (x175 + r185))) S (wN rfl) rfl rfl rfl (bAdd _ _ _ _ x175 r185) rfl (lb rfl) fun a S => ?_
      exact leafL ⟨rfl, S⟩
    · refine fI 75 (iv s40) [(11, iv s40)] 39 [none] rfl rfl rfl rfl rfl rfl fun G a w S => ?_
      refine sMove (iv s40) S (wN rfl) (.inl rfl) rfl rfl (lb rfl) fun a S => ?_
      exact leafL ⟨rfl, S⟩
    · refine fI 76 (iv (w64 (s40 + 1))) [(75, iv s40)] 40 [some 39] rfl rfl rfl rfl rfl rfl fun G a w S => ?_
      refine sBin (iv (w64 (s40 + 1))) S (wN rfl) rfl rfl rfl (bAdd _ _ _ _ s40 1) rfl (lb rfl) fun a S => ?_
      exact leafL ⟨rfl, S⟩
    · refine fI 77 q258 [(74, .slice ad256 x152.length cp257), (76, iv (w64 (s40 + 1)))] 0 [some 3, some 40] rfl rfl rfl rfl rfl rfl fun G a w S => ?_
      refine sIdxV (v := .slice ad256 x152.length cp257) (k := .i64) (j := w64 (s40 + 1)) S (wN rfl) rfl rfl rfl hq259 rfl (lb rfl) fun a S => ?_
      exact leafL ⟨rfl, S⟩
    · refine fI 78 (iv x193) [(77, q258)] 1 [some 0] rfl rfl rfl rfl rfl rfl fun G a w S => ?_
      refine sLoadV1 (vq := q258) 0 (iv x193) S (wN rfl) rfl rfl rfl rfl rfl (lb rfl) fun a S => ?_
      exact leafL ⟨rfl, S⟩
    · refine fI 79 (.func (.func 85) #[] #[]) [(3, .func (.func 85) #[] #[])] 41 [none] rfl rfl rfl rfl rfl rfl fun G a w S => ?_
      refine sMove (.func (.func 85) #[] #[]) S (wN rfl) (.inl rfl) rfl rfl (lb rfl) fun a S => ?_
      exact leafL ⟨rfl, S⟩
    · refine fI 80 (.slice ad1 p0.length cp2) [(0, .slice ad1 p0.length cp2)] 42 [none] rfl rfl rfl rfl rfl rfl fun G a w S => ?_
      refine sMove (.slice ad1 p0.length cp2) S (wN rfl) (.inl rfl) rfl rfl (lb rfl) fun a S => ?_
      exact leafL ⟨rfl, S⟩
    · refine fI 81 (iv s16) [(10, iv s16)] 43 [none] rfl rfl rfl rfl rfl rfl fun G a w S => ?_
      refine sMove (iv s16) S (wN rfl) (.inl rfl) rfl rfl (lb rfl) fun a S => ?_
      exact leafL ⟨rfl, S⟩
    · refine fI 82 q234 [(80, .slice ad1 p0.length cp2), (81, iv s16)] 44 [some 42, some 43] rfl rfl rfl rfl rfl rfl fun G a w S => ?_
      refine sIdxV (v := .slice ad1 p0.length cp2) (k := .i64) (j := s16) S (wN rfl) rfl rfl rfl hq235 rfl (lb rfl) fun a S => ?_
      exact leafL ⟨rfl, S⟩
    · refine fI 83 (.agg #[.int .u8 x165.Kind, .bool x165.Purl, iv x165.A, iv x165.B]) [(82, q234)] 45 [some 44] rfl rfl rfl rfl rfl rfl fun G a w S => ?_
      refine sLoadVN (vq := q234) 7 [.int .u8 x165.Kind, .bool x165.Purl, iv x165.A, iv x165.B] S (wN rfl) rfl rfl rfl rfl rfl rfl (lb rfl) fun a S => ?_
      exact leafL ⟨rfl, S⟩
    · refine fI 84 (.slice ad3 p1.length cp4) [(1, .slice ad3 p1.length cp4)] 46 [none] rfl rfl rfl rfl rfl rfl fun G a w S => ?_
      refine sMove (.slice ad3 p1.length cp4) S (wN rfl) (.inl rfl) rfl rfl (lb rfl) fun a S => ?_
      exact leafL ⟨rfl, S⟩
    · refine fI 85 (iv s40) [(11, iv s40)] 47 [none] rfl rfl rfl rfl rfl rfl fun G a w S => ?_
      refine sMove (iv s40) S (wN rfl) (.inl rfl) rfl rfl (lb rfl) fun a S => ?_
      exact leafL ⟨rfl, S⟩
    · refine fI 86 q237 [(84, .slice ad3 p1.length cp4), (85, iv s40)] 48 [some 46, some 47] rfl rfl rfl rfl rfl rfl fun G a w S => ?_
      refine sIdxV (v := .slice ad3 p1.length cp4) (k := .i64) (j := s40) S (wN rfl) rfl rfl rfl hq238 rfl (lb rfl) fun a S => ?_
      exact leafL ⟨rfl, S⟩
    · refine fI 87 (.agg #[.int .u8 x180.Kind, .bool x180.Purl, iv x180.A, iv x180.B]) [(86, q237)] 49 [some 48] rfl rfl rfl rfl rfl rfl fun G a w S => ?_
      refine sLoadVN (vq := q237) 4 [.int .u8 x180.Kind, .bool x180.Purl, iv x180.A, iv x180.B] S (wN rfl) rfl rfl rfl rfl rfl rfl (lb rfl) fun a S => ?_
      exact leafL ⟨rfl, S⟩
    · refine fI 88 (iv r204) [(79, .func (.func 85) #[] #[]), (83, .agg #[.int .u8 x165.Kind, .bool x165.Purl, iv x165.A, iv x165.B]), (87, .agg #[.int .u8 x180.Kind, .bool x180.Purl, iv x180.A, iv x180.B])] 50 [some 41, some 45, some 49] rfl rfl rfl rfl rfl rfl fun G a w S => ?_
      have S1 := S.mem
      refine sCallVQ (X := Unit) (g := 85) (vs := [.agg #[.int .u8 x165.Kind, .bool x165.Purl, iv x165.A, iv x165.B], .agg #[.int .u8 x180.Kind, .bool x180.Purl, iv x180.A, iv x180.B]]) (caps := []) (val := fun _ => iv r204) S (wN rfl) rfl rfl callee85 rfl (S1.quiet [8, 5] rfl) (fun E1 w1 S1 => c_compare_cellTable_2 E1 w1 x165 (.agg #[.int .u8 x165.Kind, .bool x165.Purl, iv x165.A, iv x165.B]) x180 (.agg #[.int .u8 x180.Kind, .bool x180.Purl, iv x180.A, iv x180.B]) r204 hx205 S1) rfl (lb rfl) fun _ a w S => ?_
      exact leafL ⟨rfl, S⟩
    refine fI 89 (iv (w64 (x193 + r204))) [(78, iv x193), (88, iv r204)] 2 [some 1, some 50] rfl rfl rfl rfl rfl rfl fun G a w S => ?_
    refine sBin (iv (w64 (x193 + r204))) S (wN rfl) rfl rfl rfl (bAdd _ _ _ _ x193 r204) rfl (lb rfl) fun a S => ?_
    exact leafL ⟨rfl, S⟩
  · refine fI 75 (iv s40) [(11, iv s40)] 35 [none] rfl rfl rfl rfl rfl rfl fun G a w S => ?_
    refine sMove (iv s40) S (wN rfl) (.inl rfl) rfl rfl (lb rfl) fun a S => ?_
    exact leafL ⟨rfl, S⟩
  · refine fI 76 (iv (w64 (s40 + 1))) [(75, iv s40)] 36 [some 35] rfl rfl rfl rfl rfl rfl fun G a w S => ?_
    refine sBin (iv (w64 (s40 + 1))) S (wN rfl) rfl rfl rfl (bAdd _ _ _ _ s40 1) rfl (lb rfl) fun a S => ?_
    exact leafL ⟨rfl, S⟩
  · refine fI 79 (.func (.func 85) #[] #[]) [(3, .func (.func 85) #[] #[])] 37 [none] rfl rfl rfl rfl rfl rfl fun G a w S => ?_
    refine sMove (.func (.func 85) #[] #[]) S (wN rfl) (.inl rfl) rfl rfl (lb rfl) fun a S => ?_
    exact leafL ⟨rfl, S⟩
  · refine fI 80 (.slice ad1 p0.length cp2) [(0, .slice ad1 p0.length cp2)] 38 [none] rfl rfl rfl rfl rfl rfl fun G a w S => ?_
    refine sMove (.slice ad1 p0.length cp2) S (wN rfl) (.inl rfl) rfl rfl (lb rfl) fun a S => ?_
    exact leafL ⟨rfl, S⟩
  · refine fI 81 (iv s16) [(10, iv s16)] 39 [none] rfl rfl rfl rfl rfl rfl fun G a w S => ?_
    refine sMove (iv s16) S (wN rfl) (.inl rfl) rfl rfl (lb rfl) fun a S => ?_
    exact leafL ⟨rfl, S⟩
  · refine fI 82 q234 [(80, .slice ad1 p0.length cp2), (81, iv s16)] 40 [some 38, some 39] rfl rfl rfl rfl rfl rfl fun G a w S => ?_
    refine sIdxV (v := .slice ad1 p0.length cp2) (k := .i64) (j := s16) S (wN rfl) rfl rfl rfl hq235 rfl (lb rfl) fun a S => ?_
    exact leafL ⟨rfl, S⟩
  · refine fI 83 (.agg #[.int .u8 x165.Kind, .bool x165.Purl, iv x165.A, iv x165.B]) [(82, q234)] 41 [some 40] rfl rfl rfl rfl rfl rfl fun G a w S => ?_
    refine sLoadVN (vq := q234) 3 [.int .u8 x165.Kind, .bool x165.Purl, iv x165.A, iv x165.B] S (wN rfl) rfl rfl rfl rfl rfl rfl (lb rfl) fun a S => ?_
    exact leafL ⟨rfl, S⟩
  · refine fI 84 (.slice ad3 p1.length cp4) [(1, .slice ad3 p1.length cp4)] 42 [none] rfl rfl rfl rfl rfl rfl fun G a w S => ?_
    refine sMove (.slice ad3 p1.length cp4) S (wN rfl) (.inl rfl) rfl rfl (lb rfl) fun a S => ?_
    exact leafL ⟨rfl, S⟩
  · refine fI 85 (iv s40) [(11, iv s40)] 43 [none] rfl rfl rfl rfl rfl rfl fun G a w S => ?_
    refine sMove (iv s40) S (wN rfl) (.inl rfl) rfl rfl (lb rfl) fun a S => ?_
    exact leafL ⟨rfl, S⟩
  · refine fI 86 q237 [(84, .slice ad3 p1.length cp4), (85, iv s40)] 44 [some 42, some 43] rfl rfl rfl rfl rfl rfl fun G a w S => ?_
    refine sIdxV (v := .slice ad3 p1.length cp4) (k := .i64) (j := s40) S (wN rfl) rfl rfl rfl hq238 rfl (lb rfl) fun a S => ?_
    exact leafL ⟨rfl, S⟩
  · refine fI 87 (.agg #[.int .u8 x180.Kind, .bool x180.Purl, iv x180.A, iv x180.B]) [(86, q237)] 45 [some 44] rfl rfl rfl rfl rfl rfl fun G a w S => ?_
    refine sLoadVN (vq := q237) 0 [.int .u8 x180.Kind, .bool x180.Purl, iv x180.A, iv x180.B] S (wN rfl) rfl rfl rfl rfl rfl rfl (lb rfl) fun a S => ?_
    exact leafL ⟨rfl, S⟩
  refine fI 88 (iv r204) [(79, .func (.func 85) #[] #[]), (83, .agg #[.int .u8 x165.Kind, .bool x165.Purl, iv x165.A, iv x165.B]), (87, .agg #[.int .u8 x180.Kind, .bool x180.Purl, iv x180.A, iv x180.B])] 46 [some 37, some 41, some 45] rfl rfl rfl rfl rfl rfl fun G a w S => ?_
  have S1 := S.mem
  refine sCallVQ (X := Unit) (g := 85) (vs := [.agg #[.int .u8 x165.Kind, .bool x165.Purl, iv x165.A, iv x165.B], .agg #[.int .u8 x180.Kind, .bool x180.Purl, iv x180.A, iv x180.B]]) (caps := []) (val := fun _ => iv r204) S (wN rfl) rfl rfl callee85 rfl (S1.quiet [4, 1] rfl) (fun E1 w1 S1 => c_compare_cellTable_2 E1 w1 x165 (.agg #[.int .u8 x165.Kind, .bool x165.Purl, iv x165.A, iv x165.B]) x180 (.agg #[.int .u8 x180.Kind, .bool x180.Purl, iv x180.A, iv x180.B]) r204 hx205 S1) rfl (lb rfl) fun _ a w S => ?_
  exact leafL ⟨rfl, S⟩

end Go.Proofs.Ytffikfajljbmnaa
namespace Go.Proofs.Ytffikfajljbmnaa
open Go.RowKit
set_option linter.unusedVariables false

noncomputable def F_compare_cellTable (p0 : (List api_Stitch)) (p1 : (List api_Stitch)) : Option (List (List Int)) :=
  Option.bind (F_compare_table_api_Stitch__s0 p0 p1) fun r7 =>
  some r7
def c_compare_cellTable_val (r : (List (List Int))) (x : Value) : Value := x
def c_compare_cellTable_D (r : (List (List Int))) (x : Value) : List Fact := [fRep (rL (rL (rI .i64))) x r]
set_option maxHeartbeats 4000000 in
set_option maxRecDepth 100000 in
theorem c_compare_cellTable (E : Nat → Prop) (w0 : World) (p0 : (List api_Stitch)) (v0 : Value) (p1 : (List api_Stitch)) (v1 : Value) (r : (List (List Int))) (h : F_compare_cellTable p0 p1 = some r) (S : St0 E [] w0 w0 [] [fRep (rL r_api_Stitch) (v0) p0, fRep (rL r_api_Stitch) (v1) p1]) :
    Calls Try.prog 54 #[v0, v1] w0 (Ret (X := Value) E [] w0 (c_compare_cellTable_val r) (fun _ => []) (c_compare_cellTable_D r)) := by
  unfold F_compare_cellTable at h
  obtain ⟨ad1, cp2, _, rfl, _⟩ := S.know (i := 0) (e := fRep (rL r_api_Stitch) (v0) p0) rfl
  obtain ⟨ad3, cp4, _, rfl, _⟩ := S.know (i := 1) (e := fRep (rL r_api_Stitch) (v1) p1) rfl
  refine sEnter (args := [.slice ad1 p0.length cp2, .slice ad3 p1.length cp4]) 8 Try.func54 rfl rfl (by simp) S (fun a S => ?_)
  refine sSeq (fun K5 hK5 => ?_)
  refine sRegion ?_
  refine sMove (.slice none 0 0) S (wN rfl) (.inr rfl) rfl rfl (lb rfl) fun a S => ?_
  refine leafL (leafT (hK5 _ _ ?_))
  refine sSeq (fun K6 hK6 => ?_)
  refine sRegion ?_
  refine sMove (.slice ad1 p0.length cp2) S (wN rfl) (.inl rfl) rfl rfl (lb rfl) fun a S => ?_
  refine sMove (.slice ad3 p1.length cp4) S (wN rfl) (.inl rfl) rfl rfl (lb rfl) fun a S => ?_
  obtain ⟨r7, hx8, h⟩ := bindSome h
  refine sCall (X := Value) (f := 83) (vs := [.slice ad1 p0.length cp2, .slice ad3 p1.length cp4, .func (.func 84) #[] #[], .func (.func 85) #[] #[]]) (val := c_compare_table_api_Stitch__s0_val r7) (B' := fun _ => []) (D' := c_compare_table_api_Stitch__s0_D r7) [] [] [fRep (rL r_api_Stitch) (.slice ad1 p0.length cp2) p0, fRep (rL r_api_Stitch) (.slice ad3 p1.length cp4) p1] [] [0, 1] S (wN rfl) rfl callee83 rfl (by decide) rfl rfl (fun E1 w1 S1 => c_compare_table_api_Stitch__s0 E1 w1 p0 (.slice ad1 p0.length cp2) p1 (.slice ad3 p1.length cp4) r7 hx8 S1) rfl (lb rfl) fun u9 a w S => ?_
  obtain ⟨ad10, cp11, _, rfl, _⟩ := S.mem.know (i := 0) (e := fRep (rL (rL (rI .i64))) (u9) r7) rfl
  refine sMove (.slice ad10 r7.length cp11) S (wN rfl) (.inr rfl) rfl rfl (lb rfl) fun a S => ?_
  refine leafL (leafT (hK6 _ _ ?_))
  obtain rfl := Option.some.inj h
  exact wp_ret (sRet (.slice ad10 r7.length cp11) S (rsl1 rfl (rvT (t := 4) (v := .slice ad10 r7.length cp11) S rfl)) ⟨(.slice ad10 r7.length cp11), rfl, S.mem.sel [] [0] (by decide) rfl rfl⟩)

end Go.Proofs.Ytffikfajljbmnaa
namespace Go.Proofs.Ytffikfajljbmnaa
open Go.RowKit
set_option linter.unusedVariables false

end Go.Proofs.Ytffikfajljbmnaa
namespace Go.Proofs.Ytffikfajljbmnaa
open Go.RowKit
set_option linter.unusedVariables false

def anc_raddleref46_Table_0 : List (List Nat) := [[], [], [0, 1], [0, 1, 2], [], [], [4, 5], [4, 5, 6], [0, 1, 2, 3, 4, 5, 6, 7]]
def anc_raddleref46_Table_1 : List (List Nat) := [[], [], [], [2], [1, 2, 3], [1, 2, 3, 4], [], [1, 2, 3, 4, 5, 6], [1, 2, 3, 4, 5, 6, 7], [1, 2, 3, 4, 5, 6, 7, 8], [], [], [11], [10, 11, 12], [10, 11, 12, 13], [10, 11, 12, 13, 14], [0, 1, 2, 3, 4, 5, 6, 7, 8, 9, 10, 11, 12, 13, 14, 15], [0, 1, 2, 3, 4, 5, 6, 7, 8, 9, 10, 11, 12, 13, 14, 15, 16]]
noncomputable def raddleref46_Table_l1 (s16 : Int) (p0 : (List api_Stitch)) (p1 : (List api_Stitch)) (s15 : List (List Int)) : (List Int × Int) → Option ((List Int × Int) ⊕ List Int) := fun s0 => match s0 with
  | (s36, s37) =>
    if decide (0 ≤ s37) then
      Option.bind (α := Int) (
        Option.bind (α := Bool) (
          if decide (s16 < (p0.length : Int)) then
            some (decide (s37 < (p1.length : Int)))
          else
            some false) fun o50 =>
        if o50 then
          Option.bind (idxO s15 (w64 (s16 + 1))) fun x56 =>
          Option.bind (idxO x56 (w64 (s37 + 1))) fun x64 =>
          Option.bind (α := Int) (
            Option.bind (idxO p0 s16) fun x73 =>
            Option.bind (idxO p1 s37) fun x78 =>
            if !((x73.Kind == x78.Kind) && ((x73.Purl == x78.Purl) && ((x73.A == x78.A) && ((x73.B == x78.B) && true)))) then
              some (w64 (x64 + 1))
            else
              some x64) fun o69 =>
          Option.bind (idxO x56 s37) fun x96 =>
          Option.bind (idxO s36 (w64 (s37 + 1))) fun x101 =>
          some (min3 o69 (w64 (x96 + 1)) (w64 (x101 + 1)))
        else
          some (w64 ((w64 ((w64 ((p0.length : Int) - s16)) + (p1.length : Int))) - s37))) fun o47 =>
      Option.bind (idxO s36 s37) fun x118 =>
      Option.bind (setO s36 s37 o47) fun l123 =>
      some (.inl (l123, w64 (s37 - 1)))
    else
      some (.inr s36)
noncomputable def raddleref46_Table_l2 (p1 : (List api_Stitch)) (p0 : (List api_Stitch)) : (List (List Int) × Int) → Option ((List (List Int) × Int) ⊕ List (List Int)) := fun s0 => match s0 with
  | (s15, s16) =>
    if decide (0 ≤ s16) then
      Option.bind (α := List (List Int)) (
        Option.bind (makeO (w64 ((p1.length : Int) + 1)) (0 : Int)) fun m30 =>
        Option.bind (α := List Int) (
          Option.bind (whileO (raddleref46_Table_l1 s16 p0 p1 s15) (m30, (p1.length : Int))) fun e41 =>
            some e41) fun o32 =>
        Option.bind (idxO s15 s16) fun x125 =>
        Option.bind (setO s15 s16 o32) fun l130 =>
        some l130) fun o24 =>
      some (.inl (o24, w64 (s16 - 1)))
    else
      some (.inr s15)
noncomputable def F_raddleref46_Table (p0 : (List api_Stitch)) (p1 : (List api_Stitch)) : Option (List (List Int)) :=
  Option.bind (makeO (w64 ((p0.length : Int) + 1)) ([] : (List Int))) fun m9 =>
  Option.bind (α := List (List Int)) (
    Option.bind (whileO (raddleref46_Table_l2 p1 p0) (m9, (p0.length : Int))) fun e20 =>
      some e20) fun o11 =>
  some o11
def c_raddleref46_Table_val (r : (List (List Int))) (x : Value) : Value := x
def c_raddleref46_Table_D (r : (List (List Int))) (x : Value) : List Fact := [fRep (rL (rL (rI .i64))) x r]
set_option maxHeartbeats 4000000 in
set_option maxRecDepth 100000 in
theorem c_raddleref46_Table (E : Nat → Prop) (w0 : World) (p0 : (List api_Stitch)) (v0 : Value) (p1 : (List api_Stitch)) (v1 : Value) (r : (List (List Int))) (h : F_raddleref46_Table p0 p1 = some r) (S : St0 E [] w0 w0 [] [fRep (rL r_api_Stitch) (v0) p0, fRep (rL r_api_Stitch) (v1) p1]) :
    Calls Try.prog 57 #[v0, v1] w0 (Ret (X := Value) E [] w0 (c_raddleref46_Table_val r) (fun _ => []) (c_raddleref46_Table_D r)) := by
  unfold F_raddleref46_Table at h
  obtain ⟨ad1, cp2, _, rfl, _⟩ := S.know (i := 0) (e := fRep (rL r_api_Stitch) (v0) p0) rfl
  obtain ⟨ad3, cp4, _, rfl, _⟩ := S.know (i := 1) (e := fRep (rL r_api_Stitch) (v1) p1) rfl
  refine sEnter (args := [.slice ad1 p0.length cp2, .slice ad3 p1.length cp4]) 95 Try.func57 rfl rfl (by simp) S (fun a S => ?_)
  refine sSeq (fun K5 hK5 => ?_)
  refine sRegion ?_
  refine sMove (.slice none 0 0) S (wN rfl) (.inr rfl) rfl rfl (lb rfl) fun a S => ?_
  refine leafL (leafT (hK5 _ _ ?_))
  refine sSeq (fun K6 hK6 => ?_)
  refine sRegion ?_
  refine sMove (.slice ad1 p0.length cp2) S (wN rfl) (.inl rfl) rfl rfl (lb rfl) fun a S => ?_
  refine sLen (ad := ad1) (m := p0.length) (c := cp2) S (wN rfl) rfl Try.underlying47 rfl rfl (lb rfl) fun a S => ?_
  refine sBin (iv (w64 ((p0.length : Int) + 1))) S (wN rfl) rfl rfl rfl (bAdd _ _ _ _ (p0.length : Int) 1) rfl (lb rfl) fun a S => ?_
  obtain ⟨m9, hx10, h⟩ := bindSome h
  refine sMake (r := (rL (rI .i64))) (m := w64 ((p0.length : Int) + 1)) (xs := m9) (.slice none 0 0) ([] : (List Int)) 24 S (wN rfl) rfl Try.underlying98 rfl rfl (by decide) (fun E w => rL_nil _ E w) rfl rfl hx10 rfl (lb rfl) fun a w ad7 cp8 S => ?_
  refine sMove (.slice ad7 m9.length cp8) S (wN rfl) (.inr rfl) rfl rfl (lb rfl) fun a S => ?_
  refine leafL (leafT (hK6 _ _ ?_))
  obtain ⟨t12, h, g13⟩ := bindSome h
  refine sCut (fun a w => ∃ o11, o11 = t12 ∧ St [] E [] w0 95 a w [(5, .slice ad7 o11.length cp8)] [eRow (rL (rI .i64)) 101 (.slice ad7 o11.length cp8) o11] []) ?_ (fun a w hI => ?_)
  rotate_left
  · obtain ⟨o11, rfl, S⟩ := hI
    have h := g13
    clear g13
    try dsimp only at h
    refine sSeq (fun K132 hK132 => ?_)
    refine sRegion ?_
    refine sMove (.slice ad7 o11.length cp8) S (wN rfl) (.inl rfl) rfl rfl (lb rfl) fun a S => ?_
    refine sMove (.slice ad7 o11.length cp8) S (wN rfl) (.inr rfl) rfl rfl (lb rfl) fun a S => ?_
    refine leafL (leafT (hK132 _ _ ?_))
    obtain rfl := Option.some.inj h
    have S := S.shutR (r := (rL (rI .i64))) (T := 101) (v := .slice ad7 o11.length cp8) (xs := o11) 0 rfl
    exact wp_ret (sRet (.slice ad7 o11.length cp8) S (rsl1 rfl (rvT (t := 4) (v := .slice ad7 o11.length cp8) S rfl)) ⟨(.slice ad7 o11.length cp8), rfl, S.mem.sel [] [0] (by decide) rfl rfl⟩)
  refine sSeq (fun K14 hK14 => ?_)
  refine sRegion ?_
  refine sMove (.slice ad1 p0.length cp2) S (wN rfl) (.inl rfl) rfl rfl (lb rfl) fun a S => ?_
  refine sLen (ad := ad1) (m := p0.length) (c := cp2) S (wN rfl) rfl Try.underlying47 rfl rfl (lb rfl) fun a S => ?_
  refine sMove (iv (p0.length : Int)) S (wN rfl) (.inr rfl) rfl rfl (lb rfl) fun a S => ?_
  refine leafL (leafT (hK14 _ _ ?_))
  refine wp_block ?_
  obtain ⟨t19, hl, g18⟩ := bindSome h
  refine sLoop hl (fun s0 a w => match s0 with | (s15, s16) => St [] E [] w0 95 a w [(0, .slice ad1 p0.length cp2), (1, .slice ad3 p1.length cp4), (5, .slice ad7 s15.length cp8), (6, iv s16)] [eRow (rL (rI .i64)) 101 (.slice ad7 s15.length cp8) s15] [fRep (rL r_api_Stitch) (.slice ad1 p0.length cp2) p0, fRep (rL r_api_Stitch) (.slice ad3 p1.length cp4) p1]) (S.fix [0] [0, 1] (by decide) rfl rfl rfl) ?_
  clear hl h
  intro s0 a w c0 hI h hu17
  obtain ⟨s15, s16⟩ := s0
  unfold raddleref46_Table_l2 at h
  dsimp only at h hI
  have S := hI
  refine sSeq (fun K21 hK21 => ?_)
  refine sSeq (fun K22 hK22 => ?_)
  refine sRegion ?_
  refine sMove (iv s16) S (wN rfl) (.inl rfl) rfl rfl (lb rfl) fun a S => ?_
  refine sBin (.bool (decide (0 ≤ s16))) S (wN rfl) rfl rfl rfl (bGe _ _ _ _ .i64 s16 0) rfl (lb rfl) fun a S => ?_
  refine leafL (leafT (hK22 _ _ ?_))
  rcases iteSome h with ⟨hc23, h⟩ | ⟨hc23, h⟩
  rotate_left
  · refine sCondF S rfl hc23 ?_
    obtain rfl := Option.some.inj h
    obtain rfl := hu17 _ rfl
    have h := g18
    clear g18
    try dsimp only at h
    exact wp_exit (xThen (xThen (xHit (leafT (⟨s15, Option.some.inj h, S.fix [0] [] (by decide) rfl rfl rfl⟩)))))
  refine sCondT S rfl hc23 ?_
  refine wp_skip (leafT (hK21 _ _ ?_))
  obtain ⟨t25, h, g26⟩ := bindSome h
  refine sCut (fun a w => ∃ o24, o24 = t25 ∧ St [] E [] w0 95 a w [(0, .slice ad1 p0.length cp2), (1, .slice ad3 p1.length cp4), (5, .slice ad7 o24.length cp8), (6, iv s16)] [eRow (rL (rI .i64)) 101 (.slice ad7 o24.length cp8) o24] [fRep (rL r_api_Stitch) (.slice ad1 p0.length cp2) p0, fRep (rL r_api_Stitch) (.slice ad3 p1.length cp4) p1]) ?_ (fun a w hI => ?_)
  rotate_left
  · obtain ⟨o24, rfl, S⟩ := hI
    have h := g26
    clear g26
    try dsimp only at h
    refine sRegion ?_
    refine sMove (iv s16) S (wN rfl) (.inl rfl) rfl rfl (lb rfl) fun a S => ?_
    refine sBin (iv (w64 (s16 - 1))) S (wN rfl) rfl rfl rfl (bSub _ _ _ _ s16 1) rfl (lb rfl) fun a S => ?_
    refine sMove (iv (w64 (s16 - 1))) S (wN rfl) (.inr rfl) rfl rfl (lb rfl) fun a S => ?_
    exact leafL (leafT (⟨(o24, w64 (s16 - 1)), (Option.some.inj h).symm, (S.fix [0] [0, 1] (by decide) rfl rfl rfl)⟩))
  refine wp_block ?_
  refine sSeq (fun K27 hK27 => ?_)
  refine sRegion ?_
  refine sMove (.slice ad3 p1.length cp4) S (wN rfl) (.inl rfl) rfl rfl (lb rfl) fun a S => ?_
  refine sLen (ad := ad3) (m := p1.length) (c := cp4) S (wN rfl) rfl Try.underlying47 rfl rfl (lb rfl) fun a S => ?_
  refine sBin (iv (w64 ((p1.length : Int) + 1))) S (wN rfl) rfl rfl rfl (bAdd _ _ _ _ (p1.length : Int) 1) rfl (lb rfl) fun a S => ?_
  obtain ⟨m30, hx31, h⟩ := bindSome h
  refine sMake (r := (rI .i64)) (m := w64 ((p1.length : Int) + 1)) (xs := m30) (iv 0) (0 : Int) 8 S (wN rfl) rfl Try.underlying101 rfl rfl (by decide) (fun _ _ => rfl) rfl rfl hx31 rfl (lb rfl) fun a w ad28 cp29 S => ?_
  refine sMove (.slice ad28 m30.length cp29) S (wN rfl) (.inr rfl) rfl rfl (lb rfl) fun a S => ?_
  refine leafL (leafT (hK27 _ _ ?_))
  obtain ⟨t33, h, g34⟩ := bindSome h
  refine sCut (fun a w => ∃ o32, o32 = t33 ∧ St [] E [] w0 95 a w [(0, .slice ad1 p0.length cp2), (1, .slice ad3 p1.length cp4), (5, .slice ad7 s15.length cp8), (6, iv s16), (7, .slice ad28 o32.length cp29)] [eRow (rL (rI .i64)) 101 (.slice ad7 s15.length cp8) s15, eRow (rI .i64) 3 (.slice ad28 o32.length cp29) o32] [fRep (rL r_api_Stitch) (.slice ad1 p0.length cp2) p0, fRep (rL r_api_Stitch) (.slice ad3 p1.length cp4) p1]) ?_ (fun a w hI => ?_)
  rotate_left
  · obtain ⟨o32, rfl, S⟩ := hI
    have h := g34
    clear g34
    try dsimp only at h
    refine sRegion ?_
    refine sMove (.slice ad7 s15.length cp8) S (wN rfl) (.inl rfl) rfl rfl (lb rfl) fun a S => ?_
    refine sMove (iv s16) S (wN rfl) (.inl rfl) rfl rfl (lb rfl) fun a S => ?_
    refine sMove (.slice ad28 o32.length cp29) S (wN rfl) (.inl rfl) rfl rfl (lb rfl) fun a S => ?_
    obtain ⟨x125, hx126, h⟩ := bindSome h
    obtain ⟨q127, hq128, hp129⟩ := pIdxR (P := Try.prog) (r := (rL (rI .i64))) (T := 101) (v := .slice ad7 s15.length cp8) (xs := s15) (j := s16) 98 101 0 S Try.underlying98 rfl rfl hx126
    refine sIdxV (v := .slice ad7 s15.length cp8) (k := .i64) (j := s16) S (wN rfl) rfl rfl rfl hq128 rfl (lb rfl) fun a S => ?_
    obtain ⟨l130, hx131, h⟩ := bindSome h
    have S := S.shutR (r := (rI .i64)) (T := 3) (v := .slice ad28 o32.length cp29) (xs := o32) 1 rfl
    refine sStoreR (r := (rL (rI .i64))) (T := 101) (xs := s15) (ys := l130) (y := o32) (v := .slice ad7 s15.length cp8) (vq := q127) (u := .slice ad28 o32.length cp29) (j := s16) 0 S hp129 (wN rfl) rfl rfl rfl rfl (S.mem.know (i := 0) (e := fRep (rL (rI .i64)) (.slice ad28 o32.length cp29) o32) rfl) hx131 rfl rfl fun a w S => ?_
    rw [setO_v hx131 ad7 cp8] at S
    exact leafL (leafB (leafT (⟨l130, Option.some.inj h, S.fix [0] [1, 2] (by decide) rfl rfl rfl⟩)))
  refine sSeq (fun K35 hK35 => ?_)
  refine sRegion ?_
  refine sMove (.slice ad3 p1.length cp4) S (wN rfl) (.inl rfl) rfl rfl (lb rfl) fun a S => ?_
  refine sLen (ad := ad3) (m := p1.length) (c := cp4) S (wN rfl) rfl Try.underlying47 rfl rfl (lb rfl) fun a S => ?_
  refine sMove (iv (p1.length : Int)) S (wN rfl) (.inr rfl) rfl rfl (lb rfl) fun a S => ?_
  refine leafL (leafT (hK35 _ _ ?_))
  refine wp_block ?_
  obtain ⟨t40, hl, g39⟩ := bindSome h
  refine sLoop hl (fun s0 a w => match s0 with | (s36, s37) => St [] E [] w0 95 a w [(0, .slice ad1 p0.length cp2), (1, .slice ad3 p1.length cp4), (5, .slice ad7 s15.length cp8), (6, iv s16), (7, .slice ad28 s36.length cp29), (8, iv s37)] [eRow (rL (rI .i64)) 101 (.slice ad7 s15.length cp8) s15, eRow (rI .i64) 3 (.slice ad28 s36.length cp29) s36] [fRep (rL r_api_Stitch) (.slice ad1 p0.length cp2) p0, fRep (rL r_api_Stitch) (.slice ad3 p1.length cp4) p1]) (S.fix [1, 0] [0, 1] (by decide) rfl rfl rfl) ?_
  clear hl h
  intro s0 a w c0 hI h hu38
  obtain ⟨s36, s37⟩ := s0
  unfold raddleref46_Table_l1 at h
  dsimp only at h hI
  have S := hI
  refine sSeq (fun K42 hK42 => ?_)
  refine sSeq (fun K43 hK43 => ?_)
  refine sRegion ?_
  refine sMove (iv s37) S (wN rfl) (.inl rfl) rfl rfl (lb rfl) fun a S => ?_
  refine sBin (.bool (decide (0 ≤ s37))) S (wN rfl) rfl rfl rfl (bGe _ _ _ _ .i64 s37 0) rfl (lb rfl) fun a S => ?_
  refine leafL (leafT (hK43 _ _ ?_))
  rcases iteSome h with ⟨hc44, h⟩ | ⟨hc44, h⟩
  rotate_left
  · refine sCondF S rfl hc44 ?_
    obtain rfl := Option.some.inj h
    obtain rfl := hu38 _ rfl
    have h := g39
    clear g39
    try dsimp only at h
    exact wp_exit (xThen (xThen (xHit (leafT (⟨s36, Option.some.inj h, S.fix [0, 1] [0, 1] (by decide) rfl rfl rfl⟩)))))
  refine sCondT S rfl hc44 ?_
  refine wp_skip (leafT (hK42 _ _ ?_))
  refine sSeq (fun K45 hK45 => ?_)
  refine wp_block ?_
  refine sSeq (fun K46 hK46 => ?_)
  refine sRegion ?_
  refine sMove (.slice ad1 p0.length cp2) S (wN rfl) (.inl rfl) rfl rfl (lb rfl) fun a S => ?_
  refine sLen (ad := ad1) (m := p0.length) (c := cp2) S (wN rfl) rfl Try.underlying47 rfl rfl (lb rfl) fun a S => ?_
  refine sMove (iv s16) S (wN rfl) (.inl rfl) rfl rfl (lb rfl) fun a S => ?_
  refine sBin (iv (w64 ((p0.length : Int) - s16))) S (wN rfl) rfl rfl rfl (bSub _ _ _ _ (p0.length : Int) s16) rfl (lb rfl) fun a S => ?_
  refine sMove (.slice ad3 p1.length cp4) S (wN rfl) (.inl rfl) rfl rfl (lb rfl) fun a S => ?_
  refine sLen (ad := ad3) (m := p1.length) (c := cp4) S (wN rfl) rfl Try.underlying47 rfl rfl (lb rfl) fun a S => ?_
  refine sBin (iv (w64 ((w64 ((p0.length : Int) - s16)) + (p1.length : Int)))) S (wN rfl) rfl rfl rfl (bAdd _ _ _ _ (w64 ((p0.length : Int) - s16)) (p1.length : Int)) rfl (lb rfl) fun a S => ?_
  refine sMove (iv s37) S (wN rfl) (.inl rfl) rfl rfl (lb rfl) fun a S => ?_
  refine sBin (iv (w64 ((w64 ((w64 ((p0.length : Int) - s16)) + (p1.length : Int))) - s37))) S (wN rfl) rfl rfl rfl (bSub _ _ _ _ (w64 ((w64 ((p0.length : Int) - s16)) + (p1.length : Int))) s37) rfl (lb rfl) fun a S => ?_
  refine sMove (iv (w64 ((w64 ((w64 ((p0.length : Int) - s16)) + (p1.length : Int))) - s37))) S (wN rfl) (.inr rfl) rfl rfl (lb rfl) fun a S => ?_
  refine leafL (leafT (hK46 _ _ ?_))
  obtain ⟨t48, h, g49⟩ := bindSome h
  refine sCut (fun a w => ∃ o47, o47 = t48 ∧ St [] E [] w0 95 a w [(0, .slice ad1 p0.length cp2), (1, .slice ad3 p1.length cp4), (5, .slice ad7 s15.length cp8), (6, iv s16), (7, .slice ad28 s36.length cp29), (8, iv s37), (9, iv o47)] [eRow (rL (rI .i64)) 101 (.slice ad7 s15.length cp8) s15, eRow (rI .i64) 3 (.slice ad28 s36.length cp29) s36] [fRep (rL r_api_Stitch) (.slice ad1 p0.length cp2) p0, fRep (rL r_api_Stitch) (.slice ad3 p1.length cp4) p1]) ?_ (fun a w hI => ?_)
  rotate_left
  · obtain ⟨o47, rfl, S⟩ := hI
    have h := g49
    clear g49
    try dsimp only at h
    refine sRegion ?_
    refine sMove (.slice ad28 s36.length cp29) S (wN rfl) (.inl rfl) rfl rfl (lb rfl) fun a S => ?_
    refine sMove (iv s37) S (wN rfl) (.inl rfl) rfl rfl (lb rfl) fun a S => ?_
    refine sMove (iv o47) S (wN rfl) (.inl rfl) rfl rfl (lb rfl) fun a S => ?_
    obtain ⟨x118, hx119, h⟩ := bindSome h
    obtain ⟨q120, hq121, hp122⟩ := pIdxR (P := Try.prog) (r := (rI .i64)) (T := 3) (v := .slice ad28 s36.length cp29) (xs := s36) (j := s37) 101 3 1 S Try.underlying101 rfl rfl hx119
    refine sIdxV (v := .slice ad28 s36.length cp29) (k := .i64) (j := s37) S (wN rfl) rfl rfl rfl hq121 rfl (lb rfl) fun a S => ?_
    obtain ⟨l123, hx124, h⟩ := bindSome h
    refine sStoreR (r := (rI .i64)) (T := 3) (xs := s36) (ys := l123) (y := o47) (v := .slice ad28 s36.length cp29) (vq := q120) (u := iv o47) (j := s37) 1 S hp122 (wN rfl) rfl rfl rfl rfl rfl hx124 rfl rfl fun a w S => ?_
    rw [setO_v hx124 ad28 cp29] at S
    refine leafL (leafB (leafT (hK45 _ _ ?_)))
    refine sRegion ?_
    refine sMove (iv s37) S (wN rfl) (.inl rfl) rfl rfl (lb rfl) fun a S => ?_
    refine sBin (iv (w64 (s37 - 1))) S (wN rfl) rfl rfl rfl (bSub _ _ _ _ s37 1) rfl (lb rfl) fun a S => ?_
    refine sMove (iv (w64 (s37 - 1))) S (wN rfl) (.inr rfl) rfl rfl (lb rfl) fun a S => ?_
    exact leafL (leafT (⟨(l123, w64 (s37 - 1)), (Option.some.inj h).symm, (S.fix [1, 0] [0, 1] (by decide) rfl rfl rfl)⟩))
  obtain ⟨t51, h, g52⟩ := bindSome h
  refine sCut (fun a w => ∃ o50, o50 = t51 ∧ St [] E [] w0 95 a w [(0, .slice ad1 p0.length cp2), (1, .slice ad3 p1.length cp4), (5, .slice ad7 s15.length cp8), (6, iv s16), (7, .slice ad28 s36.length cp29), (8, iv s37), (9, iv (w64 ((w64 ((w64 ((p0.length : Int) - s16)) + (p1.length : Int))) - s37))), (48, .bool o50)] [eRow (rL (rI .i64)) 101 (.slice ad7 s15.length cp8) s15, eRow (rI .i64) 3 (.slice ad28 s36.length cp29) s36] [fRep (rL r_api_Stitch) (.slice ad1 p0.length cp2) p0, fRep (rL r_api_Stitch) (.slice ad3 p1.length cp4) p1]) ?_ (fun a w hI => ?_)
  · refine sRegion ?_
    refine sMove (iv s16) S (wN rfl) (.inl rfl) rfl rfl (lb rfl) fun a S => ?_
    refine sMove (.slice ad1 p0.length cp2) S (wN rfl) (.inl rfl) rfl rfl (lb rfl) fun a S => ?_
    refine sLen (ad := ad1) (m := p0.length) (c := cp2) S (wN rfl) rfl Try.underlying47 rfl rfl (lb rfl) fun a S => ?_
    refine sBin (.bool (decide (s16 < (p0.length : Int)))) S (wN rfl) rfl rfl rfl (bLt _ _ _ _ .i64 s16 (p0.length : Int)) rfl (lb rfl) fun a S => ?_
    refine sMove (.bool (decide (s16 < (p0.length : Int)))) S (wN rfl) (.inl rfl) rfl rfl (lb rfl) fun a S => ?_
    rcases iteSome h with ⟨hc53, h⟩ | ⟨hc53, h⟩
    rotate_left
    · refine sSkip 4 true 43 44 S rfl rfl rfl hc53 rfl (lb rfl) fun a S => ?_
      refine sSkip 4 true 43 45 S rfl rfl rfl hc53 rfl (lb rfl) fun a S => ?_
      refine sSkip 4 true 43 46 S rfl rfl rfl hc53 rfl (lb rfl) fun a S => ?_
      refine sSkip 4 true 43 47 S rfl rfl rfl hc53 rfl (lb rfl) fun a S => ?_
      refine sPickF (.bool false) S (wN rfl) rfl rfl hc53 rfl rfl (lb rfl) fun a S => ?_
      exact leafL (leafT (⟨false, Option.some.inj h, S.fix [0, 1] [0, 1] (by decide) rfl rfl rfl⟩))
    refine sMove (iv s37) S (wG 4 true 43 rfl rfl rfl hc53) (.inl rfl) rfl rfl (lb rfl) fun a S => ?_
    refine sMove (.slice ad3 p1.length cp4) S (wG 4 true 43 rfl rfl rfl hc53) (.inl rfl) rfl rfl (lb rfl) fun a S => ?_
    refine sLen (ad := ad3) (m := p1.length) (c := cp4) S (wG 4 true 43 rfl rfl rfl hc53) rfl Try.underlying47 rfl rfl (lb rfl) fun a S => ?_
    refine sBin (.bool (decide (s37 < (p1.length : Int)))) S (wG 4 true 43 rfl rfl rfl hc53) rfl rfl rfl (bLt _ _ _ _ .i64 s37 (p1.length : Int)) rfl (lb rfl) fun a S => ?_
    refine sPickT (.bool (decide (s37 < (p1.length : Int)))) S (wN rfl) rfl rfl hc53 rfl rfl (lb rfl) fun a S => ?_
    exact leafL (leafT (⟨decide (s37 < (p1.length : Int)), Option.some.inj h, S.fix [0, 1] [0, 1] (by decide) rfl rfl rfl⟩))
  obtain ⟨o50, rfl, S⟩ := hI
  have h := g52
  clear g52
  try dsimp only at h
  rcases iteSome h with ⟨hc54, h⟩ | ⟨hc54, h⟩
  rotate_left
  · refine sCondF S rfl hc54 ?_
    exact wp_skip (leafT (⟨w64 ((w64 ((w64 ((p0.length : Int) - s16)) + (p1.length : Int))) - s37), Option.some.inj h, S.fix [0, 1] [0, 1] (by decide) rfl rfl rfl⟩))
  refine sCondT S rfl hc54 ?_
  refine sSeq (fun K55 hK55 => ?_)
  refine sRegion ?_
  refine sMove (.slice ad7 s15.length cp8) S (wN rfl) (.inl rfl) rfl rfl (lb rfl) fun a S => ?_
  refine sMove (iv s16) S (wN rfl) (.inl rfl) rfl rfl (lb rfl) fun a S => ?_
  refine sBin (iv (w64 (s16 + 1))) S (wN rfl) rfl rfl rfl (bAdd _ _ _ _ s16 1) rfl (lb rfl) fun a S => ?_
  obtain ⟨x56, hx57, h⟩ := bindSome h
  obtain ⟨q58, hq59, hp60⟩ := pIdxR (P := Try.prog) (r := (rL (rI .i64))) (T := 101) (v := .slice ad7 s15.length cp8) (xs := s15) (j := w64 (s16 + 1)) 98 101 0 S Try.underlying98 rfl rfl hx57
  refine sIdxV (v := .slice ad7 s15.length cp8) (k := .i64) (j := w64 (s16 + 1)) S (wN rfl) rfl rfl rfl hq59 rfl (lb rfl) fun a S => ?_
  refine sLoadRS (r := (rL (rI .i64))) (T := 101) (xs := s15) (x := x56) (v := .slice ad7 s15.length cp8) (vq := q58) (j := w64 (s16 + 1)) 0 S hp60 (wN rfl) rfl rfl rfl hx57 (scal_L _) rfl rfl (lb rfl) fun a u61 S => ?_
  obtain ⟨ad62, cp63, _, rfl, _⟩ := S.mem.know (i := 0) (e := fRep (rL (rI .i64)) (u61) x56) rfl
  refine sMove (iv s37) S (wN rfl) (.inl rfl) rfl rfl (lb rfl) fun a S => ?_
  refine sBin (iv (w64 (s37 + 1))) S (wN rfl) rfl rfl rfl (bAdd _ _ _ _ s37 1) rfl (lb rfl) fun a S => ?_
  obtain ⟨x64, hx65, h⟩ := bindSome h
  obtain ⟨q66, hq67, S⟩ := pIdx (P := Try.prog) (r := (rI .i64)) (v := .slice ad62 x56.length cp63) (xs := x56) (j := w64 (s37 + 1)) 101 3 0 S Try.underlying101 rfl rfl hx65
  refine sIdxV (v := .slice ad62 x56.length cp63) (k := .i64) (j := w64 (s37 + 1)) S (wN rfl) rfl rfl rfl hq67 rfl (lb rfl) fun a S => ?_
  obtain ⟨u68, S⟩ := pLoad (r := (rI .i64)) (q := q66) (x := x64) 0 S rfl
  obtain rfl : u68 = iv x64 := S.mem.know (i := 1) (e := fRep (rI .i64) (u68) x64) rfl
  refine sLoadV1 (vq := q66) 0 (iv x64) S (wN rfl) rfl rfl rfl rfl rfl (lb rfl) fun a S => ?_
  refine sMove (iv x64) S (wN rfl) (.inr rfl) rfl rfl (lb rfl) fun a S => ?_
  refine leafL (leafT (hK55 _ _ ?_))
  obtain ⟨t70, h, g71⟩ := bindSome h
  refine sCut (fun a w => ∃ o69, o69 = t70 ∧ St [] E [] w0 95 a w [(0, .slice ad1 p0.length cp2), (1, .slice ad3 p1.length cp4), (5, .slice ad7 s15.length cp8), (6, iv s16), (7, .slice ad28 s36.length cp29), (8, iv s37), (9, iv o69)] [eRow (rL (rI .i64)) 101 (.slice ad7 s15.length cp8) s15, eRow (rI .i64) 3 (.slice ad28 s36.length cp29) s36] [fRep (rL r_api_Stitch) (.slice ad1 p0.length cp2) p0, fRep (rL r_api_Stitch) (.slice ad3 p1.length cp4) p1]) ?_ (fun a w hI => ?_)
  · refine sSeq (fun K72 hK72 => ?_)
    obtain ⟨x73, hx74, h⟩ := bindSome h
    obtain ⟨x78, hx79, h⟩ := bindSome h
    obtain ⟨q83, hq84, S⟩ := pIdx (P := Try.prog) (r := r_api_Stitch) (v := .slice ad1 p0.length cp2) (xs := p0) (j := s16) 47 81 4 S Try.underlying47 rfl rfl hx74
    obtain ⟨u85, S⟩ := pLoad (r := r_api_Stitch) (q := q83) (x := x73) 0 S rfl
    obtain rfl : u85 = .agg #[.int .u8 x73.Kind, .bool x73.Purl, iv x73.A, iv x73.B] := S.mem.know (i := 1) (e := fRep r_api_Stitch (u85) x73) rfl
    obtain ⟨q86, hq87, S⟩ := pIdx (P := Try.prog) (r := r_api_Stitch) (v := .slice ad3 p1.length cp4) (xs := p1) (j := s37) 47 81 8 S Try.underlying47 rfl rfl hx79
    obtain ⟨u88, S⟩ := pLoad (r := r_api_Stitch) (q := q86) (x := x78) 0 S rfl
    obtain rfl : u88 = .agg #[.int .u8 x78.Kind, .bool x78.Purl, iv x78.A, iv x78.B] := S.mem.know (i := 1) (e := fRep r_api_Stitch (u88) x78) rfl
    refine sDraw (nf := []) (W := [(0, 58, .slice ad1 p0.length cp2), (1, 59, iv s16), (2, 60, q83), (3, 61, .agg #[.int .u8 x73.Kind, .bool x73.Purl, iv x73.A, iv x73.B]), (4, 62, .slice ad3 p1.length cp4), (5, 63, iv s37), (6, 64, q86), (7, 65, .agg #[.int .u8 x78.Kind, .bool x78.Purl, iv x78.A, iv x78.B]), (8, 66, .bool (!((x73.Kind == x78.Kind) && ((x73.Purl == x78.Purl) && ((x73.A == x78.A) && ((x73.B == x78.B) && true))))))]) rfl S ?_
    refine node_by (A := anc_raddleref46_Table_0) (nf := []) (Y := []) (W := [(0, 58, .slice ad1 p0.length cp2), (1, 59, iv s16), (2, 60, q83), (3, 61, .agg #[.int .u8 x73.Kind, .bool x73.Purl, iv x73.A, iv x73.B]), (4, 62, .slice ad3 p1.length cp4), (5, 63, iv s37), (6, 64, q86), (7, 65, .agg #[.int .u8 x78.Kind, .bool x78.Purl, iv x78.A, iv x78.B]), (8, 66, .bool (!((x73.Kind == x78.Kind) && ((x73.Purl == x78.Purl) && ((x73.A == x78.A) && ((x73.B == x78.B) && true))))))]) 9 (by kernel_rfl) (by kernel_rfl) (by kernel_rfl) (by kernel_rfl) (by kernel_rfl) [0, 1, 2, 3, 4, 5, 6, 7, 8] (by kernel_rfl) (by decide) (by decide) (aF 0 8 (by decide) ?_ (aF 1 7 (by decide) ?_ (aF 2 6 (by decide) ?_ (aF 3 5 (by decide) ?_ (aF 4 4 (by decide) ?_ (aF 5 3 (by decide) ?_ (aF 6 2 (by decide) ?_ (aF 7 1 (by decide) ?_ (aF 8 0 (by decide) ?_ (trivial)))))))))) [(0, .slice ad1 p0.length cp2), (1, .slice ad3 p1.length cp4), (5, .slice ad7 s15.length cp8), (6, iv s16), (7, .slice ad28 s36.length cp29), (8, iv s37), (9, iv x64), (66, .bool (!((x73.Kind == x78.Kind) && ((x73.Purl == x78.Purl) && ((x73.A == x78.A) && ((x73.B == x78.B) && true))))))] (fin_of [none, none, none, none, none, none, none, some 8] rfl (by kernel_rfl) (by kernel_rfl)) (fun _ a w S => ?_)
    · refine fI 58 (.slice ad1 p0.length cp2) [(0, .slice ad1 p0.length cp2)] 0 [none] rfl rfl rfl rfl rfl rfl fun G a w S => ?_
      refine sMove (.slice ad1 p0.length cp2) S (wN rfl) (.inl rfl) rfl rfl (lb rfl) fun a S => ?_
      exact leafL ⟨rfl, S⟩
    · refine fI 59 (iv s16) [(6, iv s16)] 1 [none] rfl rfl rfl rfl rfl rfl fun G a w S => ?_
      refine sMove (iv s16) S (wN rfl) (.inl rfl) rfl rfl (lb rfl) fun a S => ?_
      exact leafL ⟨rfl, S⟩
    · refine fI 60 q83 [(58, .slice ad1 p0.length cp2), (59, iv s16)] 2 [some 0, some 1] rfl rfl rfl rfl rfl rfl fun G a w S => ?_
      refine sIdxV (v := .slice ad1 p0.length cp2) (k := .i64) (j := s16) S (wN rfl) rfl rfl rfl hq84 rfl (lb rfl) fun a S => ?_
      exact leafL ⟨rfl, S⟩
    · refine fI 61 (.agg #[.int .u8 x73.Kind, .bool x73.Purl, iv x73.A, iv x73.B]) [(60, q83)] 3 [some 2] rfl rfl rfl rfl rfl rfl fun G a w S => ?_
      refine sLoadVN (vq := q83) 3 [.int .u8 x73.Kind, .bool x73.Purl, iv x73.A, iv x73.B] S (wN rfl) rfl rfl rfl rfl rfl rfl (lb rfl) fun a S => ?_
      exact leafL ⟨rfl, S⟩
    · refine fI 62 (.slice ad3 p1.length cp4) [(1, .slice ad3 p1.length cp4)] 4 [none] rfl rfl rfl rfl rfl rfl fun G a w S => ?_
      refine sMove (.slice ad3 p1.length cp4) S (wN rfl) (.inl rfl) rfl rfl (lb rfl) fun a S => ?_
      exact leafL ⟨rfl, S⟩
    · refine fI 63 (iv s37) [(8, iv s37)] 5 [none] rfl rfl rfl rfl rfl rfl fun G a w S => ?_
      refine sMove (iv s37) S (wN rfl) (.inl rfl) rfl rfl (lb rfl) fun a S => ?_
      exact leafL ⟨rfl, S⟩
    · refine fI 64 q86 [(62, .slice ad3 p1.length cp4), (63, iv s37)] 6 [some 4, some 5] rfl rfl rfl rfl rfl rfl fun G a w S => ?_
      refine sIdxV (v := .slice ad3 p1.length cp4) (k := .i64) (j := s37) S (wN rfl) rfl rfl rfl hq87 rfl (lb rfl) fun a S => ?_
      exact leafL ⟨rfl, S⟩
    · refine fI 65 (.agg #[.int .u8 x78.Kind, .bool x78.Purl, iv x78.A, iv x78.B]) [(64, q86)] 7 [some 6] rfl rfl rfl rfl rfl rfl fun G a w S => ?_
      refine sLoadVN (vq := q86) 0 [.int .u8 x78.Kind, .bool x78.Purl, iv x78.A, iv x78.B] S (wN rfl) rfl rfl rfl rfl rfl rfl (lb rfl) fun a S => ?_
      exact leafL ⟨rfl, S⟩
    · refine fI 66 (.bool (!((x73.Kind == x78.Kind) && ((x73.Purl == x78.Purl) && ((x73.A == x78.A) && ((x73.B == x78.B) && true)))))) [(61, .agg #[.int .u8 x73.Kind, .bool x73.Purl, iv x73.A, iv x73.B]), (65, .agg #[.int .u8 x78.Kind, .bool x78.Purl, iv x78.A, iv x78.B])] 8 [some 3, some 7] rfl rfl rfl rfl rfl rfl fun G a w S => ?_
      refine sBin (.bool (!((x73.Kind == x78.Kind) && ((x73.Purl == x78.Purl) && ((x73.A == x78.A) && ((x73.B == x78.B) && true)))))) S (wN rfl) rfl rfl rfl (bNeV _ _ _ _ #[.int .u8 x73.Kind, .bool x73.Purl, iv x73.A, iv x73.B] #[.int .u8 x78.Kind, .bool x78.Purl, iv x78.A, iv x78.B] ((x73.Kind == x78.Kind) && ((x73.Purl == x78.Purl) && ((x73.A == x78.A) && ((x73.B == x78.B) && true)))) (by kernel_rfl) (eqlV_of (by kernel_rfl))) rfl (lb rfl) fun a S => ?_
      exact leafL ⟨rfl, S⟩
    refine leafT (hK72 _ _ ?_)
    rcases iteSome h with ⟨hc89, h⟩ | ⟨hc89, h⟩
    rotate_left
    · refine sCondF S rfl hc89 ?_
      exact wp_skip (leafT (⟨x64, Option.some.inj h, S.fix [0, 1] [10, 11] (by decide) rfl rfl rfl⟩))
    refine sCondT S rfl hc89 ?_
    refine sRegion ?_
    refine sMove (iv x64) S (wN rfl) (.inl rfl) rfl rfl (lb rfl) fun a S => ?_
    refine sBin (iv (w64 (x64 + 1))) S (wN rfl) rfl rfl rfl (bAdd _ _ _ _ x64 1) rfl (lb rfl) fun a S => ?_
    refine sMove (iv (w64 (x64 + 1))) S (wN rfl) (.inr rfl) rfl rfl (lb rfl) fun a S => ?_
    exact leafL (leafT (⟨w64 (x64 + 1), Option.some.inj h, S.fix [0, 1] [10, 11] (by decide) rfl rfl rfl⟩))
  obtain ⟨o69, rfl, S⟩ := hI
  have h := g71
  clear g71
  try dsimp only at h
  obtain ⟨x96, hx97, h⟩ := bindSome h
  obtain ⟨x101, hx102, h⟩ := bindSome h
  obtain ⟨q106, hq107, hp108⟩ := pIdxR (P := Try.prog) (r := (rL (rI .i64))) (T := 101) (v := .slice ad7 s15.length cp8) (xs := s15) (j := w64 (s16 + 1)) 98 101 0 S Try.underlying98 rfl rfl hx57
  obtain ⟨q109, hq110, hp111⟩ := pIdxR (P := Try.prog) (r := (rI .i64)) (T := 3) (v := .slice ad28 s36.length cp29) (xs := s36) (j := w64 (s37 + 1)) 101 3 1 S Try.underlying101 rfl rfl hx102
  refine sDraw (nf := [5]) (W := [(0, 69, iv o69), (1, 70, .slice ad7 s15.length cp8), (2, 71, iv s16), (3, 72, iv (w64 (s16 + 1))), (4, 73, q106), (6, 75, iv s37), (10, 79, .slice ad28 s36.length cp29), (11, 80, iv s37), (12, 81, iv (w64 (s37 + 1))), (13, 82, q109), (14, 83, iv x101), (15, 84, iv (w64 (x101 + 1)))]) rfl S ?_
  refine node_by (A := anc_raddleref46_Table_1) (nf := [5]) (Y := []) (W := [(0, 69, iv o69), (1, 70, .slice ad7 s15.length cp8), (2, 71, iv s16), (3, 72, iv (w64 (s16 + 1))), (4, 73, q106), (6, 75, iv s37), (10, 79, .slice ad28 s36.length cp29), (11, 80, iv s37), (12, 81, iv (w64 (s37 + 1))), (13, 82, q109), (14, 83, iv x101), (15, 84, iv (w64 (x101 + 1)))]) 18 (by kernel_rfl) (by kernel_rfl) (by kernel_rfl) (by kernel_rfl) (by kernel_rfl) [0, 1, 2, 3, 4, 6, 10, 11, 12, 13, 14, 15] (by kernel_rfl) (by decide) (by decide) (aF 0 17 (by decide) ?_ (aF 1 16 (by decide) ?_ (aF 2 15 (by decide) ?_ (aF 3 14 (by decide) ?_ (aF 4 13 (by decide) ?_ (aN 5 12 (by decide) ?_ (aF 6 11 (by decide) ?_ (aE 7 10 5 (by decide) (aE 8 9 5 (by decide) (aE 9 8 5 (by decide) (aF 10 7 (by decide) ?_ (aF 11 6 (by decide) ?_ (aF 12 5 (by decide) ?_ (aF 13 4 (by decide) ?_ (aF 14 3 (by decide) ?_ (aF 15 2 (by decide) ?_ (aE 16 1 5 (by decide) (aE 17 0 5 (by decide) (trivial))))))))))))))))))) [] (fun q hq => by cases hq) (fun hY => absurd (hY 5 (by decide)) (by decide))
  · refine fI 69 (iv o69) [(9, iv o69)] 0 [none] rfl rfl rfl rfl rfl rfl fun G a w S => ?_
    refine sMove (iv o69) S (wN rfl) (.inl rfl) rfl rfl (lb rfl) fun a S => ?_
    exact leafL ⟨rfl, S⟩
  · refine fI 70 (.slice ad7 s15.length cp8) [(5, .slice ad7 s15.length cp8)] 1 [none] rfl rfl rfl rfl rfl rfl fun G a w S => ?_
    refine sMove (.slice ad7 s15.length cp8) S (wN rfl) (.inl rfl) rfl rfl (lb rfl) fun a S => ?_
    exact leafL ⟨rfl, S⟩
  · refine fI 71 (iv s16) [(6, iv s16)] 2 [none] rfl rfl rfl rfl rfl rfl fun G a w S => ?_
    refine sMove (iv s16) S (wN rfl) (.inl rfl) rfl rfl (lb rfl) fun a S => ?_
    exact leafL ⟨rfl, S⟩
  · refine fI 72 (iv (w64 (s16 + 1))) [(71, iv s16)] 3 [some 2] rfl rfl rfl rfl rfl rfl fun G a w S => ?_
    refine sBin (iv (w64 (s16 + 1))) S (wN rfl) rfl rfl rfl (bAdd _ _ _ _ s16 1) rfl (lb rfl) fun a S => ?_
    exact leafL ⟨rfl, S⟩
  · refine fI 73 q106 [(70, .slice ad7 s15.length cp8), (72, iv (w64 (s16 + 1)))] 4 [some 1, some 3] rfl rfl rfl rfl rfl rfl fun G a w S => ?_
    refine sIdxV (v := .slice ad7 s15.length cp8) (k := .i64) (j := w64 (s16 + 1)) S (wN rfl) rfl rfl rfl hq107 rfl (lb rfl) fun a S => ?_
    exact leafL ⟨rfl, S⟩
  · refine ⟨_, [(73, q106)], rfl, (srcs_of [some 4] rfl rfl rfl), fun G a w S => ?_⟩
    refine sLoadRS (r := (rL (rI .i64))) (T := 101) (xs := s15) (x := x56) (v := .slice ad7 s15.length cp8) (vq := q106) (j := w64 (s16 + 1)) 0 S hp108 (wN rfl) rfl rfl rfl hx57 (scal_L _) rfl rfl (lb rfl) fun a u112 S => ?_
    obtain ⟨ad113, cp114, _, rfl, _⟩ := S.mem.know (i := 0) (e := fRep (rL (rI .i64)) (u112) x56) rfl
    obtain ⟨q115, hq116, S⟩ := pIdx (P := Try.prog) (r := (rI .i64)) (v := .slice ad113 x56.length cp114) (xs := x56) (j := s37) 101 3 0 S Try.underlying101 rfl rfl hx97
    obtain ⟨u117, S⟩ := pLoad (r := (rI .i64)) (q := q115) (x := x96) 0 S rfl
    obtain rfl : u117 = iv x96 := S.mem.know (i := 1) (e := fRep (rI .i64) (u117) x96) rfl
    refine leafL ⟨rfl, _, _, .inl ⟨74, (.slice ad113 x56.length cp114), [(7, 76, q115), (8, 77, iv x96), (9, 78, iv (w64 (x96 + 1))), (16, 85, iv (min3 o69 (w64 (x96 + 1)) (w64 (x101 + 1)))), (17, 9, iv (min3 o69 (w64 (x96 + 1)) (w64 (x101 + 1))))], rfl, S, hz_of rfl, ?_⟩⟩
    refine node_by (A := anc_raddleref46_Table_1) (nf := [5]) (Y := [5]) 18 (by kernel_rfl) (by kernel_rfl) (by kernel_rfl) (by kernel_rfl) (by kernel_rfl) [7, 8, 9, 16, 17, 5, 0, 1, 2, 3, 4, 6, 10, 11, 12, 13, 14, 15] (by kernel_rfl) (by decide) (by decide) (aF 0 17 (by decide) ?_ (aD 1 16 5 (by decide) (aD 2 15 5 (by decide) (aD 3 14 5 (by decide) (aD 4 13 5 (by decide) (aY 5 12 (by decide) (aF 6 11 (by decide) ?_ (aF 7 10 (by decide) ?_ (aF 8 9 (by decide) ?_ (aF 9 8 (by decide) ?_ (aF 10 7 (by decide) ?_ (aF 11 6 (by decide) ?_ (aF 12 5 (by decide) ?_ (aF 13 4 (by decide) ?_ (aF 14 3 (by decide) ?_ (aF 15 2 (by decide) ?_ (aF 16 1 (by decide) ?_ (aF 17 0 (by decide) ?_ (trivial))))))))))))))))))) [(0, .slice ad1 p0.length cp2), (1, .slice ad3 p1.length cp4), (5, .slice ad7 s15.length cp8), (6, iv s16), (7, .slice ad28 s36.length cp29), (8, iv s37), (9, iv (min3 o69 (w64 (x96 + 1)) (w64 (x101 + 1))))] (fin_of [none, none, none, none, none, none, some 4] rfl (by kernel_rfl) (by kernel_rfl)) (fun _ a w S => ?_)
    · refine fI 69 (iv o69) [(9, iv o69)] 6 [none] rfl rfl rfl rfl rfl rfl fun G a w S => ?_
      refine sMove (iv o69) S (wN rfl) (.inl rfl) rfl rfl (lb rfl) fun a S => ?_
      exact leafL ⟨rfl, S⟩
    · refine fI 75 (iv s37) [(8, iv s37)] 11 [none] rfl rfl rfl rfl rfl rfl fun G a w S => ?_
      refine sMove (iv s37) S (wN rfl) (.inl rfl) rfl rfl (lb rfl) fun a S => ?_
      exact leafL ⟨rfl, S⟩
    · refine fI 76 q115 [(74, .slice ad113 x56.length cp114), (75, iv s37)] 0 [some 5, some 11] rfl rfl rfl rfl rfl rfl fun G a w S => ?_
      refine sIdxV (v := .slice ad113 x56.length cp114) (k := .i64) (j := s37) S (wN rfl) rfl rfl rfl hq116 rfl (lb rfl) fun a S => ?_
      exact leafL ⟨rfl, S⟩
    · refine fI 77 (iv x96) [(76, q115)] 1 [some 0] rfl rfl rfl rfl rfl rfl fun G a w S => ?_
      refine sLoadV1 (vq := q115) 0 (iv x96) S (wN rfl) rfl rfl rfl rfl rfl (lb rfl) fun a S => ?_
      exact leafL ⟨rfl, S⟩
    · refine fI 78 (iv (w64 (x96 + 1))) [(77, iv x96)] 2 [some 1] rfl rfl rfl rfl rfl rfl fun G a w S => ?_
      refine sBin (iv (w64 (x96 + 1))) S (wN rfl) rfl rfl rfl (bAdd _ _ _ _ x96 1) rfl (lb rfl) fun a S => ?_
      exact leafL ⟨rfl, S⟩
    · refine fI 79 (.slice ad28 s36.length cp29) [(7, .slice ad28 s36.length cp29)] 12 [none] rfl rfl rfl rfl rfl rfl fun G a w S => ?_
      refine sMove (.slice ad28 s36.length cp29) S (wN rfl) (.inl rfl) rfl rfl (lb rfl) fun a S => ?_
      exact leafL ⟨rfl, S⟩
    · refine fI 80 (iv s37) [(8, iv s37)] 13 [none] rfl rfl rfl rfl rfl rfl fun G a w S => ?_
      refine sMove (iv s37) S (wN rfl) (.inl rfl) rfl rfl (lb rfl) fun a S => ?_
      exact leafL ⟨rfl, S⟩
    · refine fI 81 (iv (w64 (s37 + 1))) [(80, iv s37)] 14 [some 13] rfl rfl rfl rfl rfl rfl fun G a w S => ?_
      refine sBin (iv (w64 (s37 + 1))) S (wN rfl) rfl rfl rfl (bAdd _ _ _ _ s37 1) rfl (lb rfl) fun a S => ?_
      exact leafL ⟨rfl, S⟩
    · refine fI 82 q109 [(79, .slice ad28 s36.length cp29), (81, iv (w64 (s37 + 1)))] 15 [some 12, some 14] rfl rfl rfl rfl rfl rfl fun G a w S => ?_
      refine sIdxV (v := .slice ad28 s36.length cp29) (k := .i64) (j := w64 (s37 + 1)) S (wN rfl) rfl rfl rfl hq110 rfl (lb rfl) fun a S => ?_
      exact leafL ⟨rfl, S⟩
    · refine fI 83 (iv x101) [(82, q109)] 16 [some 15] rfl rfl rfl rfl rfl rfl fun G a w S => ?_
      refine sLoadR (r := (rI .i64)) (T := 3) (xs := s36) (x := x101) (v := .slice ad28 s36.length cp29) (vq := q109) (j := w64 (s37 + 1)) 1 (iv x101) S hp111 (wN rfl) rfl rfl rfl hx102 (fun _ _ _ h => h) (scal_I _) rfl rfl (lb rfl) fun a S => ?_
      exact leafL ⟨rfl, S⟩
    · refine fI 84 (iv (w64 (x101 + 1))) [(83, iv x101)] 17 [some 16] rfl rfl rfl rfl rfl rfl fun G a w S => ?_
      refine sBin (iv (w64 (x101 + 1))) S (wN rfl) rfl rfl rfl (bAdd _ _ _ _ x101 1) rfl (lb rfl) fun a S => ?_
      exact leafL ⟨rfl, S⟩
    · refine fI 85 (iv (min3 o69 (w64 (x96 + 1)) (w64 (x101 + 1)))) [(69, iv o69), (78, iv (w64 (x96 + 1))), (84, iv (w64 (x101 + 1)))] 3 [some 6, some 2, some 17] rfl rfl rfl rfl rfl rfl fun G a w S => ?_
      refine sMin3 (p := o69) (q := w64 (x96 + 1)) (r := w64 (x101 + 1)) S (wN rfl) rfl rfl rfl rfl rfl (lb rfl) fun a S => ?_
      exact leafL ⟨rfl, S⟩
    · refine fI 9 (iv (min3 o69 (w64 (x96 + 1)) (w64 (x101 + 1)))) [(85, iv (min3 o69 (w64 (x96 + 1)) (w64 (x101 + 1))))] 4 [some 3] rfl rfl rfl rfl rfl rfl fun G a w S => ?_
      refine sMove (iv (min3 o69 (w64 (x96 + 1)) (w64 (x101 + 1)))) S (wN rfl) (.inr rfl) rfl rfl (lb rfl) fun a S => ?_
      exact leafL ⟨rfl, S⟩
    exact leafT (⟨min3 o69 (w64 (x96 + 1)) (w64 (x101 + 1)), Option.some.inj h, S.fix [0, 1] [4, 5] (by decide) rfl rfl rfl⟩)
  · refine fI 75 (iv s37) [(8, iv s37)] 5 [none] rfl rfl rfl rfl rfl rfl fun G a w S => ?_
    refine sMove (iv s37) S (wN rfl) (.inl rfl) rfl rfl (lb rfl) fun a S => ?_
    exact leafL ⟨rfl, S⟩
  · refine fI 79 (.slice ad28 s36.length cp29) [(7, .slice ad28 s36.length cp29)] 6 [none] rfl rfl rfl rfl rfl rfl fun G a w S => ?_
    refine sMove (.slice ad28 s36.length cp29) S (wN rfl) (.inl rfl) rfl rfl (lb rfl) fun a S => ?_
    exact leafL ⟨rfl, S⟩
  · refine fI 80 (iv s37) [(8, iv s37)] 7 [none] rfl rfl rfl rfl rfl rfl fun G a w S => ?_
    refine sMove (iv s37) S (wN rfl) (.inl rfl) rfl rfl (lb rfl) fun a S => ?_
    exact leafL ⟨rfl, S⟩
  · refine fI 81 (iv (w64 (s37 + 1))) [(80, iv s37)] 8 [some 7] rfl rfl rfl rfl rfl rfl fun G a w S => ?_
    refine sBin (iv (w64 (s37 + 1))) S (wN rfl) rfl rfl rfl (bAdd _ _ _ _ s37 1) rfl (lb rfl) fun a S => ?_
    exact leafL ⟨rfl, S⟩
  · refine fI 82 q109 [(79, .slice ad28 s36.length cp29), (81, iv (w64 (s37 + 1)))] 9 [some 6, some 8] rfl rfl rfl rfl rfl rfl fun G a w S => ?_
    refine sIdxV (v := .slice ad28 s36.length cp29) (k := .i64) (j := w64 (s37 + 1)) S (wN rfl) rfl rfl rfl hq110 rfl (lb rfl) fun a S => ?_
    exact leafL ⟨rfl, S⟩
  · refine fI 83 (iv x101) [(82, q109)] 10 [some 9] rfl rfl rfl rfl rfl rfl fun G a w S => ?_
    refine sLoadR (r := (rI .i64)) (T := 3) (xs := s36) (x := x101) (v := .slice ad28 s36.length cp29) (vq := q109) (j := w64 (s37 + 1)) 1 (iv x101) S hp111 (wN rfl) rfl rfl rfl hx102 (fun _ _ _ h => h) (scal_I _) rfl rfl (lb rfl) fun a S => ?_
    exact leafL ⟨rfl, S⟩
  refine fI 84 (iv (w64 (x101 + 1))) [(83, iv x101)] 11 [some 10] rfl rfl rfl rfl rfl rfl fun G a w S => ?_
  refine sBin (iv (w64 (x101 + 1))) S (wN rfl) rfl rfl rfl (bAdd _ _ _ _ x101 1) rfl (lb rfl) fun a S => ?_
  exact leafL ⟨rfl, S⟩

end Go.Proofs.Ytffikfajljbmnaa
namespace Go.Proofs.Ytffikfajljbmnaa
open Go.RowKit
set_option linter.unusedVariables false

end Go.Proofs.Ytffikfajljbmnaa
namespace Go.Proofs.Ytffikfajljbmnaa
open Go.RowKit
set_option linter.unusedVariables false

end Go.Proofs.Ytffikfajljbmnaa
namespace Go.Proofs.Ytffikfajljbmnaa
open Go.RowKit
set_option linter.unusedVariables false

end Go.Proofs.Ytffikfajljbmnaa
namespace Go.Proofs.Ytffikfajljbmnaa
open Go.RowKit
set_option linter.unusedVariables false

end Go.Proofs.Ytffikfajljbmnaa
namespace Go.Proofs.Ytffikfajljbmnaa
open Go.RowKit
set_option linter.unusedVariables false

end Go.Proofs.Ytffikfajljbmnaa
namespace Go.Proofs.Ytffikfajljbmnaa
open Go.RowKit
set_option linter.unusedVariables false

end Go.Proofs.Ytffikfajljbmnaa
namespace Go.Proofs.Ytffikfajljbmnaa
open Go.RowKit
set_option linter.unusedVariables false

end Go.Proofs.Ytffikfajljbmnaa
namespace Go.Proofs.Ytffikfajljbmnaa
open Go.RowKit
set_option linter.unusedVariables false

end Go.Proofs.Ytffikfajljbmnaa
namespace Go.Proofs.Ytffikfajljbmnaa
open Go.RowKit
set_option linter.unusedVariables false

end Go.Proofs.Ytffikfajljbmnaa
namespace Go.Proofs.Ytffikfajljbmnaa
open Go.RowKit
set_option linter.unusedVariables false

end Go.Proofs.Ytffikfajljbmnaa
namespace Go.Proofs.Ytffikfajljbmnaa
open Go.RowKit
set_option linter.unusedVariables false

end Go.Proofs.Ytffikfajljbmnaa
namespace Go.Proofs.Ytffikfajljbmnaa
open Go.RowKit
set_option linter.unusedVariables false

end Go.Proofs.Ytffikfajljbmnaa
namespace Go.Proofs.Ytffikfajljbmnaa
open Go.RowKit
set_option linter.unusedVariables false

theorem steq (x y : api_Stitch) : ((x.Kind == y.Kind) && ((x.Purl == y.Purl) && ((x.A == y.A) && ((x.B == y.B) && true)))) = decide (x = y) := by
  by_cases h : x = y
  · subst h; simp
  · rw [dF h]
    refine Bool.eq_false_iff.2 fun hb => h ?_
    simp only [Bool.and_eq_true, beq_iff_eq, and_true] at hb
    cases x; cases y
    simp only at hb
    obtain ⟨h1, h2, h3, h4⟩ := hb
    rw [h1, h2, h3, h4]
theorem min3_nat (x y z : Nat) : min3 (x : Int) (y : Int) (z : Int) = ((min (min x y) z : Nat) : Int) := by
  unfold min3
  repeat' split
  all_goals omega
/-- places from k on are set -/
def stS {β : Type} (z : β) (W : Nat → β) (n k : Nat) : List β := (List.range (n + 1)).map fun j => if k ≤ j then W j else z
theorem stS_len {β : Type} (z : β) (W : Nat → β) (n k : Nat) : (stS z W n k).length = n + 1 := by simp [stS]
theorem stS_get {β : Type} (z : β) (W : Nat → β) {n k j : Nat} (hj : j ≤ n) (hk : k ≤ j) : idxO (stS z W n k) (j : Int) = some (W j) := by
  rw [idxO_nat (by rw [stS_len]; omega)]
  simp [stS, hk]
theorem stS_idx {β : Type} (z : β) (W : Nat → β) {n k j : Nat} (hj : j ≤ n) : ∃ y, idxO (stS z W n k) (j : Int) = some y := ⟨_, idxO_nat (by rw [stS_len]; omega)⟩
theorem stS_list {β : Type} (z : β) (W : Nat → β) (n k : Nat) : (stS z W n (k + 1)).set k (W k) = stS z W n k := by
  apply List.ext_getElem?
  intro t
  by_cases ht : t < n + 1
  · rw [List.getElem?_set]
    simp only [stS, List.getElem?_map, List.getElem?_range ht, Option.map_some, List.length_map, List.length_range]
    by_cases e : k = t
    · subst e; rw [if_pos rfl, if_pos ht, if_pos (Nat.le_refl _)]
    · rw [if_neg e]
      by_cases e2 : k ≤ t
      · rw [if_pos (by omega), if_pos e2]
      · rw [if_neg (by omega), if_neg e2]
  · rw [List.getElem?_eq_none (by simp [stS]; omega), List.getElem?_eq_none (by simp [stS]; omega)]
theorem stS_set {β : Type} (z : β) (W : Nat → β) {n k : Nat} (hk : k ≤ n) {v : β} (hv : v = W k) : setO (stS z W n (k + 1)) (k : Int) v = some (stS z W n k) := by
  rw [setO_nat (by rw [stS_len]; omega), hv, stS_list]
theorem stS_same {β : Type} (z : β) (W : Nat → β) {n k : Nat} (h : W k = z) : stS z W n (k + 1) = stS z W n k := by
  unfold stS
  refine map_cong fun j _ => ?_
  by_cases e : k = j
  · subst e; rw [if_neg (by omega), if_pos (Nat.le_refl _), h]
  · by_cases e2 : k ≤ j
    · rw [if_pos (by omega), if_pos e2]
    · rw [if_neg (by omega), if_neg e2]
theorem stS_top {β : Type} (z : β) (W : Nat → β) (n : Nat) : stS z W n (n + 1) = List.replicate (n + 1) z := by
  unfold stS
  have : (List.range (n + 1)).map (fun j => if n + 1 ≤ j then W j else z) = (List.range (n + 1)).map fun _ => z := map_cong fun j hj => if_neg (by omega)
  rw [this]
  simp [List.map_const']
/-- a loop that goes down -/
theorem loop_dn {σ τ : Type} {B : Int × σ → Option ((Int × σ) ⊕ τ)} (n : Nat) (st : Nat → σ) {t : τ} (h : ∀ k, k ≤ n → B ((k : Int), st (k + 1)) = some (.inl ((k : Int) - 1, st k))) (hn : B (-1, st 0) = some (.inr t)) : whileO B ((n : Int), st (n + 1)) = some t := by
  have key : ∀ k, k ≤ n + 1 → whileO B ((k : Int) - 1, st k) = some t := by
    intro k
    induction k with
    | zero => intro _; exact whileO_done hn
    | succ k ih =>
      intro hk
      rw [show (((k + 1 : Nat) : Int) - 1) = (k : Int) by omega, whileO_step (h k (by omega))]
      exact ih (by omega)
  have := key (n + 1) (Nat.le_refl _)
  rw [show (((n + 1 : Nat) : Int) - 1) = (n : Int) by omega] at this
  exact this
theorem loop_dn2 {σ τ : Type} {B : σ × Int → Option ((σ × Int) ⊕ τ)} (n : Nat) (st : Nat → σ) {t : τ} (h : ∀ k, k ≤ n → B (st (k + 1), (k : Int)) = some (.inl (st k, (k : Int) - 1))) (hn : B (st 0, -1) = some (.inr t)) : whileO B (st (n + 1), (n : Int)) = some t := by
  have key : ∀ k, k ≤ n + 1 → whileO B (st k, (k : Int) - 1) = some t := by
    intro k
    induction k with
    | zero => intro _; exact whileO_done hn
    | succ k ih =>
      intro hk
      rw [show (((k + 1 : Nat) : Int) - 1) = (k : Int) by omega, whileO_step (h k (by omega))]
      exact ih (by omega)
  have := key (n + 1) (Nat.le_refl _)
  rw [show (((n + 1 : Nat) : Int) - 1) = (n : Int) by omega] at this
  exact this
theorem w64_pred {k : Nat} (h : k ≤ 9223372036854775807) : w64 ((k : Int) - 1) = (k : Int) - 1 := w64_of (by omega) (by omega)
section
variable {α : Type} (al : α → Nat) (bo : α → α → Nat)
def Wg (a b : List α) (i k : Nat) : Nat := wed al bo (a.drop i) (b.drop k)
end
section
variable {α : Type} {al : α → Nat} {bo : α → α → Nat} {a b : List α}
theorem Wg_end : Wg al bo a b a.length b.length = 0 := by unfold Wg; rw [List.drop_length, List.drop_length]; rfl
theorem Wg_b {k : Nat} (hk : k < b.length) : Wg al bo a b a.length k = Wg al bo a b a.length (k + 1) + al b[k] := by
  unfold Wg; rw [List.drop_length, List.drop_eq_getElem_cons hk]; rfl
theorem Wg_a {i : Nat} (hi : i < a.length) : Wg al bo a b i b.length = Wg al bo a b (i + 1) b.length + al a[i] := by
  unfold Wg; rw [List.drop_length, List.drop_eq_getElem_cons hi]; rfl
theorem Wg_ab {i k : Nat} (hi : i < a.length) (hk : k < b.length) : Wg al bo a b i k = min (min (Wg al bo a b (i + 1) k + al a[i]) (Wg al bo a b i (k + 1) + al b[k])) (Wg al bo a b (i + 1) (k + 1) + bo a[i] b[k]) := by
  unfold Wg; rw [List.drop_eq_getElem_cons hi, List.drop_eq_getElem_cons hk, wed_cc]
theorem sumA_drop (b : List α) (k : Nat) : sumA al (b.drop k) ≤ sumA al b := by
  induction b generalizing k with
  | nil => simp [sumA]
  | cons y b ih =>
    cases k with
    | zero => exact Nat.le_refl _
    | succ k => have := ih k; simp only [List.drop_succ_cons, sumA]; omega
theorem Wg_bd (i k : Nat) : Wg al bo a b i k ≤ sumA al a + sumA al b := by
  have h1 := wed_sum (al := al) (bo := bo) (a.drop i) (b.drop k)
  have h2 := sumA_drop (al := al) a i
  have h3 := sumA_drop (al := al) b k
  unfold Wg
  omega
end
/-- the table -/
def tbS {α : Type} (al : α → Nat) (bo : α → α → Nat) (a b : List α) (i : Nat) : List (List Int) := stS [] (fun i => stS 0 (fun k => ((Wg al bo a b i k : Nat) : Int)) b.length 0) a.length i
theorem tb_row {α : Type} (al : α → Nat) (bo : α → α → Nat) (a b : List α) {i j : Nat} (hi : i ≤ a.length) (hj : j ≤ i) : idxO (tbS al bo a b j) (i : Int) = some (stS 0 (fun k => ((Wg al bo a b i k : Nat) : Int)) b.length 0) := stS_get _ _ hi hj
theorem tb_val {α : Type} (al : α → Nat) (bo : α → α → Nat) (a b : List α) (i : Nat) {k : Nat} (hk : k ≤ b.length) : idxO (stS 0 (fun k => ((Wg al bo a b i k : Nat) : Int)) b.length 0) (k : Int) = some ((Wg al bo a b i k : Nat) : Int) := stS_get _ _ hk (Nat.zero_le _)
theorem rowS_set {α : Type} (al : α → Nat) (bo : α → α → Nat) (a b : List α) (i : Nat) {k : Nat} (hk : k ≤ b.length) : setO (stS (0 : Int) (fun k => ((Wg al bo a b i k : Nat) : Int)) b.length (k + 1)) (k : Int) ((Wg al bo a b i k : Nat) : Int) = some (stS 0 (fun k => ((Wg al bo a b i k : Nat) : Int)) b.length k) := stS_set _ _ hk rfl
theorem ctable_eq (a b : List api_Stitch) (ha : a.length ≤ 1000) (hb : b.length ≤ 1000) : F_compare_cellTable a b = some (tbS al1 bo1 a b 0) := by
  have hbd : ∀ i k, Wg al1 bo1 a b i k ≤ 2000 := by
    intro i k
    have h1 := Wg_bd (al := al1) (bo := bo1) (a := a) (b := b) i k
    rw [sumA_one (al := al1) (fun _ => rfl), sumA_one (al := al1) (fun _ => rfl)] at h1
    omega
  have hc2 : ∀ x y, F_compare_cellTable_2 x y = some ((bo1 x y : Nat) : Int) := by
    intro x y
    unfold F_compare_cellTable_2
    rw [steq]
    by_cases h : x = y
    · rw [dT h, bo1_eq h]; rfl
    · rw [dF h, bo1_ne h]; rfl
  have hc1 : ∀ x, F_compare_cellTable_1 x = some ((al1 x : Nat) : Int) := fun x => rfl
  have hrow : ∀ i, i ≤ a.length → whileO (compare_table_api_Stitch__s0_l1 (i : Int) a b (tbS al1 bo1 a b (i + 1))) ((b.length : Int), List.replicate (b.length + 1) 0) = some (stS 0 (fun k => ((Wg al1 bo1 a b i k : Nat) : Int)) b.length 0) := by
    intro i hi
    have h := loop_dn (B := compare_table_api_Stitch__s0_l1 (i : Int) a b (tbS al1 bo1 a b (i + 1))) b.length (fun k => stS 0 (fun k => ((Wg al1 bo1 a b i k : Nat) : Int)) b.length k) (t := stS 0 (fun k => ((Wg al1 bo1 a b i k : Nat) : Int)) b.length 0)
      (fun k hk => by
        have b1 := hbd i (k + 1)
        have b2 := hbd (i + 1) k
        have b3 := hbd (i + 1) (k + 1)
        obtain ⟨y, hy⟩ := stS_idx (0 : Int) (fun k => ((Wg al1 bo1 a b i k : Nat) : Int)) (k := k + 1) hk
        unfold compare_table_api_Stitch__s0_l1
        simp only [dT (show (0 : Int) ≤ (k : Int) by omega), if_true]
        by_cases e1 : i = a.length
        · by_cases e2 : k = b.length
          · simp only [bT (show (i : Int) = (a.length : Int) by omega), bT (show (k : Int) = (b.length : Int) by omega), if_true, Option.bind_some, w64_pred (show k ≤ 9223372036854775807 by omega)]
            rw [stS_same (0 : Int) (fun k => ((Wg al1 bo1 a b i k : Nat) : Int)) (by rw [e1, e2, Wg_end]; rfl)]
          · have hk2 : k < b.length := by omega
            simp only [bT (show (i : Int) = (a.length : Int) by omega), bF (show ¬ (k : Int) = (b.length : Int) by omega), if_true, Bool.false_eq_true, if_false, Option.bind_some, w64_succ (show k < 9223372036854775807 by omega), stS_get (0 : Int) (fun k => ((Wg al1 bo1 a b i k : Nat) : Int)) (show k + 1 ≤ b.length by omega) (Nat.le_refl _), idxO_nat hk2, hc1, hy, w64_pred (show k ≤ 9223372036854775807 by omega)]
            have hv : w64 (((Wg al1 bo1 a b i (k + 1) : Nat) : Int) + ((al1 b[k] : Nat) : Int)) = ((Wg al1 bo1 a b i k : Nat) : Int) := by rw [wadd (by simp only [al1]; omega), e1, Wg_b hk2]
            rw [hv, rowS_set al1 bo1 a b i hk]
            rfl
        · have hi2 : i < a.length := by omega
          by_cases e2 : k = b.length
          · simp only [bF (show ¬ (i : Int) = (a.length : Int) by omega), bT (show (k : Int) = (b.length : Int) by omega), if_true, Bool.false_eq_true, if_false, Option.bind_some, w64_succ (show i < 9223372036854775807 by omega), tb_row al1 bo1 a b (show i + 1 ≤ a.length by omega) (Nat.le_refl _), tb_val al1 bo1 a b (i + 1) hk, idxO_nat hi2, hc1, hy, w64_pred (show k ≤ 9223372036854775807 by omega)]
            have hv : w64 (((Wg al1 bo1 a b (i + 1) k : Nat) : Int) + ((al1 a[i] : Nat) : Int)) = ((Wg al1 bo1 a b i k : Nat) : Int) := by rw [wadd (by simp only [al1]; omega), e2, Wg_a hi2]
            rw [hv, rowS_set al1 bo1 a b i hk]
            rfl
          · have hk2 : k < b.length := by omega
            have b4 := bo1_le a[i] b[k]
            simp only [bF (show ¬ (i : Int) = (a.length : Int) by omega), bF (show ¬ (k : Int) = (b.length : Int) by omega), Bool.false_eq_true, if_false, Option.bind_some, w64_succ (show i < 9223372036854775807 by omega), w64_succ (show k < 9223372036854775807 by omega), tb_row al1 bo1 a b (show i + 1 ≤ a.length by omega) (Nat.le_refl _), tb_val al1 bo1 a b (i + 1) hk, tb_val al1 bo1 a b (i + 1) (show k + 1 ≤ b.length by omega), stS_get (0 : Int) (fun k => ((Wg al1 bo1 a b i k : Nat) : Int)) (show k + 1 ≤ b.length by omega) (Nat.le_refl _), idxO_nat hi2, idxO_nat hk2, hc1, hc2, hy, w64_pred (show k ≤ 9223372036854775807 by omega)]
            have hv : min3 (w64 (((Wg al1 bo1 a b (i + 1) k : Nat) : Int) + ((al1 a[i] : Nat) : Int))) (w64 (((Wg al1 bo1 a b i (k + 1) : Nat) : Int) + ((al1 b[k] : Nat) : Int))) (w64 (((Wg al1 bo1 a b (i + 1) (k + 1) : Nat) : Int) + ((bo1 a[i] b[k] : Nat) : Int))) = ((Wg al1 bo1 a b i k : Nat) : Int) := by
              rw [wadd (a := Wg al1 bo1 a b (i + 1) k) (by simp only [al1]; omega), wadd (a := Wg al1 bo1 a b i (k + 1)) (by simp only [al1]; omega), wadd (by omega), min3_nat, Wg_ab hi2 hk2]
            rw [hv, rowS_set al1 bo1 a b i hk]
            rfl)
      (by
        unfold compare_table_api_Stitch__s0_l1
        simp only [dF (show ¬ (0 : Int) ≤ -1 by decide), Bool.false_eq_true, if_false])
    rw [stS_top] at h
    exact h
  have h := loop_dn2 (B := compare_table_api_Stitch__s0_l2 b a) a.length (fun i => tbS al1 bo1 a b i) (t := tbS al1 bo1 a b 0)
    (fun i hi => by
      obtain ⟨y, hy⟩ := stS_idx ([] : List Int) (fun i => stS 0 (fun k => ((Wg al1 bo1 a b i k : Nat) : Int)) b.length 0) (k := i + 1) hi
      have hy2 : idxO (tbS al1 bo1 a b (i + 1)) (i : Int) = some y := hy
      unfold compare_table_api_Stitch__s0_l2
      simp only [dT (show (0 : Int) ≤ (i : Int) by omega), if_true, w64_succ (show b.length < 9223372036854775807 by omega)]
      rw [makeO_of (k := b.length + 1) rfl (by omega)]
      simp only [Option.bind_some, hy2, hrow i hi, w64_pred (show i ≤ 9223372036854775807 by omega), Int.toNat_natCast]
      rw [show (tbS al1 bo1 a b (i + 1)).set i (stS 0 (fun k => ((Wg al1 bo1 a b i k : Nat) : Int)) b.length 0) = tbS al1 bo1 a b i from stS_list _ _ _ _])
    (by
      unfold compare_table_api_Stitch__s0_l2
      simp only [dF (show ¬ (0 : Int) ≤ -1 by decide), Bool.false_eq_true, if_false])
  have ht : tbS al1 bo1 a b (a.length + 1) = List.replicate (a.length + 1) [] := stS_top _ _ _
  rw [ht] at h
  unfold F_compare_cellTable F_compare_table_api_Stitch__s0
  simp only [w64_succ (show a.length < 9223372036854775807 by omega)]
  rw [makeO_of (k := a.length + 1) rfl (by omega)]
  simp only [Option.bind_some, h]
theorem rtable_eq (a b : List api_Stitch) (ha : a.length ≤ 1000) (hb : b.length ≤ 1000) : F_raddleref46_Table a b = some (tbS al1 bo1 a b 0) := by
  have hbd : ∀ i k, Wg al1 bo1 a b i k ≤ 2000 := by
    intro i k
    have h1 := Wg_bd (al := al1) (bo := bo1) (a := a) (b := b) i k
    rw [sumA_one (al := al1) (fun _ => rfl), sumA_one (al := al1) (fun _ => rfl)] at h1
    omega
  have hrow : ∀ i, i ≤ a.length → whileO (raddleref46_Table_l1 (i : Int) a b (tbS al1 bo1 a b (i + 1))) (List.replicate (b.length + 1) 0, (b.length : Int)) = some (stS 0 (fun k => ((Wg al1 bo1 a b i k : Nat) : Int)) b.length 0) := by
    intro i hi
    have h := loop_dn2 (B := raddleref46_Table_l1 (i : Int) a b (tbS al1 bo1 a b (i + 1))) b.length (fun k => stS 0 (fun k => ((Wg al1 bo1 a b i k : Nat) : Int)) b.length k) (t := stS 0 (fun k => ((Wg al1 bo1 a b i k : Nat) : Int)) b.length 0)
      (fun k hk => by
        have b1 := hbd i (k + 1)
        have b2 := hbd (i + 1) k
        have b3 := hbd (i + 1) (k + 1)
        obtain ⟨y, hy⟩ := stS_idx (0 : Int) (fun k => ((Wg al1 bo1 a b i k : Nat) : Int)) (k := k + 1) hk
        unfold raddleref46_Table_l1
        simp only [dT (show (0 : Int) ≤ (k : Int) by omega), if_true]
        by_cases e : i < a.length ∧ k < b.length
        · obtain ⟨hi2, hk2⟩ := e
          simp only [dT (show (i : Int) < (a.length : Int) by omega), dT (show (k : Int) < (b.length : Int) by omega), if_true, Option.bind_some, w64_succ (show i < 9223372036854775807 by omega), w64_succ (show k < 9223372036854775807 by omega), tb_row al1 bo1 a b (show i + 1 ≤ a.length by omega) (Nat.le_refl _), tb_val al1 bo1 a b (i + 1) hk, tb_val al1 bo1 a b (i + 1) (show k + 1 ≤ b.length by omega), idxO_nat hi2, idxO_nat hk2, steq]
          have hs : (if (!decide (a[i] = b[k])) = true then some (w64 (((Wg al1 bo1 a b (i + 1) (k + 1) : Nat) : Int) + 1)) else some ((Wg al1 bo1 a b (i + 1) (k + 1) : Nat) : Int)) = some ((Wg al1 bo1 a b (i + 1) (k + 1) + bo1 a[i] b[k] : Nat) : Int) := by
            by_cases c : a[i] = b[k]
            · rw [dT c, bo1_eq c]; rfl
            · rw [dF c, bo1_ne c]; simp only [Bool.not_false, if_true]; rw [w64_succ (by omega)]
          rw [hs]
          simp only [Option.bind_some, stS_get (0 : Int) (fun k => ((Wg al1 bo1 a b i k : Nat) : Int)) (show k + 1 ≤ b.length by omega) (Nat.le_refl _), hy, w64_pred (show k ≤ 9223372036854775807 by omega)]
          have hv : min3 ((Wg al1 bo1 a b (i + 1) (k + 1) + bo1 a[i] b[k] : Nat) : Int) (w64 (((Wg al1 bo1 a b (i + 1) k : Nat) : Int) + 1)) (w64 (((Wg al1 bo1 a b i (k + 1) : Nat) : Int) + 1)) = ((Wg al1 bo1 a b i k : Nat) : Int) := by
            rw [w64_succ (k := Wg al1 bo1 a b (i + 1) k) (by omega), w64_succ (k := Wg al1 bo1 a b i (k + 1)) (by omega), min3_nat, Wg_ab hi2 hk2]
            simp only [al1]
            omega
          rw [hv, rowS_set al1 bo1 a b i hk]
          rfl
        · have hw : Wg al1 bo1 a b i k = a.length - i + (b.length - k) := by
            unfold Wg
            by_cases c : i < a.length
            · rw [show k = b.length by omega, List.drop_length, wed_nil, sumA_one (al := al1) (fun _ => rfl), List.length_drop]; omega
            · rw [show i = a.length by omega, List.drop_length]
              show sumA al1 (b.drop k) = _
              rw [sumA_one (al := al1) (fun _ => rfl), List.length_drop]; omega
          have hz : w64 (w64 (w64 ((a.length : Int) - (i : Int)) + (b.length : Int)) - (k : Int)) = ((Wg al1 bo1 a b i k : Nat) : Int) := by
            rw [hw, w64_of (x := (a.length : Int) - (i : Int)) (by omega) (by omega), w64_of (x := (a.length : Int) - (i : Int) + (b.length : Int)) (by omega) (by omega), w64_of (by omega) (by omega)]
            omega
          have hb : (if decide ((i : Int) < (a.length : Int)) = true then some (decide ((k : Int) < (b.length : Int))) else some false) = some false := by
            by_cases c : i < a.length
            · rw [dT (show (i : Int) < (a.length : Int) by omega), if_pos rfl, dF (show ¬ (k : Int) < (b.length : Int) by omega)]
            · rw [dF (show ¬ (i : Int) < (a.length : Int) by omega)]; rfl
          rw [hb]
          simp only [Option.bind_some, Bool.false_eq_true, if_false, hz, hy, w64_pred (show k ≤ 9223372036854775807 by omega)]
          rw [rowS_set al1 bo1 a b i hk]
          rfl)
      (by
        unfold raddleref46_Table_l1
        simp only [dF (show ¬ (0 : Int) ≤ -1 by decide), Bool.false_eq_true, if_false])
    rw [stS_top] at h
    exact h
  have h := loop_dn2 (B := raddleref46_Table_l2 b a) a.length (fun i => tbS al1 bo1 a b i) (t := tbS al1 bo1 a b 0)
    (fun i hi => by
      obtain ⟨y, hy⟩ := stS_idx ([] : List Int) (fun i => stS 0 (fun k => ((Wg al1 bo1 a b i k : Nat) : Int)) b.length 0) (k := i + 1) hi
      have hy2 : idxO (tbS al1 bo1 a b (i + 1)) (i : Int) = some y := hy
      have hs : setO (tbS al1 bo1 a b (i + 1)) (i : Int) (stS 0 (fun k => ((Wg al1 bo1 a b i k : Nat) : Int)) b.length 0) = some (tbS al1 bo1 a b i) := stS_set _ _ hi rfl
      unfold raddleref46_Table_l2
      simp only [dT (show (0 : Int) ≤ (i : Int) by omega), if_true, w64_succ (show b.length < 9223372036854775807 by omega)]
      rw [makeO_of (k := b.length + 1) rfl (by omega)]
      simp only [Option.bind_some, hrow i hi, hy2, hs, w64_pred (show i ≤ 9223372036854775807 by omega)])
    (by
      unfold raddleref46_Table_l2
      simp only [dF (show ¬ (0 : Int) ≤ -1 by decide), Bool.false_eq_true, if_false])
  have ht : tbS al1 bo1 a b (a.length + 1) = List.replicate (a.length + 1) [] := stS_top _ _ _
  rw [ht] at h
  unfold F_raddleref46_Table
  simp only [w64_succ (show a.length < 9223372036854775807 by omega)]
  rw [makeO_of (k := a.length + 1) rfl (by omega)]
  simp only [Option.bind_some, h]

end Go.Proofs.Ytffikfajljbmnaa
namespace Go.Proofs.Ytffikfajljbmnaa
open Go.RowKit
set_option linter.unusedVariables false

theorem tb_at (a b : List api_Stitch) {i k : Nat} (hi : i ≤ a.length) (hk : k ≤ b.length) : ∃ r, idxO (tbS al1 bo1 a b 0) (i : Int) = some r ∧ idxO r (k : Int) = some ((D1 (a.drop i) (b.drop k) : Nat) : Int) :=
  ⟨_, tb_row al1 bo1 a b hi (Nat.zero_le _), tb_val al1 bo1 a b i hk⟩
end Go.Proofs.Ytffikfajljbmnaa
namespace Go.Proofs.Ytffikfajljbmnaa
open Go.RowKit
set_option linter.unusedVariables false

noncomputable def F_stitch_Uses (p0 : (List api_Stitch)) : Option (Int × Int) :=
  Option.bind (F_stitch_All p0) fun r6 =>
  if r6 != 0 then
    some (0, r6)
  else
    Option.bind (F_stitch_sum p0) fun r12 =>
    some (r12.1, 0)
set_option maxHeartbeats 4000000 in
set_option maxRecDepth 100000 in
theorem c_stitch_Uses (E : Nat → Prop) (w0 : World) (p0 : (List api_Stitch)) (v0 : Value) (r : (Int × Int)) (h : F_stitch_Uses p0 = some r) (S : St0 E [] w0 w0 [] [fRep (rL r_api_Stitch) (v0) p0]) :
    Calls Try.prog 100 #[v0] w0 (Ret (X := Unit) E [] w0 (fun _ => .tuple #[.int .i64 r.1, .int .i64 r.2]) (fun _ => []) (fun _ => [])) := by
  unfold F_stitch_Uses at h
  obtain ⟨ad1, cp2, _, rfl, _⟩ := S.know (i := 0) (e := fRep (rL r_api_Stitch) (v0) p0) rfl
  refine sEnter (args := [.slice ad1 p0.length cp2]) 18 Try.func100 rfl rfl (by simp) S (fun a S => ?_)
  refine sSeq (fun K3 hK3 => ?_)
  refine sRegion ?_
  refine sMove (iv 0) S (wN rfl) (.inr rfl) rfl rfl (lb rfl) fun a S => ?_
  refine sMove (iv 0) S (wN rfl) (.inr rfl) rfl rfl (lb rfl) fun a S => ?_
  refine leafL (leafT (hK3 _ _ ?_))
  refine sSeq (fun K4 hK4 => ?_)
  refine sSeq (fun K5 hK5 => ?_)
  refine sRegion ?_
  refine sMove (.slice ad1 p0.length cp2) S (wN rfl) (.inl rfl) rfl rfl (lb rfl) fun a S => ?_
  obtain ⟨r6, hx7, h⟩ := bindSome h
  have S1 := S.mem
  refine sCallQ (X := Unit) (f := 56) (vs := [.slice ad1 p0.length cp2]) (val := fun _ => iv r6) S (wN rfl) rfl callee56 rfl (S1.quiet [0] rfl) (fun E1 w1 S1 => c_stitch_All E1 w1 p0 (.slice ad1 p0.length cp2) r6 hx7 S1) rfl (lb rfl) fun _ a w S => ?_
  refine sMove (iv r6) S (wN rfl) (.inr rfl) rfl rfl (lb rfl) fun a S => ?_
  refine leafL (leafT (hK5 _ _ ?_))
  refine sSeq (fun K8 hK8 => ?_)
  refine sRegion ?_
  refine sMove (iv r6) S (wN rfl) (.inl rfl) rfl rfl (lb rfl) fun a S => ?_
  refine sBin (.bool (r6 != 0)) S (wN rfl) rfl rfl rfl (bNe _ _ _ _ .i64 r6 0) rfl (lb rfl) fun a S => ?_
  refine leafL (leafT (hK8 _ _ ?_))
  rcases iteSome h with ⟨hc9, h⟩ | ⟨hc9, h⟩
  · refine sCondT S rfl hc9 ?_
    refine sSeq (fun K10 hK10 => ?_)
    refine sRegion ?_
    refine sMove (iv r6) S (wN rfl) (.inl rfl) rfl rfl (lb rfl) fun a S => ?_
    refine sMove (iv 0) S (wN rfl) (.inr rfl) rfl rfl (lb rfl) fun a S => ?_
    refine sMove (iv r6) S (wN rfl) (.inr rfl) rfl rfl (lb rfl) fun a S => ?_
    refine leafL (leafT (hK10 _ _ ?_))
    obtain rfl := Option.some.inj h
    exact wp_ret (rThen (sRet (.tuple #[iv 0, iv r6]) S (rsl2 rfl (rvT (t := 2) (v := iv 0) S rfl) (rvT (t := 3) (v := iv r6) S rfl)) ⟨(), rfl, S.mem.sel [] [] (by decide) rfl rfl⟩))
  refine sCondF S rfl hc9 ?_
  refine wp_skip (leafT (hK4 _ _ ?_))
  refine sSeq (fun K11 hK11 => ?_)
  refine sRegion ?_
  refine sMove (.slice ad1 p0.length cp2) S (wN rfl) (.inl rfl) rfl rfl (lb rfl) fun a S => ?_
  obtain ⟨r12, hx13, h⟩ := bindSome h
  have S1 := S.mem
  refine sCallQ (X := Unit) (f := 89) (vs := [.slice ad1 p0.length cp2]) (val := fun _ => .tuple #[iv r12.1, iv r12.2]) S (wN rfl) rfl callee89 rfl (S1.quiet [0] rfl) (fun E1 w1 S1 => c_stitch_sum E1 w1 p0 (.slice ad1 p0.length cp2) r12 hx13 S1) rfl (lb rfl) fun _ a w S => ?_
  refine sMove (.tuple #[iv r12.1, iv r12.2]) S (wN rfl) (.inl rfl) rfl rfl (lb rfl) fun a S => ?_
  refine sExtract (vs := [iv r12.1, iv r12.2]) (iv r12.1) S (wN rfl) rfl rfl rfl rfl (lb rfl) fun a S => ?_
  refine sExtract (vs := [iv r12.1, iv r12.2]) (iv r12.2) S (wN rfl) rfl rfl rfl rfl (lb rfl) fun a S => ?_
  refine sMove (iv r12.1) S (wN rfl) (.inr rfl) rfl rfl (lb rfl) fun a S => ?_
  refine sMove (iv r12.2) S (wN rfl) (.inr rfl) rfl rfl (lb rfl) fun a S => ?_
  refine leafL (leafT (hK11 _ _ ?_))
  refine sSeq (fun K14 hK14 => ?_)
  refine sRegion ?_
  refine sMove (iv r12.1) S (wN rfl) (.inl rfl) rfl rfl (lb rfl) fun a S => ?_
  refine sMove (iv r12.1) S (wN rfl) (.inr rfl) rfl rfl (lb rfl) fun a S => ?_
  refine sMove (iv 0) S (wN rfl) (.inr rfl) rfl rfl (lb rfl) fun a S => ?_
  refine leafL (leafT (hK14 _ _ ?_))
  obtain rfl := Option.some.inj h
  exact wp_ret (sRet (.tuple #[iv r12.1, iv 0]) S (rsl2 rfl (rvT (t := 2) (v := iv r12.1) S rfl) (rvT (t := 3) (v := iv 0) S rfl)) ⟨(), rfl, S.mem.sel [] [] (by decide) rfl rfl⟩)

end Go.Proofs.Ytffikfajljbmnaa
namespace Go.Proofs.Ytffikfajljbmnaa
open Go.RowKit
set_option linter.unusedVariables false

noncomputable def F_stitch_Makes (p0 : (List api_Stitch)) : Option (Int × Int) :=
  Option.bind (F_stitch_All p0) fun r6 =>
  if r6 != 0 then
    some (0, r6)
  else
    Option.bind (F_stitch_sum p0) fun r12 =>
    some (r12.2, 0)
set_option maxHeartbeats 4000000 in
set_option maxRecDepth 100000 in
theorem c_stitch_Makes (E : Nat → Prop) (w0 : World) (p0 : (List api_Stitch)) (v0 : Value) (r : (Int × Int)) (h : F_stitch_Makes p0 = some r) (S : St0 E [] w0 w0 [] [fRep (rL r_api_Stitch) (v0) p0]) :
    Calls Try.prog 101 #[v0] w0 (Ret (X := Unit) E [] w0 (fun _ => .tuple #[.int .i64 r.1, .int .i64 r.2]) (fun _ => []) (fun _ => [])) := by
  unfold F_stitch_Makes at h
  obtain ⟨ad1, cp2, _, rfl, _⟩ := S.know (i := 0) (e := fRep (rL r_api_Stitch) (v0) p0) rfl
  refine sEnter (args := [.slice ad1 p0.length cp2]) 18 Try.func101 rfl rfl (by simp) S (fun a S => ?_)
  refine sSeq (fun K3 hK3 => ?_)
  refine sRegion ?_
  refine sMove (iv 0) S (wN rfl) (.inr rfl) rfl rfl (lb rfl) fun a S => ?_
  refine sMove (iv 0) S (wN rfl) (.inr rfl) rfl rfl (lb rfl) fun a S => ?_
  refine leafL (leafT (hK3 _ _ ?_))
  refine sSeq (fun K4 hK4 => ?_)
  refine sSeq (fun K5 hK5 => ?_)
  refine sRegion ?_
  refine sMove (.slice ad1 p0.length cp2) S (wN rfl) (.inl rfl) rfl rfl (lb rfl) fun a S => ?_
  obtain ⟨r6, hx7, h⟩ := bindSome h
  have S1 := S.mem
  refine sCallQ (X := Unit) (f := 56) (vs := [.slice ad1 p0.length cp2]) (val := fun _ => iv r6) S (wN rfl) rfl callee56 rfl (S1.quiet [0] rfl) (fun E1 w1 S1 => c_stitch_All E1 w1 p0 (.slice ad1 p0.length cp2) r6 hx7 S1) rfl (lb rfl) fun _ a w S => ?_
  refine sMove (iv r6) S (wN rfl) (.inr rfl) rfl rfl (lb rfl) fun a S => ?_
  refine leafL (leafT (hK5 _ _ ?_))
  refine sSeq (fun K8 hK8 => ?_)
  refine sRegion ?_
  refine sMove (iv r6) S (wN rfl) (.inl rfl) rfl rfl (lb rfl) fun a S => ?_
  refine sBin (.bool (r6 != 0)) S (wN rfl) rfl rfl rfl (bNe _ _ _ _ .i64 r6 0) rfl (lb rfl) fun a S => ?_
  refine leafL (leafT (hK8 _ _ ?_))
  rcases iteSome h with ⟨hc9, h⟩ | ⟨hc9, h⟩
  · refine sCondT S rfl hc9 ?_
    refine sSeq (fun K10 hK10 => ?_)
    refine sRegion ?_
    refine sMove (iv r6) S (wN rfl) (.inl rfl) rfl rfl (lb rfl) fun a S => ?_
    refine sMove (iv 0) S (wN rfl) (.inr rfl) rfl rfl (lb rfl) fun a S => ?_
    refine sMove (iv r6) S (wN rfl) (.inr rfl) rfl rfl (lb rfl) fun a S => ?_
    refine leafL (leafT (hK10 _ _ ?_))
    obtain rfl := Option.some.inj h
    exact wp_ret (rThen (sRet (.tuple #[iv 0, iv r6]) S (rsl2 rfl (rvT (t := 2) (v := iv 0) S rfl) (rvT (t := 3) (v := iv r6) S rfl)) ⟨(), rfl, S.mem.sel [] [] (by decide) rfl rfl⟩))
  refine sCondF S rfl hc9 ?_
  refine wp_skip (leafT (hK4 _ _ ?_))
  refine sSeq (fun K11 hK11 => ?_)
  refine sRegion ?_
  refine sMove (.slice ad1 p0.length cp2) S (wN rfl) (.inl rfl) rfl rfl (lb rfl) fun a S => ?_
  obtain ⟨r12, hx13, h⟩ := bindSome h
  have S1 := S.mem
  refine sCallQ (X := Unit) (f := 89) (vs := [.slice ad1 p0.length cp2]) (val := fun _ => .tuple #[iv r12.1, iv r12.2]) S (wN rfl) rfl callee89 rfl (S1.quiet [0] rfl) (fun E1 w1 S1 => c_stitch_sum E1 w1 p0 (.slice ad1 p0.length cp2) r12 hx13 S1) rfl (lb rfl) fun _ a w S => ?_
  refine sMove (.tuple #[iv r12.1, iv r12.2]) S (wN rfl) (.inl rfl) rfl rfl (lb rfl) fun a S => ?_
  refine sExtract (vs := [iv r12.1, iv r12.2]) (iv r12.1) S (wN rfl) rfl rfl rfl rfl (lb rfl) fun a S => ?_
  refine sExtract (vs := [iv r12.1, iv r12.2]) (iv r12.2) S (wN rfl) rfl rfl rfl rfl (lb rfl) fun a S => ?_
  refine sMove (iv r12.1) S (wN rfl) (.inr rfl) rfl rfl (lb rfl) fun a S => ?_
  refine sMove (iv r12.2) S (wN rfl) (.inr rfl) rfl rfl (lb rfl) fun a S => ?_
  refine leafL (leafT (hK11 _ _ ?_))
  refine sSeq (fun K14 hK14 => ?_)
  refine sRegion ?_
  refine sMove (iv r12.2) S (wN rfl) (.inl rfl) rfl rfl (lb rfl) fun a S => ?_
  refine sMove (iv r12.2) S (wN rfl) (.inr rfl) rfl rfl (lb rfl) fun a S => ?_
  refine sMove (iv 0) S (wN rfl) (.inr rfl) rfl rfl (lb rfl) fun a S => ?_
  refine leafL (leafT (hK14 _ _ ?_))
  obtain rfl := Option.some.inj h
  exact wp_ret (sRet (.tuple #[iv r12.2, iv 0]) S (rsl2 rfl (rvT (t := 2) (v := iv r12.2) S rfl) (rvT (t := 3) (v := iv 0) S rfl)) ⟨(), rfl, S.mem.sel [] [] (by decide) rfl rfl⟩)

end Go.Proofs.Ytffikfajljbmnaa
namespace Go.Proofs.Ytffikfajljbmnaa
open Go.RowKit
set_option linter.unusedVariables false

noncomputable def F_raddleref25_Uses (p0 : (List api_Stitch)) : Option (Int × Int) :=
  Option.bind (F_raddleref25_All p0) fun r6 =>
  if r6 != 0 then
    some (0, r6)
  else
    Option.bind (F_raddleref25_sums p0) fun r11 =>
    some (r11.1, 0)
set_option maxHeartbeats 4000000 in
set_option maxRecDepth 100000 in
theorem c_raddleref25_Uses (E : Nat → Prop) (w0 : World) (p0 : (List api_Stitch)) (v0 : Value) (r : (Int × Int)) (h : F_raddleref25_Uses p0 = some r) (S : St0 E [] w0 w0 [] [fRep (rL r_api_Stitch) (v0) p0]) :
    Calls Try.prog 75 #[v0] w0 (Ret (X := Unit) E [] w0 (fun _ => .tuple #[.int .i64 r.1, .int .i64 r.2]) (fun _ => []) (fun _ => [])) := by
  unfold F_raddleref25_Uses at h
  obtain ⟨ad1, cp2, _, rfl, _⟩ := S.know (i := 0) (e := fRep (rL r_api_Stitch) (v0) p0) rfl
  refine sEnter (args := [.slice ad1 p0.length cp2]) 17 Try.func75 rfl rfl (by simp) S (fun a S => ?_)
  refine sSeq (fun K3 hK3 => ?_)
  refine sRegion ?_
  refine sMove (iv 0) S (wN rfl) (.inr rfl) rfl rfl (lb rfl) fun a S => ?_
  refine sMove (iv 0) S (wN rfl) (.inr rfl) rfl rfl (lb rfl) fun a S => ?_
  refine leafL (leafT (hK3 _ _ ?_))
  refine sSeq (fun K4 hK4 => ?_)
  refine sSeq (fun K5 hK5 => ?_)
  refine sRegion ?_
  refine sMove (.slice ad1 p0.length cp2) S (wN rfl) (.inl rfl) rfl rfl (lb rfl) fun a S => ?_
  obtain ⟨r6, hx7, h⟩ := bindSome h
  have S1 := S.mem
  refine sCallQ (X := Unit) (f := 38) (vs := [.slice ad1 p0.length cp2]) (val := fun _ => iv r6) S (wN rfl) rfl callee38 rfl (S1.quiet [0] rfl) (fun E1 w1 S1 => c_raddleref25_All E1 w1 p0 (.slice ad1 p0.length cp2) r6 hx7 S1) rfl (lb rfl) fun _ a w S => ?_
  refine sBin (.bool (r6 != 0)) S (wN rfl) rfl rfl rfl (bNe _ _ _ _ .i64 r6 0) rfl (lb rfl) fun a S => ?_
  refine leafL (leafT (hK5 _ _ ?_))
  rcases iteSome h with ⟨hc8, h⟩ | ⟨hc8, h⟩
  · refine sCondT S rfl hc8 ?_
    refine sSeq (fun K9 hK9 => ?_)
    refine sRegion ?_
    refine sMove (.slice ad1 p0.length cp2) S (wN rfl) (.inl rfl) rfl rfl (lb rfl) fun a S => ?_
    have S1 := S.mem
    refine sCallQ (X := Unit) (f := 38) (vs := [.slice ad1 p0.length cp2]) (val := fun _ => iv r6) S (wN rfl) rfl callee38 rfl (S1.quiet [0] rfl) (fun E1 w1 S1 => c_raddleref25_All E1 w1 p0 (.slice ad1 p0.length cp2) r6 hx7 S1) rfl (lb rfl) fun _ a w S => ?_
    refine sMove (iv 0) S (wN rfl) (.inr rfl) rfl rfl (lb rfl) fun a S => ?_
    refine sMove (iv r6) S (wN rfl) (.inr rfl) rfl rfl (lb rfl) fun a S => ?_
    refine leafL (leafT (hK9 _ _ ?_))
    obtain rfl := Option.some.inj h
    exact wp_ret (rThen (sRet (.tuple #[iv 0, iv r6]) S (rsl2 rfl (rvT (t := 2) (v := iv 0) S rfl) (rvT (t := 3) (v := iv r6) S rfl)) ⟨(), rfl, S.mem.sel [] [] (by decide) rfl rfl⟩))
  refine sCondF S rfl hc8 ?_
  refine wp_skip (leafT (hK4 _ _ ?_))
  refine sSeq (fun K10 hK10 => ?_)
  refine sRegion ?_
  refine sMove (.slice ad1 p0.length cp2) S (wN rfl) (.inl rfl) rfl rfl (lb rfl) fun a S => ?_
  obtain ⟨r11, hx12, h⟩ := bindSome h
  have S1 := S.mem
  refine sCallQ (X := Unit) (f := 74) (vs := [.slice ad1 p0.length cp2]) (val := fun _ => .tuple #[iv r11.1, iv r11.2]) S (wN rfl) rfl callee74 rfl (S1.quiet [0] rfl) (fun E1 w1 S1 => c_raddleref25_sums E1 w1 p0 (.slice ad1 p0.length cp2) r11 hx12 S1) rfl (lb rfl) fun _ a w S => ?_
  refine sMove (.tuple #[iv r11.1, iv r11.2]) S (wN rfl) (.inl rfl) rfl rfl (lb rfl) fun a S => ?_
  refine sExtract (vs := [iv r11.1, iv r11.2]) (iv r11.1) S (wN rfl) rfl rfl rfl rfl (lb rfl) fun a S => ?_
  refine sExtract (vs := [iv r11.1, iv r11.2]) (iv r11.2) S (wN rfl) rfl rfl rfl rfl (lb rfl) fun a S => ?_
  refine sMove (iv r11.1) S (wN rfl) (.inr rfl) rfl rfl (lb rfl) fun a S => ?_
  refine sMove (iv r11.2) S (wN rfl) (.inr rfl) rfl rfl (lb rfl) fun a S => ?_
  refine leafL (leafT (hK10 _ _ ?_))
  refine sSeq (fun K13 hK13 => ?_)
  refine sRegion ?_
  refine sMove (iv r11.1) S (wN rfl) (.inl rfl) rfl rfl (lb rfl) fun a S => ?_
  refine sMove (iv r11.1) S (wN rfl) (.inr rfl) rfl rfl (lb rfl) fun a S => ?_
  refine sMove (iv 0) S (wN rfl) (.inr rfl) rfl rfl (lb rfl) fun a S => ?_
  refine leafL (leafT (hK13 _ _ ?_))
  obtain rfl := Option.some.inj h
  exact wp_ret (sRet (.tuple #[iv r11.1, iv 0]) S (rsl2 rfl (rvT (t := 2) (v := iv r11.1) S rfl) (rvT (t := 3) (v := iv 0) S rfl)) ⟨(), rfl, S.mem.sel [] [] (by decide) rfl rfl⟩)

end Go.Proofs.Ytffikfajljbmnaa
namespace Go.Proofs.Ytffikfajljbmnaa
open Go.RowKit
set_option linter.unusedVariables false

noncomputable def F_raddleref25_Makes (p0 : (List api_Stitch)) : Option (Int × Int) :=
  Option.bind (F_raddleref25_All p0) fun r6 =>
  if r6 != 0 then
    some (0, r6)
  else
    Option.bind (F_raddleref25_sums p0) fun r11 =>
    some (r11.2, 0)
set_option maxHeartbeats 4000000 in
set_option maxRecDepth 100000 in
theorem c_raddleref25_Makes (E : Nat → Prop) (w0 : World) (p0 : (List api_Stitch)) (v0 : Value) (r : (Int × Int)) (h : F_raddleref25_Makes p0 = some r) (S : St0 E [] w0 w0 [] [fRep (rL r_api_Stitch) (v0) p0]) :
    Calls Try.prog 76 #[v0] w0 (Ret (X := Unit) E [] w0 (fun _ => .tuple #[.int .i64 r.1, .int .i64 r.2]) (fun _ => []) (fun _ => [])) := by
  unfold F_raddleref25_Makes at h
  obtain ⟨ad1, cp2, _, rfl, _⟩ := S.know (i := 0) (e := fRep (rL r_api_Stitch) (v0) p0) rfl
  refine sEnter (args := [.slice ad1 p0.length cp2]) 17 Try.func76 rfl rfl (by simp) S (fun a S => ?_)
  refine sSeq (fun K3 hK3 => ?_)
  refine sRegion ?_
  refine sMove (iv 0) S (wN rfl) (.inr rfl) rfl rfl (lb rfl) fun a S => ?_
  refine sMove (iv 0) S (wN rfl) (.inr rfl) rfl rfl (lb rfl) fun a S => ?_
  refine leafL (leafT (hK3 _ _ ?_))
  refine sSeq (fun K4 hK4 => ?_)
  refine sSeq (fun K5 hK5 => ?_)
  refine sRegion ?_
  refine sMove (.slice ad1 p0.length cp2) S (wN rfl) (.inl rfl) rfl rfl (lb rfl) fun a S => ?_
  obtain ⟨r6, hx7, h⟩ := bindSome h
  have S1 := S.mem
  refine sCallQ (X := Unit) (f := 38) (vs := [.slice ad1 p0.length cp2]) (val := fun _ => iv r6) S (wN rfl) rfl callee38 rfl (S1.quiet [0] rfl) (fun E1 w1 S1 => c_raddleref25_All E1 w1 p0 (.slice ad1 p0.length cp2) r6 hx7 S1) rfl (lb rfl) fun _ a w S => ?_
  refine sBin (.bool (r6 != 0)) S (wN rfl) rfl rfl rfl (bNe _ _ _ _ .i64 r6 0) rfl (lb rfl) fun a S => ?_
  refine leafL (leafT (hK5 _ _ ?_))
  rcases iteSome h with ⟨hc8, h⟩ | ⟨hc8, h⟩
  · refine sCondT S rfl hc8 ?_
    refine sSeq (fun K9 hK9 => ?_)
    refine sRegion ?_
    refine sMove (.slice ad1 p0.length cp2) S (wN rfl) (.inl rfl) rfl rfl (lb rfl) fun a S => ?_
    have S1 := S.mem
    refine sCallQ (X := Unit) (f := 38) (vs := [.slice ad1 p0.length cp2]) (val := fun _ => iv r6) S (wN rfl) rfl callee38 rfl (S1.quiet [0] rfl) (fun E1 w1 S1 => c_raddleref25_All E1 w1 p0 (.slice ad1 p0.length cp2) r6 hx7 S1) rfl (lb rfl) fun _ a w S => ?_
    refine sMove (iv 0) S (wN rfl) (.inr rfl) rfl rfl (lb rfl) fun a S => ?_
    refine sMove (iv r6) S (wN rfl) (.inr rfl) rfl rfl (lb rfl) fun a S => ?_
    refine leafL (leafT (hK9 _ _ ?_))
    obtain rfl := Option.some.inj h
    exact wp_ret (rThen (sRet (.tuple #[iv 0, iv r6]) S (rsl2 rfl (rvT (t := 2) (v := iv 0) S rfl) (rvT (t := 3) (v := iv r6) S rfl)) ⟨(), rfl, S.mem.sel [] [] (by decide) rfl rfl⟩))
  refine sCondF S rfl hc8 ?_
  refine wp_skip (leafT (hK4 _ _ ?_))
  refine sSeq (fun K10 hK10 => ?_)
  refine sRegion ?_
  refine sMove (.slice ad1 p0.length cp2) S (wN rfl) (.inl rfl) rfl rfl (lb rfl) fun a S => ?_
  obtain ⟨r11, hx12, h⟩ := bindSome h
  have S1 := S.mem
  refine sCallQ (X := Unit) (f := 74) (vs := [.slice ad1 p0.length cp2]) (val := fun _ => .tuple #[iv r11.1, iv r11.2]) S (wN rfl) rfl callee74 rfl (S1.quiet [0] rfl) (fun E1 w1 S1 => c_raddleref25_sums E1 w1 p0 (.slice ad1 p0.length cp2) r11 hx12 S1) rfl (lb rfl) fun _ a w S => ?_
  refine sMove (.tuple #[iv r11.1, iv r11.2]) S (wN rfl) (.inl rfl) rfl rfl (lb rfl) fun a S => ?_
  refine sExtract (vs := [iv r11.1, iv r11.2]) (iv r11.1) S (wN rfl) rfl rfl rfl rfl (lb rfl) fun a S => ?_
  refine sExtract (vs := [iv r11.1, iv r11.2]) (iv r11.2) S (wN rfl) rfl rfl rfl rfl (lb rfl) fun a S => ?_
  refine sMove (iv r11.1) S (wN rfl) (.inr rfl) rfl rfl (lb rfl) fun a S => ?_
  refine sMove (iv r11.2) S (wN rfl) (.inr rfl) rfl rfl (lb rfl) fun a S => ?_
  refine leafL (leafT (hK10 _ _ ?_))
  refine sSeq (fun K13 hK13 => ?_)
  refine sRegion ?_
  refine sMove (iv r11.2) S (wN rfl) (.inl rfl) rfl rfl (lb rfl) fun a S => ?_
  refine sMove (iv r11.2) S (wN rfl) (.inr rfl) rfl rfl (lb rfl) fun a S => ?_
  refine sMove (iv 0) S (wN rfl) (.inr rfl) rfl rfl (lb rfl) fun a S => ?_
  refine leafL (leafT (hK13 _ _ ?_))
  obtain rfl := Option.some.inj h
  exact wp_ret (sRet (.tuple #[iv r11.2, iv 0]) S (rsl2 rfl (rvT (t := 2) (v := iv r11.2) S rfl) (rvT (t := 3) (v := iv 0) S rfl)) ⟨(), rfl, S.mem.sel [] [] (by decide) rfl rfl⟩)

end Go.Proofs.Ytffikfajljbmnaa
namespace Go.Proofs.Ytffikfajljbmnaa
open Go.RowKit
set_option linter.unusedVariables false

theorem uses_eq {l : List api_Stitch} (hw : ∀ p, p ∈ l → wfS p) : F_stitch_Uses l = some (if allS l = 0 then (sm usedS l, 0) else (0, allS l)) := by
  unfold F_stitch_Uses
  rw [all_eq hw, Option.bind_some]
  by_cases h : allS l = 0
  · simp only [nF h, Bool.false_eq_true, if_false, sum_eq (allS_ok h).2.1 (show l.length ≤ 100000 by have := (allS_ok h).1; omega), Option.bind_some, if_pos h]
  · simp only [nT h, if_true, if_neg h]
theorem makes_eq {l : List api_Stitch} (hw : ∀ p, p ∈ l → wfS p) : F_stitch_Makes l = some (if allS l = 0 then (sm madeS l, 0) else (0, allS l)) := by
  unfold F_stitch_Makes
  rw [all_eq hw, Option.bind_some]
  by_cases h : allS l = 0
  · simp only [nF h, Bool.false_eq_true, if_false, sum_eq (allS_ok h).2.1 (show l.length ≤ 100000 by have := (allS_ok h).1; omega), Option.bind_some, if_pos h]
  · simp only [nT h, if_true, if_neg h]
theorem ruses_eq (l : List api_Stitch) : F_raddleref25_Uses l = some (if allS l = 0 then (sm usedS l, 0) else (0, allS l)) := by
  unfold F_raddleref25_Uses
  rw [rall_eq, Option.bind_some]
  by_cases h : allS l = 0
  · simp only [nF h, Bool.false_eq_true, if_false, rsums_eq (allS_ok h).2.1 (show l.length ≤ 100000 by have := (allS_ok h).1; omega), Option.bind_some, if_pos h]
  · simp only [nT h, if_true, if_neg h]
theorem rmakes_eq (l : List api_Stitch) : F_raddleref25_Makes l = some (if allS l = 0 then (sm madeS l, 0) else (0, allS l)) := by
  unfold F_raddleref25_Makes
  rw [rall_eq, Option.bind_some]
  by_cases h : allS l = 0
  · simp only [nF h, Bool.false_eq_true, if_false, rsums_eq (allS_ok h).2.1 (show l.length ≤ 100000 by have := (allS_ok h).1; omega), Option.bind_some, if_pos h]
  · simp only [nT h, if_true, if_neg h]

end Go.Proofs.Ytffikfajljbmnaa
