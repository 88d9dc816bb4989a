/- ComparePages: walks, tables, laws. -/
import Derived.Test.YtffikfajljbmnaaProg
import Derived.Test.YtffikfajljbmnaaRows
import Derived.Test.YtffikfajljbmnaaMComparePages3
set_option linter.unusedVariables false
set_option linter.unusedSimpArgs false
set_option maxHeartbeats 4000000
set_option maxRecDepth 100000
namespace Go.Proofs.Ytffikfajljbmnaa
open Go.RowKit
def anc_compare_table_api_Row__s0_0 : List (List Nat) := [[], [], [0, 1], [0, 1, 2], [], [], [], [5, 6], [5, 6, 7], [], [9], [5, 6, 7, 8, 9, 10], [5, 6, 7, 8, 9, 10, 11], [], [], [], [14, 15], [14, 15, 16], [13, 14, 15, 16, 17], [5, 6, 7, 8, 9, 10, 11, 12, 13, 14, 15, 16, 17, 18], [0, 1, 2, 3, 4, 5, 6, 7, 8, 9, 10, 11, 12, 13, 14, 15, 16, 17, 18, 19], [0, 1, 2, 3, 4, 5, 6, 7, 8, 9, 10, 11, 12, 13, 14, 15, 16, 17, 18, 19, 20]]
def anc_compare_table_api_Row__s0_1 : List (List Nat) := [[], [], [0, 1], [0, 1, 2], [], [], [], [6], [5, 6, 7], [5, 6, 7, 8], [], [5, 6, 7, 8, 9, 10], [5, 6, 7, 8, 9, 10, 11], [], [], [], [14, 15], [14, 15, 16], [13, 14, 15, 16, 17], [5, 6, 7, 8, 9, 10, 11, 12, 13, 14, 15, 16, 17, 18], [0, 1, 2, 3, 4, 5, 6, 7, 8, 9, 10, 11, 12, 13, 14, 15, 16, 17, 18, 19], [0, 1, 2, 3, 4, 5, 6, 7, 8, 9, 10, 11, 12, 13, 14, 15, 16, 17, 18, 19, 20]]
def anc_compare_table_api_Row__s0_2 : List (List Nat) := [[], [], [0, 1], [0, 1, 2], [], [], [], [6], [5, 6, 7], [5, 6, 7, 8], [], [5, 6, 7, 8, 9, 10], [5, 6, 7, 8, 9, 10, 11], [], [], [], [14, 15], [14, 15, 16], [13, 14, 15, 16, 17], [5, 6, 7, 8, 9, 10, 11, 12, 13, 14, 15, 16, 17, 18], [], [], [20, 21], [20, 21, 22], [], [24], [20, 21, 22, 23, 24, 25], [20, 21, 22, 23, 24, 25, 26], [], [], [], [29, 30], [29, 30, 31], [13, 14, 15, 16, 17, 18, 28, 29, 30, 31, 32], [13, 14, 15, 16, 17, 18, 20, 21, 22, 23, 24, 25, 26, 27, 28, 29, 30, 31, 32, 33], [], [], [36], [35, 36, 37], [35, 36, 37, 38], [], [40], [35, 36, 37, 38, 39, 40, 41], [35, 36, 37, 38, 39, 40, 41, 42], [], [], [], [45, 46], [45, 46, 47], [], [], [49, 50], [49, 50, 51], [13, 14, 15, 16, 17, 18, 28, 29, 30, 31, 32, 33, 44, 45, 46, 47, 48, 49, 50, 51, 52], [13, 14, 15, 16, 17, 18, 28, 29, 30, 31, 32, 33, 35, 36, 37, 38, 39, 40, 41, 42, 43, 44, 45, 46, 47, 48, 49, 50, 51, 52, 53], [5, 6, 7, 8, 9, 10, 11, 12, 13, 14, 15, 16, 17, 18, 19, 20, 21, 22, 23, 24, 25, 26, 27, 28, 29, 30, 31, 32, 33, 34, 35, 36, 37, 38, 39, 40, 41, 42, 43, 44, 45, 46, 47, 48, 49, 50, 51, 52, 53, 54], [0, 1, 2, 3, 4, 5, 6, 7, 8, 9, 10, 11, 12, 13, 14, 15, 16, 17, 18, 19, 20, 21, 22, 23, 24, 25, 26, 27, 28, 29, 30, 31, 32, 33, 34, 35, 36, 37, 38, 39, 40, 41, 42, 43, 44, 45, 46, 47, 48, 49, 50, 51, 52, 53, 54, 55], [0, 1, 2, 3, 4, 5, 6, 7, 8, 9, 10, 11, 12, 13, 14, 15, 16, 17, 18, 19, 20, 21, 22, 23, 24, 25, 26, 27, 28, 29, 30, 31, 32, 33, 34, 35, 36, 37, 38, 39, 40, 41, 42, 43, 44, 45, 46, 47, 48, 49, 50, 51, 52, 53, 54, 55, 56]]
noncomputable def compare_table_api_Row__s0_l1 (a5 : Int) (p0 : (List api_Row)) (p1 : (List api_Row)) (ao : List (List Int)) : (Int × List Int) → Option ((Int × List Int) ⊕ List Int) := fun s0 => match s0 with
 | (a0, a4) =>
  if decide (0 ≤ a0) then
   Option.bind (α := List Int) (
    Option.bind (α := Bool) (
     if a5 == (p0.length : Int) then
      some (a0 == (p1.length : Int))
     else
      some false) fun ap =>
    if ap then
     some a4
    else
     if a5 == (p0.length : Int) then
      (idxO a4 (w64 (a0 + 1))).bind fun aq =>
      (idxO p1 a0).bind fun ar =>
      (F_compare_Charts_1 ar).bind fun au =>
      (idxO a4 a0).bind fun az =>
      (setO a4 a0 (w64 (aq + au))).bind fun av =>
      some av
     else
      if a0 == (p1.length : Int) then
       (idxO ao (w64 (a5 + 1))).bind fun a9 =>
       (idxO a9 a0).bind fun aa =>
       (idxO p0 a5).bind fun ab =>
       (F_compare_Charts_1 ab).bind fun ac =>
       (idxO a4 a0).bind fun aw =>
       (setO a4 a0 (w64 (aa + ac))).bind fun ae =>
       some ae
      else
       (idxO ao (w64 (a5 + 1))).bind fun a6 =>
       (idxO a6 a0).bind fun af =>
       (idxO p0 a5).bind fun a7 =>
       (F_compare_Charts_1 a7).bind fun ag =>
       (idxO a4 (w64 (a0 + 1))).bind fun ah =>
       (idxO p1 a0).bind fun a8 =>
       (F_compare_Charts_1 a8).bind fun ai =>
       (idxO a6 (w64 (a0 + 1))).bind fun aj =>
       (F_compare_Charts_2 a7 a8).bind fun ak =>
       (idxO a4 a0).bind fun ax =>
       (setO a4 a0 (min3 (w64 (af + ag)) (w64 (ah + ai)) (w64 (aj + ak)))).bind fun am =>
       some am) fun ay =>
   some (.inl (w64 (a0 - 1), ay))
  else
   some (.inr a4)
noncomputable def compare_table_api_Row__s0_l2 (p1 : (List api_Row)) (p0 : (List api_Row)) : (List (List Int) × Int) → Option ((List (List Int) × Int) ⊕ List (List Int)) := fun s0 => match s0 with
 | (a4, a0) =>
  if decide (0 ≤ a0) then
   Option.bind (α := List Int) (
    (makeO (w64 ((p1.length : Int) + 1)) (0 : Int)).bind fun a5 =>
    (idxO a4 a0).bind fun a8 =>
    (whileO (compare_table_api_Row__s0_l1 a0 p0 p1 a4) ((p1.length : Int), a5)).bind fun a6 =>
     some a6) fun a7 =>
   some (.inl ((a4.set (a0).toNat a7), w64 (a0 - 1)))
  else
   some (.inr a4)
noncomputable def F_compare_table_api_Row__s0 (p0 : (List api_Row)) (p1 : (List api_Row)) : Option (List (List Int)) :=
 (makeO (w64 ((p0.length : Int) + 1)) ([] : (List Int))).bind fun m9 =>
 Option.bind (α := List (List Int)) (
  (whileO (compare_table_api_Row__s0_l2 p1 p0) (m9, (p0.length : Int))).bind fun a0 =>
   some a0) fun a4 =>
 some a4
def c_compare_table_api_Row__s0_val (r : (List (List Int))) (x : Value) : Value := x
def c_compare_table_api_Row__s0_D (r : (List (List Int))) (x : Value) : List Fact := [fRep (rL (rL (rI .i64))) x r]
theorem c_compare_table_api_Row__s0 (E : Nat → Prop) (w0 : World) (p0 : (List api_Row)) (v0 : Value) (p1 : (List api_Row)) (v1 : Value) (r : (List (List Int))) (h : F_compare_table_api_Row__s0 p0 p1 = some r) (S : St0 E [] w0 w0 [] [fRep (rL r_api_Row) (v0) p0, fRep (rL r_api_Row) (v1) p1]) :
 Calls Try.prog 51 #[v0, v1, .func (.func 52) #[] #[], .func (.func 53) #[] #[]] w0 (Ret (X := Value) E [] w0 (c_compare_table_api_Row__s0_val r) (fun _ => []) (c_compare_table_api_Row__s0_D r)) := by
 unfold F_compare_table_api_Row__s0 at h
 obtain ⟨ad1, cp2, _, rfl, _⟩ := S.know (i := 0) (e := fRep (rL r_api_Row) (v0) p0) rfl
 obtain ⟨ad3, cp4, _, rfl, _⟩ := S.know (i := 1) (e := fRep (rL r_api_Row) (v1) p1) rfl
 refine sEnter (args := [.slice ad1 p0.length cp2, .slice ad3 p1.length cp4, .func (.func 52) #[] #[], .func (.func 53) #[] #[]]) 156 Try.func51 rfl rfl (by simp) S (fun a S => ?_)
 refine sSeq (fun K5 hK5 => sRegion (sN S fun a S => ?_))
 refine lT (hK5 _ _ (sSeq (fun K6 hK6 => sRegion (sM S fun a S => ?_))))
 refine sLen S (wN rfl) rfl Try.underlying40 rfl rfl (lb rfl) fun a S => ?_
 refine sBin _ S (wN rfl) rfl rfl rfl (bAdd _ _ _ _ (p0.length : Int) 1) rfl (lb rfl) fun a S => ?_
 obtain ⟨m9, cY, h⟩ := bS h
 refine sMake (r := (rL (rI .i64))) (m := w64 ((p0.length : Int) + 1)) (xs := m9) (.slice none 0 0) ([] : (List Int)) 24 S (wN rfl) rfl Try.underlying98 rfl rfl (by decide) (fun E w => rL_nil _ E w) rfl rfl cY rfl (lb rfl) fun a w ad7 cp8 S => ?_
 refine sN S fun a S => ?_
 refine lT (hK6 _ _ ?_)
 obtain ⟨dR, h, dS⟩ := bS h
 refine sCut (fun a w => ∃ bu, bu = dR ∧ St [] E [] w0 156 a w [(9, .slice ad7 bu.length cp8)] [eRow (rL (rI .i64)) 101 (.slice ad7 bu.length cp8) bu] []) ?_ (fun a w hI => ?_)
 rotate_left
 ·obtain ⟨bu, rfl, S⟩ := hI
  have h := dS
  try dsimp only at h
  refine sSeq (fun dU cy => sRegion (sM S fun a S => ?_))
  refine sN S fun a S => ?_
  refine lT (cy _ _ ?_)
  obtain rfl := tS h
  have S := S.shutR (r := (rL (rI .i64))) (T := 101) (v := .slice ad7 bu.length cp8) (xs := bu) 0 rfl
  exact wp_ret (sRet (.slice ad7 bu.length cp8) S (rsl1 rfl (rvT (t := 8) (v := .slice ad7 bu.length cp8) S rfl)) ⟨(.slice ad7 bu.length cp8), rfl, S.mem.sel [] [0] (by decide) rfl rfl⟩)
 refine sSeq (fun ed cZ => sRegion (sM S fun a S => ?_))
 refine sLen S (wN rfl) rfl Try.underlying40 rfl rfl (lb rfl) fun a S => ?_
 refine sN S fun a S => ?_
 refine lT (cZ _ _ (wp_block ?_))
 obtain ⟨ee, hl, dV⟩ := bS h
 refine sLoop hl (fun s0 a w => match s0 with | (a7, a8) => St [] E [] w0 156 a w [(0, .slice ad1 p0.length cp2), (1, .slice ad3 p1.length cp4), (2, .func (.func 52) #[] #[]), (3, .func (.func 53) #[] #[]), (9, .slice ad7 a7.length cp8), (10, iv a8)] [eRow (rL (rI .i64)) 101 (.slice ad7 a7.length cp8) a7] [fRep (rL r_api_Row) (.slice ad1 p0.length cp2) p0, fRep (rL r_api_Row) (.slice ad3 p1.length cp4) p1]) (S.fix [0] [0, 1] (by decide) rfl rfl rfl) ?_
 clear hl h
 intro s0 a w c0 hI h d3
 obtain ⟨a7, a8⟩ := s0
 unfold compare_table_api_Row__s0_l2 at h
 dsimp only at h hI
 have S := hI
 refine sSeq (fun ef d4 => sSeq (fun eh d5 => sRegion (sM S fun a S => ?_)))
 refine sBin _ S (wN rfl) rfl rfl rfl (bGe _ _ _ _ .i64 a8 0) rfl (lb rfl) fun a S => ?_
 refine lT (d5 _ _ ?_)
 rcases iS h with ⟨cj, h⟩ | ⟨cj, h⟩
 rotate_left
 ·refine sCondF S rfl cj ?_
  obtain rfl := tS h
  obtain rfl := d3 _ rfl
  have h := dV
  try dsimp only at h
  exact wp_exit (xThen (xThen (xHit (leafT (⟨a7, Option.some.inj h, S.fix [0] [] (by decide) rfl rfl rfl⟩)))))
 refine sCondT S rfl cj ?_
 refine wp_skip (leafT (d4 _ _ ?_))
 obtain ⟨dW, h, dX⟩ := bS h
 refine sCut (fun a w => ∃ bg, bg = dW ∧ ∃ bh, ∃ bi, St [] E [] w0 156 a w [(0, .slice ad1 p0.length cp2), (1, .slice ad3 p1.length cp4), (2, .func (.func 52) #[] #[]), (3, .func (.func 53) #[] #[]), (9, .slice ad7 a7.length cp8), (10, iv a8)] [eHole (rL (rI .i64)) 101 (.slice ad7 a7.length cp8) a7 ((a8).toNat * (rL (rI .i64)).sz + 0) (.slice bh bg.length bi), eRow (rI .i64) 3 (.slice bh bg.length bi) bg] [fRep (rL r_api_Row) (.slice ad1 p0.length cp2) p0, fRep (rL r_api_Row) (.slice ad3 p1.length cp4) p1]) ?_ (fun a w hI => ?_)
 rotate_left
 ·obtain ⟨bg, rfl, bh, bi, S⟩ := hI
  have h := dX
  try dsimp only at h
  refine sRegion (sM S fun a S => ?_)
  refine sBin _ S (wN rfl) rfl rfl rfl (bSub _ _ _ _ a8 1) rfl (lb rfl) fun a S => ?_
  refine sN S fun a S => ?_
  have S := S.shutR (r := (rI .i64)) (T := 3) (v := .slice bh bg.length bi) (xs := bg) 1 rfl
  have S := S.closeHN (r := (rL (rI .i64))) (T := 101) (xs := a7) (y := bg) (v := .slice ad7 a7.length cp8) (u := .slice bh bg.length bi) (j := a8) 0 rfl (S.mem.know (i := 0) (e := fRep (rL (rI .i64)) (.slice bh bg.length bi) bg) rfl) rfl (scal_L _)
  rw [set_v a7 (a8).toNat bg ad7 cp8] at S
  exact lT (⟨((a7.set (a8).toNat bg), w64 (a8 - 1)), (Option.some.inj h).symm, (S.fix [0] [1, 2] (by decide) rfl rfl rfl)⟩)
 refine wp_block ?_
 refine sSeq (fun ei d6 => sRegion (sM S fun a S => ?_))
 refine sM S fun a S => ?_
 refine sM S fun a S => ?_
 refine sLen S (wN rfl) rfl Try.underlying40 rfl rfl (lb rfl) fun a S => ?_
 refine sBin _ S (wN rfl) rfl rfl rfl (bAdd _ _ _ _ (p1.length : Int) 1) rfl (lb rfl) fun a S => ?_
 obtain ⟨dM, d7, h⟩ := bS h
 refine sMake (r := (rI .i64)) (m := w64 ((p1.length : Int) + 1)) (xs := dM) (iv 0) (0 : Int) 8 S (wN rfl) rfl Try.underlying101 rfl rfl (by decide) (fun _ _ => rfl) rfl rfl d7 rfl (lb rfl) fun a w a5 a6 S => ?_
 obtain ⟨dY, ax, h⟩ := bS h
 obtain ⟨dZ, d8, d9⟩ := pIdxR (P := Try.prog) (r := (rL (rI .i64))) (T := 101) (v := .slice ad7 a7.length cp8) (xs := a7) (j := a8) 98 101 1 S Try.underlying98 rfl rfl ax
 refine sIdxV S (wN rfl) rfl rfl rfl d8 rfl (lb rfl) fun a S => ?_
 refine sStoreHE (r := (rL (rI .i64))) (T := 101) (xs := a7) (x := dY) (v := .slice ad7 a7.length cp8) (vq := dZ) (u := .slice a5 dM.length a6) (j := a8) 1 S d9 (wN rfl) rfl rfl rfl rfl ax rfl rfl rfl rfl fun a w S => ?_
 refine lT (d6 _ _ (sSeq (fun ej da => sRegion (sM S fun a S => ?_))))
 refine sLen S (wN rfl) rfl Try.underlying40 rfl rfl (lb rfl) fun a S => ?_
 refine sN S fun a S => ?_
 refine lT (da _ _ (wp_block ?_))
 obtain ⟨ek, hl, e0⟩ := bS h
 refine sLoop hl (fun s0 a w => match s0 with | (a9, aa) => St [] E [] w0 156 a w [(0, .slice ad1 p0.length cp2), (1, .slice ad3 p1.length cp4), (2, .func (.func 52) #[] #[]), (3, .func (.func 53) #[] #[]), (9, .slice ad7 a7.length cp8), (10, iv a8), (11, iv a9)] [eHole (rL (rI .i64)) 101 (.slice ad7 a7.length cp8) a7 ((a8).toNat * (rL (rI .i64)).sz + 0) (.slice a5 aa.length a6), eRow (rI .i64) 3 (.slice a5 aa.length a6) aa] [fRep (rL r_api_Row) (.slice ad1 p0.length cp2) p0, fRep (rL r_api_Row) (.slice ad3 p1.length cp4) p1]) (S.fix [0, 1] [0, 1] (by decide) rfl rfl rfl) ?_
 clear hl h
 intro s0 a w c0 hI h db
 obtain ⟨a9, aa⟩ := s0
 unfold compare_table_api_Row__s0_l1 at h
 dsimp only at h hI
 have S := hI
 refine sSeq (fun el dc => sSeq (fun en de => sRegion (sM S fun a S => ?_)))
 refine sBin _ S (wN rfl) rfl rfl rfl (bGe _ _ _ _ .i64 a9 0) rfl (lb rfl) fun a S => ?_
 refine lT (de _ _ ?_)
 rcases iS h with ⟨ck, h⟩ | ⟨ck, h⟩
 rotate_left
 ·refine sCondF S rfl ck ?_
  obtain rfl := tS h
  obtain rfl := db _ rfl
  have h := e0
  try dsimp only at h
  exact wp_exit (xThen (xThen (xHit (leafB (leafT (⟨aa, Option.some.inj h, a5, a6, S.fix [0, 1] [0, 1] (by decide) rfl rfl rfl⟩))))))
 refine sCondT S rfl ck ?_
 refine wp_skip (leafT (dc _ _ ?_))
 obtain ⟨e5, h, e6⟩ := bS h
 refine sCut (fun a w => ∃ cx, cx = e5 ∧ St [] E [] w0 156 a w [(0, .slice ad1 p0.length cp2), (1, .slice ad3 p1.length cp4), (2, .func (.func 52) #[] #[]), (3, .func (.func 53) #[] #[]), (9, .slice ad7 a7.length cp8), (10, iv a8), (11, iv a9)] [eHole (rL (rI .i64)) 101 (.slice ad7 a7.length cp8) a7 ((a8).toNat * (rL (rI .i64)).sz + 0) (.slice a5 cx.length a6), eRow (rI .i64) 3 (.slice a5 cx.length a6) cx] [fRep (rL r_api_Row) (.slice ad1 p0.length cp2) p0, fRep (rL r_api_Row) (.slice ad3 p1.length cp4) p1]) ?_ (fun a w hI => ?_)
 rotate_left
 ·obtain ⟨cx, rfl, S⟩ := hI
  have h := e6
  try dsimp only at h
  refine sRegion (sM S fun a S => ?_)
  refine sBin _ S (wN rfl) rfl rfl rfl (bSub _ _ _ _ a9 1) rfl (lb rfl) fun a S => ?_
  refine sN S fun a S => ?_
  exact lT (⟨(w64 (a9 - 1), cx), (Option.some.inj h).symm, (S.fix [0, 1] [0, 1] (by decide) rfl rfl rfl)⟩)
 refine wp_block ?_
 refine wp_block ?_
 obtain ⟨e7, h, e8⟩ := bS h
 refine sCut (fun a w => ∃ df, df = e7 ∧ St [] E [] w0 156 a w [(0, .slice ad1 p0.length cp2), (1, .slice ad3 p1.length cp4), (2, .func (.func 52) #[] #[]), (3, .func (.func 53) #[] #[]), (9, .slice ad7 a7.length cp8), (10, iv a8), (11, iv a9), (92, .bool df)] [eHole (rL (rI .i64)) 101 (.slice ad7 a7.length cp8) a7 ((a8).toNat * (rL (rI .i64)).sz + 0) (.slice a5 aa.length a6), eRow (rI .i64) 3 (.slice a5 aa.length a6) aa] [fRep (rL r_api_Row) (.slice ad1 p0.length cp2) p0, fRep (rL r_api_Row) (.slice ad3 p1.length cp4) p1]) ?_ (fun a w hI => ?_)
 ·refine sRegion (sM S fun a S => ?_)
  refine sM S fun a S => ?_
  refine sLen S (wN rfl) rfl Try.underlying40 rfl rfl (lb rfl) fun a S => ?_
  refine sBin _ S (wN rfl) rfl rfl rfl (bEq _ _ _ _ .i64 a8 (p0.length : Int)) rfl (lb rfl) fun a S => ?_
  refine sM S fun a S => ?_
  rcases iS h with ⟨aH, h⟩ | ⟨aH, h⟩
  rotate_left
  ·refine sSkN 4 4 true 97 S rfl rfl aH rfl fun a S => ?_
   refine sPickF (.bool false) S (wN rfl) rfl rfl aH rfl rfl (lb rfl) fun a S => ?_
   refine sN S fun a S => ?_
   exact lT (⟨false, Option.some.inj h, S.fix [0, 1] [0, 1] (by decide) rfl rfl rfl⟩)
  refine sMove (iv a9) S (wG 4 true 97 rfl rfl rfl aH) (.inl rfl) rfl rfl (lb rfl) fun a S => ?_
  refine sMove (.slice ad3 p1.length cp4) S (wG 4 true 97 rfl rfl rfl aH) (.inl rfl) rfl rfl (lb rfl) fun a S => ?_
  refine sLen S (wG 4 true 97 rfl rfl rfl aH) rfl Try.underlying40 rfl rfl (lb rfl) fun a S => ?_
  refine sBin _ S (wG 4 true 97 rfl rfl rfl aH) rfl rfl rfl (bEq _ _ _ _ .i64 a9 (p1.length : Int)) rfl (lb rfl) fun a S => ?_
  refine sPickT (.bool (a9 == (p1.length : Int))) S (wN rfl) rfl rfl aH rfl rfl (lb rfl) fun a S => ?_
  refine sN S fun a S => ?_
  exact lT (⟨a9 == (p1.length : Int), Option.some.inj h, S.fix [0, 1] [0, 1] (by decide) rfl rfl rfl⟩)
 obtain ⟨df, rfl, S⟩ := hI
 have h := e8
 try dsimp only at h
 rcases iS h with ⟨cl, h⟩ | ⟨cl, h⟩
 ·refine sCondT S rfl cl ?_
  exact wp_skip (leafB (leafB (leafT (⟨aa, Option.some.inj h, S.fix [0, 1] [0, 1] (by decide) rfl rfl rfl⟩))))
 refine sCondF S rfl cl ?_
 refine sSeq (fun eo dg => sRegion (sM S fun a S => ?_))
 refine sM S fun a S => ?_
 refine sLen S (wN rfl) rfl Try.underlying40 rfl rfl (lb rfl) fun a S => ?_
 refine sBin _ S (wN rfl) rfl rfl rfl (bEq _ _ _ _ .i64 a8 (p0.length : Int)) rfl (lb rfl) fun a S => ?_
 refine sN S fun a S => ?_
 refine lT (dg _ _ ?_)
 rcases iS h with ⟨cm, h⟩ | ⟨cm, h⟩
 ·refine sCondT S rfl cm ?_
  obtain ⟨bA, cz, h⟩ := bS h
  obtain ⟨bm, dh, h⟩ := bS h
  obtain ⟨bB, di, h⟩ := bS h
  obtain ⟨ep, dj, h⟩ := bS h
  obtain ⟨dN, cA, h⟩ := bS h
  obtain ⟨dO, dk, dl⟩ := pIdxH (P := Try.prog) (r := (rL (rI .i64))) (T := 101) (v := .slice ad7 a7.length cp8) (xs := a7) (j := a8) 98 101 0 S Try.underlying98 rfl rfl ax
  obtain ⟨dP, dm, dn⟩ := pIdxH (P := Try.prog) (r := (rL (rI .i64))) (T := 101) (v := .slice ad7 a7.length cp8) (xs := a7) (j := a8) 98 101 0 S Try.underlying98 rfl rfl ax
  obtain ⟨dQ, dp, dr⟩ := pIdxR (P := Try.prog) (r := (rI .i64)) (T := 3) (v := .slice a5 aa.length a6) (xs := aa) (j := w64 (a9 + 1)) 101 3 1 S Try.underlying101 rfl rfl cz
  obtain ⟨dt, du, S⟩ := pIdx (P := Try.prog) (r := r_api_Row) (v := .slice ad3 p1.length cp4) (xs := p1) (j := a9) 40 87 1 S Try.underlying40 rfl rfl dh
  obtain ⟨e9, S⟩ := pLoad (r := r_api_Row) (q := dt) (x := bm) 0 S rfl
  obtain ⟨dv, rfl, bC⟩ := S.mem.know (i := 1) (e := fRep r_api_Row (e9) bm) rfl
  have S := S.learn (fRep (rL r_api_Stitch) dv bm.Cells) bC
  obtain ⟨bb, bc, _, rfl, _⟩ := bC
  obtain ⟨cn, cB, cC⟩ := pIdxR (P := Try.prog) (r := (rI .i64)) (T := 3) (v := .slice a5 aa.length a6) (xs := aa) (j := a9) 101 3 1 S Try.underlying101 rfl rfl dj
  refine sDraw (nf := [21]) (W := [(0, 108, .slice ad7 a7.length cp8), (1, 109, iv a8), (2, 110, dO), (3, 111, .slice a5 aa.length a6), (4, 112, iv a9), (5, 113, .slice ad7 a7.length cp8), (6, 114, iv a8), (7, 115, dP), (8, 116, .slice a5 aa.length a6), (9, 117, iv a9), (10, 118, iv (w64 (a9 + 1))), (11, 119, dQ), (12, 120, iv bA), (13, 121, .func (.func 52) #[] #[]), (14, 122, .slice ad3 p1.length cp4), (15, 123, iv a9), (16, 124, dt), (17, 125, .agg #[.bool bm.Back, .slice bb bm.Cells.length bc]), (18, 126, iv bB), (19, 127, iv (w64 (bA + bB))), (20, 128, cn)]) rfl S ?_
  refine node_by (A := anc_compare_table_api_Row__s0_0) 22 (by kernel_rfl) (by kernel_rfl) (by kernel_rfl) (by kernel_rfl) (by kernel_rfl) [0, 1, 2, 3, 4, 5, 6, 7, 8, 9, 10, 11, 12, 13, 14, 15, 16, 17, 18, 19, 20] (by kernel_rfl) (by decide) (by decide) (fF ?_ (fF ?_ (fF ?_ (fF ?_ (fF ?_ (fF ?_ (fF ?_ (fF ?_ (fF ?_ (fF ?_ (fF ?_ (fF ?_ (fF ?_ (fF ?_ (fF ?_ (fF ?_ (fF ?_ (fF ?_ (fF ?_ (fF ?_ (fF ?_ (fN ?_ (trivial))))))))))))))))))))))) [] (fun q hq => by cases hq) (fun hY => absurd (hY 21 (by decide)) (by decide))
  ·exact fM 0 none rfl rfl rfl rfl (.inl rfl) rfl rfl rfl
  ·exact fM 1 none rfl rfl rfl rfl (.inl rfl) rfl rfl rfl
  ·refine fJ [(108, _), (109, _)] 2 [some 0, some 1] fun G a w S => ?_
   exact sIdxV S (wN rfl) rfl rfl rfl dk rfl (lb rfl) fun a S => leafL ⟨rfl, S⟩
  ·refine fJ [(110, _)] 3 [some 2] fun G a w S => ?_
   exact sLoadHE (r := (rL (rI .i64))) (T := 101) (xs := a7) (u := .slice a5 aa.length a6) (v := .slice ad7 a7.length cp8) (vq := dO) (j := a8) 0 S dl (wN rfl) rfl rfl rfl rfl rfl (lb rfl) fun a S => leafL ⟨rfl, S⟩
  ·exact fM 4 none rfl rfl rfl rfl (.inl rfl) rfl rfl rfl
  ·exact fM 5 none rfl rfl rfl rfl (.inl rfl) rfl rfl rfl
  ·exact fM 6 none rfl rfl rfl rfl (.inl rfl) rfl rfl rfl
  ·refine fJ [(113, _), (114, _)] 7 [some 5, some 6] fun G a w S => ?_
   exact sIdxV S (wN rfl) rfl rfl rfl dm rfl (lb rfl) fun a S => leafL ⟨rfl, S⟩
  ·refine fJ [(115, _)] 8 [some 7] fun G a w S => ?_
   exact sLoadHE (r := (rL (rI .i64))) (T := 101) (xs := a7) (u := .slice a5 aa.length a6) (v := .slice ad7 a7.length cp8) (vq := dP) (j := a8) 0 S dn (wN rfl) rfl rfl rfl rfl rfl (lb rfl) fun a S => leafL ⟨rfl, S⟩
  ·exact fM 9 none rfl rfl rfl rfl (.inl rfl) rfl rfl rfl
  ·refine fJ [(117, _)] 10 [some 9] fun G a w S => ?_
   exact sBin _ S (wN rfl) rfl rfl rfl (bAdd _ _ _ _ a9 1) rfl (lb rfl) fun a S => leafL ⟨rfl, S⟩
  ·refine fJ [(116, _), (118, _)] 11 [some 8, some 10] fun G a w S => ?_
   exact sIdxV S (wN rfl) rfl rfl rfl dp rfl (lb rfl) fun a S => leafL ⟨rfl, S⟩
  ·refine fJ [(119, _)] 12 [some 11] fun G a w S => ?_
   exact sLoadR (r := (rI .i64)) (T := 3) (xs := aa) (x := bA) (v := .slice a5 aa.length a6) (vq := dQ) (j := w64 (a9 + 1)) 1 (iv bA) S dr (wN rfl) rfl rfl rfl cz (fun _ _ _ h => h) (scal_I _) rfl rfl (lb rfl) fun a S => leafL ⟨rfl, S⟩
  ·exact fM 13 none rfl rfl rfl rfl (.inl rfl) rfl rfl rfl
  ·exact fM 14 none rfl rfl rfl rfl (.inl rfl) rfl rfl rfl
  ·exact fM 15 none rfl rfl rfl rfl (.inl rfl) rfl rfl rfl
  ·refine fJ [(122, _), (123, _)] 16 [some 14, some 15] fun G a w S => ?_
   exact sIdxV S (wN rfl) rfl rfl rfl du rfl (lb rfl) fun a S => leafL ⟨rfl, S⟩
  ·refine fJ [(124, _)] 17 [some 16] fun G a w S => ?_
   exact sLoadVN (vq := dt) 1 [.bool bm.Back, .slice bb bm.Cells.length bc] S (wN rfl) rfl rfl rfl rfl rfl rfl (lb rfl) fun a S => leafL ⟨rfl, S⟩
  ·refine fJ [(121, _), (125, _)] 18 [some 13, some 17] fun G a w S => ?_
   have S1 := S.mem
   refine sCallVQ (X := Unit) (g := 52) (vs := [.agg #[.bool bm.Back, .slice bb bm.Cells.length bc]]) (caps := []) (val := fun _ => iv bB) S (wN rfl) rfl rfl callee52 rfl (S1.quiet [2] rfl) (fun E1 w1 S1 => c_compare_Charts_1 E1 w1 bm (.agg #[.bool bm.Back, .slice bb bm.Cells.length bc]) bB di S1) rfl (lb rfl) fun _ a w S => ?_
   exact leafL ⟨rfl, S⟩
  ·refine fJ [(120, _), (126, _)] 19 [some 12, some 18] fun G a w S => ?_
   exact sBin _ S (wN rfl) rfl rfl rfl (bAdd _ _ _ _ bA bB) rfl (lb rfl) fun a S => leafL ⟨rfl, S⟩
  ·refine fJ [(111, _), (112, _)] 20 [some 3, some 4] fun G a w S => ?_
   exact sIdxV S (wN rfl) rfl rfl rfl cB rfl (lb rfl) fun a S => leafL ⟨rfl, S⟩
  refine ⟨_, [(127, iv (w64 (bA + bB))), (128, cn)], rfl, (srcs_of [some 19, some 20] rfl rfl rfl), fun G a w S => ?_⟩
  refine sStoreR (r := (rI .i64)) (T := 3) (xs := aa) (ys := dN) (y := (w64 (bA + bB))) (v := .slice a5 aa.length a6) (vq := cn) (u := iv (w64 (bA + bB))) (j := a9) 1 S cC (wN rfl) rfl rfl rfl rfl rfl cA rfl rfl fun a w S => ?_
  refine leafL ⟨rfl, _, _, .inr ⟨[], rfl, S, hz_of rfl, ?_⟩⟩
  refine node_by (A := anc_compare_table_api_Row__s0_0) 22 (by kernel_rfl) (by kernel_rfl) (by kernel_rfl) (by kernel_rfl) (by kernel_rfl) [0, 1, 2, 3, 4, 5, 6, 7, 8, 9, 10, 11, 12, 13, 14, 15, 16, 17, 18, 19, 20] (by kernel_rfl) (by decide) (by decide) (fD 21 (fD 21 (fD 21 (fD 21 (fD 21 (fD 21 (fD 21 (fD 21 (fD 21 (fD 21 (fD 21 (fD 21 (fD 21 (fD 21 (fD 21 (fD 21 (fD 21 (fD 21 (fD 21 (fD 21 (fD 21 (fY (trivial))))))))))))))))))))))) [(0, .slice ad1 p0.length cp2), (1, .slice ad3 p1.length cp4), (2, .func (.func 52) #[] #[]), (3, .func (.func 53) #[] #[]), (9, .slice ad7 a7.length cp8), (10, iv a8), (11, iv a9)] (fin_of [none, none, none, none, none, none, none] rfl (by kernel_rfl) (by kernel_rfl)) (fun _ a w S => ?_)
  rw [setO_v cA a5 a6] at S
  exact leafB (leafB (leafT (⟨dN, Option.some.inj h, S.fix [1, 0] [4, 5] (by decide) rfl rfl rfl⟩)))
 refine sCondF S rfl cm ?_
 refine sSeq (fun ea cD => sRegion (sM S fun a S => ?_))
 refine sM S fun a S => ?_
 refine sLen S (wN rfl) rfl Try.underlying40 rfl rfl (lb rfl) fun a S => ?_
 refine sBin _ S (wN rfl) rfl rfl rfl (bEq _ _ _ _ .i64 a9 (p1.length : Int)) rfl (lb rfl) fun a S => ?_
 refine sN S fun a S => ?_
 refine lT (cD _ _ ?_)
 rcases iS h with ⟨bn, h⟩ | ⟨bn, h⟩
 ·refine sCondT S rfl bn ?_
  obtain ⟨bp, bq, h⟩ := bS h
  obtain ⟨aA, cE, h⟩ := bS h
  obtain ⟨av, cF, h⟩ := bS h
  obtain ⟨aC, bD, h⟩ := bS h
  obtain ⟨eb, cG, h⟩ := bS h
  obtain ⟨cH, bE, h⟩ := bS h
  obtain ⟨co, bG, bH⟩ := pIdxH (P := Try.prog) (r := (rL (rI .i64))) (T := 101) (v := .slice ad7 a7.length cp8) (xs := a7) (j := a8) 98 101 0 S Try.underlying98 rfl rfl ax
  obtain ⟨cp, cI, cJ⟩ := pIdxH (P := Try.prog) (r := (rL (rI .i64))) (T := 101) (v := .slice ad7 a7.length cp8) (xs := a7) (j := w64 (a8 + 1)) 98 101 0 S Try.underlying98 rfl rfl bq
  obtain ⟨bv, bI, S⟩ := pIdx (P := Try.prog) (r := r_api_Row) (v := .slice ad1 p0.length cp2) (xs := p0) (j := a8) 40 87 0 S Try.underlying40 rfl rfl cF
  obtain ⟨dw, S⟩ := pLoad (r := r_api_Row) (q := bv) (x := av) 0 S rfl
  obtain ⟨dx, rfl, bJ⟩ := S.mem.know (i := 1) (e := fRep r_api_Row (dw) av) rfl
  have S := S.learn (fRep (rL r_api_Stitch) dx av.Cells) bJ
  obtain ⟨ay, az, _, rfl, _⟩ := bJ
  refine sDraw (nf := [9, 21]) (W := [(0, 134, .slice ad7 a7.length cp8), (1, 135, iv a8), (2, 136, co), (3, 137, .slice a5 aa.length a6), (4, 138, iv a9), (5, 139, .slice ad7 a7.length cp8), (6, 140, iv a8), (7, 141, iv (w64 (a8 + 1))), (8, 142, cp), (10, 144, iv a9), (13, 147, .func (.func 52) #[] #[]), (14, 148, .slice ad1 p0.length cp2), (15, 149, iv a8), (16, 150, bv), (17, 151, .agg #[.bool av.Back, .slice ay av.Cells.length az]), (18, 152, iv aC)]) rfl S ?_
  refine node_by (A := anc_compare_table_api_Row__s0_1) 22 (by kernel_rfl) (by kernel_rfl) (by kernel_rfl) (by kernel_rfl) (by kernel_rfl) [0, 1, 2, 3, 4, 5, 6, 7, 8, 10, 13, 14, 15, 16, 17, 18] (by kernel_rfl) (by decide) (by decide) (fF ?_ (fF ?_ (fF ?_ (fF ?_ (fF ?_ (fF ?_ (fF ?_ (fF ?_ (fF ?_ (fN ?_ (fF ?_ (fE 9 (fE 9 (fF ?_ (fF ?_ (fF ?_ (fF ?_ (fF ?_ (fF ?_ (fE 9 (fE 9 (aB 21 0 9 (by decide) (trivial))))))))))))))))))))))) [] (fun q hq => by cases hq) (fun hY => absurd (hY 9 (by decide)) (by decide))
  ·exact fM 0 none rfl rfl rfl rfl (.inl rfl) rfl rfl rfl
  ·exact fM 1 none rfl rfl rfl rfl (.inl rfl) rfl rfl rfl
  ·refine fJ [(134, _), (135, _)] 2 [some 0, some 1] fun G a w S => ?_
   exact sIdxV S (wN rfl) rfl rfl rfl bG rfl (lb rfl) fun a S => leafL ⟨rfl, S⟩
  ·refine fJ [(136, _)] 3 [some 2] fun G a w S => ?_
   exact sLoadHE (r := (rL (rI .i64))) (T := 101) (xs := a7) (u := .slice a5 aa.length a6) (v := .slice ad7 a7.length cp8) (vq := co) (j := a8) 0 S bH (wN rfl) rfl rfl rfl rfl rfl (lb rfl) fun a S => leafL ⟨rfl, S⟩
  ·exact fM 4 none rfl rfl rfl rfl (.inl rfl) rfl rfl rfl
  ·exact fM 5 none rfl rfl rfl rfl (.inl rfl) rfl rfl rfl
  ·exact fM 6 none rfl rfl rfl rfl (.inl rfl) rfl rfl rfl
  ·refine fJ [(140, _)] 7 [some 6] fun G a w S => ?_
   exact sBin _ S (wN rfl) rfl rfl rfl (bAdd _ _ _ _ a8 1) rfl (lb rfl) fun a S => leafL ⟨rfl, S⟩
  ·refine fJ [(139, _), (141, _)] 8 [some 5, some 7] fun G a w S => ?_
   exact sIdxV S (wN rfl) rfl rfl rfl cI rfl (lb rfl) fun a S => leafL ⟨rfl, S⟩
  ·refine ⟨_, [(142, cp)], rfl, (srcs_of [some 8] rfl rfl rfl), fun G a w S => ?_⟩
   refine sLoadHo (r := (rL (rI .i64))) (T := 101) (xs := a7) (x := bp) (p := (a8).toNat * (rL (rI .i64)).sz + 0) (u := .slice a5 aa.length a6) (v := .slice ad7 a7.length cp8) (vq := cp) (j := w64 (a8 + 1)) 0 S cJ (wN rfl) rfl rfl rfl bq (idx_next (by decide) (hole_lim 0 S.mem rfl) ax bq) (scal_L _) rfl rfl (lb rfl) fun a dy S => ?_
   obtain ⟨bK, bL, _, rfl, _⟩ := S.mem.know (i := 0) (e := fRep (rL (rI .i64)) (dy) bp) rfl
   obtain ⟨cq, cK, S⟩ := pIdx (P := Try.prog) (r := (rI .i64)) (v := .slice bK bp.length bL) (xs := bp) (j := a9) 101 3 0 S Try.underlying101 rfl rfl cE
   obtain ⟨cL, S⟩ := pLoad (r := (rI .i64)) (q := cq) (x := aA) 0 S rfl
   obtain rfl : cL = iv aA := S.mem.know (i := 1) (e := fRep (rI .i64) (cL) aA) rfl
   obtain ⟨cr, cM, cN⟩ := pIdxR (P := Try.prog) (r := (rI .i64)) (T := 3) (v := .slice a5 aa.length a6) (xs := aa) (j := a9) 101 3 1 S Try.underlying101 rfl rfl cG
   refine leafL ⟨rfl, _, _, .inl ⟨143, (.slice bK bp.length bL), [(11, 145, cq), (12, 146, iv aA), (19, 153, iv (w64 (aA + aC))), (20, 154, cr)], rfl, S, hz_of rfl, ?_⟩⟩
   refine node_by (A := anc_compare_table_api_Row__s0_1) 22 (by kernel_rfl) (by kernel_rfl) (by kernel_rfl) (by kernel_rfl) (by kernel_rfl) [11, 12, 19, 20, 9, 0, 1, 2, 3, 4, 5, 6, 7, 8, 10, 13, 14, 15, 16, 17, 18] (by kernel_rfl) (by decide) (by decide) (fF ?_ (fF ?_ (fF ?_ (fF ?_ (fF ?_ (fD 9 (fD 9 (fD 9 (fD 9 (fY (fF ?_ (fF ?_ (fF ?_ (fF ?_ (fF ?_ (fF ?_ (fF ?_ (fF ?_ (fF ?_ (fF ?_ (fF ?_ (fN ?_ (trivial))))))))))))))))))))))) [] (fun q hq => by cases hq) (fun hY => absurd (hY 21 (by decide)) (by decide))
   ·exact fM 5 none rfl rfl rfl rfl (.inl rfl) rfl rfl rfl
   ·exact fM 6 none rfl rfl rfl rfl (.inl rfl) rfl rfl rfl
   ·refine fJ [(134, _), (135, _)] 7 [some 5, some 6] fun G a w S => ?_
    exact sIdxV S (wN rfl) rfl rfl rfl bG rfl (lb rfl) fun a S => leafL ⟨rfl, S⟩
   ·refine fJ [(136, _)] 8 [some 7] fun G a w S => ?_
    exact sLoadHE (r := (rL (rI .i64))) (T := 101) (xs := a7) (u := .slice a5 aa.length a6) (v := .slice ad7 a7.length cp8) (vq := co) (j := a8) 0 S bH (wN rfl) rfl rfl rfl rfl rfl (lb rfl) fun a S => leafL ⟨rfl, S⟩
   ·exact fM 9 none rfl rfl rfl rfl (.inl rfl) rfl rfl rfl
   ·exact fM 14 none rfl rfl rfl rfl (.inl rfl) rfl rfl rfl
   ·refine fJ [(143, _), (144, _)] 0 [some 4, some 14] fun G a w S => ?_
    exact sIdxV S (wN rfl) rfl rfl rfl cK rfl (lb rfl) fun a S => leafL ⟨rfl, S⟩
   ·refine fJ [(145, _)] 1 [some 0] fun G a w S => ?_
    exact sLoadV1 (vq := cq) 0 (iv aA) S (wN rfl) rfl rfl rfl rfl rfl (lb rfl) fun a S => leafL ⟨rfl, S⟩
   ·exact fM 15 none rfl rfl rfl rfl (.inl rfl) rfl rfl rfl
   ·exact fM 16 none rfl rfl rfl rfl (.inl rfl) rfl rfl rfl
   ·exact fM 17 none rfl rfl rfl rfl (.inl rfl) rfl rfl rfl
   ·refine fJ [(148, _), (149, _)] 18 [some 16, some 17] fun G a w S => ?_
    exact sIdxV S (wN rfl) rfl rfl rfl bI rfl (lb rfl) fun a S => leafL ⟨rfl, S⟩
   ·refine fJ [(150, _)] 19 [some 18] fun G a w S => ?_
    exact sLoadVN (vq := bv) 5 [.bool av.Back, .slice ay av.Cells.length az] S (wN rfl) rfl rfl rfl rfl rfl rfl (lb rfl) fun a S => leafL ⟨rfl, S⟩
   ·refine fJ [(147, _), (151, _)] 20 [some 15, some 19] fun G a w S => ?_
    have S1 := S.mem
    refine sCallVQ (X := Unit) (g := 52) (vs := [.agg #[.bool av.Back, .slice ay av.Cells.length az]]) (caps := []) (val := fun _ => iv aC) S (wN rfl) rfl rfl callee52 rfl (S1.quiet [6] rfl) (fun E1 w1 S1 => c_compare_Charts_1 E1 w1 av (.agg #[.bool av.Back, .slice ay av.Cells.length az]) aC bD S1) rfl (lb rfl) fun _ a w S => ?_
    exact leafL ⟨rfl, S⟩
   ·refine fJ [(146, _), (152, _)] 2 [some 1, some 20] fun G a w S => ?_
    exact sBin _ S (wN rfl) rfl rfl rfl (bAdd _ _ _ _ aA aC) rfl (lb rfl) fun a S => leafL ⟨rfl, S⟩
   ·refine fJ [(137, _), (138, _)] 3 [some 8, some 9] fun G a w S => ?_
    exact sIdxV S (wN rfl) rfl rfl rfl cM rfl (lb rfl) fun a S => leafL ⟨rfl, S⟩
   refine ⟨_, [(153, iv (w64 (aA + aC))), (154, cr)], rfl, (srcs_of [some 2, some 3] rfl rfl rfl), fun G a w S => ?_⟩
   refine sStoreR (r := (rI .i64)) (T := 3) (xs := aa) (ys := cH) (y := (w64 (aA + aC))) (v := .slice a5 aa.length a6) (vq := cr) (u := iv (w64 (aA + aC))) (j := a9) 1 S cN (wN rfl) rfl rfl rfl rfl rfl bE rfl rfl fun a w S => ?_
   refine leafL ⟨rfl, _, _, .inr ⟨[], rfl, S, hz_of rfl, ?_⟩⟩
   refine node_by (A := anc_compare_table_api_Row__s0_1) 22 (by kernel_rfl) (by kernel_rfl) (by kernel_rfl) (by kernel_rfl) (by kernel_rfl) [11, 12, 19, 20, 9, 0, 1, 2, 3, 4, 5, 6, 7, 8, 10, 13, 14, 15, 16, 17, 18] (by kernel_rfl) (by decide) (by decide) (fD 21 (fD 21 (fD 21 (fD 21 (fD 21 (fD 21 (fD 21 (fD 21 (fD 21 (fY (fD 21 (fD 21 (fD 21 (fD 21 (fD 21 (fD 21 (fD 21 (fD 21 (fD 21 (fD 21 (fD 21 (fY (trivial))))))))))))))))))))))) [(0, .slice ad1 p0.length cp2), (1, .slice ad3 p1.length cp4), (2, .func (.func 52) #[] #[]), (3, .func (.func 53) #[] #[]), (9, .slice ad7 a7.length cp8), (10, iv a8), (11, iv a9)] (fin_of [none, none, none, none, none, none, none] rfl (by kernel_rfl) (by kernel_rfl)) (fun _ a w S => ?_)
   rw [setO_v bE a5 a6] at S
   exact leafB (leafB (leafT (⟨cH, Option.some.inj h, S.fix [1, 0] [8, 9] (by decide) rfl rfl rfl⟩)))
  ·exact fM 9 none rfl rfl rfl rfl (.inl rfl) rfl rfl rfl
  ·exact fM 10 none rfl rfl rfl rfl (.inl rfl) rfl rfl rfl
  ·exact fM 11 none rfl rfl rfl rfl (.inl rfl) rfl rfl rfl
  ·exact fM 12 none rfl rfl rfl rfl (.inl rfl) rfl rfl rfl
  ·refine fJ [(148, _), (149, _)] 13 [some 11, some 12] fun G a w S => ?_
   exact sIdxV S (wN rfl) rfl rfl rfl bI rfl (lb rfl) fun a S => leafL ⟨rfl, S⟩
  ·refine fJ [(150, _)] 14 [some 13] fun G a w S => ?_
   exact sLoadVN (vq := bv) 1 [.bool av.Back, .slice ay av.Cells.length az] S (wN rfl) rfl rfl rfl rfl rfl rfl (lb rfl) fun a S => leafL ⟨rfl, S⟩
  refine fJ [(147, _), (151, _)] 15 [some 10, some 14] fun G a w S => ?_
  have S1 := S.mem
  refine sCallVQ (X := Unit) (g := 52) (vs := [.agg #[.bool av.Back, .slice ay av.Cells.length az]]) (caps := []) (val := fun _ => iv aC) S (wN rfl) rfl rfl callee52 rfl (S1.quiet [2] rfl) (fun E1 w1 S1 => c_compare_Charts_1 E1 w1 av (.agg #[.bool av.Back, .slice ay av.Cells.length az]) aC bD S1) rfl (lb rfl) fun _ a w S => ?_
  exact leafL ⟨rfl, S⟩
 refine sCondF S rfl bn ?_
 obtain ⟨au, aw, h⟩ := bS h
 obtain ⟨ae, bM, h⟩ := bS h
 obtain ⟨a0, bN, h⟩ := bS h
 obtain ⟨af, aI, h⟩ := bS h
 obtain ⟨ab, aG, h⟩ := bS h
 obtain ⟨a4, bO, h⟩ := bS h
 obtain ⟨ac, aJ, h⟩ := bS h
 obtain ⟨ag, bP, h⟩ := bS h
 obtain ⟨ah, aK, h⟩ := bS h
 obtain ⟨ec, bQ, h⟩ := bS h
 obtain ⟨bw, bf, h⟩ := bS h
 obtain ⟨bj, aL, aM⟩ := pIdxH (P := Try.prog) (r := (rL (rI .i64))) (T := 101) (v := .slice ad7 a7.length cp8) (xs := a7) (j := a8) 98 101 0 S Try.underlying98 rfl rfl ax
 obtain ⟨br, bR, bU⟩ := pIdxH (P := Try.prog) (r := (rL (rI .i64))) (T := 101) (v := .slice ad7 a7.length cp8) (xs := a7) (j := w64 (a8 + 1)) 98 101 0 S Try.underlying98 rfl rfl aw
 obtain ⟨aW, aO, S⟩ := pIdx (P := Try.prog) (r := r_api_Row) (v := .slice ad1 p0.length cp2) (xs := p0) (j := a8) 40 87 0 S Try.underlying40 rfl rfl bN
 obtain ⟨dz, S⟩ := pLoad (r := r_api_Row) (q := aW) (x := a0) 0 S rfl
 obtain ⟨dA, rfl, bV⟩ := S.mem.know (i := 1) (e := fRep r_api_Row (dz) a0) rfl
 have S := S.learn (fRep (rL r_api_Stitch) dA a0.Cells) bV
 obtain ⟨ai, aj, _, rfl, _⟩ := bV
 obtain ⟨bk, aP, aQ⟩ := pIdxH (P := Try.prog) (r := (rL (rI .i64))) (T := 101) (v := .slice ad7 a7.length cp8) (xs := a7) (j := a8) 98 101 0 S Try.underlying98 rfl rfl ax
 obtain ⟨bl, aR, aS⟩ := pIdxR (P := Try.prog) (r := (rI .i64)) (T := 3) (v := .slice a5 aa.length a6) (xs := aa) (j := w64 (a9 + 1)) 101 3 1 S Try.underlying101 rfl rfl aG
 obtain ⟨aX, aT, S⟩ := pIdx (P := Try.prog) (r := r_api_Row) (v := .slice ad3 p1.length cp4) (xs := p1) (j := a9) 40 87 5 S Try.underlying40 rfl rfl bO
 obtain ⟨dB, S⟩ := pLoad (r := r_api_Row) (q := aX) (x := a4) 0 S rfl
 obtain ⟨dC, rfl, bW⟩ := S.mem.know (i := 1) (e := fRep r_api_Row (dB) a4) rfl
 have S := S.learn (fRep (rL r_api_Stitch) dC a4.Cells) bW
 obtain ⟨ak, am, _, rfl, _⟩ := bW
 obtain ⟨bt, bX, bY⟩ := pIdxH (P := Try.prog) (r := (rL (rI .i64))) (T := 101) (v := .slice ad7 a7.length cp8) (xs := a7) (j := w64 (a8 + 1)) 98 101 0 S Try.underlying98 rfl rfl aw
 obtain ⟨aZ, aU, S⟩ := pIdx (P := Try.prog) (r := r_api_Row) (v := .slice ad1 p0.length cp2) (xs := p0) (j := a8) 40 87 8 S Try.underlying40 rfl rfl bN
 obtain ⟨dD, S⟩ := pLoad (r := r_api_Row) (q := aZ) (x := a0) 0 S rfl
 obtain ⟨dE, rfl, bZ⟩ := S.mem.know (i := 1) (e := fRep r_api_Row (dD) a0) rfl
 have S := S.learn (fRep (rL r_api_Stitch) dE a0.Cells) bZ
 obtain ⟨ao, ap, _, rfl, _⟩ := bZ
 obtain ⟨ba, aV, S⟩ := pIdx (P := Try.prog) (r := r_api_Row) (v := .slice ad3 p1.length cp4) (xs := p1) (j := a9) 40 87 13 S Try.underlying40 rfl rfl bO
 obtain ⟨dG, S⟩ := pLoad (r := r_api_Row) (q := ba) (x := a4) 0 S rfl
 obtain ⟨dH, rfl, c4⟩ := S.mem.know (i := 1) (e := fRep r_api_Row (dG) a4) rfl
 have S := S.learn (fRep (rL r_api_Stitch) dH a4.Cells) c4
 obtain ⟨aq, ar, _, rfl, _⟩ := c4
 refine sDraw (nf := [9, 39, 57]) (W := [(0, 35, .slice ad7 a7.length cp8), (1, 36, iv a8), (2, 37, bj), (3, 38, .slice a5 aa.length a6), (4, 39, iv a9), (5, 40, .slice ad7 a7.length cp8), (6, 41, iv a8), (7, 42, iv (w64 (a8 + 1))), (8, 43, br), (10, 45, iv a9), (13, 48, .func (.func 52) #[] #[]), (14, 49, .slice ad1 p0.length cp2), (15, 50, iv a8), (16, 51, aW), (17, 52, .agg #[.bool a0.Back, .slice ai a0.Cells.length aj]), (18, 53, iv af), (20, 55, .slice ad7 a7.length cp8), (21, 56, iv a8), (22, 57, bk), (23, 58, .slice a5 aa.length a6), (24, 59, iv a9), (25, 60, iv (w64 (a9 + 1))), (26, 61, bl), (27, 62, iv ab), (28, 63, .func (.func 52) #[] #[]), (29, 64, .slice ad3 p1.length cp4), (30, 65, iv a9), (31, 66, aX), (32, 67, .agg #[.bool a4.Back, .slice ak a4.Cells.length am]), (33, 68, iv ac), (34, 69, iv (w64 (ab + ac))), (35, 70, .slice ad7 a7.length cp8), (36, 71, iv a8), (37, 72, iv (w64 (a8 + 1))), (38, 73, bt), (40, 75, iv a9), (41, 76, iv (w64 (a9 + 1))), (44, 79, .func (.func 53) #[] #[]), (45, 80, .slice ad1 p0.length cp2), (46, 81, iv a8), (47, 82, aZ), (48, 83, .agg #[.bool a0.Back, .slice ao a0.Cells.length ap]), (49, 84, .slice ad3 p1.length cp4), (50, 85, iv a9), (51, 86, ba), (52, 87, .agg #[.bool a4.Back, .slice aq a4.Cells.length ar]), (53, 88, iv ah)]) rfl S ?_
 refine node_by (A := anc_compare_table_api_Row__s0_2) 58 (by kernel_rfl) (by kernel_rfl) (by kernel_rfl) (by kernel_rfl) (by kernel_rfl) [0, 1, 2, 3, 4, 5, 6, 7, 8, 10, 13, 14, 15, 16, 17, 18, 20, 21, 22, 23, 24, 25, 26, 27, 28, 29, 30, 31, 32, 33, 34, 35, 36, 37, 38, 40, 41, 44, 45, 46, 47, 48, 49, 50, 51, 52, 53] (by kernel_rfl) (by decide) (by decide) (fF ?_ (fF ?_ (fF ?_ (fF ?_ (fF ?_ (fF ?_ (fF ?_ (fF ?_ (fF ?_ (fN ?_ (fF ?_ (fE 9 (fE 9 (fF ?_ (fF ?_ (fF ?_ (fF ?_ (fF ?_ (fF ?_ (fE 9 (fF ?_ (fF ?_ (fF ?_ (fF ?_ (fF ?_ (fF ?_ (fF ?_ (fF ?_ (fF ?_ (fF ?_ (fF ?_ (fF ?_ (fF ?_ (fF ?_ (fF ?_ (fF ?_ (fF ?_ (fF ?_ (fF ?_ (fN ?_ (fF ?_ (fF ?_ (fE 39 (fE 39 (fF ?_ (fF ?_ (fF ?_ (fF ?_ (fF ?_ (fF ?_ (fF ?_ (fF ?_ (fF ?_ (fF ?_ (fE 39 (fE 9 (fE 9 (aB 57 0 9 (by decide) (trivial))))))))))))))))))))))))))))))))))))))))))))))))))))))))))) [] (fun q hq => by cases hq) (fun hY => absurd (hY 9 (by decide)) (by decide))
 ·exact fM 0 none rfl rfl rfl rfl (.inl rfl) rfl rfl rfl
 ·exact fM 1 none rfl rfl rfl rfl (.inl rfl) rfl rfl rfl
 ·refine fJ [(35, _), (36, _)] 2 [some 0, some 1] fun G a w S => ?_
  exact sIdxV S (wN rfl) rfl rfl rfl aL rfl (lb rfl) fun a S => leafL ⟨rfl, S⟩
 ·refine fJ [(37, _)] 3 [some 2] fun G a w S => ?_
  exact sLoadHE (r := (rL (rI .i64))) (T := 101) (xs := a7) (u := .slice a5 aa.length a6) (v := .slice ad7 a7.length cp8) (vq := bj) (j := a8) 0 S aM (wN rfl) rfl rfl rfl rfl rfl (lb rfl) fun a S => leafL ⟨rfl, S⟩
 ·exact fM 4 none rfl rfl rfl rfl (.inl rfl) rfl rfl rfl
 ·exact fM 5 none rfl rfl rfl rfl (.inl rfl) rfl rfl rfl
 ·exact fM 6 none rfl rfl rfl rfl (.inl rfl) rfl rfl rfl
 ·refine fJ [(41, _)] 7 [some 6] fun G a w S => ?_
  exact sBin _ S (wN rfl) rfl rfl rfl (bAdd _ _ _ _ a8 1) rfl (lb rfl) fun a S => leafL ⟨rfl, S⟩
 ·refine fJ [(40, _), (42, _)] 8 [some 5, some 7] fun G a w S => ?_
  exact sIdxV S (wN rfl) rfl rfl rfl bR rfl (lb rfl) fun a S => leafL ⟨rfl, S⟩
 ·refine ⟨_, [(43, br)], rfl, (srcs_of [some 8] rfl rfl rfl), fun G a w S => ?_⟩
  refine sLoadHo (r := (rL (rI .i64))) (T := 101) (xs := a7) (x := au) (p := (a8).toNat * (rL (rI .i64)).sz + 0) (u := .slice a5 aa.length a6) (v := .slice ad7 a7.length cp8) (vq := br) (j := w64 (a8 + 1)) 0 S bU (wN rfl) rfl rfl rfl aw (idx_next (by decide) (hole_lim 0 S.mem rfl) ax aw) (scal_L _) rfl rfl (lb rfl) fun a dI S => ?_
  obtain ⟨c5, c6, _, rfl, _⟩ := S.mem.know (i := 0) (e := fRep (rL (rI .i64)) (dI) au) rfl
  obtain ⟨bx, c7, S⟩ := pIdx (P := Try.prog) (r := (rI .i64)) (v := .slice c5 au.length c6) (xs := au) (j := a9) 101 3 0 S Try.underlying101 rfl rfl bM
  obtain ⟨cO, S⟩ := pLoad (r := (rI .i64)) (q := bx) (x := ae) 0 S rfl
  obtain rfl : cO = iv ae := S.mem.know (i := 1) (e := fRep (rI .i64) (cO) ae) rfl
  refine leafL ⟨rfl, _, _, .inl ⟨44, (.slice c5 au.length c6), [(11, 46, bx), (12, 47, iv ae), (19, 54, iv (w64 (ae + af)))], rfl, S, hz_of rfl, ?_⟩⟩
  refine node_by (A := anc_compare_table_api_Row__s0_2) 58 (by kernel_rfl) (by kernel_rfl) (by kernel_rfl) (by kernel_rfl) (by kernel_rfl) [11, 12, 19, 9, 0, 1, 2, 3, 4, 5, 6, 7, 8, 10, 13, 14, 15, 16, 17, 18, 20, 21, 22, 23, 24, 25, 26, 27, 28, 29, 30, 31, 32, 33, 34, 35, 36, 37, 38, 40, 41, 44, 45, 46, 47, 48, 49, 50, 51, 52, 53] (by kernel_rfl) (by decide) (by decide) (fF ?_ (fF ?_ (fF ?_ (fF ?_ (fF ?_ (fD 9 (fD 9 (fD 9 (fD 9 (fY (fF ?_ (fF ?_ (fF ?_ (fF ?_ (fF ?_ (fF ?_ (fF ?_ (fF ?_ (fF ?_ (fF ?_ (fF ?_ (fF ?_ (fF ?_ (fF ?_ (fF ?_ (fF ?_ (fF ?_ (fF ?_ (fF ?_ (fF ?_ (fF ?_ (fF ?_ (fF ?_ (fF ?_ (fF ?_ (fF ?_ (fF ?_ (fF ?_ (fF ?_ (fN ?_ (fF ?_ (fF ?_ (fE 39 (fE 39 (fF ?_ (fF ?_ (fF ?_ (fF ?_ (fF ?_ (fF ?_ (fF ?_ (fF ?_ (fF ?_ (fF ?_ (fE 39 (fE 39 (fE 39 (aB 57 0 39 (by decide) (trivial))))))))))))))))))))))))))))))))))))))))))))))))))))))))))) [] (fun q hq => by cases hq) (fun hY => absurd (hY 39 (by decide)) (by decide))
  ·exact fM 4 none rfl rfl rfl rfl (.inl rfl) rfl rfl rfl
  ·exact fM 5 none rfl rfl rfl rfl (.inl rfl) rfl rfl rfl
  ·refine fJ [(35, _), (36, _)] 6 [some 4, some 5] fun G a w S => ?_
   exact sIdxV S (wN rfl) rfl rfl rfl aL rfl (lb rfl) fun a S => leafL ⟨rfl, S⟩
  ·refine fJ [(37, _)] 7 [some 6] fun G a w S => ?_
   exact sLoadHE (r := (rL (rI .i64))) (T := 101) (xs := a7) (u := .slice a5 aa.length a6) (v := .slice ad7 a7.length cp8) (vq := bj) (j := a8) 0 S aM (wN rfl) rfl rfl rfl rfl rfl (lb rfl) fun a S => leafL ⟨rfl, S⟩
  ·exact fM 8 none rfl rfl rfl rfl (.inl rfl) rfl rfl rfl
  ·exact fM 13 none rfl rfl rfl rfl (.inl rfl) rfl rfl rfl
  ·refine fJ [(44, _), (45, _)] 0 [some 3, some 13] fun G a w S => ?_
   exact sIdxV S (wN rfl) rfl rfl rfl c7 rfl (lb rfl) fun a S => leafL ⟨rfl, S⟩
  ·refine fJ [(46, _)] 1 [some 0] fun G a w S => ?_
   exact sLoadV1 (vq := bx) 0 (iv ae) S (wN rfl) rfl rfl rfl rfl rfl (lb rfl) fun a S => leafL ⟨rfl, S⟩
  ·exact fM 14 none rfl rfl rfl rfl (.inl rfl) rfl rfl rfl
  ·exact fM 15 none rfl rfl rfl rfl (.inl rfl) rfl rfl rfl
  ·exact fM 16 none rfl rfl rfl rfl (.inl rfl) rfl rfl rfl
  ·refine fJ [(49, _), (50, _)] 17 [some 15, some 16] fun G a w S => ?_
   exact sIdxV S (wN rfl) rfl rfl rfl aO rfl (lb rfl) fun a S => leafL ⟨rfl, S⟩
  ·refine fJ [(51, _)] 18 [some 17] fun G a w S => ?_
   exact sLoadVN (vq := aW) 17 [.bool a0.Back, .slice ai a0.Cells.length aj] S (wN rfl) rfl rfl rfl rfl rfl rfl (lb rfl) fun a S => leafL ⟨rfl, S⟩
  ·refine fJ [(48, _), (52, _)] 19 [some 14, some 18] fun G a w S => ?_
   have S1 := S.mem
   refine sCallVQ (X := Unit) (g := 52) (vs := [.agg #[.bool a0.Back, .slice ai a0.Cells.length aj]]) (caps := []) (val := fun _ => iv af) S (wN rfl) rfl rfl callee52 rfl (S1.quiet [18] rfl) (fun E1 w1 S1 => c_compare_Charts_1 E1 w1 a0 (.agg #[.bool a0.Back, .slice ai a0.Cells.length aj]) af aI S1) rfl (lb rfl) fun _ a w S => ?_
   exact leafL ⟨rfl, S⟩
  ·refine fJ [(47, _), (53, _)] 2 [some 1, some 19] fun G a w S => ?_
   exact sBin _ S (wN rfl) rfl rfl rfl (bAdd _ _ _ _ ae af) rfl (lb rfl) fun a S => leafL ⟨rfl, S⟩
  ·exact fM 20 none rfl rfl rfl rfl (.inl rfl) rfl rfl rfl
  ·exact fM 21 none rfl rfl rfl rfl (.inl rfl) rfl rfl rfl
  ·refine fJ [(55, _), (56, _)] 22 [some 20, some 21] fun G a w S => ?_
   exact sIdxV S (wN rfl) rfl rfl rfl aP rfl (lb rfl) fun a S => leafL ⟨rfl, S⟩
  ·refine fJ [(57, _)] 23 [some 22] fun G a w S => ?_
   exact sLoadHE (r := (rL (rI .i64))) (T := 101) (xs := a7) (u := .slice a5 aa.length a6) (v := .slice ad7 a7.length cp8) (vq := bk) (j := a8) 0 S aQ (wN rfl) rfl rfl rfl rfl rfl (lb rfl) fun a S => leafL ⟨rfl, S⟩
  ·exact fM 24 none rfl rfl rfl rfl (.inl rfl) rfl rfl rfl
  ·refine fJ [(59, _)] 25 [some 24] fun G a w S => ?_
   exact sBin _ S (wN rfl) rfl rfl rfl (bAdd _ _ _ _ a9 1) rfl (lb rfl) fun a S => leafL ⟨rfl, S⟩
  ·refine fJ [(58, _), (60, _)] 26 [some 23, some 25] fun G a w S => ?_
   exact sIdxV S (wN rfl) rfl rfl rfl aR rfl (lb rfl) fun a S => leafL ⟨rfl, S⟩
  ·refine fJ [(61, _)] 27 [some 26] fun G a w S => ?_
   exact sLoadR (r := (rI .i64)) (T := 3) (xs := aa) (x := ab) (v := .slice a5 aa.length a6) (vq := bl) (j := w64 (a9 + 1)) 1 (iv ab) S aS (wN rfl) rfl rfl rfl aG (fun _ _ _ h => h) (scal_I _) rfl rfl (lb rfl) fun a S => leafL ⟨rfl, S⟩
  ·exact fM 28 none rfl rfl rfl rfl (.inl rfl) rfl rfl rfl
  ·exact fM 29 none rfl rfl rfl rfl (.inl rfl) rfl rfl rfl
  ·exact fM 30 none rfl rfl rfl rfl (.inl rfl) rfl rfl rfl
  ·refine fJ [(64, _), (65, _)] 31 [some 29, some 30] fun G a w S => ?_
   exact sIdxV S (wN rfl) rfl rfl rfl aT rfl (lb rfl) fun a S => leafL ⟨rfl, S⟩
  ·refine fJ [(66, _)] 32 [some 31] fun G a w S => ?_
   exact sLoadVN (vq := aX) 13 [.bool a4.Back, .slice ak a4.Cells.length am] S (wN rfl) rfl rfl rfl rfl rfl rfl (lb rfl) fun a S => leafL ⟨rfl, S⟩
  ·refine fJ [(63, _), (67, _)] 33 [some 28, some 32] fun G a w S => ?_
   have S1 := S.mem
   refine sCallVQ (X := Unit) (g := 52) (vs := [.agg #[.bool a4.Back, .slice ak a4.Cells.length am]]) (caps := []) (val := fun _ => iv ac) S (wN rfl) rfl rfl callee52 rfl (S1.quiet [14] rfl) (fun E1 w1 S1 => c_compare_Charts_1 E1 w1 a4 (.agg #[.bool a4.Back, .slice ak a4.Cells.length am]) ac aJ S1) rfl (lb rfl) fun _ a w S => ?_
   exact leafL ⟨rfl, S⟩
  ·refine fJ [(62, _), (68, _)] 34 [some 27, some 33] fun G a w S => ?_
   exact sBin _ S (wN rfl) rfl rfl rfl (bAdd _ _ _ _ ab ac) rfl (lb rfl) fun a S => leafL ⟨rfl, S⟩
  ·exact fM 35 none rfl rfl rfl rfl (.inl rfl) rfl rfl rfl
  ·exact fM 36 none rfl rfl rfl rfl (.inl rfl) rfl rfl rfl
  ·refine fJ [(71, _)] 37 [some 36] fun G a w S => ?_
   exact sBin _ S (wN rfl) rfl rfl rfl (bAdd _ _ _ _ a8 1) rfl (lb rfl) fun a S => leafL ⟨rfl, S⟩
  ·refine fJ [(70, _), (72, _)] 38 [some 35, some 37] fun G a w S => ?_
   exact sIdxV S (wN rfl) rfl rfl rfl bX rfl (lb rfl) fun a S => leafL ⟨rfl, S⟩
  ·refine ⟨_, [(73, bt)], rfl, (srcs_of [some 38] rfl rfl rfl), fun G a w S => ?_⟩
   refine sLoadHo (r := (rL (rI .i64))) (T := 101) (xs := a7) (x := au) (p := (a8).toNat * (rL (rI .i64)).sz + 0) (u := .slice a5 aa.length a6) (v := .slice ad7 a7.length cp8) (vq := bt) (j := w64 (a8 + 1)) 0 S bY (wN rfl) rfl rfl rfl aw (idx_next (by decide) (hole_lim 0 S.mem rfl) ax aw) (scal_L _) rfl rfl (lb rfl) fun a dJ S => ?_
   obtain ⟨c8, c9, _, rfl, _⟩ := S.mem.know (i := 0) (e := fRep (rL (rI .i64)) (dJ) au) rfl
   obtain ⟨ct, cP, S⟩ := pIdx (P := Try.prog) (r := (rI .i64)) (v := .slice c8 au.length c9) (xs := au) (j := w64 (a9 + 1)) 101 3 0 S Try.underlying101 rfl rfl bP
   obtain ⟨cQ, S⟩ := pLoad (r := (rI .i64)) (q := ct) (x := ag) 0 S rfl
   obtain rfl : cQ = iv ag := S.mem.know (i := 1) (e := fRep (rI .i64) (cQ) ag) rfl
   obtain ⟨cu, cR, cS⟩ := pIdxR (P := Try.prog) (r := (rI .i64)) (T := 3) (v := .slice a5 aa.length a6) (xs := aa) (j := a9) 101 3 1 S Try.underlying101 rfl rfl bQ
   refine leafL ⟨rfl, _, _, .inl ⟨74, (.slice c8 au.length c9), [(42, 77, ct), (43, 78, iv ag), (54, 89, iv (w64 (ag + ah))), (55, 90, iv (min3 (w64 (ae + af)) (w64 (ab + ac)) (w64 (ag + ah)))), (56, 91, cu)], rfl, S, hz_of rfl, ?_⟩⟩
   refine node_by (A := anc_compare_table_api_Row__s0_2) 58 (by kernel_rfl) (by kernel_rfl) (by kernel_rfl) (by kernel_rfl) (by kernel_rfl) [42, 43, 54, 55, 56, 39, 11, 12, 19, 9, 0, 1, 2, 3, 4, 5, 6, 7, 8, 10, 13, 14, 15, 16, 17, 18, 20, 21, 22, 23, 24, 25, 26, 27, 28, 29, 30, 31, 32, 33, 34, 35, 36, 37, 38, 40, 41, 44, 45, 46, 47, 48, 49, 50, 51, 52, 53] (by kernel_rfl) (by decide) (by decide) (fF ?_ (fF ?_ (fF ?_ (fF ?_ (fF ?_ (fD 9 (fD 9 (fD 9 (fD 9 (fY (fF ?_ (fF ?_ (fF ?_ (fF ?_ (fF ?_ (fF ?_ (fF ?_ (fF ?_ (fF ?_ (fF ?_ (fF ?_ (fF ?_ (fF ?_ (fF ?_ (fF ?_ (fF ?_ (fF ?_ (fF ?_ (fF ?_ (fF ?_ (fF ?_ (fF ?_ (fF ?_ (fF ?_ (fF ?_ (fD 39 (fD 39 (fD 39 (fD 39 (fY (fF ?_ (fF ?_ (fF ?_ (fF ?_ (fF ?_ (fF ?_ (fF ?_ (fF ?_ (fF ?_ (fF ?_ (fF ?_ (fF ?_ (fF ?_ (fF ?_ (fF ?_ (fF ?_ (fF ?_ (fN ?_ (trivial))))))))))))))))))))))))))))))))))))))))))))))))))))))))))) [] (fun q hq => by cases hq) (fun hY => absurd (hY 57 (by decide)) (by decide))
   ·exact fM 10 none rfl rfl rfl rfl (.inl rfl) rfl rfl rfl
   ·exact fM 11 none rfl rfl rfl rfl (.inl rfl) rfl rfl rfl
   ·refine fJ [(35, _), (36, _)] 12 [some 10, some 11] fun G a w S => ?_
    exact sIdxV S (wN rfl) rfl rfl rfl aL rfl (lb rfl) fun a S => leafL ⟨rfl, S⟩
   ·refine fJ [(37, _)] 13 [some 12] fun G a w S => ?_
    exact sLoadHE (r := (rL (rI .i64))) (T := 101) (xs := a7) (u := .slice a5 aa.length a6) (v := .slice ad7 a7.length cp8) (vq := bj) (j := a8) 0 S aM (wN rfl) rfl rfl rfl rfl rfl (lb rfl) fun a S => leafL ⟨rfl, S⟩
   ·exact fM 14 none rfl rfl rfl rfl (.inl rfl) rfl rfl rfl
   ·exact fM 19 none rfl rfl rfl rfl (.inl rfl) rfl rfl rfl
   ·refine fJ [(44, _), (45, _)] 6 [some 9, some 19] fun G a w S => ?_
    exact sIdxV S (wN rfl) rfl rfl rfl c7 rfl (lb rfl) fun a S => leafL ⟨rfl, S⟩
   ·refine fJ [(46, _)] 7 [some 6] fun G a w S => ?_
    exact sLoadV1 (vq := bx) 4 (iv ae) S (wN rfl) rfl rfl rfl rfl rfl (lb rfl) fun a S => leafL ⟨rfl, S⟩
   ·exact fM 20 none rfl rfl rfl rfl (.inl rfl) rfl rfl rfl
   ·exact fM 21 none rfl rfl rfl rfl (.inl rfl) rfl rfl rfl
   ·exact fM 22 none rfl rfl rfl rfl (.inl rfl) rfl rfl rfl
   ·refine fJ [(49, _), (50, _)] 23 [some 21, some 22] fun G a w S => ?_
    exact sIdxV S (wN rfl) rfl rfl rfl aO rfl (lb rfl) fun a S => leafL ⟨rfl, S⟩
   ·refine fJ [(51, _)] 24 [some 23] fun G a w S => ?_
    exact sLoadVN (vq := aW) 21 [.bool a0.Back, .slice ai a0.Cells.length aj] S (wN rfl) rfl rfl rfl rfl rfl rfl (lb rfl) fun a S => leafL ⟨rfl, S⟩
   ·refine fJ [(48, _), (52, _)] 25 [some 20, some 24] fun G a w S => ?_
    have S1 := S.mem
    refine sCallVQ (X := Unit) (g := 52) (vs := [.agg #[.bool a0.Back, .slice ai a0.Cells.length aj]]) (caps := []) (val := fun _ => iv af) S (wN rfl) rfl rfl callee52 rfl (S1.quiet [22] rfl) (fun E1 w1 S1 => c_compare_Charts_1 E1 w1 a0 (.agg #[.bool a0.Back, .slice ai a0.Cells.length aj]) af aI S1) rfl (lb rfl) fun _ a w S => ?_
    exact leafL ⟨rfl, S⟩
   ·refine fJ [(47, _), (53, _)] 8 [some 7, some 25] fun G a w S => ?_
    exact sBin _ S (wN rfl) rfl rfl rfl (bAdd _ _ _ _ ae af) rfl (lb rfl) fun a S => leafL ⟨rfl, S⟩
   ·exact fM 26 none rfl rfl rfl rfl (.inl rfl) rfl rfl rfl
   ·exact fM 27 none rfl rfl rfl rfl (.inl rfl) rfl rfl rfl
   ·refine fJ [(55, _), (56, _)] 28 [some 26, some 27] fun G a w S => ?_
    exact sIdxV S (wN rfl) rfl rfl rfl aP rfl (lb rfl) fun a S => leafL ⟨rfl, S⟩
   ·refine fJ [(57, _)] 29 [some 28] fun G a w S => ?_
    exact sLoadHE (r := (rL (rI .i64))) (T := 101) (xs := a7) (u := .slice a5 aa.length a6) (v := .slice ad7 a7.length cp8) (vq := bk) (j := a8) 0 S aQ (wN rfl) rfl rfl rfl rfl rfl (lb rfl) fun a S => leafL ⟨rfl, S⟩
   ·exact fM 30 none rfl rfl rfl rfl (.inl rfl) rfl rfl rfl
   ·refine fJ [(59, _)] 31 [some 30] fun G a w S => ?_
    exact sBin _ S (wN rfl) rfl rfl rfl (bAdd _ _ _ _ a9 1) rfl (lb rfl) fun a S => leafL ⟨rfl, S⟩
   ·refine fJ [(58, _), (60, _)] 32 [some 29, some 31] fun G a w S => ?_
    exact sIdxV S (wN rfl) rfl rfl rfl aR rfl (lb rfl) fun a S => leafL ⟨rfl, S⟩
   ·refine fJ [(61, _)] 33 [some 32] fun G a w S => ?_
    exact sLoadR (r := (rI .i64)) (T := 3) (xs := aa) (x := ab) (v := .slice a5 aa.length a6) (vq := bl) (j := w64 (a9 + 1)) 1 (iv ab) S aS (wN rfl) rfl rfl rfl aG (fun _ _ _ h => h) (scal_I _) rfl rfl (lb rfl) fun a S => leafL ⟨rfl, S⟩
   ·exact fM 34 none rfl rfl rfl rfl (.inl rfl) rfl rfl rfl
   ·exact fM 35 none rfl rfl rfl rfl (.inl rfl) rfl rfl rfl
   ·exact fM 36 none rfl rfl rfl rfl (.inl rfl) rfl rfl rfl
   ·refine fJ [(64, _), (65, _)] 37 [some 35, some 36] fun G a w S => ?_
    exact sIdxV S (wN rfl) rfl rfl rfl aT rfl (lb rfl) fun a S => leafL ⟨rfl, S⟩
   ·refine fJ [(66, _)] 38 [some 37] fun G a w S => ?_
    exact sLoadVN (vq := aX) 17 [.bool a4.Back, .slice ak a4.Cells.length am] S (wN rfl) rfl rfl rfl rfl rfl rfl (lb rfl) fun a S => leafL ⟨rfl, S⟩
   ·refine fJ [(63, _), (67, _)] 39 [some 34, some 38] fun G a w S => ?_
    have S1 := S.mem
    refine sCallVQ (X := Unit) (g := 52) (vs := [.agg #[.bool a4.Back, .slice ak a4.Cells.length am]]) (caps := []) (val := fun _ => iv ac) S (wN rfl) rfl rfl callee52 rfl (S1.quiet [18] rfl) (fun E1 w1 S1 => c_compare_Charts_1 E1 w1 a4 (.agg #[.bool a4.Back, .slice ak a4.Cells.length am]) ac aJ S1) rfl (lb rfl) fun _ a w S => ?_
    exact leafL ⟨rfl, S⟩
   ·refine fJ [(62, _), (68, _)] 40 [some 33, some 39] fun G a w S => ?_
    exact sBin _ S (wN rfl) rfl rfl rfl (bAdd _ _ _ _ ab ac) rfl (lb rfl) fun a S => leafL ⟨rfl, S⟩
   ·exact fM 45 none rfl rfl rfl rfl (.inl rfl) rfl rfl rfl
   ·refine fJ [(75, _)] 46 [some 45] fun G a w S => ?_
    exact sBin _ S (wN rfl) rfl rfl rfl (bAdd _ _ _ _ a9 1) rfl (lb rfl) fun a S => leafL ⟨rfl, S⟩
   ·refine fJ [(74, _), (76, _)] 0 [some 5, some 46] fun G a w S => ?_
    exact sIdxV S (wN rfl) rfl rfl rfl cP rfl (lb rfl) fun a S => leafL ⟨rfl, S⟩
   ·refine fJ [(77, _)] 1 [some 0] fun G a w S => ?_
    exact sLoadV1 (vq := ct) 0 (iv ag) S (wN rfl) rfl rfl rfl rfl rfl (lb rfl) fun a S => leafL ⟨rfl, S⟩
   ·exact fM 47 none rfl rfl rfl rfl (.inl rfl) rfl rfl rfl
   ·exact fM 48 none rfl rfl rfl rfl (.inl rfl) rfl rfl rfl
   ·exact fM 49 none rfl rfl rfl rfl (.inl rfl) rfl rfl rfl
   ·refine fJ [(80, _), (81, _)] 50 [some 48, some 49] fun G a w S => ?_
    exact sIdxV S (wN rfl) rfl rfl rfl aU rfl (lb rfl) fun a S => leafL ⟨rfl, S⟩
   ·refine fJ [(82, _)] 51 [some 50] fun G a w S => ?_
    exact sLoadVN (vq := aZ) 13 [.bool a0.Back, .slice ao a0.Cells.length ap] S (wN rfl) rfl rfl rfl rfl rfl rfl (lb rfl) fun a S => leafL ⟨rfl, S⟩
   ·exact fM 52 none rfl rfl rfl rfl (.inl rfl) rfl rfl rfl
   ·exact fM 53 none rfl rfl rfl rfl (.inl rfl) rfl rfl rfl
   ·refine fJ [(84, _), (85, _)] 54 [some 52, some 53] fun G a w S => ?_
    exact sIdxV S (wN rfl) rfl rfl rfl aV rfl (lb rfl) fun a S => leafL ⟨rfl, S⟩
   ·refine fJ [(86, _)] 55 [some 54] fun G a w S => ?_
    exact sLoadVN (vq := ba) 9 [.bool a4.Back, .slice aq a4.Cells.length ar] S (wN rfl) rfl rfl rfl rfl rfl rfl (lb rfl) fun a S => leafL ⟨rfl, S⟩
   ·refine fJ [(79, _), (83, _), (87, _)] 56 [some 47, some 51, some 55] fun G a w S => ?_
    have S1 := S.mem
    refine sCallVQ (X := Unit) (g := 53) (vs := [.agg #[.bool a0.Back, .slice ao a0.Cells.length ap], .agg #[.bool a4.Back, .slice aq a4.Cells.length ar]]) (caps := []) (val := fun _ => iv ah) S (wN rfl) rfl rfl callee53 rfl (S1.quiet [14, 10] rfl) (fun E1 w1 S1 => c_compare_Charts_2 E1 w1 a0 (.agg #[.bool a0.Back, .slice ao a0.Cells.length ap]) a4 (.agg #[.bool a4.Back, .slice aq a4.Cells.length ar]) ah aK S1) rfl (lb rfl) fun _ a w S => ?_
    exact leafL ⟨rfl, S⟩
   ·refine fJ [(78, _), (88, _)] 2 [some 1, some 56] fun G a w S => ?_
    exact sBin _ S (wN rfl) rfl rfl rfl (bAdd _ _ _ _ ag ah) rfl (lb rfl) fun a S => leafL ⟨rfl, S⟩
   ·refine fJ [(54, _), (69, _), (89, _)] 3 [some 8, some 40, some 2] fun G a w S => ?_
    exact sMin3 (p := w64 (ae + af)) (q := w64 (ab + ac)) (r := w64 (ag + ah)) S (wN rfl) rfl rfl rfl rfl rfl (lb rfl) fun a S => leafL ⟨rfl, S⟩
   ·refine fJ [(38, _), (39, _)] 4 [some 13, some 14] fun G a w S => ?_
    exact sIdxV S (wN rfl) rfl rfl rfl cR rfl (lb rfl) fun a S => leafL ⟨rfl, S⟩
   refine ⟨_, [(90, iv (min3 (w64 (ae + af)) (w64 (ab + ac)) (w64 (ag + ah)))), (91, cu)], rfl, (srcs_of [some 3, some 4] rfl rfl rfl), fun G a w S => ?_⟩
   refine sStoreR (r := (rI .i64)) (T := 3) (xs := aa) (ys := bw) (y := (min3 (w64 (ae + af)) (w64 (ab + ac)) (w64 (ag + ah)))) (v := .slice a5 aa.length a6) (vq := cu) (u := iv (min3 (w64 (ae + af)) (w64 (ab + ac)) (w64 (ag + ah)))) (j := a9) 1 S cS (wN rfl) rfl rfl rfl rfl rfl bf rfl rfl fun a w S => ?_
   refine leafL ⟨rfl, _, _, .inr ⟨[], rfl, S, hz_of rfl, ?_⟩⟩
   refine node_by (A := anc_compare_table_api_Row__s0_2) 58 (by kernel_rfl) (by kernel_rfl) (by kernel_rfl) (by kernel_rfl) (by kernel_rfl) [42, 43, 54, 55, 56, 39, 11, 12, 19, 9, 0, 1, 2, 3, 4, 5, 6, 7, 8, 10, 13, 14, 15, 16, 17, 18, 20, 21, 22, 23, 24, 25, 26, 27, 28, 29, 30, 31, 32, 33, 34, 35, 36, 37, 38, 40, 41, 44, 45, 46, 47, 48, 49, 50, 51, 52, 53] (by kernel_rfl) (by decide) (by decide) (fD 57 (fD 57 (fD 57 (fD 57 (fD 57 (fD 57 (fD 57 (fD 57 (fD 57 (fY (fD 57 (fD 57 (fD 57 (fD 57 (fD 57 (fD 57 (fD 57 (fD 57 (fD 57 (fD 57 (fD 57 (fD 57 (fD 57 (fD 57 (fD 57 (fD 57 (fD 57 (fD 57 (fD 57 (fD 57 (fD 57 (fD 57 (fD 57 (fD 57 (fD 57 (fD 57 (fD 57 (fD 57 (fD 57 (fY (fD 57 (fD 57 (fD 57 (fD 57 (fD 57 (fD 57 (fD 57 (fD 57 (fD 57 (fD 57 (fD 57 (fD 57 (fD 57 (fD 57 (fD 57 (fD 57 (fD 57 (fY (trivial))))))))))))))))))))))))))))))))))))))))))))))))))))))))))) [(0, .slice ad1 p0.length cp2), (1, .slice ad3 p1.length cp4), (2, .func (.func 52) #[] #[]), (3, .func (.func 53) #[] #[]), (9, .slice ad7 a7.length cp8), (10, iv a8), (11, iv a9)] (fin_of [none, none, none, none, none, none, none] rfl (by kernel_rfl) (by kernel_rfl)) (fun _ a w S => ?_)
   rw [setO_v bf a5 a6] at S
   exact leafB (leafB (leafT (⟨bw, Option.some.inj h, S.fix [1, 0] [24, 25] (by decide) rfl rfl rfl⟩)))
  ·exact fM 39 none rfl rfl rfl rfl (.inl rfl) rfl rfl rfl
  ·refine fJ [(75, _)] 40 [some 39] fun G a w S => ?_
   exact sBin _ S (wN rfl) rfl rfl rfl (bAdd _ _ _ _ a9 1) rfl (lb rfl) fun a S => leafL ⟨rfl, S⟩
  ·exact fM 41 none rfl rfl rfl rfl (.inl rfl) rfl rfl rfl
  ·exact fM 42 none rfl rfl rfl rfl (.inl rfl) rfl rfl rfl
  ·exact fM 43 none rfl rfl rfl rfl (.inl rfl) rfl rfl rfl
  ·refine fJ [(80, _), (81, _)] 44 [some 42, some 43] fun G a w S => ?_
   exact sIdxV S (wN rfl) rfl rfl rfl aU rfl (lb rfl) fun a S => leafL ⟨rfl, S⟩
  ·refine fJ [(82, _)] 45 [some 44] fun G a w S => ?_
   exact sLoadVN (vq := aZ) 9 [.bool a0.Back, .slice ao a0.Cells.length ap] S (wN rfl) rfl rfl rfl rfl rfl rfl (lb rfl) fun a S => leafL ⟨rfl, S⟩
  ·exact fM 46 none rfl rfl rfl rfl (.inl rfl) rfl rfl rfl
  ·exact fM 47 none rfl rfl rfl rfl (.inl rfl) rfl rfl rfl
  ·refine fJ [(84, _), (85, _)] 48 [some 46, some 47] fun G a w S => ?_
   exact sIdxV S (wN rfl) rfl rfl rfl aV rfl (lb rfl) fun a S => leafL ⟨rfl, S⟩
  ·refine fJ [(86, _)] 49 [some 48] fun G a w S => ?_
   exact sLoadVN (vq := ba) 5 [.bool a4.Back, .slice aq a4.Cells.length ar] S (wN rfl) rfl rfl rfl rfl rfl rfl (lb rfl) fun a S => leafL ⟨rfl, S⟩
  refine fJ [(79, _), (83, _), (87, _)] 50 [some 41, some 45, some 49] fun G a w S => ?_
  have S1 := S.mem
  refine sCallVQ (X := Unit) (g := 53) (vs := [.agg #[.bool a0.Back, .slice ao a0.Cells.length ap], .agg #[.bool a4.Back, .slice aq a4.Cells.length ar]]) (caps := []) (val := fun _ => iv ah) S (wN rfl) rfl rfl callee53 rfl (S1.quiet [10, 6] rfl) (fun E1 w1 S1 => c_compare_Charts_2 E1 w1 a0 (.agg #[.bool a0.Back, .slice ao a0.Cells.length ap]) a4 (.agg #[.bool a4.Back, .slice aq a4.Cells.length ar]) ah aK S1) rfl (lb rfl) fun _ a w S => ?_
  exact leafL ⟨rfl, S⟩
 ·exact fM 9 none rfl rfl rfl rfl (.inl rfl) rfl rfl rfl
 ·exact fM 10 none rfl rfl rfl rfl (.inl rfl) rfl rfl rfl
 ·exact fM 11 none rfl rfl rfl rfl (.inl rfl) rfl rfl rfl
 ·exact fM 12 none rfl rfl rfl rfl (.inl rfl) rfl rfl rfl
 ·refine fJ [(49, _), (50, _)] 13 [some 11, some 12] fun G a w S => ?_
  exact sIdxV S (wN rfl) rfl rfl rfl aO rfl (lb rfl) fun a S => leafL ⟨rfl, S⟩
 ·refine fJ [(51, _)] 14 [some 13] fun G a w S => ?_
  exact sLoadVN (vq := aW) 13 [.bool a0.Back, .slice ai a0.Cells.length aj] S (wN rfl) rfl rfl rfl rfl rfl rfl (lb rfl) fun a S => leafL ⟨rfl, S⟩
 ·refine fJ [(48, _), (52, _)] 15 [some 10, some 14] fun G a w S => ?_
  have S1 := S.mem
  refine sCallVQ (X := Unit) (g := 52) (vs := [.agg #[.bool a0.Back, .slice ai a0.Cells.length aj]]) (caps := []) (val := fun _ => iv af) S (wN rfl) rfl rfl callee52 rfl (S1.quiet [14] rfl) (fun E1 w1 S1 => c_compare_Charts_1 E1 w1 a0 (.agg #[.bool a0.Back, .slice ai a0.Cells.length aj]) af aI S1) rfl (lb rfl) fun _ a w S => ?_
  exact leafL ⟨rfl, S⟩
 ·exact fM 16 none rfl rfl rfl rfl (.inl rfl) rfl rfl rfl
 ·exact fM 17 none rfl rfl rfl rfl (.inl rfl) rfl rfl rfl
 ·refine fJ [(55, _), (56, _)] 18 [some 16, some 17] fun G a w S => ?_
  exact sIdxV S (wN rfl) rfl rfl rfl aP rfl (lb rfl) fun a S => leafL ⟨rfl, S⟩
 ·refine fJ [(57, _)] 19 [some 18] fun G a w S => ?_
  exact sLoadHE (r := (rL (rI .i64))) (T := 101) (xs := a7) (u := .slice a5 aa.length a6) (v := .slice ad7 a7.length cp8) (vq := bk) (j := a8) 0 S aQ (wN rfl) rfl rfl rfl rfl rfl (lb rfl) fun a S => leafL ⟨rfl, S⟩
 ·exact fM 20 none rfl rfl rfl rfl (.inl rfl) rfl rfl rfl
 ·refine fJ [(59, _)] 21 [some 20] fun G a w S => ?_
  exact sBin _ S (wN rfl) rfl rfl rfl (bAdd _ _ _ _ a9 1) rfl (lb rfl) fun a S => leafL ⟨rfl, S⟩
 ·refine fJ [(58, _), (60, _)] 22 [some 19, some 21] fun G a w S => ?_
  exact sIdxV S (wN rfl) rfl rfl rfl aR rfl (lb rfl) fun a S => leafL ⟨rfl, S⟩
 ·refine fJ [(61, _)] 23 [some 22] fun G a w S => ?_
  exact sLoadR (r := (rI .i64)) (T := 3) (xs := aa) (x := ab) (v := .slice a5 aa.length a6) (vq := bl) (j := w64 (a9 + 1)) 1 (iv ab) S aS (wN rfl) rfl rfl rfl aG (fun _ _ _ h => h) (scal_I _) rfl rfl (lb rfl) fun a S => leafL ⟨rfl, S⟩
 ·exact fM 24 none rfl rfl rfl rfl (.inl rfl) rfl rfl rfl
 ·exact fM 25 none rfl rfl rfl rfl (.inl rfl) rfl rfl rfl
 ·exact fM 26 none rfl rfl rfl rfl (.inl rfl) rfl rfl rfl
 ·refine fJ [(64, _), (65, _)] 27 [some 25, some 26] fun G a w S => ?_
  exact sIdxV S (wN rfl) rfl rfl rfl aT rfl (lb rfl) fun a S => leafL ⟨rfl, S⟩
 ·refine fJ [(66, _)] 28 [some 27] fun G a w S => ?_
  exact sLoadVN (vq := aX) 9 [.bool a4.Back, .slice ak a4.Cells.length am] S (wN rfl) rfl rfl rfl rfl rfl rfl (lb rfl) fun a S => leafL ⟨rfl, S⟩
 ·refine fJ [(63, _), (67, _)] 29 [some 24, some 28] fun G a w S => ?_
  have S1 := S.mem
  refine sCallVQ (X := Unit) (g := 52) (vs := [.agg #[.bool a4.Back, .slice ak a4.Cells.length am]]) (caps := []) (val := fun _ => iv ac) S (wN rfl) rfl rfl callee52 rfl (S1.quiet [10] rfl) (fun E1 w1 S1 => c_compare_Charts_1 E1 w1 a4 (.agg #[.bool a4.Back, .slice ak a4.Cells.length am]) ac aJ S1) rfl (lb rfl) fun _ a w S => ?_
  exact leafL ⟨rfl, S⟩
 ·refine fJ [(62, _), (68, _)] 30 [some 23, some 29] fun G a w S => ?_
  exact sBin _ S (wN rfl) rfl rfl rfl (bAdd _ _ _ _ ab ac) rfl (lb rfl) fun a S => leafL ⟨rfl, S⟩
 ·exact fM 31 none rfl rfl rfl rfl (.inl rfl) rfl rfl rfl
 ·exact fM 32 none rfl rfl rfl rfl (.inl rfl) rfl rfl rfl
 ·refine fJ [(71, _)] 33 [some 32] fun G a w S => ?_
  exact sBin _ S (wN rfl) rfl rfl rfl (bAdd _ _ _ _ a8 1) rfl (lb rfl) fun a S => leafL ⟨rfl, S⟩
 ·refine fJ [(70, _), (72, _)] 34 [some 31, some 33] fun G a w S => ?_
  exact sIdxV S (wN rfl) rfl rfl rfl bX rfl (lb rfl) fun a S => leafL ⟨rfl, S⟩
 ·refine ⟨_, [(73, bt)], rfl, (srcs_of [some 34] rfl rfl rfl), fun G a w S => ?_⟩
  refine sLoadHo (r := (rL (rI .i64))) (T := 101) (xs := a7) (x := au) (p := (a8).toNat * (rL (rI .i64)).sz + 0) (u := .slice a5 aa.length a6) (v := .slice ad7 a7.length cp8) (vq := bt) (j := w64 (a8 + 1)) 0 S bY (wN rfl) rfl rfl rfl aw (idx_next (by decide) (hole_lim 0 S.mem rfl) ax aw) (scal_L _) rfl rfl (lb rfl) fun a dK S => ?_
  obtain ⟨cd, ce, _, rfl, _⟩ := S.mem.know (i := 0) (e := fRep (rL (rI .i64)) (dK) au) rfl
  obtain ⟨bz, cf, S⟩ := pIdx (P := Try.prog) (r := (rI .i64)) (v := .slice cd au.length ce) (xs := au) (j := w64 (a9 + 1)) 101 3 0 S Try.underlying101 rfl rfl bP
  obtain ⟨cT, S⟩ := pLoad (r := (rI .i64)) (q := bz) (x := ag) 0 S rfl
  obtain rfl : cT = iv ag := S.mem.know (i := 1) (e := fRep (rI .i64) (cT) ag) rfl
  refine leafL ⟨rfl, _, _, .inl ⟨74, (.slice cd au.length ce), [(42, 77, bz), (43, 78, iv ag), (54, 89, iv (w64 (ag + ah)))], rfl, S, hz_of rfl, ?_⟩⟩
  refine node_by (A := anc_compare_table_api_Row__s0_2) 58 (by kernel_rfl) (by kernel_rfl) (by kernel_rfl) (by kernel_rfl) (by kernel_rfl) [42, 43, 54, 39, 0, 1, 2, 3, 4, 5, 6, 7, 8, 10, 13, 14, 15, 16, 17, 18, 20, 21, 22, 23, 24, 25, 26, 27, 28, 29, 30, 31, 32, 33, 34, 35, 36, 37, 38, 40, 41, 44, 45, 46, 47, 48, 49, 50, 51, 52, 53] (by kernel_rfl) (by decide) (by decide) (fF ?_ (fF ?_ (fF ?_ (fF ?_ (fF ?_ (fF ?_ (fF ?_ (fF ?_ (fF ?_ (fN ?_ (fF ?_ (fE 9 (fE 9 (fF ?_ (fF ?_ (fF ?_ (fF ?_ (fF ?_ (fF ?_ (fE 9 (fF ?_ (fF ?_ (fF ?_ (fF ?_ (fF ?_ (fF ?_ (fF ?_ (fF ?_ (fF ?_ (fF ?_ (fF ?_ (fF ?_ (fF ?_ (fF ?_ (fF ?_ (fD 39 (fD 39 (fD 39 (fD 39 (fY (fF ?_ (fF ?_ (fF ?_ (fF ?_ (fF ?_ (fF ?_ (fF ?_ (fF ?_ (fF ?_ (fF ?_ (fF ?_ (fF ?_ (fF ?_ (fF ?_ (fF ?_ (fE 9 (fE 9 (aB 57 0 9 (by decide) (trivial))))))))))))))))))))))))))))))))))))))))))))))))))))))))))) [] (fun q hq => by cases hq) (fun hY => absurd (hY 9 (by decide)) (by decide))
  ·exact fM 4 none rfl rfl rfl rfl (.inl rfl) rfl rfl rfl
  ·exact fM 5 none rfl rfl rfl rfl (.inl rfl) rfl rfl rfl
  ·refine fJ [(35, _), (36, _)] 6 [some 4, some 5] fun G a w S => ?_
   exact sIdxV S (wN rfl) rfl rfl rfl aL rfl (lb rfl) fun a S => leafL ⟨rfl, S⟩
  ·refine fJ [(37, _)] 7 [some 6] fun G a w S => ?_
   exact sLoadHE (r := (rL (rI .i64))) (T := 101) (xs := a7) (u := .slice a5 aa.length a6) (v := .slice ad7 a7.length cp8) (vq := bj) (j := a8) 0 S aM (wN rfl) rfl rfl rfl rfl rfl (lb rfl) fun a S => leafL ⟨rfl, S⟩
  ·exact fM 8 none rfl rfl rfl rfl (.inl rfl) rfl rfl rfl
  ·exact fM 9 none rfl rfl rfl rfl (.inl rfl) rfl rfl rfl
  ·exact fM 10 none rfl rfl rfl rfl (.inl rfl) rfl rfl rfl
  ·refine fJ [(41, _)] 11 [some 10] fun G a w S => ?_
   exact sBin _ S (wN rfl) rfl rfl rfl (bAdd _ _ _ _ a8 1) rfl (lb rfl) fun a S => leafL ⟨rfl, S⟩
  ·refine fJ [(40, _), (42, _)] 12 [some 9, some 11] fun G a w S => ?_
   exact sIdxV S (wN rfl) rfl rfl rfl bR rfl (lb rfl) fun a S => leafL ⟨rfl, S⟩
  ·refine ⟨_, [(43, br)], rfl, (srcs_of [some 12] rfl rfl rfl), fun G a w S => ?_⟩
   refine sLoadHo (r := (rL (rI .i64))) (T := 101) (xs := a7) (x := au) (p := (a8).toNat * (rL (rI .i64)).sz + 0) (u := .slice a5 aa.length a6) (v := .slice ad7 a7.length cp8) (vq := br) (j := w64 (a8 + 1)) 0 S bU (wN rfl) rfl rfl rfl aw (idx_next (by decide) (hole_lim 0 S.mem rfl) ax aw) (scal_L _) rfl rfl (lb rfl) fun a dL S => ?_
   obtain ⟨cg, ci, _, rfl, _⟩ := S.mem.know (i := 0) (e := fRep (rL (rI .i64)) (dL) au) rfl
   obtain ⟨cv, cU, S⟩ := pIdx (P := Try.prog) (r := (rI .i64)) (v := .slice cg au.length ci) (xs := au) (j := a9) 101 3 0 S Try.underlying101 rfl rfl bM
   obtain ⟨cV, S⟩ := pLoad (r := (rI .i64)) (q := cv) (x := ae) 0 S rfl
   obtain rfl : cV = iv ae := S.mem.know (i := 1) (e := fRep (rI .i64) (cV) ae) rfl
   obtain ⟨cw, cW, cX⟩ := pIdxR (P := Try.prog) (r := (rI .i64)) (T := 3) (v := .slice a5 aa.length a6) (xs := aa) (j := a9) 101 3 1 S Try.underlying101 rfl rfl bQ
   refine leafL ⟨rfl, _, _, .inl ⟨44, (.slice cg au.length ci), [(11, 46, cv), (12, 47, iv ae), (19, 54, iv (w64 (ae + af))), (55, 90, iv (min3 (w64 (ae + af)) (w64 (ab + ac)) (w64 (ag + ah)))), (56, 91, cw)], rfl, S, hz_of rfl, ?_⟩⟩
   refine node_by (A := anc_compare_table_api_Row__s0_2) 58 (by kernel_rfl) (by kernel_rfl) (by kernel_rfl) (by kernel_rfl) (by kernel_rfl) [11, 12, 19, 55, 56, 9, 42, 43, 54, 39, 0, 1, 2, 3, 4, 5, 6, 7, 8, 10, 13, 14, 15, 16, 17, 18, 20, 21, 22, 23, 24, 25, 26, 27, 28, 29, 30, 31, 32, 33, 34, 35, 36, 37, 38, 40, 41, 44, 45, 46, 47, 48, 49, 50, 51, 52, 53] (by kernel_rfl) (by decide) (by decide) (fF ?_ (fF ?_ (fF ?_ (fF ?_ (fF ?_ (fD 9 (fD 9 (fD 9 (fD 9 (fY (fF ?_ (fF ?_ (fF ?_ (fF ?_ (fF ?_ (fF ?_ (fF ?_ (fF ?_ (fF ?_ (fF ?_ (fF ?_ (fF ?_ (fF ?_ (fF ?_ (fF ?_ (fF ?_ (fF ?_ (fF ?_ (fF ?_ (fF ?_ (fF ?_ (fF ?_ (fF ?_ (fF ?_ (fF ?_ (fD 39 (fD 39 (fD 39 (fD 39 (fY (fF ?_ (fF ?_ (fF ?_ (fF ?_ (fF ?_ (fF ?_ (fF ?_ (fF ?_ (fF ?_ (fF ?_ (fF ?_ (fF ?_ (fF ?_ (fF ?_ (fF ?_ (fF ?_ (fF ?_ (fN ?_ (trivial))))))))))))))))))))))))))))))))))))))))))))))))))))))))))) [] (fun q hq => by cases hq) (fun hY => absurd (hY 57 (by decide)) (by decide))
   ·exact fM 10 none rfl rfl rfl rfl (.inl rfl) rfl rfl rfl
   ·exact fM 11 none rfl rfl rfl rfl (.inl rfl) rfl rfl rfl
   ·refine fJ [(35, _), (36, _)] 12 [some 10, some 11] fun G a w S => ?_
    exact sIdxV S (wN rfl) rfl rfl rfl aL rfl (lb rfl) fun a S => leafL ⟨rfl, S⟩
   ·refine fJ [(37, _)] 13 [some 12] fun G a w S => ?_
    exact sLoadHE (r := (rL (rI .i64))) (T := 101) (xs := a7) (u := .slice a5 aa.length a6) (v := .slice ad7 a7.length cp8) (vq := bj) (j := a8) 0 S aM (wN rfl) rfl rfl rfl rfl rfl (lb rfl) fun a S => leafL ⟨rfl, S⟩
   ·exact fM 14 none rfl rfl rfl rfl (.inl rfl) rfl rfl rfl
   ·exact fM 19 none rfl rfl rfl rfl (.inl rfl) rfl rfl rfl
   ·refine fJ [(44, _), (45, _)] 0 [some 5, some 19] fun G a w S => ?_
    exact sIdxV S (wN rfl) rfl rfl rfl cU rfl (lb rfl) fun a S => leafL ⟨rfl, S⟩
   ·refine fJ [(46, _)] 1 [some 0] fun G a w S => ?_
    exact sLoadV1 (vq := cv) 0 (iv ae) S (wN rfl) rfl rfl rfl rfl rfl (lb rfl) fun a S => leafL ⟨rfl, S⟩
   ·exact fM 20 none rfl rfl rfl rfl (.inl rfl) rfl rfl rfl
   ·exact fM 21 none rfl rfl rfl rfl (.inl rfl) rfl rfl rfl
   ·exact fM 22 none rfl rfl rfl rfl (.inl rfl) rfl rfl rfl
   ·refine fJ [(49, _), (50, _)] 23 [some 21, some 22] fun G a w S => ?_
    exact sIdxV S (wN rfl) rfl rfl rfl aO rfl (lb rfl) fun a S => leafL ⟨rfl, S⟩
   ·refine fJ [(51, _)] 24 [some 23] fun G a w S => ?_
    exact sLoadVN (vq := aW) 21 [.bool a0.Back, .slice ai a0.Cells.length aj] S (wN rfl) rfl rfl rfl rfl rfl rfl (lb rfl) fun a S => leafL ⟨rfl, S⟩
   ·refine fJ [(48, _), (52, _)] 25 [some 20, some 24] fun G a w S => ?_
    have S1 := S.mem
    refine sCallVQ (X := Unit) (g := 52) (vs := [.agg #[.bool a0.Back, .slice ai a0.Cells.length aj]]) (caps := []) (val := fun _ => iv af) S (wN rfl) rfl rfl callee52 rfl (S1.quiet [22] rfl) (fun E1 w1 S1 => c_compare_Charts_1 E1 w1 a0 (.agg #[.bool a0.Back, .slice ai a0.Cells.length aj]) af aI S1) rfl (lb rfl) fun _ a w S => ?_
    exact leafL ⟨rfl, S⟩
   ·refine fJ [(47, _), (53, _)] 2 [some 1, some 25] fun G a w S => ?_
    exact sBin _ S (wN rfl) rfl rfl rfl (bAdd _ _ _ _ ae af) rfl (lb rfl) fun a S => leafL ⟨rfl, S⟩
   ·exact fM 26 none rfl rfl rfl rfl (.inl rfl) rfl rfl rfl
   ·exact fM 27 none rfl rfl rfl rfl (.inl rfl) rfl rfl rfl
   ·refine fJ [(55, _), (56, _)] 28 [some 26, some 27] fun G a w S => ?_
    exact sIdxV S (wN rfl) rfl rfl rfl aP rfl (lb rfl) fun a S => leafL ⟨rfl, S⟩
   ·refine fJ [(57, _)] 29 [some 28] fun G a w S => ?_
    exact sLoadHE (r := (rL (rI .i64))) (T := 101) (xs := a7) (u := .slice a5 aa.length a6) (v := .slice ad7 a7.length cp8) (vq := bk) (j := a8) 0 S aQ (wN rfl) rfl rfl rfl rfl rfl (lb rfl) fun a S => leafL ⟨rfl, S⟩
   ·exact fM 30 none rfl rfl rfl rfl (.inl rfl) rfl rfl rfl
   ·refine fJ [(59, _)] 31 [some 30] fun G a w S => ?_
    exact sBin _ S (wN rfl) rfl rfl rfl (bAdd _ _ _ _ a9 1) rfl (lb rfl) fun a S => leafL ⟨rfl, S⟩
   ·refine fJ [(58, _), (60, _)] 32 [some 29, some 31] fun G a w S => ?_
    exact sIdxV S (wN rfl) rfl rfl rfl aR rfl (lb rfl) fun a S => leafL ⟨rfl, S⟩
   ·refine fJ [(61, _)] 33 [some 32] fun G a w S => ?_
    exact sLoadR (r := (rI .i64)) (T := 3) (xs := aa) (x := ab) (v := .slice a5 aa.length a6) (vq := bl) (j := w64 (a9 + 1)) 1 (iv ab) S aS (wN rfl) rfl rfl rfl aG (fun _ _ _ h => h) (scal_I _) rfl rfl (lb rfl) fun a S => leafL ⟨rfl, S⟩
   ·exact fM 34 none rfl rfl rfl rfl (.inl rfl) rfl rfl rfl
   ·exact fM 35 none rfl rfl rfl rfl (.inl rfl) rfl rfl rfl
   ·exact fM 36 none rfl rfl rfl rfl (.inl rfl) rfl rfl rfl
   ·refine fJ [(64, _), (65, _)] 37 [some 35, some 36] fun G a w S => ?_
    exact sIdxV S (wN rfl) rfl rfl rfl aT rfl (lb rfl) fun a S => leafL ⟨rfl, S⟩
   ·refine fJ [(66, _)] 38 [some 37] fun G a w S => ?_
    exact sLoadVN (vq := aX) 17 [.bool a4.Back, .slice ak a4.Cells.length am] S (wN rfl) rfl rfl rfl rfl rfl rfl (lb rfl) fun a S => leafL ⟨rfl, S⟩
   ·refine fJ [(63, _), (67, _)] 39 [some 34, some 38] fun G a w S => ?_
    have S1 := S.mem
    refine sCallVQ (X := Unit) (g := 52) (vs := [.agg #[.bool a4.Back, .slice ak a4.Cells.length am]]) (caps := []) (val := fun _ => iv ac) S (wN rfl) rfl rfl callee52 rfl (S1.quiet [18] rfl) (fun E1 w1 S1 => c_compare_Charts_1 E1 w1 a4 (.agg #[.bool a4.Back, .slice ak a4.Cells.length am]) ac aJ S1) rfl (lb rfl) fun _ a w S => ?_
    exact leafL ⟨rfl, S⟩
   ·refine fJ [(62, _), (68, _)] 40 [some 33, some 39] fun G a w S => ?_
    exact sBin _ S (wN rfl) rfl rfl rfl (bAdd _ _ _ _ ab ac) rfl (lb rfl) fun a S => leafL ⟨rfl, S⟩
   ·exact fM 45 none rfl rfl rfl rfl (.inl rfl) rfl rfl rfl
   ·refine fJ [(75, _)] 46 [some 45] fun G a w S => ?_
    exact sBin _ S (wN rfl) rfl rfl rfl (bAdd _ _ _ _ a9 1) rfl (lb rfl) fun a S => leafL ⟨rfl, S⟩
   ·refine fJ [(74, _), (76, _)] 6 [some 9, some 46] fun G a w S => ?_
    exact sIdxV S (wN rfl) rfl rfl rfl cf rfl (lb rfl) fun a S => leafL ⟨rfl, S⟩
   ·refine fJ [(77, _)] 7 [some 6] fun G a w S => ?_
    exact sLoadV1 (vq := bz) 4 (iv ag) S (wN rfl) rfl rfl rfl rfl rfl (lb rfl) fun a S => leafL ⟨rfl, S⟩
   ·exact fM 47 none rfl rfl rfl rfl (.inl rfl) rfl rfl rfl
   ·exact fM 48 none rfl rfl rfl rfl (.inl rfl) rfl rfl rfl
   ·exact fM 49 none rfl rfl rfl rfl (.inl rfl) rfl rfl rfl
   ·refine fJ [(80, _), (81, _)] 50 [some 48, some 49] fun G a w S => ?_
    exact sIdxV S (wN rfl) rfl rfl rfl aU rfl (lb rfl) fun a S => leafL ⟨rfl, S⟩
   ·refine fJ [(82, _)] 51 [some 50] fun G a w S => ?_
    exact sLoadVN (vq := aZ) 13 [.bool a0.Back, .slice ao a0.Cells.length ap] S (wN rfl) rfl rfl rfl rfl rfl rfl (lb rfl) fun a S => leafL ⟨rfl, S⟩
   ·exact fM 52 none rfl rfl rfl rfl (.inl rfl) rfl rfl rfl
   ·exact fM 53 none rfl rfl rfl rfl (.inl rfl) rfl rfl rfl
   ·refine fJ [(84, _), (85, _)] 54 [some 52, some 53] fun G a w S => ?_
    exact sIdxV S (wN rfl) rfl rfl rfl aV rfl (lb rfl) fun a S => leafL ⟨rfl, S⟩
   ·refine fJ [(86, _)] 55 [some 54] fun G a w S => ?_
    exact sLoadVN (vq := ba) 9 [.bool a4.Back, .slice aq a4.Cells.length ar] S (wN rfl) rfl rfl rfl rfl rfl rfl (lb rfl) fun a S => leafL ⟨rfl, S⟩
   ·refine fJ [(79, _), (83, _), (87, _)] 56 [some 47, some 51, some 55] fun G a w S => ?_
    have S1 := S.mem
    refine sCallVQ (X := Unit) (g := 53) (vs := [.agg #[.bool a0.Back, .slice ao a0.Cells.length ap], .agg #[.bool a4.Back, .slice aq a4.Cells.length ar]]) (caps := []) (val := fun _ => iv ah) S (wN rfl) rfl rfl callee53 rfl (S1.quiet [14, 10] rfl) (fun E1 w1 S1 => c_compare_Charts_2 E1 w1 a0 (.agg #[.bool a0.Back, .slice ao a0.Cells.length ap]) a4 (.agg #[.bool a4.Back, .slice aq a4.Cells.length ar]) ah aK S1) rfl (lb rfl) fun _ a w S => ?_
    exact leafL ⟨rfl, S⟩
   ·refine fJ [(78, _), (88, _)] 8 [some 7, some 56] fun G a w S => ?_
    exact sBin _ S (wN rfl) rfl rfl rfl (bAdd _ _ _ _ ag ah) rfl (lb rfl) fun a S => leafL ⟨rfl, S⟩
   ·refine fJ [(54, _), (69, _), (89, _)] 3 [some 2, some 40, some 8] fun G a w S => ?_
    exact sMin3 (p := w64 (ae + af)) (q := w64 (ab + ac)) (r := w64 (ag + ah)) S (wN rfl) rfl rfl rfl rfl rfl (lb rfl) fun a S => leafL ⟨rfl, S⟩
   ·refine fJ [(38, _), (39, _)] 4 [some 13, some 14] fun G a w S => ?_
    exact sIdxV S (wN rfl) rfl rfl rfl cW rfl (lb rfl) fun a S => leafL ⟨rfl, S⟩
   refine ⟨_, [(90, iv (min3 (w64 (ae + af)) (w64 (ab + ac)) (w64 (ag + ah)))), (91, cw)], rfl, (srcs_of [some 3, some 4] rfl rfl rfl), fun G a w S => ?_⟩
   refine sStoreR (r := (rI .i64)) (T := 3) (xs := aa) (ys := bw) (y := (min3 (w64 (ae + af)) (w64 (ab + ac)) (w64 (ag + ah)))) (v := .slice a5 aa.length a6) (vq := cw) (u := iv (min3 (w64 (ae + af)) (w64 (ab + ac)) (w64 (ag + ah)))) (j := a9) 1 S cX (wN rfl) rfl rfl rfl rfl rfl bf rfl rfl fun a w S => ?_
   refine leafL ⟨rfl, _, _, .inr ⟨[], rfl, S, hz_of rfl, ?_⟩⟩
   refine node_by (A := anc_compare_table_api_Row__s0_2) 58 (by kernel_rfl) (by kernel_rfl) (by kernel_rfl) (by kernel_rfl) (by kernel_rfl) [11, 12, 19, 55, 56, 9, 42, 43, 54, 39, 0, 1, 2, 3, 4, 5, 6, 7, 8, 10, 13, 14, 15, 16, 17, 18, 20, 21, 22, 23, 24, 25, 26, 27, 28, 29, 30, 31, 32, 33, 34, 35, 36, 37, 38, 40, 41, 44, 45, 46, 47, 48, 49, 50, 51, 52, 53] (by kernel_rfl) (by decide) (by decide) (fD 57 (fD 57 (fD 57 (fD 57 (fD 57 (fD 57 (fD 57 (fD 57 (fD 57 (fY (fD 57 (fD 57 (fD 57 (fD 57 (fD 57 (fD 57 (fD 57 (fD 57 (fD 57 (fD 57 (fD 57 (fD 57 (fD 57 (fD 57 (fD 57 (fD 57 (fD 57 (fD 57 (fD 57 (fD 57 (fD 57 (fD 57 (fD 57 (fD 57 (fD 57 (fD 57 (fD 57 (fD 57 (fD 57 (fY (fD 57 (fD 57 (fD 57 (fD 57 (fD 57 (fD 57 (fD 57 (fD 57 (fD 57 (fD 57 (fD 57 (fD 57 (fD 57 (fD 57 (fD 57 (fD 57 (fD 57 (fY (trivial))))))))))))))))))))))))))))))))))))))))))))))))))))))))))) [(0, .slice ad1 p0.length cp2), (1, .slice ad3 p1.length cp4), (2, .func (.func 52) #[] #[]), (3, .func (.func 53) #[] #[]), (9, .slice ad7 a7.length cp8), (10, iv a8), (11, iv a9)] (fin_of [none, none, none, none, none, none, none] rfl (by kernel_rfl) (by kernel_rfl)) (fun _ a w S => ?_)
   rw [setO_v bf a5 a6] at S
   exact leafB (leafB (leafT (⟨bw, Option.some.inj h, S.fix [1, 0] [24, 25] (by decide) rfl rfl rfl⟩)))
  ·exact fM 13 none rfl rfl rfl rfl (.inl rfl) rfl rfl rfl
  ·exact fM 14 none rfl rfl rfl rfl (.inl rfl) rfl rfl rfl
  ·exact fM 15 none rfl rfl rfl rfl (.inl rfl) rfl rfl rfl
  ·exact fM 16 none rfl rfl rfl rfl (.inl rfl) rfl rfl rfl
  ·refine fJ [(49, _), (50, _)] 17 [some 15, some 16] fun G a w S => ?_
   exact sIdxV S (wN rfl) rfl rfl rfl aO rfl (lb rfl) fun a S => leafL ⟨rfl, S⟩
  ·refine fJ [(51, _)] 18 [some 17] fun G a w S => ?_
   exact sLoadVN (vq := aW) 17 [.bool a0.Back, .slice ai a0.Cells.length aj] S (wN rfl) rfl rfl rfl rfl rfl rfl (lb rfl) fun a S => leafL ⟨rfl, S⟩
  ·refine fJ [(48, _), (52, _)] 19 [some 14, some 18] fun G a w S => ?_
   have S1 := S.mem
   refine sCallVQ (X := Unit) (g := 52) (vs := [.agg #[.bool a0.Back, .slice ai a0.Cells.length aj]]) (caps := []) (val := fun _ => iv af) S (wN rfl) rfl rfl callee52 rfl (S1.quiet [18] rfl) (fun E1 w1 S1 => c_compare_Charts_1 E1 w1 a0 (.agg #[.bool a0.Back, .slice ai a0.Cells.length aj]) af aI S1) rfl (lb rfl) fun _ a w S => ?_
   exact leafL ⟨rfl, S⟩
  ·exact fM 20 none rfl rfl rfl rfl (.inl rfl) rfl rfl rfl
  ·exact fM 21 none rfl rfl rfl rfl (.inl rfl) rfl rfl rfl
  ·refine fJ [(55, _), (56, _)] 22 [some 20, some 21] fun G a w S => ?_
   exact sIdxV S (wN rfl) rfl rfl rfl aP rfl (lb rfl) fun a S => leafL ⟨rfl, S⟩
  ·refine fJ [(57, _)] 23 [some 22] fun G a w S => ?_
   exact sLoadHE (r := (rL (rI .i64))) (T := 101) (xs := a7) (u := .slice a5 aa.length a6) (v := .slice ad7 a7.length cp8) (vq := bk) (j := a8) 0 S aQ (wN rfl) rfl rfl rfl rfl rfl (lb rfl) fun a S => leafL ⟨rfl, S⟩
  ·exact fM 24 none rfl rfl rfl rfl (.inl rfl) rfl rfl rfl
  ·refine fJ [(59, _)] 25 [some 24] fun G a w S => ?_
   exact sBin _ S (wN rfl) rfl rfl rfl (bAdd _ _ _ _ a9 1) rfl (lb rfl) fun a S => leafL ⟨rfl, S⟩
  ·refine fJ [(58, _), (60, _)] 26 [some 23, some 25] fun G a w S => ?_
   exact sIdxV S (wN rfl) rfl rfl rfl aR rfl (lb rfl) fun a S => leafL ⟨rfl, S⟩
  ·refine fJ [(61, _)] 27 [some 26] fun G a w S => ?_
   exact sLoadR (r := (rI .i64)) (T := 3) (xs := aa) (x := ab) (v := .slice a5 aa.length a6) (vq := bl) (j := w64 (a9 + 1)) 1 (iv ab) S aS (wN rfl) rfl rfl rfl aG (fun _ _ _ h => h) (scal_I _) rfl rfl (lb rfl) fun a S => leafL ⟨rfl, S⟩
  ·exact fM 28 none rfl rfl rfl rfl (.inl rfl) rfl rfl rfl
  ·exact fM 29 none rfl rfl rfl rfl (.inl rfl) rfl rfl rfl
  ·exact fM 30 none rfl rfl rfl rfl (.inl rfl) rfl rfl rfl
  ·refine fJ [(64, _), (65, _)] 31 [some 29, some 30] fun G a w S => ?_
   exact sIdxV S (wN rfl) rfl rfl rfl aT rfl (lb rfl) fun a S => leafL ⟨rfl, S⟩
  ·refine fJ [(66, _)] 32 [some 31] fun G a w S => ?_
   exact sLoadVN (vq := aX) 13 [.bool a4.Back, .slice ak a4.Cells.length am] S (wN rfl) rfl rfl rfl rfl rfl rfl (lb rfl) fun a S => leafL ⟨rfl, S⟩
  ·refine fJ [(63, _), (67, _)] 33 [some 28, some 32] fun G a w S => ?_
   have S1 := S.mem
   refine sCallVQ (X := Unit) (g := 52) (vs := [.agg #[.bool a4.Back, .slice ak a4.Cells.length am]]) (caps := []) (val := fun _ => iv ac) S (wN rfl) rfl rfl callee52 rfl (S1.quiet [14] rfl) (fun E1 w1 S1 => c_compare_Charts_1 E1 w1 a4 (.agg #[.bool a4.Back, .slice ak a4.Cells.length am]) ac aJ S1) rfl (lb rfl) fun _ a w S => ?_
   exact leafL ⟨rfl, S⟩
  ·refine fJ [(62, _), (68, _)] 34 [some 27, some 33] fun G a w S => ?_
   exact sBin _ S (wN rfl) rfl rfl rfl (bAdd _ _ _ _ ab ac) rfl (lb rfl) fun a S => leafL ⟨rfl, S⟩
  ·exact fM 39 none rfl rfl rfl rfl (.inl rfl) rfl rfl rfl
  ·refine fJ [(75, _)] 40 [some 39] fun G a w S => ?_
   exact sBin _ S (wN rfl) rfl rfl rfl (bAdd _ _ _ _ a9 1) rfl (lb rfl) fun a S => leafL ⟨rfl, S⟩
  ·refine fJ [(74, _), (76, _)] 0 [some 3, some 40] fun G a w S => ?_
   exact sIdxV S (wN rfl) rfl rfl rfl cf rfl (lb rfl) fun a S => leafL ⟨rfl, S⟩
  ·refine fJ [(77, _)] 1 [some 0] fun G a w S => ?_
   exact sLoadV1 (vq := bz) 0 (iv ag) S (wN rfl) rfl rfl rfl rfl rfl (lb rfl) fun a S => leafL ⟨rfl, S⟩
  ·exact fM 41 none rfl rfl rfl rfl (.inl rfl) rfl rfl rfl
  ·exact fM 42 none rfl rfl rfl rfl (.inl rfl) rfl rfl rfl
  ·exact fM 43 none rfl rfl rfl rfl (.inl rfl) rfl rfl rfl
  ·refine fJ [(80, _), (81, _)] 44 [some 42, some 43] fun G a w S => ?_
   exact sIdxV S (wN rfl) rfl rfl rfl aU rfl (lb rfl) fun a S => leafL ⟨rfl, S⟩
  ·refine fJ [(82, _)] 45 [some 44] fun G a w S => ?_
   exact sLoadVN (vq := aZ) 9 [.bool a0.Back, .slice ao a0.Cells.length ap] S (wN rfl) rfl rfl rfl rfl rfl rfl (lb rfl) fun a S => leafL ⟨rfl, S⟩
  ·exact fM 46 none rfl rfl rfl rfl (.inl rfl) rfl rfl rfl
  ·exact fM 47 none rfl rfl rfl rfl (.inl rfl) rfl rfl rfl
  ·refine fJ [(84, _), (85, _)] 48 [some 46, some 47] fun G a w S => ?_
   exact sIdxV S (wN rfl) rfl rfl rfl aV rfl (lb rfl) fun a S => leafL ⟨rfl, S⟩
  ·refine fJ [(86, _)] 49 [some 48] fun G a w S => ?_
   exact sLoadVN (vq := ba) 5 [.bool a4.Back, .slice aq a4.Cells.length ar] S (wN rfl) rfl rfl rfl rfl rfl rfl (lb rfl) fun a S => leafL ⟨rfl, S⟩
  ·refine fJ [(79, _), (83, _), (87, _)] 50 [some 41, some 45, some 49] fun G a w S => ?_
   have S1 := S.mem
   refine sCallVQ (X := Unit) (g := 53) (vs := [.agg #[.bool a0.Back, .slice ao a0.Cells.length ap], .agg #[.bool a4.Back, .slice aq a4.Cells.length ar]]) (caps := []) (val := fun _ => iv ah) S (wN rfl) rfl rfl callee53 rfl (S1.quiet [10, 6] rfl) (fun E1 w1 S1 => c_compare_Charts_2 E1 w1 a0 (.agg #[.bool a0.Back, .slice ao a0.Cells.length ap]) a4 (.agg #[.bool a4.Back, .slice aq a4.Cells.length ar]) ah aK S1) rfl (lb rfl) fun _ a w S => ?_
   exact leafL ⟨rfl, S⟩
  refine fJ [(78, _), (88, _)] 2 [some 1, some 50] fun G a w S => ?_
  exact sBin _ S (wN rfl) rfl rfl rfl (bAdd _ _ _ _ ag ah) rfl (lb rfl) fun a S => leafL ⟨rfl, S⟩
 ·exact fM 35 none rfl rfl rfl rfl (.inl rfl) rfl rfl rfl
 ·refine fJ [(75, _)] 36 [some 35] fun G a w S => ?_
  exact sBin _ S (wN rfl) rfl rfl rfl (bAdd _ _ _ _ a9 1) rfl (lb rfl) fun a S => leafL ⟨rfl, S⟩
 ·exact fM 37 none rfl rfl rfl rfl (.inl rfl) rfl rfl rfl
 ·exact fM 38 none rfl rfl rfl rfl (.inl rfl) rfl rfl rfl
 ·exact fM 39 none rfl rfl rfl rfl (.inl rfl) rfl rfl rfl
 ·refine fJ [(80, _), (81, _)] 40 [some 38, some 39] fun G a w S => ?_
  exact sIdxV S (wN rfl) rfl rfl rfl aU rfl (lb rfl) fun a S => leafL ⟨rfl, S⟩
 ·refine fJ [(82, _)] 41 [some 40] fun G a w S => ?_
  exact sLoadVN (vq := aZ) 5 [.bool a0.Back, .slice ao a0.Cells.length ap] S (wN rfl) rfl rfl rfl rfl rfl rfl (lb rfl) fun a S => leafL ⟨rfl, S⟩
 ·exact fM 42 none rfl rfl rfl rfl (.inl rfl) rfl rfl rfl
 ·exact fM 43 none rfl rfl rfl rfl (.inl rfl) rfl rfl rfl
 ·refine fJ [(84, _), (85, _)] 44 [some 42, some 43] fun G a w S => ?_
  exact sIdxV S (wN rfl) rfl rfl rfl aV rfl (lb rfl) fun a S => leafL ⟨rfl, S⟩
 ·refine fJ [(86, _)] 45 [some 44] fun G a w S => ?_
  exact sLoadVN (vq := ba) 1 [.bool a4.Back, .slice aq a4.Cells.length ar] S (wN rfl) rfl rfl rfl rfl rfl rfl (lb rfl) fun a S => leafL ⟨rfl, S⟩
 refine fJ [(79, _), (83, _), (87, _)] 46 [some 37, some 41, some 45] fun G a w S => ?_
 have S1 := S.mem
 refine sCallVQ (X := Unit) (g := 53) (vs := [.agg #[.bool a0.Back, .slice ao a0.Cells.length ap], .agg #[.bool a4.Back, .slice aq a4.Cells.length ar]]) (caps := []) (val := fun _ => iv ah) S (wN rfl) rfl rfl callee53 rfl (S1.quiet [6, 2] rfl) (fun E1 w1 S1 => c_compare_Charts_2 E1 w1 a0 (.agg #[.bool a0.Back, .slice ao a0.Cells.length ap]) a4 (.agg #[.bool a4.Back, .slice aq a4.Cells.length ar]) ah aK S1) rfl (lb rfl) fun _ a w S => ?_
 exact leafL ⟨rfl, S⟩
noncomputable def F_compare_Charts (p0 : api_Chart) (p1 : api_Chart) : Option (Int × Int) :=
 (F_chart_Check p0).bind fun a0 =>
 if a0 != 0 then
  some (0, a0)
 else
  (F_chart_Check p1).bind fun a4 =>
  if a4 != 0 then
   some (0, a4)
  else
   (F_compare_table_api_Row__s0 p0.Rows p1.Rows).bind fun a6 =>
   (idxO a6 0).bind fun a7 =>
   (idxO a7 0).bind fun a5 =>
   Option.bind (α := Int) (
    if p0.Start != p1.Start then
     some (w64 (a5 + 1))
    else
     some a5) fun a8 =>
   some (a8, 0)
theorem c_compare_Charts (E : Nat → Prop) (w0 : World) (p0 : api_Chart) (v0 : Value) (p1 : api_Chart) (v1 : Value) (r : (Int × Int)) (h : F_compare_Charts p0 p1 = some r) (S : St0 E [] w0 w0 [] [fRep r_api_Chart (v0) p0, fRep r_api_Chart (v1) p1]) :
 Calls Try.prog 20 #[v0, v1] w0 (Ret (X := Unit) E [] w0 (fun _ => .tuple #[.int .i64 r.1, .int .i64 r.2]) (fun _ => []) (fun _ => [])) := by
 unfold F_compare_Charts at h
 obtain ⟨u1, rfl, hu2⟩ := S.know (i := 0) (e := fRep r_api_Chart (v0) p0) rfl
 have S := S.learn (fRep (rL r_api_Row) u1 p0.Rows) hu2
 obtain ⟨ad3, cp4, _, rfl, _⟩ := hu2
 obtain ⟨u5, rfl, hu6⟩ := S.know (i := 2) (e := fRep r_api_Chart (v1) p1) rfl
 have S := S.learn (fRep (rL r_api_Row) u5 p1.Rows) hu6
 obtain ⟨ad7, cp8, _, rfl, _⟩ := hu6
 refine sEnter (args := [.agg #[iv p0.Start, .slice ad3 p0.Rows.length cp4], .agg #[iv p1.Start, .slice ad7 p1.Rows.length cp8]]) 38 Try.func20 rfl rfl (by simp) S (fun a S => ?_)
 refine sSeq (fun K9 hK9 => sRegion (sBox (v := .agg #[iv p0.Start, .slice ad3 p0.Rows.length cp4]) S (wN rfl) rfl rfl [iv p0.Start, .slice ad3 p0.Rows.length cp4] rfl rfl (lb rfl) fun a af w S => ?_))
 refine sBox (v := .agg #[iv p1.Start, .slice ad7 p1.Rows.length cp8]) S (wN rfl) rfl rfl [iv p1.Start, .slice ad7 p1.Rows.length cp8] rfl rfl (lb rfl) fun a ag w S => ?_
 refine sN S fun a S => ?_
 refine sN S fun a S => ?_
 refine lT (hK9 _ _ (sSeq (fun aS ah => sSeq (fun aT ai => sRegion (sLoadN (p := af) (off := 0) (T := 42) (vs := [iv p0.Start, .slice ad3 p0.Rows.length cp4]) 1 [iv p0.Start, .slice ad3 p0.Rows.length cp4] S (wN rfl) rfl rfl rfl rfl rfl rfl rfl (lb rfl) fun a S => ?_)))))
 obtain ⟨a8, aj, h⟩ := bS h
 have S1 := S.mem
 refine sCq [.agg #[iv p0.Start, .slice ad3 p0.Rows.length cp4]] (iv a8) S callee50 (S1.quiet [2] rfl) (fun E1 w1 S1 => c_chart_Check E1 w1 p0 (.agg #[iv p0.Start, .slice ad3 p0.Rows.length cp4]) a8 aj S1) fun a w S => ?_
 refine sN S fun a S => ?_
 refine lT (ai _ _ (sSeq (fun aU ak => sRegion (sM S fun a S => ?_))))
 refine sBin _ S (wN rfl) rfl rfl rfl (bNe _ _ _ _ .i64 a8 0) rfl (lb rfl) fun a S => ?_
 refine lT (ak _ _ ?_)
 rcases iS h with ⟨a0, h⟩ | ⟨a0, h⟩
 ·refine sCondT S rfl a0 ?_
  refine sSeq (fun aV am => sRegion (sM S fun a S => ?_))
  refine sN S fun a S => ?_
  refine sN S fun a S => ?_
  refine lT (am _ _ ?_)
  obtain rfl := tS h
  exact wp_ret (rThen (sRet (.tuple #[iv 0, iv a8]) S (rsl2 rfl (rvT (t := 4) (v := iv 0) S rfl) (rvT (t := 5) (v := iv a8) S rfl)) ⟨(), rfl, S.mem.sel [] [] (by decide) rfl rfl⟩))
 refine sCondF S rfl a0 ?_
 refine wp_skip (leafT (ah _ _ ?_))
 refine sSeq (fun aW ao => sSeq (fun aX ap => sRegion (sLoadN (p := ag) (off := 0) (T := 42) (vs := [iv p1.Start, .slice ad7 p1.Rows.length cp8]) 0 [iv p1.Start, .slice ad7 p1.Rows.length cp8] S (wN rfl) rfl rfl rfl rfl rfl rfl rfl (lb rfl) fun a S => ?_)))
 obtain ⟨a9, aq, h⟩ := bS h
 have S1 := S.mem
 refine sCq [.agg #[iv p1.Start, .slice ad7 p1.Rows.length cp8]] (iv a9) S callee50 (S1.quiet [3] rfl) (fun E1 w1 S1 => c_chart_Check E1 w1 p1 (.agg #[iv p1.Start, .slice ad7 p1.Rows.length cp8]) a9 aq S1) fun a w S => ?_
 refine sN S fun a S => ?_
 refine lT (ap _ _ (sSeq (fun aZ ar => sRegion (sM S fun a S => ?_))))
 refine sBin _ S (wN rfl) rfl rfl rfl (bNe _ _ _ _ .i64 a9 0) rfl (lb rfl) fun a S => ?_
 refine lT (ar _ _ ?_)
 rcases iS h with ⟨a4, h⟩ | ⟨a4, h⟩
 ·refine sCondT S rfl a4 ?_
  refine sSeq (fun ba au => sRegion (sM S fun a S => ?_))
  refine sN S fun a S => ?_
  refine sN S fun a S => ?_
  refine lT (au _ _ ?_)
  obtain rfl := tS h
  exact wp_ret (rThen (sRet (.tuple #[iv 0, iv a9]) S (rsl2 rfl (rvT (t := 4) (v := iv 0) S rfl) (rvT (t := 5) (v := iv a9) S rfl)) ⟨(), rfl, S.mem.sel [] [] (by decide) rfl rfl⟩))
 refine sCondF S rfl a4 ?_
 refine wp_skip (leafT (ao _ _ ?_))
 refine sSeq (fun bb av => sRegion (sField (b := af) (off := 0) 1 1 S (wN rfl) rfl rfl rfl rfl rfl (lb rfl) fun a S => ?_))
 refine sLoad1 1 (.slice ad3 p0.Rows.length cp4) S (wN rfl) rfl rfl rfl rfl rfl rfl (lb rfl) fun a S => ?_
 refine sField (b := ag) (off := 0) 1 1 S (wN rfl) rfl rfl rfl rfl rfl (lb rfl) fun a S => ?_
 refine sLoad1 0 (.slice ad7 p1.Rows.length cp8) S (wN rfl) rfl rfl rfl rfl rfl rfl (lb rfl) fun a S => ?_
 obtain ⟨a7, aw, h⟩ := bS h
 refine sCall (X := Value) (f := 51) (vs := [.slice ad3 p0.Rows.length cp4, .slice ad7 p1.Rows.length cp8, .func (.func 52) #[] #[], .func (.func 53) #[] #[]]) (val := c_compare_table_api_Row__s0_val a7) (B' := fun _ => []) (D' := c_compare_table_api_Row__s0_D a7) [] [eBox ag 42 [iv p1.Start, .slice ad7 p1.Rows.length cp8], eBox af 42 [iv p0.Start, .slice ad3 p0.Rows.length cp4]] [fRep (rL r_api_Row) (.slice ad3 p0.Rows.length cp4) p0.Rows, fRep (rL r_api_Row) (.slice ad7 p1.Rows.length cp8) p1.Rows] [0, 1] [1, 0] S (wN rfl) rfl callee51 rfl (by decide) rfl rfl (fun E1 w1 S1 => c_compare_table_api_Row__s0 E1 w1 p0.Rows (.slice ad3 p0.Rows.length cp4) p1.Rows (.slice ad7 p1.Rows.length cp8) a7 aw S1) rfl (lb rfl) fun aO a w S => ?_
 obtain ⟨ax, ay, _, rfl, _⟩ := S.mem.know (i := 0) (e := fRep (rL (rL (rI .i64))) (aO) a7) rfl
 refine sN S fun a S => ?_
 refine lT (av _ _ (sSeq (fun bc az => sRegion (sM S fun a S => ?_))))
 obtain ⟨aa, aA, h⟩ := bS h
 obtain ⟨aK, aC, S⟩ := pIdx (P := Try.prog) (r := (rL (rI .i64))) (v := .slice ax a7.length ay) (xs := a7) (j := 0) 98 101 0 S Try.underlying98 rfl rfl aA
 refine sIdxV S (wN rfl) rfl rfl rfl aC rfl (lb rfl) fun a S => ?_
 obtain ⟨aP, S⟩ := pLoad (r := (rL (rI .i64))) (q := aK) (x := aa) 0 S rfl
 obtain ⟨ab, ac, _, rfl, _⟩ := S.mem.know (i := 1) (e := fRep (rL (rI .i64)) (aP) aa) rfl
 refine sLoadV1 (vq := aK) 0 (.slice ab aa.length ac) S (wN rfl) rfl rfl rfl rfl rfl (lb rfl) fun a S => ?_
 obtain ⟨a5, aG, h⟩ := bS h
 obtain ⟨aL, aH, S⟩ := pIdx (P := Try.prog) (r := (rI .i64)) (v := .slice ab aa.length ac) (xs := aa) (j := 0) 101 3 1 S Try.underlying101 rfl rfl aG
 refine sIdxV S (wN rfl) rfl rfl rfl aH rfl (lb rfl) fun a S => ?_
 obtain ⟨aM, S⟩ := pLoad (r := (rI .i64)) (q := aL) (x := a5) 0 S rfl
 obtain rfl : aM = iv a5 := S.mem.know (i := 1) (e := fRep (rI .i64) (aM) a5) rfl
 refine sLoadV1 (vq := aL) 0 (iv a5) S (wN rfl) rfl rfl rfl rfl rfl (lb rfl) fun a S => ?_
 refine sN S fun a S => ?_
 refine lT (az _ _ ?_)
 obtain ⟨aQ, h, aR⟩ := bS h
 refine sCut (fun a w => ∃ ae, ae = aQ ∧ St [] E [] w0 38 a w [(9, iv ae)] [] []) ?_ (fun a w hI => ?_)
 rotate_left
 ·obtain ⟨ae, rfl, S⟩ := hI
  have h := aR
  try dsimp only at h
  refine sSeq (fun bf aI => sRegion (sM S fun a S => ?_))
  refine sN S fun a S => ?_
  refine sN S fun a S => ?_
  refine lT (aI _ _ ?_)
  obtain rfl := tS h
  exact wp_ret (sRet (.tuple #[iv ae, iv 0]) S (rsl2 rfl (rvT (t := 4) (v := iv ae) S rfl) (rvT (t := 5) (v := iv 0) S rfl)) ⟨(), rfl, S.mem.sel [] [] (by decide) rfl rfl⟩)
 refine sSeq (fun bg aJ => sRegion (sField (b := af) (off := 0) 0 0 S (wN rfl) rfl rfl rfl rfl rfl (lb rfl) fun a S => ?_))
 refine sLoad1 1 (iv p0.Start) S (wN rfl) rfl rfl rfl rfl rfl rfl (lb rfl) fun a S => ?_
 refine sField (b := ag) (off := 0) 0 0 S (wN rfl) rfl rfl rfl rfl rfl (lb rfl) fun a S => ?_
 refine sLoad1 0 (iv p1.Start) S (wN rfl) rfl rfl rfl rfl rfl rfl (lb rfl) fun a S => ?_
 refine sBin _ S (wN rfl) rfl rfl rfl (bNe _ _ _ _ .i64 p0.Start p1.Start) rfl (lb rfl) fun a S => ?_
 refine lT (aJ _ _ ?_)
 rcases iS h with ⟨a6, h⟩ | ⟨a6, h⟩
 rotate_left
 ·refine sCondF S rfl a6 ?_
  exact wp_skip (leafT (⟨a5, Option.some.inj h, S.fix [] [] (by decide) rfl rfl rfl⟩))
 refine sCondT S rfl a6 ?_
 refine sRegion (sM S fun a S => ?_)
 refine sBin _ S (wN rfl) rfl rfl rfl (bAdd _ _ _ _ a5 1) rfl (lb rfl) fun a S => ?_
 refine sN S fun a S => ?_
 exact lT (⟨w64 (a5 + 1), Option.some.inj h, S.fix [] [] (by decide) rfl rfl rfl⟩)
def anc_compare_Edits_0 : List (List Nat) := [[], [], [1], [0, 1, 2], [0, 1, 2, 3], [0, 1, 2, 3, 4], [0, 1, 2, 3, 4], [0, 1, 2, 3, 4, 6], [0, 1, 2, 3, 4, 5, 6, 7], [0, 1, 2, 3, 4, 5, 6, 7, 8], [0, 1, 2, 3, 4, 5, 6, 7, 8, 9], [0, 1, 2, 3, 4, 5, 6, 7, 8, 9, 10], [0, 1, 2, 3, 4, 5, 6, 7, 8, 9, 10], [0, 1, 2, 3, 4, 5, 6, 7, 8, 9, 10, 11, 12], [0, 1, 2, 3, 4, 5, 6, 7, 8, 9, 10, 11, 12, 13], [0, 1, 2, 3, 4, 5, 6, 7, 8, 9, 10], [0, 1, 2, 3, 4, 5, 6, 7, 8, 9, 10], [0, 1, 2, 3, 4, 5, 6, 7, 8, 9, 10, 15, 16], [0, 1, 2, 3, 4, 5, 6, 7, 8, 9, 10, 15, 16, 17], [0, 1, 2, 3, 4, 5, 6, 7, 8, 9, 10, 11, 12, 13, 14, 15, 16, 17, 18], [0, 1, 2, 3, 4, 5, 6, 7, 8, 9, 10, 11, 12, 13, 14, 15, 16, 17, 18, 19], [0, 1, 2, 3, 4, 5, 6, 7, 8, 9, 10, 11, 12, 13, 14, 15, 16, 17, 18, 19, 20], [0, 1, 2, 3, 4, 5, 6, 7, 8, 9, 10, 11, 12, 13, 14, 15, 16, 17, 18, 19, 20, 21], [0, 1, 2, 3, 4, 5, 6, 7, 8, 9, 10, 11, 12, 13, 14, 15, 16, 17, 18, 19, 20, 21], [0, 1, 2, 3, 4, 5, 6, 7, 8, 9, 10, 11, 12, 13, 14, 15, 16, 17, 18, 19, 20, 21], [0, 1, 2, 3, 4, 5, 6, 7, 8, 9, 10, 11, 12, 13, 14, 15, 16, 17, 18, 19, 20, 21, 24], [0, 1, 2, 3, 4, 5, 6, 7, 8, 9, 10, 11, 12, 13, 14, 15, 16, 17, 18, 19, 20, 21, 23, 24, 25], [0, 1, 2, 3, 4, 5, 6, 7, 8, 9, 10, 11, 12, 13, 14, 15, 16, 17, 18, 19, 20, 21, 23, 24, 25, 26], [0, 1, 2, 3, 4, 5, 6, 7, 8, 9, 10, 11, 12, 13, 14, 15, 16, 17, 18, 19, 20, 21], [0, 1, 2, 3, 4, 5, 6, 7, 8, 9, 10, 11, 12, 13, 14, 15, 16, 17, 18, 19, 20, 21, 28], [0, 1, 2, 3, 4, 5, 6, 7, 8, 9, 10, 11, 12, 13, 14, 15, 16, 17, 18, 19, 20, 21, 23, 24, 25, 26, 27, 28, 29], [0, 1, 2, 3, 4, 5, 6, 7, 8, 9, 10, 11, 12, 13, 14, 15, 16, 17, 18, 19, 20, 21, 23, 24, 25, 26, 27, 28, 29, 30], [0, 1, 2, 3, 4, 5, 6, 7, 8, 9, 10, 11, 12, 13, 14, 15, 16, 17, 18, 19, 20, 21, 22, 23, 24, 25, 26, 27, 28, 29, 30, 31], [0, 1, 2, 3, 4, 5, 6, 7, 8, 9, 10, 11, 12, 13, 14, 15, 16, 17, 18, 19, 20, 21, 22, 23, 24, 25, 26, 27, 28, 29, 30, 31, 32], [0, 1, 2, 3, 4, 5, 6, 7, 8, 9, 10, 11, 12, 13, 14, 15, 16, 17, 18, 19, 20, 21, 22, 23, 24, 25, 26, 27, 28, 29, 30, 31, 32, 33]]
def anc_compare_Edits_1 : List (List Nat) := [[], [], [1], [0, 1, 2], [0, 1, 2, 3], [0, 1, 2, 3, 4], [0, 1, 2, 3, 4], [0, 1, 2, 3, 4, 6], [0, 1, 2, 3, 4, 5, 6, 7], [0, 1, 2, 3, 4, 5, 6, 7, 8], [0, 1, 2, 3, 4, 5, 6, 7, 8, 9], [0, 1, 2, 3, 4, 5, 6, 7, 8, 9, 10], [0, 1, 2, 3, 4, 5, 6, 7, 8, 9, 10], [0, 1, 2, 3, 4, 5, 6, 7, 8, 9, 10, 11, 12], [0, 1, 2, 3, 4, 5, 6, 7, 8, 9, 10, 11, 12, 13], [0, 1, 2, 3, 4, 5, 6, 7, 8, 9, 10], [0, 1, 2, 3, 4, 5, 6, 7, 8, 9, 10], [0, 1, 2, 3, 4, 5, 6, 7, 8, 9, 10, 15, 16], [0, 1, 2, 3, 4, 5, 6, 7, 8, 9, 10, 15, 16, 17], [0, 1, 2, 3, 4, 5, 6, 7, 8, 9, 10, 11, 12, 13, 14, 15, 16, 17, 18], [0, 1, 2, 3, 4, 5, 6, 7, 8, 9, 10, 11, 12, 13, 14, 15, 16, 17, 18, 19], [0, 1, 2, 3, 4, 5, 6, 7, 8, 9, 10, 11, 12, 13, 14, 15, 16, 17, 18, 19, 20], [0, 1, 2, 3, 4, 5, 6, 7, 8, 9, 10, 11, 12, 13, 14, 15, 16, 17, 18, 19, 20, 21], [0, 1, 2, 3, 4, 5, 6, 7, 8, 9, 10, 11, 12, 13, 14, 15, 16, 17, 18, 19, 20, 21], [0, 1, 2, 3, 4, 5, 6, 7, 8, 9, 10, 11, 12, 13, 14, 15, 16, 17, 18, 19, 20, 21], [0, 1, 2, 3, 4, 5, 6, 7, 8, 9, 10, 11, 12, 13, 14, 15, 16, 17, 18, 19, 20, 21, 24], [0, 1, 2, 3, 4, 5, 6, 7, 8, 9, 10, 11, 12, 13, 14, 15, 16, 17, 18, 19, 20, 21, 23, 24, 25], [0, 1, 2, 3, 4, 5, 6, 7, 8, 9, 10, 11, 12, 13, 14, 15, 16, 17, 18, 19, 20, 21, 23, 24, 25, 26], [0, 1, 2, 3, 4, 5, 6, 7, 8, 9, 10, 11, 12, 13, 14, 15, 16, 17, 18, 19, 20, 21], [0, 1, 2, 3, 4, 5, 6, 7, 8, 9, 10, 11, 12, 13, 14, 15, 16, 17, 18, 19, 20, 21, 28], [0, 1, 2, 3, 4, 5, 6, 7, 8, 9, 10, 11, 12, 13, 14, 15, 16, 17, 18, 19, 20, 21, 23, 24, 25, 26, 27, 28, 29], [0, 1, 2, 3, 4, 5, 6, 7, 8, 9, 10, 11, 12, 13, 14, 15, 16, 17, 18, 19, 20, 21, 23, 24, 25, 26, 27, 28, 29, 30], [0, 1, 2, 3, 4, 5, 6, 7, 8, 9, 10, 11, 12, 13, 14, 15, 16, 17, 18, 19, 20, 21, 23, 24, 25, 26, 27, 28, 29, 30, 31], [0, 1, 2, 3, 4, 5, 6, 7, 8, 9, 10, 11, 12, 13, 14, 15, 16, 17, 18, 19, 20, 21, 22, 23, 24, 25, 26, 27, 28, 29, 30, 31, 32], [0, 1, 2, 3, 4, 5, 6, 7, 8, 9, 10, 11, 12, 13, 14, 15, 16, 17, 18, 19, 20, 21, 22, 23, 24, 25, 26, 27, 28, 29, 30, 31, 32, 33], [0, 1, 2, 3, 4, 5, 6, 7, 8, 9, 10, 11, 12, 13, 14, 15, 16, 17, 18, 19, 20, 21, 22, 23, 24, 25, 26, 27, 28, 29, 30, 31, 32, 33, 34]]
def anc_compare_Edits_2 : List (List Nat) := [[], [], [1], [1, 2], [1, 2, 3], [1, 2, 3, 4], [0], [0, 1, 2, 3, 4, 5, 6], [0, 1, 2, 3, 4, 5, 6, 7]]
noncomputable def compare_Edits_l1 (p0 : (List api_Stitch)) (p1 : (List api_Stitch)) : Int → Option (Int ⊕ (((List api_CellStep) × Int × Int) ⊕ Unit)) := fun s0 => match s0 with
 | s9 =>
  if decide (s9 < 2) then
   (idxO ([p0, p1] : List (List api_Stitch)) s9).bind fun a4 =>
   (F_stitch_All a4).bind fun a0 =>
   if a0 != 0 then
    some (.inr (.inl (([] : (List api_CellStep)), 0, a0)))
   else
    some (.inl (w64 (s9 + 1)))
  else
   some (.inr (.inr ()))
noncomputable def compare_Edits_l2 (p0 : (List api_Stitch)) (p1 : (List api_Stitch)) (a8 : (List (List Int))) : (List api_CellStep × Int × Int) → Option ((List api_CellStep × Int × Int) ⊕ List api_CellStep) := fun s0 => match s0 with
 | (a7, a4, a0) =>
  Option.bind (α := Bool) (
   if decide (a4 < (p0.length : Int)) then
    some true
   else
    some (decide (a0 < (p1.length : Int)))) fun ar =>
  if ar then
   (idxO a8 a4).bind fun au =>
   (idxO au a0).bind fun ab =>
   Option.bind (α := Bool) (
    if decide (a4 < (p0.length : Int)) then
     if decide (a0 < (p1.length : Int)) then
      (idxO p0 a4).bind fun a9 =>
      (idxO p1 a0).bind fun aa =>
      if ((a9.Kind == aa.Kind) && ((a9.Purl == aa.Purl) && ((a9.A == aa.A) && ((a9.B == aa.B) && true)))) then
       (idxO a8 (w64 (a4 + 1))).bind fun av =>
       (idxO av (w64 (a0 + 1))).bind fun aw =>
       some (ab == aw)
      else
       some false
     else
      some false
    else
     some false) fun ax =>
   if ax then
    (appO a7 [(api_CellStep.mk 1 (api_Stitch.mk 0 false 0 0))]).bind fun ac =>
    some (.inl (ac, w64 (a4 + 1), w64 (a0 + 1)))
   else
    Option.bind (α := Bool) (
     if decide (a4 < (p0.length : Int)) then
      if decide (a0 < (p1.length : Int)) then
       (idxO p0 a4).bind fun a5 =>
       (idxO p1 a0).bind fun a6 =>
       if !((a5.Kind == a6.Kind) && ((a5.Purl == a6.Purl) && ((a5.A == a6.A) && ((a5.B == a6.B) && true)))) then
        (idxO a8 (w64 (a4 + 1))).bind fun ae =>
        (idxO ae (w64 (a0 + 1))).bind fun af =>
        some (ab == (w64 (1 + af)))
       else
        some false
      else
       some false
     else
      some false) fun ag =>
    if ag then
     (idxO p1 a0).bind fun ah =>
     (appO a7 [(api_CellStep.mk 2 ah)]).bind fun ai =>
     some (.inl (ai, w64 (a4 + 1), w64 (a0 + 1)))
    else
     Option.bind (α := Bool) (
      if decide (a4 < (p0.length : Int)) then
       (idxO a8 (w64 (a4 + 1))).bind fun aj =>
       (idxO aj a0).bind fun ak =>
       some (ab == (w64 (1 + ak)))
      else
       some false) fun am =>
     if am then
      (appO a7 [(api_CellStep.mk 4 (api_Stitch.mk 0 false 0 0))]).bind fun ao =>
      some (.inl (ao, w64 (a4 + 1), a0))
     else
      (idxO p1 a0).bind fun ap =>
      (appO a7 [(api_CellStep.mk 3 ap)]).bind fun aq =>
      some (.inl (aq, a4, w64 (a0 + 1)))
  else
   some (.inr a7)
noncomputable def F_compare_Edits (p0 : (List api_Stitch)) (p1 : (List api_Stitch)) : Option ((List api_CellStep) × Int × Int) :=
 Option.bind (α := Unit ⊕ ((List api_CellStep) × Int × Int)) (
  (whileO (compare_Edits_l1 p0 p1) 0).bind fun z0 => match z0 with
   | .inl z =>
    some (.inr z)
   | .inr _ =>
    some (.inl ())) fun z0 => match z0 with
  | .inl _ =>
   (F_compare_cellTable p0 p1).bind fun a5 =>
   Option.bind (α := List api_CellStep) (
    (whileO (compare_Edits_l2 p0 p1 a5) (([] : List api_CellStep), 0, 0)).bind fun a6 =>
     some a6) fun a7 =>
   (idxO a5 0).bind fun a0 =>
   (idxO a0 0).bind fun a4 =>
   some (a7, a4, 0)
  | .inr z =>
   some z
def c_compare_Edits_val (r : ((List api_CellStep) × Int × Int)) (x : Value) : Value := .tuple #[x, .int .i64 r.2.1, .int .i64 r.2.2]
def c_compare_Edits_D (r : ((List api_CellStep) × Int × Int)) (x : Value) : List Fact := [fRep (rL r_api_CellStep) x r.1]
theorem c_compare_Edits (E : Nat → Prop) (w0 : World) (p0 : (List api_Stitch)) (v0 : Value) (p1 : (List api_Stitch)) (v1 : Value) (r : ((List api_CellStep) × Int × Int)) (h : F_compare_Edits p0 p1 = some r) (S : St0 E [] w0 w0 [] [fRep (rL r_api_Stitch) (v0) p0, fRep (rL r_api_Stitch) (v1) p1]) :
 Calls Try.prog 23 #[v0, v1] w0 (Ret (X := Value) E [] w0 (c_compare_Edits_val r) (fun _ => []) (c_compare_Edits_D r)) := by
 unfold F_compare_Edits at h
 obtain ⟨ad1, cp2, _, rfl, _⟩ := S.know (i := 0) (e := fRep (rL r_api_Stitch) (v0) p0) rfl
 obtain ⟨ad3, cp4, _, rfl, _⟩ := S.know (i := 1) (e := fRep (rL r_api_Stitch) (v1) p1) rfl
 refine sEnter (args := [.slice ad1 p0.length cp2, .slice ad3 p1.length cp4]) 178 Try.func23 rfl rfl (by simp) S (fun a S => ?_)
 refine sSeq (fun K5 hK5 => sRegion (sN S fun a S => ?_))
 refine sN S fun a S => ?_
 refine sN S fun a S => ?_
 refine lT (hK5 _ _ ?_)
 obtain ⟨t6, h, g7⟩ := bS h
 refine sCut (fun a w => .inl () = t6 ∧ St [] E [] w0 178 a w [(0, .slice ad1 p0.length cp2), (1, .slice ad3 p1.length cp4)] [] [fRep (rL r_api_Stitch) (.slice ad1 p0.length cp2) p0, fRep (rL r_api_Stitch) (.slice ad3 p1.length cp4) p1]) ?_ (fun a w hI => ?_)
 ·refine sSeq (fun K8 hK8 => sRegion (sM S fun a S => ?_))
  refine sM S fun a S => ?_
  refine sBuild [(0, .slice ad1 p0.length cp2), (1, .slice ad3 p1.length cp4)] [.slice ad1 p0.length cp2, .slice ad3 p1.length cp4] S (wN rfl) rfl rfl rfl rfl (lb rfl) fun a S => ?_
  refine sM S fun a S => ?_
  refine lT (hK8 _ _ (wp_block ?_))
  obtain ⟨ea, hl, dK⟩ := bS h
  refine sLoop hl (fun s0 a w => match s0 with | s9 => St [] E [] w0 178 a w [(0, .slice ad1 p0.length cp2), (1, .slice ad3 p1.length cp4), (17, .agg #[.slice ad1 p0.length cp2, .slice ad3 p1.length cp4]), (18, iv s9)] [] [fRep (rL r_api_Stitch) (.slice ad1 p0.length cp2) p0, fRep (rL r_api_Stitch) (.slice ad3 p1.length cp4) p1]) (S.fix [] [0, 1] (by decide) rfl rfl rfl) ?_
  clear hl h
  intro s9 a w c0 hI h bw
  unfold compare_Edits_l1 at h
  dsimp only at h hI
  have S := hI
  refine sSeq (fun eb d5 => sRegion (sBin _ S (wN rfl) rfl rfl rfl (bLt _ _ _ _ .i64 s9 2) rfl (lb rfl) fun a S => ?_))
  refine lT (d5 _ _ (sSeq (fun ec d6 => ?_)))
  rcases iS h with ⟨bm, h⟩ | ⟨bm, h⟩
  rotate_left
  ·refine sCondF S rfl bm ?_
   obtain rfl := tS h
   obtain rfl := bw _ rfl
   have h := dK
   try dsimp only at h
   exact wp_exit (xThen (xThen (xHit (leafT (⟨Option.some.inj h, S.fix [] [0, 1] (by decide) rfl rfl rfl⟩)))))
  refine sCondT S rfl bm ?_
  refine wp_skip (leafT (d6 _ _ ?_))
  refine sSeq (fun ed d7 => wp_block ?_)
  refine sSeq (fun ee d8 => sRegion ?_)
  obtain ⟨d4, d9, h⟩ := bS h
  refine sIndexAL (r := (rL r_api_Stitch)) (xs := ([p0, p1] : List (List api_Stitch))) (j := s9) (k := .i64) 2 [.slice ad1 p0.length cp2, .slice ad3 p1.length cp4] [0, 1] S (wN rfl) rfl Try.underlying104 rfl rfl rfl rfl rfl d9 rfl rfl rfl (lb rfl) fun a dO S => ?_
  obtain ⟨bx, bz, _, rfl, _⟩ := S.mem.know (i := 0) (e := fRep (rL r_api_Stitch) (dO) d4) rfl
  refine sN S fun a S => ?_
  refine lT (d8 _ _ (sSeq (fun ef da => sRegion (sM S fun a S => ?_))))
  obtain ⟨bA, db, h⟩ := bS h
  have S1 := S.mem
  refine sCq [.slice bx d4.length bz] (iv bA) S callee56 (S1.quiet [0] rfl) (fun E1 w1 S1 => c_stitch_All E1 w1 d4 (.slice bx d4.length bz) bA db S1) fun a w S => ?_
  refine sN S fun a S => ?_
  refine lT (da _ _ (sSeq (fun eh dc => sRegion (sM S fun a S => ?_))))
  refine sBin _ S (wN rfl) rfl rfl rfl (bNe _ _ _ _ .i64 bA 0) rfl (lb rfl) fun a S => ?_
  refine lT (dc _ _ ?_)
  rcases iS h with ⟨bn, h⟩ | ⟨bn, h⟩
  rotate_left
  ·refine sCondF S rfl bn ?_
   refine wp_skip (leafB (leafT (d7 _ _ ?_)))
   refine sRegion (sBin _ S (wN rfl) rfl rfl rfl (bAdd _ _ _ _ s9 1) rfl (lb rfl) fun a S => ?_)
   refine sM S fun a S => ?_
   exact lT (⟨w64 (s9 + 1), (Option.some.inj h).symm, (S.fix [] [1, 2] (by decide) rfl rfl rfl)⟩)
  refine sCondT S rfl bn ?_
  refine sSeq (fun ei de => sRegion (sM S fun a S => ?_))
  refine sN S fun a S => ?_
  refine sN S fun a S => ?_
  refine sN S fun a S => ?_
  refine lT (de _ _ ?_)
  obtain rfl := tS h
  obtain rfl := bw _ rfl
  have h := dK
  try dsimp only at h
  obtain rfl := tS h
  have h := g7
  try dsimp only at h
  obtain rfl := tS h
  have S := S.learn (fRep (rL r_api_CellStep) (.slice none 0 0) ([] : (List api_CellStep))) (rL_nil _ _ _)
  exact wp_ret (rBlock (rThen (rThen (rBlock (rThen (sRet (.tuple #[.slice none 0 0, iv 0, iv bA]) S (rsl3 rfl (rvT (t := 4) (v := .slice none 0 0) S rfl) (rvT (t := 5) (v := iv 0) S rfl) (rvT (t := 6) (v := iv bA) S rfl)) ⟨(.slice none 0 0), rfl, S.mem.sel [] [0] (by decide) rfl rfl⟩))))))
 obtain ⟨rfl, S⟩ := hI
 have h := g7
 try dsimp only at h
 refine sSeq (fun ej df => sRegion (sM S fun a S => ?_))
 refine sM S fun a S => ?_
 obtain ⟨am, dg, h⟩ := bS h
 refine sCall (X := Value) (f := 54) (vs := [.slice ad1 p0.length cp2, .slice ad3 p1.length cp4]) (val := c_compare_cellTable_val am) (B' := fun _ => []) (D' := c_compare_cellTable_D am) [] [] [fRep (rL r_api_Stitch) (.slice ad1 p0.length cp2) p0, fRep (rL r_api_Stitch) (.slice ad3 p1.length cp4) p1] [] [0, 1] S (wN rfl) rfl callee54 rfl (by decide) rfl rfl (fun E1 w1 S1 => c_compare_cellTable E1 w1 p0 (.slice ad1 p0.length cp2) p1 (.slice ad3 p1.length cp4) am dg S1) rfl (lb rfl) fun dP a w S => ?_
 obtain ⟨ae, af, _, rfl, _⟩ := S.mem.know (i := 0) (e := fRep (rL (rL (rI .i64))) (dP) am) rfl
 refine sN S fun a S => ?_
 refine lT (df _ _ (sSeq (fun ek dh => sRegion (sN S fun a S => ?_))))
 refine lT (dh _ _ (sSeq (fun el di => sRegion (sN S fun a S => ?_))))
 refine sN S fun a S => ?_
 refine lT (di _ _ ?_)
 obtain ⟨dQ, h, dR⟩ := bS h
 refine sCut (fun a w => ∃ aK, aK = dQ ∧ ∃ av, ∃ aw, St [] E [] w0 178 a w [(10, .slice ae am.length af), (11, .slice av aK.length aw)] [eRow r_api_CellStep 83 (.slice av aK.length aw) aK] [fRep (rL (rL (rI .i64))) (.slice ae am.length af) am]) ?_ (fun a w hI => ?_)
 rotate_left
 ·obtain ⟨aK, rfl, av, aw, S⟩ := hI
  have h := dR
  try dsimp only at h
  refine sSeq (fun dS bB => ?_)
  obtain ⟨aL, bC, h⟩ := bS h
  obtain ⟨ax, bD, h⟩ := bS h
  obtain ⟨bp, bE, S⟩ := pIdx (P := Try.prog) (r := (rL (rI .i64))) (v := .slice ae am.length af) (xs := am) (j := 0) 98 101 0 S Try.underlying98 rfl rfl bC
  obtain ⟨dj, S⟩ := pLoad (r := (rL (rI .i64))) (q := bp) (x := aL) 0 S rfl
  obtain ⟨aM, aO, _, rfl, _⟩ := S.mem.know (i := 1) (e := fRep (rL (rI .i64)) (dj) aL) rfl
  obtain ⟨bq, bG, S⟩ := pIdx (P := Try.prog) (r := (rI .i64)) (v := .slice aM aL.length aO) (xs := aL) (j := 0) 101 3 1 S Try.underlying101 rfl rfl bD
  obtain ⟨bH, S⟩ := pLoad (r := (rI .i64)) (q := bq) (x := ax) 0 S rfl
  obtain rfl : bH = iv ax := S.mem.know (i := 1) (e := fRep (rI .i64) (bH) ax) rfl
  refine sDraw (nf := []) (W := [(0, 172, .slice av aK.length aw), (1, 173, .slice ae am.length af), (2, 174, bp), (3, 175, .slice aM aL.length aO), (4, 176, bq), (5, 177, iv ax), (6, 4, .slice av aK.length aw), (7, 5, iv ax), (8, 6, iv 0)]) rfl S ?_
  refine node_by (A := anc_compare_Edits_2) 9 (by kernel_rfl) (by kernel_rfl) (by kernel_rfl) (by kernel_rfl) (by kernel_rfl) [0, 1, 2, 3, 4, 5, 6, 7, 8] (by kernel_rfl) (by decide) (by decide) (fF ?_ (fF ?_ (fF ?_ (fF ?_ (fF ?_ (fF ?_ (fF ?_ (fF ?_ (fF ?_ (trivial)))))))))) [(4, .slice av aK.length aw), (5, iv ax), (6, iv 0)] (fin_of [some 6, some 7, some 8] rfl (by kernel_rfl) (by kernel_rfl)) (fun _ a w S => ?_)
  ·exact fM 0 none rfl rfl rfl rfl (.inl rfl) rfl rfl rfl
  ·exact fM 1 none rfl rfl rfl rfl (.inl rfl) rfl rfl rfl
  ·refine fJ [(173, _)] 2 [some 1] fun G a w S => ?_
   exact sIdxV S (wN rfl) rfl rfl rfl bE rfl (lb rfl) fun a S => leafL ⟨rfl, S⟩
  ·refine fJ [(174, _)] 3 [some 2] fun G a w S => ?_
   exact sLoadV1 (vq := bp) 3 (.slice aM aL.length aO) S (wN rfl) rfl rfl rfl rfl rfl (lb rfl) fun a S => leafL ⟨rfl, S⟩
  ·refine fJ [(175, _)] 4 [some 3] fun G a w S => ?_
   exact sIdxV S (wN rfl) rfl rfl rfl bG rfl (lb rfl) fun a S => leafL ⟨rfl, S⟩
  ·refine fJ [(176, _)] 5 [some 4] fun G a w S => ?_
   exact sLoadV1 (vq := bq) 0 (iv ax) S (wN rfl) rfl rfl rfl rfl rfl (lb rfl) fun a S => leafL ⟨rfl, S⟩
  ·exact fM 6 (some 0) rfl rfl rfl rfl (.inr rfl) rfl rfl rfl
  ·exact fM 7 (some 5) rfl rfl rfl rfl (.inr rfl) rfl rfl rfl
  ·refine fJ [] 8 [] fun G a w S => ?_
   exact sN S fun a S => leafL ⟨rfl, S⟩
  refine leafT (bB _ _ ?_)
  obtain rfl := tS h
  have S := S.shutR (r := r_api_CellStep) (T := 83) (v := .slice av aK.length aw) (xs := aK) 0 rfl
  exact wp_ret (sRet (.tuple #[.slice av aK.length aw, iv ax, iv 0]) S (rsl3 rfl (rvT (t := 4) (v := .slice av aK.length aw) S rfl) (rvT (t := 5) (v := iv ax) S rfl) (rvT (t := 6) (v := iv 0) S rfl)) ⟨(.slice av aK.length aw), rfl, S.mem.sel [] [0] (by decide) rfl rfl⟩)
 refine wp_block ?_
 have S := S.nilRow r_api_CellStep 83 (α := api_CellStep)
 obtain ⟨en, hl, dU⟩ := bS h
 refine sLoop hl (fun s0 a w => match s0 with | (au, a9, a5) => ∃ aj, ∃ ak, St [] E [] w0 178 a w [(0, .slice ad1 p0.length cp2), (1, .slice ad3 p1.length cp4), (10, .slice ae am.length af), (11, .slice aj au.length ak), (12, iv a9), (13, iv a5)] [eRow r_api_CellStep 83 (.slice aj au.length ak) au] [fRep (rL r_api_Stitch) (.slice ad1 p0.length cp2) p0, fRep (rL r_api_Stitch) (.slice ad3 p1.length cp4) p1, fRep (rL (rL (rI .i64))) (.slice ae am.length af) am]) ⟨none, 0, S.fix [0] [1, 2, 0] (by decide) rfl rfl rfl⟩ ?_
 clear hl h
 intro s0 a w c0 hI h dk
 obtain ⟨au, a9, a5⟩ := s0
 unfold compare_Edits_l2 at h
 dsimp only at h hI
 obtain ⟨aj, ak, S⟩ := hI
 refine sSeq (fun eo dl => ?_)
 obtain ⟨dV, h, dW⟩ := bS h
 refine sCut (fun a w => ∃ dm, dm = dV ∧ St [] E [] w0 178 a w [(0, .slice ad1 p0.length cp2), (1, .slice ad3 p1.length cp4), (10, .slice ae am.length af), (11, .slice aj au.length ak), (12, iv a9), (13, iv a5), (39, .bool dm)] [eRow r_api_CellStep 83 (.slice aj au.length ak) au] [fRep (rL r_api_Stitch) (.slice ad1 p0.length cp2) p0, fRep (rL r_api_Stitch) (.slice ad3 p1.length cp4) p1, fRep (rL (rL (rI .i64))) (.slice ae am.length af) am]) ?_ (fun a w hI => ?_)
 ·refine sRegion (sM S fun a S => ?_)
  refine sM S fun a S => ?_
  refine sLen S (wN rfl) rfl Try.underlying47 rfl rfl (lb rfl) fun a S => ?_
  refine sBin _ S (wN rfl) rfl rfl rfl (bLt _ _ _ _ .i64 a9 (p0.length : Int)) rfl (lb rfl) fun a S => ?_
  refine sM S fun a S => ?_
  rcases iS h with ⟨ay, h⟩ | ⟨ay, h⟩
  ·refine sSkN 4 4 false 34 S rfl rfl ay rfl fun a S => ?_
   refine sPickT (.bool true) S (wN rfl) rfl rfl ay rfl rfl (lb rfl) fun a S => ?_
   exact lT (⟨true, Option.some.inj h, S.fix [0] [0, 1, 2] (by decide) rfl rfl rfl⟩)
  refine sMove (iv a5) S (wG 4 false 34 rfl rfl rfl ay) (.inl rfl) rfl rfl (lb rfl) fun a S => ?_
  refine sMove (.slice ad3 p1.length cp4) S (wG 4 false 34 rfl rfl rfl ay) (.inl rfl) rfl rfl (lb rfl) fun a S => ?_
  refine sLen S (wG 4 false 34 rfl rfl rfl ay) rfl Try.underlying47 rfl rfl (lb rfl) fun a S => ?_
  refine sBin _ S (wG 4 false 34 rfl rfl rfl ay) rfl rfl rfl (bLt _ _ _ _ .i64 a5 (p1.length : Int)) rfl (lb rfl) fun a S => ?_
  refine sPickF (.bool (decide (a5 < (p1.length : Int)))) S (wN rfl) rfl rfl ay rfl rfl (lb rfl) fun a S => ?_
  exact lT (⟨decide (a5 < (p1.length : Int)), Option.some.inj h, S.fix [0] [0, 1, 2] (by decide) rfl rfl rfl⟩)
 obtain ⟨dm, rfl, S⟩ := hI
 have h := dW
 try dsimp only at h
 rcases iS h with ⟨br, h⟩ | ⟨br, h⟩
 rotate_left
 ·refine sCondF S rfl br ?_
  obtain rfl := tS h
  obtain rfl := dk _ rfl
  have h := dU
  try dsimp only at h
  exact wp_exit (xThen (xThen (xHit (leafT (⟨au, Option.some.inj h, aj, ak, S.fix [0] [2] (by decide) rfl rfl rfl⟩)))))
 refine sCondT S rfl br ?_
 refine wp_skip (leafT (dl _ _ ?_))
 refine wp_block ?_
 refine sSeq (fun ep dn => sRegion (sM S fun a S => ?_))
 refine sM S fun a S => ?_
 obtain ⟨bI, dp, h⟩ := bS h
 obtain ⟨dL, dr, S⟩ := pIdx (P := Try.prog) (r := (rL (rI .i64))) (v := .slice ae am.length af) (xs := am) (j := a9) 98 101 2 S Try.underlying98 rfl rfl dp
 refine sIdxV S (wN rfl) rfl rfl rfl dr rfl (lb rfl) fun a S => ?_
 obtain ⟨dX, S⟩ := pLoad (r := (rL (rI .i64))) (q := dL) (x := bI) 0 S rfl
 obtain ⟨bJ, bK, _, rfl, _⟩ := S.mem.know (i := 1) (e := fRep (rL (rI .i64)) (dX) bI) rfl
 refine sLoadV1 (vq := dL) 0 (.slice bJ bI.length bK) S (wN rfl) rfl rfl rfl rfl rfl (lb rfl) fun a S => ?_
 refine sM S fun a S => ?_
 obtain ⟨aq, dt, h⟩ := bS h
 obtain ⟨dM, du, S⟩ := pIdx (P := Try.prog) (r := (rI .i64)) (v := .slice bJ bI.length bK) (xs := bI) (j := a5) 101 3 1 S Try.underlying101 rfl rfl dt
 refine sIdxV S (wN rfl) rfl rfl rfl du rfl (lb rfl) fun a S => ?_
 obtain ⟨dN, S⟩ := pLoad (r := (rI .i64)) (q := dM) (x := aq) 0 S rfl
 obtain rfl : dN = iv aq := S.mem.know (i := 1) (e := fRep (rI .i64) (dN) aq) rfl
 refine sLoadV1 (vq := dM) 0 (iv aq) S (wN rfl) rfl rfl rfl rfl rfl (lb rfl) fun a S => ?_
 refine sN S fun a S => ?_
 refine lT (dn _ _ (wp_block ?_))
 obtain ⟨dY, h, dZ⟩ := bS h
 refine sCut (fun a w => ∃ dv, dv = dY ∧ St [] E [] w0 178 a w [(0, .slice ad1 p0.length cp2), (1, .slice ad3 p1.length cp4), (10, .slice ae am.length af), (11, .slice aj au.length ak), (12, iv a9), (13, iv a5), (14, iv aq), (57, .bool dv)] [eRow r_api_CellStep 83 (.slice aj au.length ak) au] [fRep (rL r_api_Stitch) (.slice ad1 p0.length cp2) p0, fRep (rL r_api_Stitch) (.slice ad3 p1.length cp4) p1, fRep (rL (rL (rI .i64))) (.slice ae am.length af) am]) ?_ (fun a w hI => ?_)
 ·rcases iS h with ⟨ap, h⟩ | ⟨ap, h⟩
  rotate_left
  ·refine sDraw (nf := []) (W := [(0, 58, iv a9), (1, 59, .slice ad1 p0.length cp2), (2, 60, iv (p0.length : Int)), (3, 61, .bool (decide (a9 < (p0.length : Int)))), (4, 62, .bool (decide (a9 < (p0.length : Int)))), (5, 63, undef), (6, 64, undef), (7, 65, undef), (8, 66, undef), (9, 67, .bool false), (10, 68, .bool false), (11, 69, undef), (12, 70, undef), (13, 71, undef), (14, 72, undef), (15, 73, undef), (16, 74, undef), (17, 75, undef), (18, 76, undef), (19, 77, undef), (20, 78, .bool false), (21, 79, .bool false), (22, 80, undef), (23, 81, undef), (24, 82, undef), (25, 83, undef), (26, 84, undef), (27, 85, undef), (28, 86, undef), (29, 87, undef), (30, 88, undef), (31, 89, undef), (32, 90, undef), (33, 91, .bool false), (34, 57, .bool false)]) rfl S ?_
   refine node_by (A := anc_compare_Edits_0) 35 (by kernel_rfl) (by kernel_rfl) (by kernel_rfl) (by kernel_rfl) (by kernel_rfl) [0, 1, 2, 3, 4, 5, 6, 7, 8, 9, 10, 11, 12, 13, 14, 15, 16, 17, 18, 19, 20, 21, 22, 23, 24, 25, 26, 27, 28, 29, 30, 31, 32, 33, 34] (by kernel_rfl) (by decide) (by decide) (fF ?_ (fF ?_ (fF ?_ (fF ?_ (fF ?_ (fF ?_ (fF ?_ (fF ?_ (fF ?_ (fF ?_ (fF ?_ (fF ?_ (fF ?_ (fF ?_ (fF ?_ (fF ?_ (fF ?_ (fF ?_ (fF ?_ (fF ?_ (fF ?_ (fF ?_ (fF ?_ (fF ?_ (fF ?_ (fF ?_ (fF ?_ (fF ?_ (fF ?_ (fF ?_ (fF ?_ (fF ?_ (fF ?_ (fF ?_ (fF ?_ (trivial)))))))))))))))))))))))))))))))))))) [(0, .slice ad1 p0.length cp2), (1, .slice ad3 p1.length cp4), (10, .slice ae am.length af), (11, .slice aj au.length ak), (12, iv a9), (13, iv a5), (14, iv aq), (57, .bool false), (63, undef), (64, undef), (65, undef), (66, undef), (69, undef), (70, undef), (71, undef), (72, undef), (73, undef), (74, undef), (75, undef), (76, undef), (77, undef), (80, undef), (81, undef), (82, undef), (83, undef), (84, undef), (85, undef), (86, undef), (87, undef), (88, undef), (89, undef), (90, undef)] (fin_of [none, none, none, none, none, none, none, some 34, some 5, some 6, some 7, some 8, some 11, some 12, some 13, some 14, some 15, some 16, some 17, some 18, some 19, some 22, some 23, some 24, some 25, some 26, some 27, some 28, some 29, some 30, some 31, some 32] rfl (by kernel_rfl) (by kernel_rfl)) (fun _ a w S => ?_)
   ·exact fM 0 none rfl rfl rfl rfl (.inl rfl) rfl rfl rfl
   ·exact fM 1 none rfl rfl rfl rfl (.inl rfl) rfl rfl rfl
   ·refine fJ [(59, _)] 2 [some 1] fun G a w S => ?_
    exact sLen S (wN rfl) rfl Try.underlying47 rfl rfl (lb rfl) fun a S => leafL ⟨rfl, S⟩
   ·refine fJ [(58, _), (60, _)] 3 [some 0, some 2] fun G a w S => ?_
    exact sBin _ S (wN rfl) rfl rfl rfl (bLt _ _ _ _ .i64 a9 (p0.length : Int)) rfl (lb rfl) fun a S => leafL ⟨rfl, S⟩
   ·exact fM 4 (some 3) rfl rfl rfl rfl (.inl rfl) rfl rfl rfl
   ·refine fJ [(13, _), (62, _)] 5 [none, some 4] fun G a w S => ?_
    exact sSk S rfl rfl rfl ap rfl rfl fun a S => leafL ⟨rfl, S⟩
   ·refine fJ [(1, _), (62, _)] 6 [none, some 4] fun G a w S => ?_
    exact sSk S rfl rfl rfl ap rfl rfl fun a S => leafL ⟨rfl, S⟩
   ·refine fJ [(64, _), (62, _)] 7 [some 6, some 4] fun G a w S => ?_
    exact sSk S rfl rfl rfl ap rfl rfl fun a S => leafL ⟨rfl, S⟩
   ·refine fJ [(63, _), (65, _), (62, _)] 8 [some 5, some 7, some 4] fun G a w S => ?_
    exact sSk S rfl rfl rfl ap rfl rfl fun a S => leafL ⟨rfl, S⟩
   ·refine fJ [(62, _), (66, _)] 9 [some 4, some 8] fun G a w S => ?_
    exact sPickF (.bool false) S (wN rfl) rfl rfl ap rfl rfl (lb rfl) fun a S => leafL ⟨rfl, S⟩
   ·exact fM 10 (some 9) rfl rfl rfl rfl (.inl rfl) rfl rfl rfl
   ·refine fJ [(0, _), (68, _)] 11 [none, some 10] fun G a w S => ?_
    exact sSk S rfl rfl rfl rfl rfl rfl fun a S => leafL ⟨rfl, S⟩
   ·refine fJ [(12, _), (68, _)] 12 [none, some 10] fun G a w S => ?_
    exact sSk S rfl rfl rfl rfl rfl rfl fun a S => leafL ⟨rfl, S⟩
   ·refine fJ [(69, _), (70, _), (68, _)] 13 [some 11, some 12, some 10] fun G a w S => ?_
    exact sSk S rfl rfl rfl rfl rfl rfl fun a S => leafL ⟨rfl, S⟩
   ·refine fJ [(71, _), (68, _)] 14 [some 13, some 10] fun G a w S => ?_
    exact sSk S rfl rfl rfl rfl rfl rfl fun a S => leafL ⟨rfl, S⟩
   ·refine fJ [(1, _), (68, _)] 15 [none, some 10] fun G a w S => ?_
    exact sSk S rfl rfl rfl rfl rfl rfl fun a S => leafL ⟨rfl, S⟩
   ·refine fJ [(13, _), (68, _)] 16 [none, some 10] fun G a w S => ?_
    exact sSk S rfl rfl rfl rfl rfl rfl fun a S => leafL ⟨rfl, S⟩
   ·refine fJ [(73, _), (74, _), (68, _)] 17 [some 15, some 16, some 10] fun G a w S => ?_
    exact sSk S rfl rfl rfl rfl rfl rfl fun a S => leafL ⟨rfl, S⟩
   ·refine fJ [(75, _), (68, _)] 18 [some 17, some 10] fun G a w S => ?_
    exact sSk S rfl rfl rfl rfl rfl rfl fun a S => leafL ⟨rfl, S⟩
   ·refine fJ [(72, _), (76, _), (68, _)] 19 [some 14, some 18, some 10] fun G a w S => ?_
    exact sSk S rfl rfl rfl rfl rfl rfl fun a S => leafL ⟨rfl, S⟩
   ·refine fJ [(68, _), (77, _)] 20 [some 10, some 19] fun G a w S => ?_
    exact sPickF (.bool false) S (wN rfl) rfl rfl rfl rfl rfl (lb rfl) fun a S => leafL ⟨rfl, S⟩
   ·exact fM 21 (some 20) rfl rfl rfl rfl (.inl rfl) rfl rfl rfl
   ·refine fJ [(14, _), (79, _)] 22 [none, some 21] fun G a w S => ?_
    exact sSk S rfl rfl rfl rfl rfl rfl fun a S => leafL ⟨rfl, S⟩
   ·refine fJ [(10, _), (79, _)] 23 [none, some 21] fun G a w S => ?_
    exact sSk S rfl rfl rfl rfl rfl rfl fun a S => leafL ⟨rfl, S⟩
   ·refine fJ [(12, _), (79, _)] 24 [none, some 21] fun G a w S => ?_
    exact sSk S rfl rfl rfl rfl rfl rfl fun a S => leafL ⟨rfl, S⟩
   ·refine fJ [(82, _), (79, _)] 25 [some 24, some 21] fun G a w S => ?_
    exact sSk S rfl rfl rfl rfl rfl rfl fun a S => leafL ⟨rfl, S⟩
   ·refine fJ [(81, _), (83, _), (79, _)] 26 [some 23, some 25, some 21] fun G a w S => ?_
    exact sSk S rfl rfl rfl rfl rfl rfl fun a S => leafL ⟨rfl, S⟩
   ·refine fJ [(84, _), (79, _)] 27 [some 26, some 21] fun G a w S => ?_
    exact sSk S rfl rfl rfl rfl rfl rfl fun a S => leafL ⟨rfl, S⟩
   ·refine fJ [(13, _), (79, _)] 28 [none, some 21] fun G a w S => ?_
    exact sSk S rfl rfl rfl rfl rfl rfl fun a S => leafL ⟨rfl, S⟩
   ·refine fJ [(86, _), (79, _)] 29 [some 28, some 21] fun G a w S => ?_
    exact sSk S rfl rfl rfl rfl rfl rfl fun a S => leafL ⟨rfl, S⟩
   ·refine fJ [(85, _), (87, _), (79, _)] 30 [some 27, some 29, some 21] fun G a w S => ?_
    exact sSk S rfl rfl rfl rfl rfl rfl fun a S => leafL ⟨rfl, S⟩
   ·refine fJ [(88, _), (79, _)] 31 [some 30, some 21] fun G a w S => ?_
    exact sSk S rfl rfl rfl rfl rfl rfl fun a S => leafL ⟨rfl, S⟩
   ·refine fJ [(80, _), (89, _), (79, _)] 32 [some 22, some 31, some 21] fun G a w S => ?_
    exact sSk S rfl rfl rfl rfl rfl rfl fun a S => leafL ⟨rfl, S⟩
   ·refine fJ [(79, _), (90, _)] 33 [some 21, some 32] fun G a w S => ?_
    exact sPickF (.bool false) S (wN rfl) rfl rfl rfl rfl rfl (lb rfl) fun a S => leafL ⟨rfl, S⟩
   ·exact fM 34 (some 33) rfl rfl rfl rfl (.inr rfl) rfl rfl rfl
   exact leafT (⟨false, Option.some.inj h, S.fix [0] [6, 7, 8] (by decide) rfl rfl rfl⟩)
  rcases iS h with ⟨ah, h⟩ | ⟨ah, h⟩
  rotate_left
  ·refine sDraw (nf := []) (W := [(0, 58, iv a9), (1, 59, .slice ad1 p0.length cp2), (2, 60, iv (p0.length : Int)), (3, 61, .bool (decide (a9 < (p0.length : Int)))), (4, 62, .bool (decide (a9 < (p0.length : Int)))), (5, 63, iv a5), (6, 64, .slice ad3 p1.length cp4), (7, 65, iv (p1.length : Int)), (8, 66, .bool (decide (a5 < (p1.length : Int)))), (9, 67, .bool (decide (a5 < (p1.length : Int)))), (10, 68, .bool (decide (a5 < (p1.length : Int)))), (11, 69, undef), (12, 70, undef), (13, 71, undef), (14, 72, undef), (15, 73, undef), (16, 74, undef), (17, 75, undef), (18, 76, undef), (19, 77, undef), (20, 78, .bool false), (21, 79, .bool false), (22, 80, undef), (23, 81, undef), (24, 82, undef), (25, 83, undef), (26, 84, undef), (27, 85, undef), (28, 86, undef), (29, 87, undef), (30, 88, undef), (31, 89, undef), (32, 90, undef), (33, 91, .bool false), (34, 57, .bool false)]) rfl S ?_
   refine node_by (A := anc_compare_Edits_0) 35 (by kernel_rfl) (by kernel_rfl) (by kernel_rfl) (by kernel_rfl) (by kernel_rfl) [0, 1, 2, 3, 4, 5, 6, 7, 8, 9, 10, 11, 12, 13, 14, 15, 16, 17, 18, 19, 20, 21, 22, 23, 24, 25, 26, 27, 28, 29, 30, 31, 32, 33, 34] (by kernel_rfl) (by decide) (by decide) (fF ?_ (fF ?_ (fF ?_ (fF ?_ (fF ?_ (fF ?_ (fF ?_ (fF ?_ (fF ?_ (fF ?_ (fF ?_ (fF ?_ (fF ?_ (fF ?_ (fF ?_ (fF ?_ (fF ?_ (fF ?_ (fF ?_ (fF ?_ (fF ?_ (fF ?_ (fF ?_ (fF ?_ (fF ?_ (fF ?_ (fF ?_ (fF ?_ (fF ?_ (fF ?_ (fF ?_ (fF ?_ (fF ?_ (fF ?_ (fF ?_ (trivial)))))))))))))))))))))))))))))))))))) [(0, .slice ad1 p0.length cp2), (1, .slice ad3 p1.length cp4), (10, .slice ae am.length af), (11, .slice aj au.length ak), (12, iv a9), (13, iv a5), (14, iv aq), (57, .bool false), (63, iv a5), (64, .slice ad3 p1.length cp4), (65, iv (p1.length : Int)), (66, .bool (decide (a5 < (p1.length : Int)))), (69, undef), (70, undef), (71, undef), (72, undef), (73, undef), (74, undef), (75, undef), (76, undef), (77, undef), (80, undef), (81, undef), (82, undef), (83, undef), (84, undef), (85, undef), (86, undef), (87, undef), (88, undef), (89, undef), (90, undef)] (fin_of [none, none, none, none, none, none, none, some 34, some 5, some 6, some 7, some 8, some 11, some 12, some 13, some 14, some 15, some 16, some 17, some 18, some 19, some 22, some 23, some 24, some 25, some 26, some 27, some 28, some 29, some 30, some 31, some 32] rfl (by kernel_rfl) (by kernel_rfl)) (fun _ a w S => ?_)
   ·exact fM 0 none rfl rfl rfl rfl (.inl rfl) rfl rfl rfl
   ·exact fM 1 none rfl rfl rfl rfl (.inl rfl) rfl rfl rfl
   ·refine fJ [(59, _)] 2 [some 1] fun G a w S => ?_
    exact sLen S (wN rfl) rfl Try.underlying47 rfl rfl (lb rfl) fun a S => leafL ⟨rfl, S⟩
   ·refine fJ [(58, _), (60, _)] 3 [some 0, some 2] fun G a w S => ?_
    exact sBin _ S (wN rfl) rfl rfl rfl (bLt _ _ _ _ .i64 a9 (p0.length : Int)) rfl (lb rfl) fun a S => leafL ⟨rfl, S⟩
   ·exact fM 4 (some 3) rfl rfl rfl rfl (.inl rfl) rfl rfl rfl
   ·refine fJ [(13, _), (62, _)] 5 [none, some 4] fun G a w S => ?_
    exact sMove (iv a5) S (wG 4 true 62 rfl rfl rfl ap) (.inl rfl) rfl rfl (lb rfl) fun a S => leafL ⟨rfl, S⟩
   ·refine fJ [(1, _), (62, _)] 6 [none, some 4] fun G a w S => ?_
    exact sMove (.slice ad3 p1.length cp4) S (wG 4 true 62 rfl rfl rfl ap) (.inl rfl) rfl rfl (lb rfl) fun a S => leafL ⟨rfl, S⟩
   ·refine fJ [(64, _), (62, _)] 7 [some 6, some 4] fun G a w S => ?_
    exact sLen S (wG 4 true 62 rfl rfl rfl ap) rfl Try.underlying47 rfl rfl (lb rfl) fun a S => leafL ⟨rfl, S⟩
   ·refine fJ [(63, _), (65, _), (62, _)] 8 [some 5, some 7, some 4] fun G a w S => ?_
    exact sBin _ S (wG 4 true 62 rfl rfl rfl ap) rfl rfl rfl (bLt _ _ _ _ .i64 a5 (p1.length : Int)) rfl (lb rfl) fun a S => leafL ⟨rfl, S⟩
   ·refine fJ [(62, _), (66, _)] 9 [some 4, some 8] fun G a w S => ?_
    exact sPickT (.bool (decide (a5 < (p1.length : Int)))) S (wN rfl) rfl rfl ap rfl rfl (lb rfl) fun a S => leafL ⟨rfl, S⟩
   ·exact fM 10 (some 9) rfl rfl rfl rfl (.inl rfl) rfl rfl rfl
   ·refine fJ [(0, _), (68, _)] 11 [none, some 10] fun G a w S => ?_
    exact sSk S rfl rfl rfl ah rfl rfl fun a S => leafL ⟨rfl, S⟩
   ·refine fJ [(12, _), (68, _)] 12 [none, some 10] fun G a w S => ?_
    exact sSk S rfl rfl rfl ah rfl rfl fun a S => leafL ⟨rfl, S⟩
   ·refine fJ [(69, _), (70, _), (68, _)] 13 [some 11, some 12, some 10] fun G a w S => ?_
    exact sSk S rfl rfl rfl ah rfl rfl fun a S => leafL ⟨rfl, S⟩
   ·refine fJ [(71, _), (68, _)] 14 [some 13, some 10] fun G a w S => ?_
    exact sSk S rfl rfl rfl ah rfl rfl fun a S => leafL ⟨rfl, S⟩
   ·refine fJ [(1, _), (68, _)] 15 [none, some 10] fun G a w S => ?_
    exact sSk S rfl rfl rfl ah rfl rfl fun a S => leafL ⟨rfl, S⟩
   ·refine fJ [(13, _), (68, _)] 16 [none, some 10] fun G a w S => ?_
    exact sSk S rfl rfl rfl ah rfl rfl fun a S => leafL ⟨rfl, S⟩
   ·refine fJ [(73, _), (74, _), (68, _)] 17 [some 15, some 16, some 10] fun G a w S => ?_
    exact sSk S rfl rfl rfl ah rfl rfl fun a S => leafL ⟨rfl, S⟩
   ·refine fJ [(75, _), (68, _)] 18 [some 17, some 10] fun G a w S => ?_
    exact sSk S rfl rfl rfl ah rfl rfl fun a S => leafL ⟨rfl, S⟩
   ·refine fJ [(72, _), (76, _), (68, _)] 19 [some 14, some 18, some 10] fun G a w S => ?_
    exact sSk S rfl rfl rfl ah rfl rfl fun a S => leafL ⟨rfl, S⟩
   ·refine fJ [(68, _), (77, _)] 20 [some 10, some 19] fun G a w S => ?_
    exact sPickF (.bool false) S (wN rfl) rfl rfl ah rfl rfl (lb rfl) fun a S => leafL ⟨rfl, S⟩
   ·exact fM 21 (some 20) rfl rfl rfl rfl (.inl rfl) rfl rfl rfl
   ·refine fJ [(14, _), (79, _)] 22 [none, some 21] fun G a w S => ?_
    exact sSk S rfl rfl rfl rfl rfl rfl fun a S => leafL ⟨rfl, S⟩
   ·refine fJ [(10, _), (79, _)] 23 [none, some 21] fun G a w S => ?_
    exact sSk S rfl rfl rfl rfl rfl rfl fun a S => leafL ⟨rfl, S⟩
   ·refine fJ [(12, _), (79, _)] 24 [none, some 21] fun G a w S => ?_
    exact sSk S rfl rfl rfl rfl rfl rfl fun a S => leafL ⟨rfl, S⟩
   ·refine fJ [(82, _), (79, _)] 25 [some 24, some 21] fun G a w S => ?_
    exact sSk S rfl rfl rfl rfl rfl rfl fun a S => leafL ⟨rfl, S⟩
   ·refine fJ [(81, _), (83, _), (79, _)] 26 [some 23, some 25, some 21] fun G a w S => ?_
    exact sSk S rfl rfl rfl rfl rfl rfl fun a S => leafL ⟨rfl, S⟩
   ·refine fJ [(84, _), (79, _)] 27 [some 26, some 21] fun G a w S => ?_
    exact sSk S rfl rfl rfl rfl rfl rfl fun a S => leafL ⟨rfl, S⟩
   ·refine fJ [(13, _), (79, _)] 28 [none, some 21] fun G a w S => ?_
    exact sSk S rfl rfl rfl rfl rfl rfl fun a S => leafL ⟨rfl, S⟩
   ·refine fJ [(86, _), (79, _)] 29 [some 28, some 21] fun G a w S => ?_
    exact sSk S rfl rfl rfl rfl rfl rfl fun a S => leafL ⟨rfl, S⟩
   ·refine fJ [(85, _), (87, _), (79, _)] 30 [some 27, some 29, some 21] fun G a w S => ?_
    exact sSk S rfl rfl rfl rfl rfl rfl fun a S => leafL ⟨rfl, S⟩
   ·refine fJ [(88, _), (79, _)] 31 [some 30, some 21] fun G a w S => ?_
    exact sSk S rfl rfl rfl rfl rfl rfl fun a S => leafL ⟨rfl, S⟩
   ·refine fJ [(80, _), (89, _), (79, _)] 32 [some 22, some 31, some 21] fun G a w S => ?_
    exact sSk S rfl rfl rfl rfl rfl rfl fun a S => leafL ⟨rfl, S⟩
   ·refine fJ [(79, _), (90, _)] 33 [some 21, some 32] fun G a w S => ?_
    exact sPickF (.bool false) S (wN rfl) rfl rfl rfl rfl rfl (lb rfl) fun a S => leafL ⟨rfl, S⟩
   ·exact fM 34 (some 33) rfl rfl rfl rfl (.inr rfl) rfl rfl rfl
   exact leafT (⟨false, Option.some.inj h, S.fix [0] [6, 7, 8] (by decide) rfl rfl rfl⟩)
  obtain ⟨a7, bL, h⟩ := bS h
  obtain ⟨a8, bM, h⟩ := bS h
  rcases iS h with ⟨ai, h⟩ | ⟨ai, h⟩
  rotate_left
  ·obtain ⟨aT, bN, S⟩ := pIdx (P := Try.prog) (r := r_api_Stitch) (v := .slice ad1 p0.length cp2) (xs := p0) (j := a9) 47 81 6 S Try.underlying47 rfl rfl bL
   obtain ⟨bO, S⟩ := pLoad (r := r_api_Stitch) (q := aT) (x := a7) 0 S rfl
   obtain rfl : bO = .agg #[.int .u8 a7.Kind, .bool a7.Purl, iv a7.A, iv a7.B] := S.mem.know (i := 1) (e := fRep r_api_Stitch (bO) a7) rfl
   obtain ⟨aU, bP, S⟩ := pIdx (P := Try.prog) (r := r_api_Stitch) (v := .slice ad3 p1.length cp4) (xs := p1) (j := a5) 47 81 10 S Try.underlying47 rfl rfl bM
   obtain ⟨bQ, S⟩ := pLoad (r := r_api_Stitch) (q := aU) (x := a8) 0 S rfl
   obtain rfl : bQ = .agg #[.int .u8 a8.Kind, .bool a8.Purl, iv a8.A, iv a8.B] := S.mem.know (i := 1) (e := fRep r_api_Stitch (bQ) a8) rfl
   refine sDraw (nf := []) (W := [(0, 58, iv a9), (1, 59, .slice ad1 p0.length cp2), (2, 60, iv (p0.length : Int)), (3, 61, .bool (decide (a9 < (p0.length : Int)))), (4, 62, .bool (decide (a9 < (p0.length : Int)))), (5, 63, iv a5), (6, 64, .slice ad3 p1.length cp4), (7, 65, iv (p1.length : Int)), (8, 66, .bool (decide (a5 < (p1.length : Int)))), (9, 67, .bool (decide (a5 < (p1.length : Int)))), (10, 68, .bool (decide (a5 < (p1.length : Int)))), (11, 69, .slice ad1 p0.length cp2), (12, 70, iv a9), (13, 71, aT), (14, 72, .agg #[.int .u8 a7.Kind, .bool a7.Purl, iv a7.A, iv a7.B]), (15, 73, .slice ad3 p1.length cp4), (16, 74, iv a5), (17, 75, aU), (18, 76, .agg #[.int .u8 a8.Kind, .bool a8.Purl, iv a8.A, iv a8.B]), (19, 77, .bool ((a7.Kind == a8.Kind) && ((a7.Purl == a8.Purl) && ((a7.A == a8.A) && ((a7.B == a8.B) && true))))), (20, 78, .bool ((a7.Kind == a8.Kind) && ((a7.Purl == a8.Purl) && ((a7.A == a8.A) && ((a7.B == a8.B) && true))))), (21, 79, .bool ((a7.Kind == a8.Kind) && ((a7.Purl == a8.Purl) && ((a7.A == a8.A) && ((a7.B == a8.B) && true))))), (22, 80, undef), (23, 81, undef), (24, 82, undef), (25, 83, undef), (26, 84, undef), (27, 85, undef), (28, 86, undef), (29, 87, undef), (30, 88, undef), (31, 89, undef), (32, 90, undef), (33, 91, .bool false), (34, 57, .bool false)]) rfl S ?_
   refine node_by (A := anc_compare_Edits_0) 35 (by kernel_rfl) (by kernel_rfl) (by kernel_rfl) (by kernel_rfl) (by kernel_rfl) [0, 1, 2, 3, 4, 5, 6, 7, 8, 9, 10, 11, 12, 13, 14, 15, 16, 17, 18, 19, 20, 21, 22, 23, 24, 25, 26, 27, 28, 29, 30, 31, 32, 33, 34] (by kernel_rfl) (by decide) (by decide) (fF ?_ (fF ?_ (fF ?_ (fF ?_ (fF ?_ (fF ?_ (fF ?_ (fF ?_ (fF ?_ (fF ?_ (fF ?_ (fF ?_ (fF ?_ (fF ?_ (fF ?_ (fF ?_ (fF ?_ (fF ?_ (fF ?_ (fF ?_ (fF ?_ (fF ?_ (fF ?_ (fF ?_ (fF ?_ (fF ?_ (fF ?_ (fF ?_ (fF ?_ (fF ?_ (fF ?_ (fF ?_ (fF ?_ (fF ?_ (fF ?_ (trivial)))))))))))))))))))))))))))))))))))) [(0, .slice ad1 p0.length cp2), (1, .slice ad3 p1.length cp4), (10, .slice ae am.length af), (11, .slice aj au.length ak), (12, iv a9), (13, iv a5), (14, iv aq), (57, .bool false), (63, iv a5), (64, .slice ad3 p1.length cp4), (65, iv (p1.length : Int)), (66, .bool (decide (a5 < (p1.length : Int)))), (69, .slice ad1 p0.length cp2), (70, iv a9), (71, aT), (72, .agg #[.int .u8 a7.Kind, .bool a7.Purl, iv a7.A, iv a7.B]), (73, .slice ad3 p1.length cp4), (74, iv a5), (75, aU), (76, .agg #[.int .u8 a8.Kind, .bool a8.Purl, iv a8.A, iv a8.B]), (77, .bool ((a7.Kind == a8.Kind) && ((a7.Purl == a8.Purl) && ((a7.A == a8.A) && ((a7.B == a8.B) && true))))), (80, undef), (81, undef), (82, undef), (83, undef), (84, undef), (85, undef), (86, undef), (87, undef), (88, undef), (89, undef), (90, undef)] (fin_of [none, none, none, none, none, none, none, some 34, some 5, some 6, some 7, some 8, some 11, some 12, some 13, some 14, some 15, some 16, some 17, some 18, some 19, some 22, some 23, some 24, some 25, some 26, some 27, some 28, some 29, some 30, some 31, some 32] rfl (by kernel_rfl) (by kernel_rfl)) (fun _ a w S => ?_)
   ·exact fM 0 none rfl rfl rfl rfl (.inl rfl) rfl rfl rfl
   ·exact fM 1 none rfl rfl rfl rfl (.inl rfl) rfl rfl rfl
   ·refine fJ [(59, _)] 2 [some 1] fun G a w S => ?_
    exact sLen S (wN rfl) rfl Try.underlying47 rfl rfl (lb rfl) fun a S => leafL ⟨rfl, S⟩
   ·refine fJ [(58, _), (60, _)] 3 [some 0, some 2] fun G a w S => ?_
    exact sBin _ S (wN rfl) rfl rfl rfl (bLt _ _ _ _ .i64 a9 (p0.length : Int)) rfl (lb rfl) fun a S => leafL ⟨rfl, S⟩
   ·exact fM 4 (some 3) rfl rfl rfl rfl (.inl rfl) rfl rfl rfl
   ·refine fJ [(13, _), (62, _)] 5 [none, some 4] fun G a w S => ?_
    exact sMove (iv a5) S (wG 4 true 62 rfl rfl rfl ap) (.inl rfl) rfl rfl (lb rfl) fun a S => leafL ⟨rfl, S⟩
   ·refine fJ [(1, _), (62, _)] 6 [none, some 4] fun G a w S => ?_
    exact sMove (.slice ad3 p1.length cp4) S (wG 4 true 62 rfl rfl rfl ap) (.inl rfl) rfl rfl (lb rfl) fun a S => leafL ⟨rfl, S⟩
   ·refine fJ [(64, _), (62, _)] 7 [some 6, some 4] fun G a w S => ?_
    exact sLen S (wG 4 true 62 rfl rfl rfl ap) rfl Try.underlying47 rfl rfl (lb rfl) fun a S => leafL ⟨rfl, S⟩
   ·refine fJ [(63, _), (65, _), (62, _)] 8 [some 5, some 7, some 4] fun G a w S => ?_
    exact sBin _ S (wG 4 true 62 rfl rfl rfl ap) rfl rfl rfl (bLt _ _ _ _ .i64 a5 (p1.length : Int)) rfl (lb rfl) fun a S => leafL ⟨rfl, S⟩
   ·refine fJ [(62, _), (66, _)] 9 [some 4, some 8] fun G a w S => ?_
    exact sPickT (.bool (decide (a5 < (p1.length : Int)))) S (wN rfl) rfl rfl ap rfl rfl (lb rfl) fun a S => leafL ⟨rfl, S⟩
   ·exact fM 10 (some 9) rfl rfl rfl rfl (.inl rfl) rfl rfl rfl
   ·refine fJ [(0, _), (68, _)] 11 [none, some 10] fun G a w S => ?_
    exact sMove (.slice ad1 p0.length cp2) S (wG 10 true 68 rfl rfl rfl ah) (.inl rfl) rfl rfl (lb rfl) fun a S => leafL ⟨rfl, S⟩
   ·refine fJ [(12, _), (68, _)] 12 [none, some 10] fun G a w S => ?_
    exact sMove (iv a9) S (wG 10 true 68 rfl rfl rfl ah) (.inl rfl) rfl rfl (lb rfl) fun a S => leafL ⟨rfl, S⟩
   ·refine fJ [(69, _), (70, _), (68, _)] 13 [some 11, some 12, some 10] fun G a w S => ?_
    exact sIdxV S (wG 10 true 68 rfl rfl rfl ah) rfl rfl rfl bN rfl (lb rfl) fun a S => leafL ⟨rfl, S⟩
   ·refine fJ [(71, _), (68, _)] 14 [some 13, some 10] fun G a w S => ?_
    exact sLoadVN (vq := aT) 3 [.int .u8 a7.Kind, .bool a7.Purl, iv a7.A, iv a7.B] S (wG 10 true 68 rfl rfl rfl ah) rfl rfl rfl rfl rfl rfl (lb rfl) fun a S => leafL ⟨rfl, S⟩
   ·refine fJ [(1, _), (68, _)] 15 [none, some 10] fun G a w S => ?_
    exact sMove (.slice ad3 p1.length cp4) S (wG 10 true 68 rfl rfl rfl ah) (.inl rfl) rfl rfl (lb rfl) fun a S => leafL ⟨rfl, S⟩
   ·refine fJ [(13, _), (68, _)] 16 [none, some 10] fun G a w S => ?_
    exact sMove (iv a5) S (wG 10 true 68 rfl rfl rfl ah) (.inl rfl) rfl rfl (lb rfl) fun a S => leafL ⟨rfl, S⟩
   ·refine fJ [(73, _), (74, _), (68, _)] 17 [some 15, some 16, some 10] fun G a w S => ?_
    exact sIdxV S (wG 10 true 68 rfl rfl rfl ah) rfl rfl rfl bP rfl (lb rfl) fun a S => leafL ⟨rfl, S⟩
   ·refine fJ [(75, _), (68, _)] 18 [some 17, some 10] fun G a w S => ?_
    exact sLoadVN (vq := aU) 0 [.int .u8 a8.Kind, .bool a8.Purl, iv a8.A, iv a8.B] S (wG 10 true 68 rfl rfl rfl ah) rfl rfl rfl rfl rfl rfl (lb rfl) fun a S => leafL ⟨rfl, S⟩
   ·refine fJ [(72, _), (76, _), (68, _)] 19 [some 14, some 18, some 10] fun G a w S => ?_
    exact sBin _ S (wG 10 true 68 rfl rfl rfl ah) rfl rfl rfl (bEqV _ _ _ _ #[.int .u8 a7.Kind, .bool a7.Purl, iv a7.A, iv a7.B] #[.int .u8 a8.Kind, .bool a8.Purl, iv a8.A, iv a8.B] ((a7.Kind == a8.Kind) && ((a7.Purl == a8.Purl) && ((a7.A == a8.A) && ((a7.B == a8.B) && true)))) (by kernel_rfl) (eqlV_of (by kernel_rfl))) rfl (lb rfl) fun a S => leafL ⟨rfl, S⟩
   ·refine fJ [(68, _), (77, _)] 20 [some 10, some 19] fun G a w S => ?_
    exact sPickT (.bool ((a7.Kind == a8.Kind) && ((a7.Purl == a8.Purl) && ((a7.A == a8.A) && ((a7.B == a8.B) && true))))) S (wN rfl) rfl rfl ah rfl rfl (lb rfl) fun a S => leafL ⟨rfl, S⟩
   ·exact fM 21 (some 20) rfl rfl rfl rfl (.inl rfl) rfl rfl rfl
   ·refine fJ [(14, _), (79, _)] 22 [none, some 21] fun G a w S => ?_
    exact sSk S rfl rfl rfl ai rfl rfl fun a S => leafL ⟨rfl, S⟩
   ·refine fJ [(10, _), (79, _)] 23 [none, some 21] fun G a w S => ?_
    exact sSk S rfl rfl rfl ai rfl rfl fun a S => leafL ⟨rfl, S⟩
   ·refine fJ [(12, _), (79, _)] 24 [none, some 21] fun G a w S => ?_
    exact sSk S rfl rfl rfl ai rfl rfl fun a S => leafL ⟨rfl, S⟩
   ·refine fJ [(82, _), (79, _)] 25 [some 24, some 21] fun G a w S => ?_
    exact sSk S rfl rfl rfl ai rfl rfl fun a S => leafL ⟨rfl, S⟩
   ·refine fJ [(81, _), (83, _), (79, _)] 26 [some 23, some 25, some 21] fun G a w S => ?_
    exact sSk S rfl rfl rfl ai rfl rfl fun a S => leafL ⟨rfl, S⟩
   ·refine fJ [(84, _), (79, _)] 27 [some 26, some 21] fun G a w S => ?_
    exact sSk S rfl rfl rfl ai rfl rfl fun a S => leafL ⟨rfl, S⟩
   ·refine fJ [(13, _), (79, _)] 28 [none, some 21] fun G a w S => ?_
    exact sSk S rfl rfl rfl ai rfl rfl fun a S => leafL ⟨rfl, S⟩
   ·refine fJ [(86, _), (79, _)] 29 [some 28, some 21] fun G a w S => ?_
    exact sSk S rfl rfl rfl ai rfl rfl fun a S => leafL ⟨rfl, S⟩
   ·refine fJ [(85, _), (87, _), (79, _)] 30 [some 27, some 29, some 21] fun G a w S => ?_
    exact sSk S rfl rfl rfl ai rfl rfl fun a S => leafL ⟨rfl, S⟩
   ·refine fJ [(88, _), (79, _)] 31 [some 30, some 21] fun G a w S => ?_
    exact sSk S rfl rfl rfl ai rfl rfl fun a S => leafL ⟨rfl, S⟩
   ·refine fJ [(80, _), (89, _), (79, _)] 32 [some 22, some 31, some 21] fun G a w S => ?_
    exact sSk S rfl rfl rfl ai rfl rfl fun a S => leafL ⟨rfl, S⟩
   ·refine fJ [(79, _), (90, _)] 33 [some 21, some 32] fun G a w S => ?_
    exact sPickF (.bool false) S (wN rfl) rfl rfl ai rfl rfl (lb rfl) fun a S => leafL ⟨rfl, S⟩
   ·exact fM 34 (some 33) rfl rfl rfl rfl (.inr rfl) rfl rfl rfl
   exact leafT (⟨false, Option.some.inj h, S.fix [0] [12, 13, 14] (by decide) rfl rfl rfl⟩)
  obtain ⟨bt, dw, h⟩ := bS h
  obtain ⟨aC, dx, h⟩ := bS h
  obtain ⟨aV, bR, S⟩ := pIdx (P := Try.prog) (r := r_api_Stitch) (v := .slice ad1 p0.length cp2) (xs := p0) (j := a9) 47 81 6 S Try.underlying47 rfl rfl bL
  obtain ⟨bU, S⟩ := pLoad (r := r_api_Stitch) (q := aV) (x := a7) 0 S rfl
  obtain rfl : bU = .agg #[.int .u8 a7.Kind, .bool a7.Purl, iv a7.A, iv a7.B] := S.mem.know (i := 1) (e := fRep r_api_Stitch (bU) a7) rfl
  obtain ⟨aW, bV, S⟩ := pIdx (P := Try.prog) (r := r_api_Stitch) (v := .slice ad3 p1.length cp4) (xs := p1) (j := a5) 47 81 10 S Try.underlying47 rfl rfl bM
  obtain ⟨bW, S⟩ := pLoad (r := r_api_Stitch) (q := aW) (x := a8) 0 S rfl
  obtain rfl : bW = .agg #[.int .u8 a8.Kind, .bool a8.Purl, iv a8.A, iv a8.B] := S.mem.know (i := 1) (e := fRep r_api_Stitch (bW) a8) rfl
  obtain ⟨aX, bX, S⟩ := pIdx (P := Try.prog) (r := (rL (rI .i64))) (v := .slice ae am.length af) (xs := am) (j := w64 (a9 + 1)) 98 101 14 S Try.underlying98 rfl rfl dw
  obtain ⟨dy, S⟩ := pLoad (r := (rL (rI .i64))) (q := aX) (x := bt) 0 S rfl
  obtain ⟨aG, aH, _, rfl, _⟩ := S.mem.know (i := 1) (e := fRep (rL (rI .i64)) (dy) bt) rfl
  obtain ⟨aZ, bY, S⟩ := pIdx (P := Try.prog) (r := (rI .i64)) (v := .slice aG bt.length aH) (xs := bt) (j := w64 (a5 + 1)) 101 3 1 S Try.underlying101 rfl rfl dx
  obtain ⟨bZ, S⟩ := pLoad (r := (rI .i64)) (q := aZ) (x := aC) 0 S rfl
  obtain rfl : bZ = iv aC := S.mem.know (i := 1) (e := fRep (rI .i64) (bZ) aC) rfl
  refine sDraw (nf := []) (W := [(0, 58, iv a9), (1, 59, .slice ad1 p0.length cp2), (2, 60, iv (p0.length : Int)), (3, 61, .bool (decide (a9 < (p0.length : Int)))), (4, 62, .bool (decide (a9 < (p0.length : Int)))), (5, 63, iv a5), (6, 64, .slice ad3 p1.length cp4), (7, 65, iv (p1.length : Int)), (8, 66, .bool (decide (a5 < (p1.length : Int)))), (9, 67, .bool (decide (a5 < (p1.length : Int)))), (10, 68, .bool (decide (a5 < (p1.length : Int)))), (11, 69, .slice ad1 p0.length cp2), (12, 70, iv a9), (13, 71, aV), (14, 72, .agg #[.int .u8 a7.Kind, .bool a7.Purl, iv a7.A, iv a7.B]), (15, 73, .slice ad3 p1.length cp4), (16, 74, iv a5), (17, 75, aW), (18, 76, .agg #[.int .u8 a8.Kind, .bool a8.Purl, iv a8.A, iv a8.B]), (19, 77, .bool ((a7.Kind == a8.Kind) && ((a7.Purl == a8.Purl) && ((a7.A == a8.A) && ((a7.B == a8.B) && true))))), (20, 78, .bool ((a7.Kind == a8.Kind) && ((a7.Purl == a8.Purl) && ((a7.A == a8.A) && ((a7.B == a8.B) && true))))), (21, 79, .bool ((a7.Kind == a8.Kind) && ((a7.Purl == a8.Purl) && ((a7.A == a8.A) && ((a7.B == a8.B) && true))))), (22, 80, iv aq), (23, 81, .slice ae am.length af), (24, 82, iv a9), (25, 83, iv (w64 (a9 + 1))), (26, 84, aX), (27, 85, .slice aG bt.length aH), (28, 86, iv a5), (29, 87, iv (w64 (a5 + 1))), (30, 88, aZ), (31, 89, iv aC), (32, 90, .bool (aq == aC)), (33, 91, .bool (aq == aC)), (34, 57, .bool (aq == aC))]) rfl S ?_
  refine node_by (A := anc_compare_Edits_0) 35 (by kernel_rfl) (by kernel_rfl) (by kernel_rfl) (by kernel_rfl) (by kernel_rfl) [0, 1, 2, 3, 4, 5, 6, 7, 8, 9, 10, 11, 12, 13, 14, 15, 16, 17, 18, 19, 20, 21, 22, 23, 24, 25, 26, 27, 28, 29, 30, 31, 32, 33, 34] (by kernel_rfl) (by decide) (by decide) (fF ?_ (fF ?_ (fF ?_ (fF ?_ (fF ?_ (fF ?_ (fF ?_ (fF ?_ (fF ?_ (fF ?_ (fF ?_ (fF ?_ (fF ?_ (fF ?_ (fF ?_ (fF ?_ (fF ?_ (fF ?_ (fF ?_ (fF ?_ (fF ?_ (fF ?_ (fF ?_ (fF ?_ (fF ?_ (fF ?_ (fF ?_ (fF ?_ (fF ?_ (fF ?_ (fF ?_ (fF ?_ (fF ?_ (fF ?_ (fF ?_ (trivial)))))))))))))))))))))))))))))))))))) [(0, .slice ad1 p0.length cp2), (1, .slice ad3 p1.length cp4), (10, .slice ae am.length af), (11, .slice aj au.length ak), (12, iv a9), (13, iv a5), (14, iv aq), (57, .bool (aq == aC)), (63, iv a5), (64, .slice ad3 p1.length cp4), (65, iv (p1.length : Int)), (66, .bool (decide (a5 < (p1.length : Int)))), (69, .slice ad1 p0.length cp2), (70, iv a9), (71, aV), (72, .agg #[.int .u8 a7.Kind, .bool a7.Purl, iv a7.A, iv a7.B]), (73, .slice ad3 p1.length cp4), (74, iv a5), (75, aW), (76, .agg #[.int .u8 a8.Kind, .bool a8.Purl, iv a8.A, iv a8.B]), (77, .bool ((a7.Kind == a8.Kind) && ((a7.Purl == a8.Purl) && ((a7.A == a8.A) && ((a7.B == a8.B) && true))))), (80, iv aq), (81, .slice ae am.length af), (82, iv a9), (83, iv (w64 (a9 + 1))), (84, aX), (85, .slice aG bt.length aH), (86, iv a5), (87, iv (w64 (a5 + 1))), (88, aZ), (89, iv aC), (90, .bool (aq == aC))] (fin_of [none, none, none, none, none, none, none, some 34, some 5, some 6, some 7, some 8, some 11, some 12, some 13, some 14, some 15, some 16, some 17, some 18, some 19, some 22, some 23, some 24, some 25, some 26, some 27, some 28, some 29, some 30, some 31, some 32] rfl (by kernel_rfl) (by kernel_rfl)) (fun _ a w S => ?_)
  ·exact fM 0 none rfl rfl rfl rfl (.inl rfl) rfl rfl rfl
  ·exact fM 1 none rfl rfl rfl rfl (.inl rfl) rfl rfl rfl
  ·refine fJ [(59, _)] 2 [some 1] fun G a w S => ?_
   exact sLen S (wN rfl) rfl Try.underlying47 rfl rfl (lb rfl) fun a S => leafL ⟨rfl, S⟩
  ·refine fJ [(58, _), (60, _)] 3 [some 0, some 2] fun G a w S => ?_
   exact sBin _ S (wN rfl) rfl rfl rfl (bLt _ _ _ _ .i64 a9 (p0.length : Int)) rfl (lb rfl) fun a S => leafL ⟨rfl, S⟩
  ·exact fM 4 (some 3) rfl rfl rfl rfl (.inl rfl) rfl rfl rfl
  ·refine fJ [(13, _), (62, _)] 5 [none, some 4] fun G a w S => ?_
   exact sMove (iv a5) S (wG 4 true 62 rfl rfl rfl ap) (.inl rfl) rfl rfl (lb rfl) fun a S => leafL ⟨rfl, S⟩
  ·refine fJ [(1, _), (62, _)] 6 [none, some 4] fun G a w S => ?_
   exact sMove (.slice ad3 p1.length cp4) S (wG 4 true 62 rfl rfl rfl ap) (.inl rfl) rfl rfl (lb rfl) fun a S => leafL ⟨rfl, S⟩
  ·refine fJ [(64, _), (62, _)] 7 [some 6, some 4] fun G a w S => ?_
   exact sLen S (wG 4 true 62 rfl rfl rfl ap) rfl Try.underlying47 rfl rfl (lb rfl) fun a S => leafL ⟨rfl, S⟩
  ·refine fJ [(63, _), (65, _), (62, _)] 8 [some 5, some 7, some 4] fun G a w S => ?_
   exact sBin _ S (wG 4 true 62 rfl rfl rfl ap) rfl rfl rfl (bLt _ _ _ _ .i64 a5 (p1.length : Int)) rfl (lb rfl) fun a S => leafL ⟨rfl, S⟩
  ·refine fJ [(62, _), (66, _)] 9 [some 4, some 8] fun G a w S => ?_
   exact sPickT (.bool (decide (a5 < (p1.length : Int)))) S (wN rfl) rfl rfl ap rfl rfl (lb rfl) fun a S => leafL ⟨rfl, S⟩
  ·exact fM 10 (some 9) rfl rfl rfl rfl (.inl rfl) rfl rfl rfl
  ·refine fJ [(0, _), (68, _)] 11 [none, some 10] fun G a w S => ?_
   exact sMove (.slice ad1 p0.length cp2) S (wG 10 true 68 rfl rfl rfl ah) (.inl rfl) rfl rfl (lb rfl) fun a S => leafL ⟨rfl, S⟩
  ·refine fJ [(12, _), (68, _)] 12 [none, some 10] fun G a w S => ?_
   exact sMove (iv a9) S (wG 10 true 68 rfl rfl rfl ah) (.inl rfl) rfl rfl (lb rfl) fun a S => leafL ⟨rfl, S⟩
  ·refine fJ [(69, _), (70, _), (68, _)] 13 [some 11, some 12, some 10] fun G a w S => ?_
   exact sIdxV S (wG 10 true 68 rfl rfl rfl ah) rfl rfl rfl bR rfl (lb rfl) fun a S => leafL ⟨rfl, S⟩
  ·refine fJ [(71, _), (68, _)] 14 [some 13, some 10] fun G a w S => ?_
   exact sLoadVN (vq := aV) 9 [.int .u8 a7.Kind, .bool a7.Purl, iv a7.A, iv a7.B] S (wG 10 true 68 rfl rfl rfl ah) rfl rfl rfl rfl rfl rfl (lb rfl) fun a S => leafL ⟨rfl, S⟩
  ·refine fJ [(1, _), (68, _)] 15 [none, some 10] fun G a w S => ?_
   exact sMove (.slice ad3 p1.length cp4) S (wG 10 true 68 rfl rfl rfl ah) (.inl rfl) rfl rfl (lb rfl) fun a S => leafL ⟨rfl, S⟩
  ·refine fJ [(13, _), (68, _)] 16 [none, some 10] fun G a w S => ?_
   exact sMove (iv a5) S (wG 10 true 68 rfl rfl rfl ah) (.inl rfl) rfl rfl (lb rfl) fun a S => leafL ⟨rfl, S⟩
  ·refine fJ [(73, _), (74, _), (68, _)] 17 [some 15, some 16, some 10] fun G a w S => ?_
   exact sIdxV S (wG 10 true 68 rfl rfl rfl ah) rfl rfl rfl bV rfl (lb rfl) fun a S => leafL ⟨rfl, S⟩
  ·refine fJ [(75, _), (68, _)] 18 [some 17, some 10] fun G a w S => ?_
   exact sLoadVN (vq := aW) 6 [.int .u8 a8.Kind, .bool a8.Purl, iv a8.A, iv a8.B] S (wG 10 true 68 rfl rfl rfl ah) rfl rfl rfl rfl rfl rfl (lb rfl) fun a S => leafL ⟨rfl, S⟩
  ·refine fJ [(72, _), (76, _), (68, _)] 19 [some 14, some 18, some 10] fun G a w S => ?_
   exact sBin _ S (wG 10 true 68 rfl rfl rfl ah) rfl rfl rfl (bEqV _ _ _ _ #[.int .u8 a7.Kind, .bool a7.Purl, iv a7.A, iv a7.B] #[.int .u8 a8.Kind, .bool a8.Purl, iv a8.A, iv a8.B] ((a7.Kind == a8.Kind) && ((a7.Purl == a8.Purl) && ((a7.A == a8.A) && ((a7.B == a8.B) && true)))) (by kernel_rfl) (eqlV_of (by kernel_rfl))) rfl (lb rfl) fun a S => leafL ⟨rfl, S⟩
  ·refine fJ [(68, _), (77, _)] 20 [some 10, some 19] fun G a w S => ?_
   exact sPickT (.bool ((a7.Kind == a8.Kind) && ((a7.Purl == a8.Purl) && ((a7.A == a8.A) && ((a7.B == a8.B) && true))))) S (wN rfl) rfl rfl ah rfl rfl (lb rfl) fun a S => leafL ⟨rfl, S⟩
  ·exact fM 21 (some 20) rfl rfl rfl rfl (.inl rfl) rfl rfl rfl
  ·refine fJ [(14, _), (79, _)] 22 [none, some 21] fun G a w S => ?_
   exact sMove (iv aq) S (wG 21 true 79 rfl rfl rfl ai) (.inl rfl) rfl rfl (lb rfl) fun a S => leafL ⟨rfl, S⟩
  ·refine fJ [(10, _), (79, _)] 23 [none, some 21] fun G a w S => ?_
   exact sMove (.slice ae am.length af) S (wG 21 true 79 rfl rfl rfl ai) (.inl rfl) rfl rfl (lb rfl) fun a S => leafL ⟨rfl, S⟩
  ·refine fJ [(12, _), (79, _)] 24 [none, some 21] fun G a w S => ?_
   exact sMove (iv a9) S (wG 21 true 79 rfl rfl rfl ai) (.inl rfl) rfl rfl (lb rfl) fun a S => leafL ⟨rfl, S⟩
  ·refine fJ [(82, _), (79, _)] 25 [some 24, some 21] fun G a w S => ?_
   exact sBin _ S (wG 21 true 79 rfl rfl rfl ai) rfl rfl rfl (bAdd _ _ _ _ a9 1) rfl (lb rfl) fun a S => leafL ⟨rfl, S⟩
  ·refine fJ [(81, _), (83, _), (79, _)] 26 [some 23, some 25, some 21] fun G a w S => ?_
   exact sIdxV S (wG 21 true 79 rfl rfl rfl ai) rfl rfl rfl bX rfl (lb rfl) fun a S => leafL ⟨rfl, S⟩
  ·refine fJ [(84, _), (79, _)] 27 [some 26, some 21] fun G a w S => ?_
   exact sLoadV1 (vq := aX) 3 (.slice aG bt.length aH) S (wG 21 true 79 rfl rfl rfl ai) rfl rfl rfl rfl rfl (lb rfl) fun a S => leafL ⟨rfl, S⟩
  ·refine fJ [(13, _), (79, _)] 28 [none, some 21] fun G a w S => ?_
   exact sMove (iv a5) S (wG 21 true 79 rfl rfl rfl ai) (.inl rfl) rfl rfl (lb rfl) fun a S => leafL ⟨rfl, S⟩
  ·refine fJ [(86, _), (79, _)] 29 [some 28, some 21] fun G a w S => ?_
   exact sBin _ S (wG 21 true 79 rfl rfl rfl ai) rfl rfl rfl (bAdd _ _ _ _ a5 1) rfl (lb rfl) fun a S => leafL ⟨rfl, S⟩
  ·refine fJ [(85, _), (87, _), (79, _)] 30 [some 27, some 29, some 21] fun G a w S => ?_
   exact sIdxV S (wG 21 true 79 rfl rfl rfl ai) rfl rfl rfl bY rfl (lb rfl) fun a S => leafL ⟨rfl, S⟩
  ·refine fJ [(88, _), (79, _)] 31 [some 30, some 21] fun G a w S => ?_
   exact sLoadV1 (vq := aZ) 0 (iv aC) S (wG 21 true 79 rfl rfl rfl ai) rfl rfl rfl rfl rfl (lb rfl) fun a S => leafL ⟨rfl, S⟩
  ·refine fJ [(80, _), (89, _), (79, _)] 32 [some 22, some 31, some 21] fun G a w S => ?_
   exact sBin _ S (wG 21 true 79 rfl rfl rfl ai) rfl rfl rfl (bEq _ _ _ _ .i64 aq aC) rfl (lb rfl) fun a S => leafL ⟨rfl, S⟩
  ·refine fJ [(79, _), (90, _)] 33 [some 21, some 32] fun G a w S => ?_
   exact sPickT (.bool (aq == aC)) S (wN rfl) rfl rfl ai rfl rfl (lb rfl) fun a S => leafL ⟨rfl, S⟩
  ·exact fM 34 (some 33) rfl rfl rfl rfl (.inr rfl) rfl rfl rfl
  exact leafT (⟨aq == aC, Option.some.inj h, S.fix [0] [18, 19, 20] (by decide) rfl rfl rfl⟩)
 obtain ⟨dv, rfl, S⟩ := hI
 have h := dZ
 try dsimp only at h
 rcases iS h with ⟨aP, h⟩ | ⟨aP, h⟩
 ·refine sCondT S rfl aP ?_
  refine sSeq (fun e0 c4 => sRegion (sM S fun a S => ?_))
  refine sBuild [(0, .int .u8 1)] [.int .u8 1, .int .u8 0, .bool false, iv 0, iv 0] S (wN rfl) rfl rfl rfl rfl (lb rfl) fun a S => ?_
  have S := S.learn (fRep r_api_CellStep (.agg #[.int .u8 1, .int .u8 0, .bool false, iv 0, iv 0]) (api_CellStep.mk 1 (api_Stitch.mk 0 false 0 0))) rfl
  refine sLit (r := r_api_CellStep) (T := 83) (xs := [(api_CellStep.mk 1 (api_Stitch.mk 0 false 0 0))]) [(0, .agg #[.int .u8 1, .int .u8 0, .bool false, iv 0, iv 0])] 1 [.agg #[.int .u8 1, .int .u8 0, .bool false, iv 0, iv 0]] [.int .u8 1, .int .u8 0, .bool false, iv 0, iv 0] (.agg #[.int .u8 0, .int .u8 0, .bool false, iv 0, iv 0]) 32 S (wN rfl) rfl rfl Try.underlying48 rfl (by decide) (by decide) (by kernel_rfl) rfl (fun E1 w1 hE => All.cons (r_api_CellStep.mono hE (S.mem.know (i := 0) (e := fRep r_api_CellStep (.agg #[.int .u8 1, .int .u8 0, .bool false, iv 0, iv 0]) (api_CellStep.mk 1 (api_Stitch.mk 0 false 0 0))) rfl)) (All.nil _ _ _)) rfl rfl (lb rfl) fun a w c5 c6 S => ?_
  obtain ⟨dz, c7, h⟩ := bS h
  refine sApp (r := r_api_CellStep) (T := 83) (xs := au) (ys := [(api_CellStep.mk 1 (api_Stitch.mk 0 false 0 0))]) (v := .slice aj au.length ak) (u := .slice c5 [(api_CellStep.mk 1 (api_Stitch.mk 0 false 0 0))].length c6) 1 (.agg #[.int .u8 0, .int .u8 0, .bool false, iv 0, iv 0]) 32 S (wN rfl) rfl Try.underlying48 rfl rfl (by decide) rfl rfl rfl (src_R (T := 83) 0 S.mem rfl) c7 rfl (lb rfl) fun a w c8 c9 S => ?_
  refine sN S fun a S => ?_
  refine lT (c4 _ _ (sSeq (fun e5 cd => sRegion (sM S fun a S => ?_))))
  refine sBin _ S (wN rfl) rfl rfl rfl (bAdd _ _ _ _ a9 1) rfl (lb rfl) fun a S => ?_
  refine sN S fun a S => ?_
  refine lT (cd _ _ (sRegion (sM S fun a S => ?_)))
  refine sBin _ S (wN rfl) rfl rfl rfl (bAdd _ _ _ _ a5 1) rfl (lb rfl) fun a S => ?_
  refine sN S fun a S => ?_
  exact leafL (leafB (leafB (leafT (⟨(dz, w64 (a9 + 1), w64 (a5 + 1)), (Option.some.inj h).symm, ⟨c8, c9, S.fix [0] [1, 2, 3] (by decide) rfl rfl rfl⟩⟩))))
 refine sCondF S rfl aP ?_
 obtain ⟨dA, h, dB⟩ := bS h
 refine sCut (fun a w => ∃ bu, bu = dA ∧ St [] E [] w0 178 a w [(0, .slice ad1 p0.length cp2), (1, .slice ad3 p1.length cp4), (10, .slice ae am.length af), (11, .slice aj au.length ak), (12, iv a9), (13, iv a5), (14, iv aq), (100, .bool bu)] [eRow r_api_CellStep 83 (.slice aj au.length ak) au] [fRep (rL r_api_Stitch) (.slice ad1 p0.length cp2) p0, fRep (rL r_api_Stitch) (.slice ad3 p1.length cp4) p1, fRep (rL (rL (rI .i64))) (.slice ae am.length af) am]) ?_ (fun a w hI => ?_)
 rotate_left
 ·obtain ⟨bu, rfl, S⟩ := hI
  have h := dB
  try dsimp only at h
  rcases iS h with ⟨aQ, h⟩ | ⟨aQ, h⟩
  ·refine sCondT S rfl aQ ?_
   refine sSeq (fun e6 ce => sRegion (sM S fun a S => ?_))
   refine sM S fun a S => ?_
   refine sM S fun a S => ?_
   obtain ⟨aa, cf, h⟩ := bS h
   obtain ⟨cg, ci, S⟩ := pIdx (P := Try.prog) (r := r_api_Stitch) (v := .slice ad3 p1.length cp4) (xs := p1) (j := a5) 47 81 1 S Try.underlying47 rfl rfl cf
   refine sIdxV S (wN rfl) rfl rfl rfl ci rfl (lb rfl) fun a S => ?_
   obtain ⟨cj, S⟩ := pLoad (r := r_api_Stitch) (q := cg) (x := aa) 0 S rfl
   obtain rfl : cj = .agg #[.int .u8 aa.Kind, .bool aa.Purl, iv aa.A, iv aa.B] := S.mem.know (i := 1) (e := fRep r_api_Stitch (cj) aa) rfl
   refine sLoadVN (vq := cg) 0 [.int .u8 aa.Kind, .bool aa.Purl, iv aa.A, iv aa.B] S (wN rfl) rfl rfl rfl rfl rfl rfl (lb rfl) fun a S => ?_
   refine sBuild [(0, .int .u8 2), (1, .agg #[.int .u8 aa.Kind, .bool aa.Purl, iv aa.A, iv aa.B])] [.int .u8 2, .int .u8 aa.Kind, .bool aa.Purl, iv aa.A, iv aa.B] S (wN rfl) rfl rfl rfl rfl (lb rfl) fun a S => ?_
   have S := S.learn (fRep r_api_CellStep (.agg #[.int .u8 2, .int .u8 aa.Kind, .bool aa.Purl, iv aa.A, iv aa.B]) (api_CellStep.mk 2 aa)) rfl
   refine sLit (r := r_api_CellStep) (T := 83) (xs := [(api_CellStep.mk 2 aa)]) [(0, .agg #[.int .u8 2, .int .u8 aa.Kind, .bool aa.Purl, iv aa.A, iv aa.B])] 1 [.agg #[.int .u8 2, .int .u8 aa.Kind, .bool aa.Purl, iv aa.A, iv aa.B]] [.int .u8 2, .int .u8 aa.Kind, .bool aa.Purl, iv aa.A, iv aa.B] (.agg #[.int .u8 0, .int .u8 0, .bool false, iv 0, iv 0]) 32 S (wN rfl) rfl rfl Try.underlying48 rfl (by decide) (by decide) (by kernel_rfl) rfl (fun E1 w1 hE => All.cons (r_api_CellStep.mono hE (S.mem.know (i := 0) (e := fRep r_api_CellStep (.agg #[.int .u8 2, .int .u8 aa.Kind, .bool aa.Purl, iv aa.A, iv aa.B]) (api_CellStep.mk 2 aa)) rfl)) (All.nil _ _ _)) rfl rfl (lb rfl) fun a w ck cl S => ?_
   obtain ⟨dC, cm, h⟩ := bS h
   refine sApp (r := r_api_CellStep) (T := 83) (xs := au) (ys := [(api_CellStep.mk 2 aa)]) (v := .slice aj au.length ak) (u := .slice ck [(api_CellStep.mk 2 aa)].length cl) 1 (.agg #[.int .u8 0, .int .u8 0, .bool false, iv 0, iv 0]) 32 S (wN rfl) rfl Try.underlying48 rfl rfl (by decide) rfl rfl rfl (src_R (T := 83) 0 S.mem rfl) cm rfl (lb rfl) fun a w cn co S => ?_
   refine sN S fun a S => ?_
   refine lT (ce _ _ (sSeq (fun e7 cp => sRegion (sM S fun a S => ?_))))
   refine sBin _ S (wN rfl) rfl rfl rfl (bAdd _ _ _ _ a9 1) rfl (lb rfl) fun a S => ?_
   refine sN S fun a S => ?_
   refine lT (cp _ _ (sRegion (sM S fun a S => ?_)))
   refine sBin _ S (wN rfl) rfl rfl rfl (bAdd _ _ _ _ a5 1) rfl (lb rfl) fun a S => ?_
   refine sN S fun a S => ?_
   exact leafL (leafB (leafB (leafT (⟨(dC, w64 (a9 + 1), w64 (a5 + 1)), (Option.some.inj h).symm, ⟨cn, co, S.fix [0] [4, 5, 6] (by decide) rfl rfl rfl⟩⟩))))
  refine sCondF S rfl aQ ?_
  obtain ⟨dD, h, dE⟩ := bS h
  refine sCut (fun a w => ∃ bv, bv = dD ∧ St [] E [] w0 178 a w [(0, .slice ad1 p0.length cp2), (1, .slice ad3 p1.length cp4), (10, .slice ae am.length af), (11, .slice aj au.length ak), (12, iv a9), (13, iv a5), (148, .bool bv)] [eRow r_api_CellStep 83 (.slice aj au.length ak) au] [fRep (rL r_api_Stitch) (.slice ad1 p0.length cp2) p0, fRep (rL r_api_Stitch) (.slice ad3 p1.length cp4) p1, fRep (rL (rL (rI .i64))) (.slice ae am.length af) am]) ?_ (fun a w hI => ?_)
  ·refine sRegion (sM S fun a S => ?_)
   refine sM S fun a S => ?_
   refine sLen S (wN rfl) rfl Try.underlying47 rfl rfl (lb rfl) fun a S => ?_
   refine sBin _ S (wN rfl) rfl rfl rfl (bLt _ _ _ _ .i64 a9 (p0.length : Int)) rfl (lb rfl) fun a S => ?_
   refine sM S fun a S => ?_
   rcases iS h with ⟨ao, h⟩ | ⟨ao, h⟩
   rotate_left
   ·refine sSkN 11 4 true 153 S rfl rfl ao rfl fun a S => ?_
    refine sPickF (.bool false) S (wN rfl) rfl rfl ao rfl rfl (lb rfl) fun a S => ?_
    refine sN S fun a S => ?_
    exact lT (⟨false, Option.some.inj h, S.fix [0] [0, 1, 2] (by decide) rfl rfl rfl⟩)
   refine sMove (iv aq) S (wG 4 true 153 rfl rfl rfl ao) (.inl rfl) rfl rfl (lb rfl) fun a S => ?_
   refine sMove (.slice ae am.length af) S (wG 4 true 153 rfl rfl rfl ao) (.inl rfl) rfl rfl (lb rfl) fun a S => ?_
   refine sMove (iv a9) S (wG 4 true 153 rfl rfl rfl ao) (.inl rfl) rfl rfl (lb rfl) fun a S => ?_
   refine sBin _ S (wG 4 true 153 rfl rfl rfl ao) rfl rfl rfl (bAdd _ _ _ _ a9 1) rfl (lb rfl) fun a S => ?_
   obtain ⟨aR, cq, h⟩ := bS h
   obtain ⟨cr, ct, S⟩ := pIdx (P := Try.prog) (r := (rL (rI .i64))) (v := .slice ae am.length af) (xs := am) (j := w64 (a9 + 1)) 98 101 2 S Try.underlying98 rfl rfl cq
   refine sIdxV S (wG 4 true 153 rfl rfl rfl ao) rfl rfl rfl ct rfl (lb rfl) fun a S => ?_
   obtain ⟨dG, S⟩ := pLoad (r := (rL (rI .i64))) (q := cr) (x := aR) 0 S rfl
   obtain ⟨bi, bj, _, rfl, _⟩ := S.mem.know (i := 1) (e := fRep (rL (rI .i64)) (dG) aR) rfl
   refine sLoadV1 (vq := cr) 0 (.slice bi aR.length bj) S (wG 4 true 153 rfl rfl rfl ao) rfl rfl rfl rfl rfl (lb rfl) fun a S => ?_
   refine sMove (iv a5) S (wG 4 true 153 rfl rfl rfl ao) (.inl rfl) rfl rfl (lb rfl) fun a S => ?_
   obtain ⟨az, cu, h⟩ := bS h
   obtain ⟨cv, cw, S⟩ := pIdx (P := Try.prog) (r := (rI .i64)) (v := .slice bi aR.length bj) (xs := aR) (j := a5) 101 3 1 S Try.underlying101 rfl rfl cu
   refine sIdxV S (wG 4 true 153 rfl rfl rfl ao) rfl rfl rfl cw rfl (lb rfl) fun a S => ?_
   obtain ⟨cx, S⟩ := pLoad (r := (rI .i64)) (q := cv) (x := az) 0 S rfl
   obtain rfl : cx = iv az := S.mem.know (i := 1) (e := fRep (rI .i64) (cx) az) rfl
   refine sLoadV1 (vq := cv) 0 (iv az) S (wG 4 true 153 rfl rfl rfl ao) rfl rfl rfl rfl rfl (lb rfl) fun a S => ?_
   refine sBin _ S (wG 4 true 153 rfl rfl rfl ao) rfl rfl rfl (bAdd _ _ _ _ 1 az) rfl (lb rfl) fun a S => ?_
   refine sBin _ S (wG 4 true 153 rfl rfl rfl ao) rfl rfl rfl (bEq _ _ _ _ .i64 aq (w64 (1 + az))) rfl (lb rfl) fun a S => ?_
   refine sPickT (.bool (aq == (w64 (1 + az)))) S (wN rfl) rfl rfl ao rfl rfl (lb rfl) fun a S => ?_
   refine sN S fun a S => ?_
   exact lT (⟨aq == (w64 (1 + az)), Option.some.inj h, S.fix [0] [6, 7, 8] (by decide) rfl rfl rfl⟩)
  obtain ⟨bv, rfl, S⟩ := hI
  have h := dE
  try dsimp only at h
  rcases iS h with ⟨aS, h⟩ | ⟨aS, h⟩
  ·refine sCondT S rfl aS ?_
   refine sSeq (fun e8 cy => sRegion (sM S fun a S => ?_))
   refine sBuild [(0, .int .u8 4)] [.int .u8 4, .int .u8 0, .bool false, iv 0, iv 0] S (wN rfl) rfl rfl rfl rfl (lb rfl) fun a S => ?_
   have S := S.learn (fRep r_api_CellStep (.agg #[.int .u8 4, .int .u8 0, .bool false, iv 0, iv 0]) (api_CellStep.mk 4 (api_Stitch.mk 0 false 0 0))) rfl
   refine sLit (r := r_api_CellStep) (T := 83) (xs := [(api_CellStep.mk 4 (api_Stitch.mk 0 false 0 0))]) [(0, .agg #[.int .u8 4, .int .u8 0, .bool false, iv 0, iv 0])] 1 [.agg #[.int .u8 4, .int .u8 0, .bool false, iv 0, iv 0]] [.int .u8 4, .int .u8 0, .bool false, iv 0, iv 0] (.agg #[.int .u8 0, .int .u8 0, .bool false, iv 0, iv 0]) 32 S (wN rfl) rfl rfl Try.underlying48 rfl (by decide) (by decide) (by kernel_rfl) rfl (fun E1 w1 hE => All.cons (r_api_CellStep.mono hE (S.mem.know (i := 0) (e := fRep r_api_CellStep (.agg #[.int .u8 4, .int .u8 0, .bool false, iv 0, iv 0]) (api_CellStep.mk 4 (api_Stitch.mk 0 false 0 0))) rfl)) (All.nil _ _ _)) rfl rfl (lb rfl) fun a w cz cA S => ?_
   obtain ⟨dH, cB, h⟩ := bS h
   refine sApp (r := r_api_CellStep) (T := 83) (xs := au) (ys := [(api_CellStep.mk 4 (api_Stitch.mk 0 false 0 0))]) (v := .slice aj au.length ak) (u := .slice cz [(api_CellStep.mk 4 (api_Stitch.mk 0 false 0 0))].length cA) 1 (.agg #[.int .u8 0, .int .u8 0, .bool false, iv 0, iv 0]) 32 S (wN rfl) rfl Try.underlying48 rfl rfl (by decide) rfl rfl rfl (src_R (T := 83) 0 S.mem rfl) cB rfl (lb rfl) fun a w cC cD S => ?_
   refine sN S fun a S => ?_
   refine lT (cy _ _ (sRegion (sM S fun a S => ?_)))
   refine sBin _ S (wN rfl) rfl rfl rfl (bAdd _ _ _ _ a9 1) rfl (lb rfl) fun a S => ?_
   refine sN S fun a S => ?_
   exact leafL (leafB (leafB (leafT (⟨(dH, w64 (a9 + 1), a5), (Option.some.inj h).symm, ⟨cC, cD, S.fix [0] [1, 2, 3] (by decide) rfl rfl rfl⟩⟩))))
  refine sCondF S rfl aS ?_
  refine sSeq (fun e9 cE => sRegion (sM S fun a S => ?_))
  refine sM S fun a S => ?_
  refine sM S fun a S => ?_
  obtain ⟨ab, cF, h⟩ := bS h
  obtain ⟨cG, cH, S⟩ := pIdx (P := Try.prog) (r := r_api_Stitch) (v := .slice ad3 p1.length cp4) (xs := p1) (j := a5) 47 81 1 S Try.underlying47 rfl rfl cF
  refine sIdxV S (wN rfl) rfl rfl rfl cH rfl (lb rfl) fun a S => ?_
  obtain ⟨cI, S⟩ := pLoad (r := r_api_Stitch) (q := cG) (x := ab) 0 S rfl
  obtain rfl : cI = .agg #[.int .u8 ab.Kind, .bool ab.Purl, iv ab.A, iv ab.B] := S.mem.know (i := 1) (e := fRep r_api_Stitch (cI) ab) rfl
  refine sLoadVN (vq := cG) 0 [.int .u8 ab.Kind, .bool ab.Purl, iv ab.A, iv ab.B] S (wN rfl) rfl rfl rfl rfl rfl rfl (lb rfl) fun a S => ?_
  refine sBuild [(0, .int .u8 3), (1, .agg #[.int .u8 ab.Kind, .bool ab.Purl, iv ab.A, iv ab.B])] [.int .u8 3, .int .u8 ab.Kind, .bool ab.Purl, iv ab.A, iv ab.B] S (wN rfl) rfl rfl rfl rfl (lb rfl) fun a S => ?_
  have S := S.learn (fRep r_api_CellStep (.agg #[.int .u8 3, .int .u8 ab.Kind, .bool ab.Purl, iv ab.A, iv ab.B]) (api_CellStep.mk 3 ab)) rfl
  refine sLit (r := r_api_CellStep) (T := 83) (xs := [(api_CellStep.mk 3 ab)]) [(0, .agg #[.int .u8 3, .int .u8 ab.Kind, .bool ab.Purl, iv ab.A, iv ab.B])] 1 [.agg #[.int .u8 3, .int .u8 ab.Kind, .bool ab.Purl, iv ab.A, iv ab.B]] [.int .u8 3, .int .u8 ab.Kind, .bool ab.Purl, iv ab.A, iv ab.B] (.agg #[.int .u8 0, .int .u8 0, .bool false, iv 0, iv 0]) 32 S (wN rfl) rfl rfl Try.underlying48 rfl (by decide) (by decide) (by kernel_rfl) rfl (fun E1 w1 hE => All.cons (r_api_CellStep.mono hE (S.mem.know (i := 0) (e := fRep r_api_CellStep (.agg #[.int .u8 3, .int .u8 ab.Kind, .bool ab.Purl, iv ab.A, iv ab.B]) (api_CellStep.mk 3 ab)) rfl)) (All.nil _ _ _)) rfl rfl (lb rfl) fun a w cJ cK S => ?_
  obtain ⟨dI, cL, h⟩ := bS h
  refine sApp (r := r_api_CellStep) (T := 83) (xs := au) (ys := [(api_CellStep.mk 3 ab)]) (v := .slice aj au.length ak) (u := .slice cJ [(api_CellStep.mk 3 ab)].length cK) 1 (.agg #[.int .u8 0, .int .u8 0, .bool false, iv 0, iv 0]) 32 S (wN rfl) rfl Try.underlying48 rfl rfl (by decide) rfl rfl rfl (src_R (T := 83) 0 S.mem rfl) cL rfl (lb rfl) fun a w cM cN S => ?_
  refine sN S fun a S => ?_
  refine lT (cE _ _ (sRegion (sM S fun a S => ?_)))
  refine sBin _ S (wN rfl) rfl rfl rfl (bAdd _ _ _ _ a5 1) rfl (lb rfl) fun a S => ?_
  refine sN S fun a S => ?_
  exact leafL (leafB (leafB (leafT (⟨(dI, a9, w64 (a5 + 1)), (Option.some.inj h).symm, ⟨cM, cN, S.fix [0] [4, 5, 6] (by decide) rfl rfl rfl⟩⟩))))
 rcases iS h with ⟨ag, h⟩ | ⟨ag, h⟩
 rotate_left
 ·refine sDraw (nf := []) (W := [(0, 101, iv a9), (1, 102, .slice ad1 p0.length cp2), (2, 103, iv (p0.length : Int)), (3, 104, .bool (decide (a9 < (p0.length : Int)))), (4, 105, .bool (decide (a9 < (p0.length : Int)))), (5, 106, undef), (6, 107, undef), (7, 108, undef), (8, 109, undef), (9, 110, .bool false), (10, 111, .bool false), (11, 112, undef), (12, 113, undef), (13, 114, undef), (14, 115, undef), (15, 116, undef), (16, 117, undef), (17, 118, undef), (18, 119, undef), (19, 120, undef), (20, 121, .bool false), (21, 122, .bool false), (22, 123, undef), (23, 124, undef), (24, 125, undef), (25, 126, undef), (26, 127, undef), (27, 128, undef), (28, 129, undef), (29, 130, undef), (30, 131, undef), (31, 132, undef), (32, 133, undef), (33, 134, undef), (34, 135, .bool false), (35, 100, .bool false)]) rfl S ?_
  refine node_by (A := anc_compare_Edits_1) 36 (by kernel_rfl) (by kernel_rfl) (by kernel_rfl) (by kernel_rfl) (by kernel_rfl) [0, 1, 2, 3, 4, 5, 6, 7, 8, 9, 10, 11, 12, 13, 14, 15, 16, 17, 18, 19, 20, 21, 22, 23, 24, 25, 26, 27, 28, 29, 30, 31, 32, 33, 34, 35] (by kernel_rfl) (by decide) (by decide) (fF ?_ (fF ?_ (fF ?_ (fF ?_ (fF ?_ (fF ?_ (fF ?_ (fF ?_ (fF ?_ (fF ?_ (fF ?_ (fF ?_ (fF ?_ (fF ?_ (fF ?_ (fF ?_ (fF ?_ (fF ?_ (fF ?_ (fF ?_ (fF ?_ (fF ?_ (fF ?_ (fF ?_ (fF ?_ (fF ?_ (fF ?_ (fF ?_ (fF ?_ (fF ?_ (fF ?_ (fF ?_ (fF ?_ (fF ?_ (fF ?_ (fF ?_ (trivial))))))))))))))))))))))))))))))))))))) [(0, .slice ad1 p0.length cp2), (1, .slice ad3 p1.length cp4), (10, .slice ae am.length af), (11, .slice aj au.length ak), (12, iv a9), (13, iv a5), (14, iv aq), (100, .bool false), (106, undef), (107, undef), (108, undef), (109, undef), (112, undef), (113, undef), (114, undef), (115, undef), (116, undef), (117, undef), (118, undef), (119, undef), (120, undef), (123, undef), (124, undef), (125, undef), (126, undef), (127, undef), (128, undef), (129, undef), (130, undef), (131, undef), (132, undef), (133, undef), (134, undef)] (fin_of [none, none, none, none, none, none, none, some 35, some 5, some 6, some 7, some 8, some 11, some 12, some 13, some 14, some 15, some 16, some 17, some 18, some 19, some 22, some 23, some 24, some 25, some 26, some 27, some 28, some 29, some 30, some 31, some 32, some 33] rfl (by kernel_rfl) (by kernel_rfl)) (fun _ a w S => ?_)
  ·exact fM 0 none rfl rfl rfl rfl (.inl rfl) rfl rfl rfl
  ·exact fM 1 none rfl rfl rfl rfl (.inl rfl) rfl rfl rfl
  ·refine fJ [(102, _)] 2 [some 1] fun G a w S => ?_
   exact sLen S (wN rfl) rfl Try.underlying47 rfl rfl (lb rfl) fun a S => leafL ⟨rfl, S⟩
  ·refine fJ [(101, _), (103, _)] 3 [some 0, some 2] fun G a w S => ?_
   exact sBin _ S (wN rfl) rfl rfl rfl (bLt _ _ _ _ .i64 a9 (p0.length : Int)) rfl (lb rfl) fun a S => leafL ⟨rfl, S⟩
  ·exact fM 4 (some 3) rfl rfl rfl rfl (.inl rfl) rfl rfl rfl
  ·refine fJ [(13, _), (105, _)] 5 [none, some 4] fun G a w S => ?_
   exact sSk S rfl rfl rfl ag rfl rfl fun a S => leafL ⟨rfl, S⟩
  ·refine fJ [(1, _), (105, _)] 6 [none, some 4] fun G a w S => ?_
   exact sSk S rfl rfl rfl ag rfl rfl fun a S => leafL ⟨rfl, S⟩
  ·refine fJ [(107, _), (105, _)] 7 [some 6, some 4] fun G a w S => ?_
   exact sSk S rfl rfl rfl ag rfl rfl fun a S => leafL ⟨rfl, S⟩
  ·refine fJ [(106, _), (108, _), (105, _)] 8 [some 5, some 7, some 4] fun G a w S => ?_
   exact sSk S rfl rfl rfl ag rfl rfl fun a S => leafL ⟨rfl, S⟩
  ·refine fJ [(105, _), (109, _)] 9 [some 4, some 8] fun G a w S => ?_
   exact sPickF (.bool false) S (wN rfl) rfl rfl ag rfl rfl (lb rfl) fun a S => leafL ⟨rfl, S⟩
  ·exact fM 10 (some 9) rfl rfl rfl rfl (.inl rfl) rfl rfl rfl
  ·refine fJ [(0, _), (111, _)] 11 [none, some 10] fun G a w S => ?_
   exact sSk S rfl rfl rfl rfl rfl rfl fun a S => leafL ⟨rfl, S⟩
  ·refine fJ [(12, _), (111, _)] 12 [none, some 10] fun G a w S => ?_
   exact sSk S rfl rfl rfl rfl rfl rfl fun a S => leafL ⟨rfl, S⟩
  ·refine fJ [(112, _), (113, _), (111, _)] 13 [some 11, some 12, some 10] fun G a w S => ?_
   exact sSk S rfl rfl rfl rfl rfl rfl fun a S => leafL ⟨rfl, S⟩
  ·refine fJ [(114, _), (111, _)] 14 [some 13, some 10] fun G a w S => ?_
   exact sSk S rfl rfl rfl rfl rfl rfl fun a S => leafL ⟨rfl, S⟩
  ·refine fJ [(1, _), (111, _)] 15 [none, some 10] fun G a w S => ?_
   exact sSk S rfl rfl rfl rfl rfl rfl fun a S => leafL ⟨rfl, S⟩
  ·refine fJ [(13, _), (111, _)] 16 [none, some 10] fun G a w S => ?_
   exact sSk S rfl rfl rfl rfl rfl rfl fun a S => leafL ⟨rfl, S⟩
  ·refine fJ [(116, _), (117, _), (111, _)] 17 [some 15, some 16, some 10] fun G a w S => ?_
   exact sSk S rfl rfl rfl rfl rfl rfl fun a S => leafL ⟨rfl, S⟩
  ·refine fJ [(118, _), (111, _)] 18 [some 17, some 10] fun G a w S => ?_
   exact sSk S rfl rfl rfl rfl rfl rfl fun a S => leafL ⟨rfl, S⟩
  ·refine fJ [(115, _), (119, _), (111, _)] 19 [some 14, some 18, some 10] fun G a w S => ?_
   exact sSk S rfl rfl rfl rfl rfl rfl fun a S => leafL ⟨rfl, S⟩
  ·refine fJ [(111, _), (120, _)] 20 [some 10, some 19] fun G a w S => ?_
   exact sPickF (.bool false) S (wN rfl) rfl rfl rfl rfl rfl (lb rfl) fun a S => leafL ⟨rfl, S⟩
  ·exact fM 21 (some 20) rfl rfl rfl rfl (.inl rfl) rfl rfl rfl
  ·refine fJ [(14, _), (122, _)] 22 [none, some 21] fun G a w S => ?_
   exact sSk S rfl rfl rfl rfl rfl rfl fun a S => leafL ⟨rfl, S⟩
  ·refine fJ [(10, _), (122, _)] 23 [none, some 21] fun G a w S => ?_
   exact sSk S rfl rfl rfl rfl rfl rfl fun a S => leafL ⟨rfl, S⟩
  ·refine fJ [(12, _), (122, _)] 24 [none, some 21] fun G a w S => ?_
   exact sSk S rfl rfl rfl rfl rfl rfl fun a S => leafL ⟨rfl, S⟩
  ·refine fJ [(125, _), (122, _)] 25 [some 24, some 21] fun G a w S => ?_
   exact sSk S rfl rfl rfl rfl rfl rfl fun a S => leafL ⟨rfl, S⟩
  ·refine fJ [(124, _), (126, _), (122, _)] 26 [some 23, some 25, some 21] fun G a w S => ?_
   exact sSk S rfl rfl rfl rfl rfl rfl fun a S => leafL ⟨rfl, S⟩
  ·refine fJ [(127, _), (122, _)] 27 [some 26, some 21] fun G a w S => ?_
   exact sSk S rfl rfl rfl rfl rfl rfl fun a S => leafL ⟨rfl, S⟩
  ·refine fJ [(13, _), (122, _)] 28 [none, some 21] fun G a w S => ?_
   exact sSk S rfl rfl rfl rfl rfl rfl fun a S => leafL ⟨rfl, S⟩
  ·refine fJ [(129, _), (122, _)] 29 [some 28, some 21] fun G a w S => ?_
   exact sSk S rfl rfl rfl rfl rfl rfl fun a S => leafL ⟨rfl, S⟩
  ·refine fJ [(128, _), (130, _), (122, _)] 30 [some 27, some 29, some 21] fun G a w S => ?_
   exact sSk S rfl rfl rfl rfl rfl rfl fun a S => leafL ⟨rfl, S⟩
  ·refine fJ [(131, _), (122, _)] 31 [some 30, some 21] fun G a w S => ?_
   exact sSk S rfl rfl rfl rfl rfl rfl fun a S => leafL ⟨rfl, S⟩
  ·refine fJ [(132, _), (122, _)] 32 [some 31, some 21] fun G a w S => ?_
   exact sSk S rfl rfl rfl rfl rfl rfl fun a S => leafL ⟨rfl, S⟩
  ·refine fJ [(123, _), (133, _), (122, _)] 33 [some 22, some 32, some 21] fun G a w S => ?_
   exact sSk S rfl rfl rfl rfl rfl rfl fun a S => leafL ⟨rfl, S⟩
  ·refine fJ [(122, _), (134, _)] 34 [some 21, some 33] fun G a w S => ?_
   exact sPickF (.bool false) S (wN rfl) rfl rfl rfl rfl rfl (lb rfl) fun a S => leafL ⟨rfl, S⟩
  ·exact fM 35 (some 34) rfl rfl rfl rfl (.inr rfl) rfl rfl rfl
  exact leafT (⟨false, Option.some.inj h, S.fix [0] [0, 1, 2] (by decide) rfl rfl rfl⟩)
 rcases iS h with ⟨a6, h⟩ | ⟨a6, h⟩
 rotate_left
 ·refine sDraw (nf := []) (W := [(0, 101, iv a9), (1, 102, .slice ad1 p0.length cp2), (2, 103, iv (p0.length : Int)), (3, 104, .bool (decide (a9 < (p0.length : Int)))), (4, 105, .bool (decide (a9 < (p0.length : Int)))), (5, 106, iv a5), (6, 107, .slice ad3 p1.length cp4), (7, 108, iv (p1.length : Int)), (8, 109, .bool (decide (a5 < (p1.length : Int)))), (9, 110, .bool (decide (a5 < (p1.length : Int)))), (10, 111, .bool (decide (a5 < (p1.length : Int)))), (11, 112, undef), (12, 113, undef), (13, 114, undef), (14, 115, undef), (15, 116, undef), (16, 117, undef), (17, 118, undef), (18, 119, undef), (19, 120, undef), (20, 121, .bool false), (21, 122, .bool false), (22, 123, undef), (23, 124, undef), (24, 125, undef), (25, 126, undef), (26, 127, undef), (27, 128, undef), (28, 129, undef), (29, 130, undef), (30, 131, undef), (31, 132, undef), (32, 133, undef), (33, 134, undef), (34, 135, .bool false), (35, 100, .bool false)]) rfl S ?_
  refine node_by (A := anc_compare_Edits_1) 36 (by kernel_rfl) (by kernel_rfl) (by kernel_rfl) (by kernel_rfl) (by kernel_rfl) [0, 1, 2, 3, 4, 5, 6, 7, 8, 9, 10, 11, 12, 13, 14, 15, 16, 17, 18, 19, 20, 21, 22, 23, 24, 25, 26, 27, 28, 29, 30, 31, 32, 33, 34, 35] (by kernel_rfl) (by decide) (by decide) (fF ?_ (fF ?_ (fF ?_ (fF ?_ (fF ?_ (fF ?_ (fF ?_ (fF ?_ (fF ?_ (fF ?_ (fF ?_ (fF ?_ (fF ?_ (fF ?_ (fF ?_ (fF ?_ (fF ?_ (fF ?_ (fF ?_ (fF ?_ (fF ?_ (fF ?_ (fF ?_ (fF ?_ (fF ?_ (fF ?_ (fF ?_ (fF ?_ (fF ?_ (fF ?_ (fF ?_ (fF ?_ (fF ?_ (fF ?_ (fF ?_ (fF ?_ (trivial))))))))))))))))))))))))))))))))))))) [(0, .slice ad1 p0.length cp2), (1, .slice ad3 p1.length cp4), (10, .slice ae am.length af), (11, .slice aj au.length ak), (12, iv a9), (13, iv a5), (14, iv aq), (100, .bool false), (106, iv a5), (107, .slice ad3 p1.length cp4), (108, iv (p1.length : Int)), (109, .bool (decide (a5 < (p1.length : Int)))), (112, undef), (113, undef), (114, undef), (115, undef), (116, undef), (117, undef), (118, undef), (119, undef), (120, undef), (123, undef), (124, undef), (125, undef), (126, undef), (127, undef), (128, undef), (129, undef), (130, undef), (131, undef), (132, undef), (133, undef), (134, undef)] (fin_of [none, none, none, none, none, none, none, some 35, some 5, some 6, some 7, some 8, some 11, some 12, some 13, some 14, some 15, some 16, some 17, some 18, some 19, some 22, some 23, some 24, some 25, some 26, some 27, some 28, some 29, some 30, some 31, some 32, some 33] rfl (by kernel_rfl) (by kernel_rfl)) (fun _ a w S => ?_)
  ·exact fM 0 none rfl rfl rfl rfl (.inl rfl) rfl rfl rfl
  ·exact fM 1 none rfl rfl rfl rfl (.inl rfl) rfl rfl rfl
  ·refine fJ [(102, _)] 2 [some 1] fun G a w S => ?_
   exact sLen S (wN rfl) rfl Try.underlying47 rfl rfl (lb rfl) fun a S => leafL ⟨rfl, S⟩
  ·refine fJ [(101, _), (103, _)] 3 [some 0, some 2] fun G a w S => ?_
   exact sBin _ S (wN rfl) rfl rfl rfl (bLt _ _ _ _ .i64 a9 (p0.length : Int)) rfl (lb rfl) fun a S => leafL ⟨rfl, S⟩
  ·exact fM 4 (some 3) rfl rfl rfl rfl (.inl rfl) rfl rfl rfl
  ·refine fJ [(13, _), (105, _)] 5 [none, some 4] fun G a w S => ?_
   exact sMove (iv a5) S (wG 4 true 105 rfl rfl rfl ag) (.inl rfl) rfl rfl (lb rfl) fun a S => leafL ⟨rfl, S⟩
  ·refine fJ [(1, _), (105, _)] 6 [none, some 4] fun G a w S => ?_
   exact sMove (.slice ad3 p1.length cp4) S (wG 4 true 105 rfl rfl rfl ag) (.inl rfl) rfl rfl (lb rfl) fun a S => leafL ⟨rfl, S⟩
  ·refine fJ [(107, _), (105, _)] 7 [some 6, some 4] fun G a w S => ?_
   exact sLen S (wG 4 true 105 rfl rfl rfl ag) rfl Try.underlying47 rfl rfl (lb rfl) fun a S => leafL ⟨rfl, S⟩
  ·refine fJ [(106, _), (108, _), (105, _)] 8 [some 5, some 7, some 4] fun G a w S => ?_
   exact sBin _ S (wG 4 true 105 rfl rfl rfl ag) rfl rfl rfl (bLt _ _ _ _ .i64 a5 (p1.length : Int)) rfl (lb rfl) fun a S => leafL ⟨rfl, S⟩
  ·refine fJ [(105, _), (109, _)] 9 [some 4, some 8] fun G a w S => ?_
   exact sPickT (.bool (decide (a5 < (p1.length : Int)))) S (wN rfl) rfl rfl ag rfl rfl (lb rfl) fun a S => leafL ⟨rfl, S⟩
  ·exact fM 10 (some 9) rfl rfl rfl rfl (.inl rfl) rfl rfl rfl
  ·refine fJ [(0, _), (111, _)] 11 [none, some 10] fun G a w S => ?_
   exact sSk S rfl rfl rfl a6 rfl rfl fun a S => leafL ⟨rfl, S⟩
  ·refine fJ [(12, _), (111, _)] 12 [none, some 10] fun G a w S => ?_
   exact sSk S rfl rfl rfl a6 rfl rfl fun a S => leafL ⟨rfl, S⟩
  ·refine fJ [(112, _), (113, _), (111, _)] 13 [some 11, some 12, some 10] fun G a w S => ?_
   exact sSk S rfl rfl rfl a6 rfl rfl fun a S => leafL ⟨rfl, S⟩
  ·refine fJ [(114, _), (111, _)] 14 [some 13, some 10] fun G a w S => ?_
   exact sSk S rfl rfl rfl a6 rfl rfl fun a S => leafL ⟨rfl, S⟩
  ·refine fJ [(1, _), (111, _)] 15 [none, some 10] fun G a w S => ?_
   exact sSk S rfl rfl rfl a6 rfl rfl fun a S => leafL ⟨rfl, S⟩
  ·refine fJ [(13, _), (111, _)] 16 [none, some 10] fun G a w S => ?_
   exact sSk S rfl rfl rfl a6 rfl rfl fun a S => leafL ⟨rfl, S⟩
  ·refine fJ [(116, _), (117, _), (111, _)] 17 [some 15, some 16, some 10] fun G a w S => ?_
   exact sSk S rfl rfl rfl a6 rfl rfl fun a S => leafL ⟨rfl, S⟩
  ·refine fJ [(118, _), (111, _)] 18 [some 17, some 10] fun G a w S => ?_
   exact sSk S rfl rfl rfl a6 rfl rfl fun a S => leafL ⟨rfl, S⟩
  ·refine fJ [(115, _), (119, _), (111, _)] 19 [some 14, some 18, some 10] fun G a w S => ?_
   exact sSk S rfl rfl rfl a6 rfl rfl fun a S => leafL ⟨rfl, S⟩
  ·refine fJ [(111, _), (120, _)] 20 [some 10, some 19] fun G a w S => ?_
   exact sPickF (.bool false) S (wN rfl) rfl rfl a6 rfl rfl (lb rfl) fun a S => leafL ⟨rfl, S⟩
  ·exact fM 21 (some 20) rfl rfl rfl rfl (.inl rfl) rfl rfl rfl
  ·refine fJ [(14, _), (122, _)] 22 [none, some 21] fun G a w S => ?_
   exact sSk S rfl rfl rfl rfl rfl rfl fun a S => leafL ⟨rfl, S⟩
  ·refine fJ [(10, _), (122, _)] 23 [none, some 21] fun G a w S => ?_
   exact sSk S rfl rfl rfl rfl rfl rfl fun a S => leafL ⟨rfl, S⟩
  ·refine fJ [(12, _), (122, _)] 24 [none, some 21] fun G a w S => ?_
   exact sSk S rfl rfl rfl rfl rfl rfl fun a S => leafL ⟨rfl, S⟩
  ·refine fJ [(125, _), (122, _)] 25 [some 24, some 21] fun G a w S => ?_
   exact sSk S rfl rfl rfl rfl rfl rfl fun a S => leafL ⟨rfl, S⟩
  ·refine fJ [(124, _), (126, _), (122, _)] 26 [some 23, some 25, some 21] fun G a w S => ?_
   exact sSk S rfl rfl rfl rfl rfl rfl fun a S => leafL ⟨rfl, S⟩
  ·refine fJ [(127, _), (122, _)] 27 [some 26, some 21] fun G a w S => ?_
   exact sSk S rfl rfl rfl rfl rfl rfl fun a S => leafL ⟨rfl, S⟩
  ·refine fJ [(13, _), (122, _)] 28 [none, some 21] fun G a w S => ?_
   exact sSk S rfl rfl rfl rfl rfl rfl fun a S => leafL ⟨rfl, S⟩
  ·refine fJ [(129, _), (122, _)] 29 [some 28, some 21] fun G a w S => ?_
   exact sSk S rfl rfl rfl rfl rfl rfl fun a S => leafL ⟨rfl, S⟩
  ·refine fJ [(128, _), (130, _), (122, _)] 30 [some 27, some 29, some 21] fun G a w S => ?_
   exact sSk S rfl rfl rfl rfl rfl rfl fun a S => leafL ⟨rfl, S⟩
  ·refine fJ [(131, _), (122, _)] 31 [some 30, some 21] fun G a w S => ?_
   exact sSk S rfl rfl rfl rfl rfl rfl fun a S => leafL ⟨rfl, S⟩
  ·refine fJ [(132, _), (122, _)] 32 [some 31, some 21] fun G a w S => ?_
   exact sSk S rfl rfl rfl rfl rfl rfl fun a S => leafL ⟨rfl, S⟩
  ·refine fJ [(123, _), (133, _), (122, _)] 33 [some 22, some 32, some 21] fun G a w S => ?_
   exact sSk S rfl rfl rfl rfl rfl rfl fun a S => leafL ⟨rfl, S⟩
  ·refine fJ [(122, _), (134, _)] 34 [some 21, some 33] fun G a w S => ?_
   exact sPickF (.bool false) S (wN rfl) rfl rfl rfl rfl rfl (lb rfl) fun a S => leafL ⟨rfl, S⟩
  ·exact fM 35 (some 34) rfl rfl rfl rfl (.inr rfl) rfl rfl rfl
  exact leafT (⟨false, Option.some.inj h, S.fix [0] [0, 1, 2] (by decide) rfl rfl rfl⟩)
 obtain ⟨a0, bk, h⟩ := bS h
 obtain ⟨a4, bl, h⟩ := bS h
 rcases iS h with ⟨ac, h⟩ | ⟨ac, h⟩
 rotate_left
 ·obtain ⟨ba, cO, S⟩ := pIdx (P := Try.prog) (r := r_api_Stitch) (v := .slice ad1 p0.length cp2) (xs := p0) (j := a9) 47 81 0 S Try.underlying47 rfl rfl bk
  obtain ⟨cP, S⟩ := pLoad (r := r_api_Stitch) (q := ba) (x := a0) 0 S rfl
  obtain rfl : cP = .agg #[.int .u8 a0.Kind, .bool a0.Purl, iv a0.A, iv a0.B] := S.mem.know (i := 1) (e := fRep r_api_Stitch (cP) a0) rfl
  obtain ⟨bb, cQ, S⟩ := pIdx (P := Try.prog) (r := r_api_Stitch) (v := .slice ad3 p1.length cp4) (xs := p1) (j := a5) 47 81 4 S Try.underlying47 rfl rfl bl
  obtain ⟨cR, S⟩ := pLoad (r := r_api_Stitch) (q := bb) (x := a4) 0 S rfl
  obtain rfl : cR = .agg #[.int .u8 a4.Kind, .bool a4.Purl, iv a4.A, iv a4.B] := S.mem.know (i := 1) (e := fRep r_api_Stitch (cR) a4) rfl
  refine sDraw (nf := []) (W := [(0, 101, iv a9), (1, 102, .slice ad1 p0.length cp2), (2, 103, iv (p0.length : Int)), (3, 104, .bool (decide (a9 < (p0.length : Int)))), (4, 105, .bool (decide (a9 < (p0.length : Int)))), (5, 106, iv a5), (6, 107, .slice ad3 p1.length cp4), (7, 108, iv (p1.length : Int)), (8, 109, .bool (decide (a5 < (p1.length : Int)))), (9, 110, .bool (decide (a5 < (p1.length : Int)))), (10, 111, .bool (decide (a5 < (p1.length : Int)))), (11, 112, .slice ad1 p0.length cp2), (12, 113, iv a9), (13, 114, ba), (14, 115, .agg #[.int .u8 a0.Kind, .bool a0.Purl, iv a0.A, iv a0.B]), (15, 116, .slice ad3 p1.length cp4), (16, 117, iv a5), (17, 118, bb), (18, 119, .agg #[.int .u8 a4.Kind, .bool a4.Purl, iv a4.A, iv a4.B]), (19, 120, .bool (!((a0.Kind == a4.Kind) && ((a0.Purl == a4.Purl) && ((a0.A == a4.A) && ((a0.B == a4.B) && true)))))), (20, 121, .bool (!((a0.Kind == a4.Kind) && ((a0.Purl == a4.Purl) && ((a0.A == a4.A) && ((a0.B == a4.B) && true)))))), (21, 122, .bool (!((a0.Kind == a4.Kind) && ((a0.Purl == a4.Purl) && ((a0.A == a4.A) && ((a0.B == a4.B) && true)))))), (22, 123, undef), (23, 124, undef), (24, 125, undef), (25, 126, undef), (26, 127, undef), (27, 128, undef), (28, 129, undef), (29, 130, undef), (30, 131, undef), (31, 132, undef), (32, 133, undef), (33, 134, undef), (34, 135, .bool false), (35, 100, .bool false)]) rfl S ?_
  refine node_by (A := anc_compare_Edits_1) 36 (by kernel_rfl) (by kernel_rfl) (by kernel_rfl) (by kernel_rfl) (by kernel_rfl) [0, 1, 2, 3, 4, 5, 6, 7, 8, 9, 10, 11, 12, 13, 14, 15, 16, 17, 18, 19, 20, 21, 22, 23, 24, 25, 26, 27, 28, 29, 30, 31, 32, 33, 34, 35] (by kernel_rfl) (by decide) (by decide) (fF ?_ (fF ?_ (fF ?_ (fF ?_ (fF ?_ (fF ?_ (fF ?_ (fF ?_ (fF ?_ (fF ?_ (fF ?_ (fF ?_ (fF ?_ (fF ?_ (fF ?_ (fF ?_ (fF ?_ (fF ?_ (fF ?_ (fF ?_ (fF ?_ (fF ?_ (fF ?_ (fF ?_ (fF ?_ (fF ?_ (fF ?_ (fF ?_ (fF ?_ (fF ?_ (fF ?_ (fF ?_ (fF ?_ (fF ?_ (fF ?_ (fF ?_ (trivial))))))))))))))))))))))))))))))))))))) [(0, .slice ad1 p0.length cp2), (1, .slice ad3 p1.length cp4), (10, .slice ae am.length af), (11, .slice aj au.length ak), (12, iv a9), (13, iv a5), (14, iv aq), (100, .bool false), (106, iv a5), (107, .slice ad3 p1.length cp4), (108, iv (p1.length : Int)), (109, .bool (decide (a5 < (p1.length : Int)))), (112, .slice ad1 p0.length cp2), (113, iv a9), (114, ba), (115, .agg #[.int .u8 a0.Kind, .bool a0.Purl, iv a0.A, iv a0.B]), (116, .slice ad3 p1.length cp4), (117, iv a5), (118, bb), (119, .agg #[.int .u8 a4.Kind, .bool a4.Purl, iv a4.A, iv a4.B]), (120, .bool (!((a0.Kind == a4.Kind) && ((a0.Purl == a4.Purl) && ((a0.A == a4.A) && ((a0.B == a4.B) && true)))))), (123, undef), (124, undef), (125, undef), (126, undef), (127, undef), (128, undef), (129, undef), (130, undef), (131, undef), (132, undef), (133, undef), (134, undef)] (fin_of [none, none, none, none, none, none, none, some 35, some 5, some 6, some 7, some 8, some 11, some 12, some 13, some 14, some 15, some 16, some 17, some 18, some 19, some 22, some 23, some 24, some 25, some 26, some 27, some 28, some 29, some 30, some 31, some 32, some 33] rfl (by kernel_rfl) (by kernel_rfl)) (fun _ a w S => ?_)
  ·exact fM 0 none rfl rfl rfl rfl (.inl rfl) rfl rfl rfl
  ·exact fM 1 none rfl rfl rfl rfl (.inl rfl) rfl rfl rfl
  ·refine fJ [(102, _)] 2 [some 1] fun G a w S => ?_
   exact sLen S (wN rfl) rfl Try.underlying47 rfl rfl (lb rfl) fun a S => leafL ⟨rfl, S⟩
  ·refine fJ [(101, _), (103, _)] 3 [some 0, some 2] fun G a w S => ?_
   exact sBin _ S (wN rfl) rfl rfl rfl (bLt _ _ _ _ .i64 a9 (p0.length : Int)) rfl (lb rfl) fun a S => leafL ⟨rfl, S⟩
  ·exact fM 4 (some 3) rfl rfl rfl rfl (.inl rfl) rfl rfl rfl
  ·refine fJ [(13, _), (105, _)] 5 [none, some 4] fun G a w S => ?_
   exact sMove (iv a5) S (wG 4 true 105 rfl rfl rfl ag) (.inl rfl) rfl rfl (lb rfl) fun a S => leafL ⟨rfl, S⟩
  ·refine fJ [(1, _), (105, _)] 6 [none, some 4] fun G a w S => ?_
   exact sMove (.slice ad3 p1.length cp4) S (wG 4 true 105 rfl rfl rfl ag) (.inl rfl) rfl rfl (lb rfl) fun a S => leafL ⟨rfl, S⟩
  ·refine fJ [(107, _), (105, _)] 7 [some 6, some 4] fun G a w S => ?_
   exact sLen S (wG 4 true 105 rfl rfl rfl ag) rfl Try.underlying47 rfl rfl (lb rfl) fun a S => leafL ⟨rfl, S⟩
  ·refine fJ [(106, _), (108, _), (105, _)] 8 [some 5, some 7, some 4] fun G a w S => ?_
   exact sBin _ S (wG 4 true 105 rfl rfl rfl ag) rfl rfl rfl (bLt _ _ _ _ .i64 a5 (p1.length : Int)) rfl (lb rfl) fun a S => leafL ⟨rfl, S⟩
  ·refine fJ [(105, _), (109, _)] 9 [some 4, some 8] fun G a w S => ?_
   exact sPickT (.bool (decide (a5 < (p1.length : Int)))) S (wN rfl) rfl rfl ag rfl rfl (lb rfl) fun a S => leafL ⟨rfl, S⟩
  ·exact fM 10 (some 9) rfl rfl rfl rfl (.inl rfl) rfl rfl rfl
  ·refine fJ [(0, _), (111, _)] 11 [none, some 10] fun G a w S => ?_
   exact sMove (.slice ad1 p0.length cp2) S (wG 10 true 111 rfl rfl rfl a6) (.inl rfl) rfl rfl (lb rfl) fun a S => leafL ⟨rfl, S⟩
  ·refine fJ [(12, _), (111, _)] 12 [none, some 10] fun G a w S => ?_
   exact sMove (iv a9) S (wG 10 true 111 rfl rfl rfl a6) (.inl rfl) rfl rfl (lb rfl) fun a S => leafL ⟨rfl, S⟩
  ·refine fJ [(112, _), (113, _), (111, _)] 13 [some 11, some 12, some 10] fun G a w S => ?_
   exact sIdxV S (wG 10 true 111 rfl rfl rfl a6) rfl rfl rfl cO rfl (lb rfl) fun a S => leafL ⟨rfl, S⟩
  ·refine fJ [(114, _), (111, _)] 14 [some 13, some 10] fun G a w S => ?_
   exact sLoadVN (vq := ba) 3 [.int .u8 a0.Kind, .bool a0.Purl, iv a0.A, iv a0.B] S (wG 10 true 111 rfl rfl rfl a6) rfl rfl rfl rfl rfl rfl (lb rfl) fun a S => leafL ⟨rfl, S⟩
  ·refine fJ [(1, _), (111, _)] 15 [none, some 10] fun G a w S => ?_
   exact sMove (.slice ad3 p1.length cp4) S (wG 10 true 111 rfl rfl rfl a6) (.inl rfl) rfl rfl (lb rfl) fun a S => leafL ⟨rfl, S⟩
  ·refine fJ [(13, _), (111, _)] 16 [none, some 10] fun G a w S => ?_
   exact sMove (iv a5) S (wG 10 true 111 rfl rfl rfl a6) (.inl rfl) rfl rfl (lb rfl) fun a S => leafL ⟨rfl, S⟩
  ·refine fJ [(116, _), (117, _), (111, _)] 17 [some 15, some 16, some 10] fun G a w S => ?_
   exact sIdxV S (wG 10 true 111 rfl rfl rfl a6) rfl rfl rfl cQ rfl (lb rfl) fun a S => leafL ⟨rfl, S⟩
  ·refine fJ [(118, _), (111, _)] 18 [some 17, some 10] fun G a w S => ?_
   exact sLoadVN (vq := bb) 0 [.int .u8 a4.Kind, .bool a4.Purl, iv a4.A, iv a4.B] S (wG 10 true 111 rfl rfl rfl a6) rfl rfl rfl rfl rfl rfl (lb rfl) fun a S => leafL ⟨rfl, S⟩
  ·refine fJ [(115, _), (119, _), (111, _)] 19 [some 14, some 18, some 10] fun G a w S => ?_
   exact sBin _ S (wG 10 true 111 rfl rfl rfl a6) rfl rfl rfl (bNeV _ _ _ _ #[.int .u8 a0.Kind, .bool a0.Purl, iv a0.A, iv a0.B] #[.int .u8 a4.Kind, .bool a4.Purl, iv a4.A, iv a4.B] ((a0.Kind == a4.Kind) && ((a0.Purl == a4.Purl) && ((a0.A == a4.A) && ((a0.B == a4.B) && true)))) (by kernel_rfl) (eqlV_of (by kernel_rfl))) rfl (lb rfl) fun a S => leafL ⟨rfl, S⟩
  ·refine fJ [(111, _), (120, _)] 20 [some 10, some 19] fun G a w S => ?_
   exact sPickT (.bool (!((a0.Kind == a4.Kind) && ((a0.Purl == a4.Purl) && ((a0.A == a4.A) && ((a0.B == a4.B) && true)))))) S (wN rfl) rfl rfl a6 rfl rfl (lb rfl) fun a S => leafL ⟨rfl, S⟩
  ·exact fM 21 (some 20) rfl rfl rfl rfl (.inl rfl) rfl rfl rfl
  ·refine fJ [(14, _), (122, _)] 22 [none, some 21] fun G a w S => ?_
   exact sSk S rfl rfl rfl ac rfl rfl fun a S => leafL ⟨rfl, S⟩
  ·refine fJ [(10, _), (122, _)] 23 [none, some 21] fun G a w S => ?_
   exact sSk S rfl rfl rfl ac rfl rfl fun a S => leafL ⟨rfl, S⟩
  ·refine fJ [(12, _), (122, _)] 24 [none, some 21] fun G a w S => ?_
   exact sSk S rfl rfl rfl ac rfl rfl fun a S => leafL ⟨rfl, S⟩
  ·refine fJ [(125, _), (122, _)] 25 [some 24, some 21] fun G a w S => ?_
   exact sSk S rfl rfl rfl ac rfl rfl fun a S => leafL ⟨rfl, S⟩
  ·refine fJ [(124, _), (126, _), (122, _)] 26 [some 23, some 25, some 21] fun G a w S => ?_
   exact sSk S rfl rfl rfl ac rfl rfl fun a S => leafL ⟨rfl, S⟩
  ·refine fJ [(127, _), (122, _)] 27 [some 26, some 21] fun G a w S => ?_
   exact sSk S rfl rfl rfl ac rfl rfl fun a S => leafL ⟨rfl, S⟩
  ·refine fJ [(13, _), (122, _)] 28 [none, some 21] fun G a w S => ?_
   exact sSk S rfl rfl rfl ac rfl rfl fun a S => leafL ⟨rfl, S⟩
  ·refine fJ [(129, _), (122, _)] 29 [some 28, some 21] fun G a w S => ?_
   exact sSk S rfl rfl rfl ac rfl rfl fun a S => leafL ⟨rfl, S⟩
  ·refine fJ [(128, _), (130, _), (122, _)] 30 [some 27, some 29, some 21] fun G a w S => ?_
   exact sSk S rfl rfl rfl ac rfl rfl fun a S => leafL ⟨rfl, S⟩
  ·refine fJ [(131, _), (122, _)] 31 [some 30, some 21] fun G a w S => ?_
   exact sSk S rfl rfl rfl ac rfl rfl fun a S => leafL ⟨rfl, S⟩
  ·refine fJ [(132, _), (122, _)] 32 [some 31, some 21] fun G a w S => ?_
   exact sSk S rfl rfl rfl ac rfl rfl fun a S => leafL ⟨rfl, S⟩
  ·refine fJ [(123, _), (133, _), (122, _)] 33 [some 22, some 32, some 21] fun G a w S => ?_
   exact sSk S rfl rfl rfl ac rfl rfl fun a S => leafL ⟨rfl, S⟩
  ·refine fJ [(122, _), (134, _)] 34 [some 21, some 33] fun G a w S => ?_
   exact sPickF (.bool false) S (wN rfl) rfl rfl ac rfl rfl (lb rfl) fun a S => leafL ⟨rfl, S⟩
  ·exact fM 35 (some 34) rfl rfl rfl rfl (.inr rfl) rfl rfl rfl
  exact leafT (⟨false, Option.some.inj h, S.fix [0] [6, 7, 8] (by decide) rfl rfl rfl⟩)
 obtain ⟨aA, cS, h⟩ := bS h
 obtain ⟨ar, cT, h⟩ := bS h
 obtain ⟨bc, cU, S⟩ := pIdx (P := Try.prog) (r := r_api_Stitch) (v := .slice ad1 p0.length cp2) (xs := p0) (j := a9) 47 81 0 S Try.underlying47 rfl rfl bk
 obtain ⟨cV, S⟩ := pLoad (r := r_api_Stitch) (q := bc) (x := a0) 0 S rfl
 obtain rfl : cV = .agg #[.int .u8 a0.Kind, .bool a0.Purl, iv a0.A, iv a0.B] := S.mem.know (i := 1) (e := fRep r_api_Stitch (cV) a0) rfl
 obtain ⟨bf, cW, S⟩ := pIdx (P := Try.prog) (r := r_api_Stitch) (v := .slice ad3 p1.length cp4) (xs := p1) (j := a5) 47 81 4 S Try.underlying47 rfl rfl bl
 obtain ⟨cX, S⟩ := pLoad (r := r_api_Stitch) (q := bf) (x := a4) 0 S rfl
 obtain rfl : cX = .agg #[.int .u8 a4.Kind, .bool a4.Purl, iv a4.A, iv a4.B] := S.mem.know (i := 1) (e := fRep r_api_Stitch (cX) a4) rfl
 obtain ⟨bg, cY, S⟩ := pIdx (P := Try.prog) (r := (rL (rI .i64))) (v := .slice ae am.length af) (xs := am) (j := w64 (a9 + 1)) 98 101 8 S Try.underlying98 rfl rfl cS
 obtain ⟨dJ, S⟩ := pLoad (r := (rL (rI .i64))) (q := bg) (x := aA) 0 S rfl
 obtain ⟨aI, aJ, _, rfl, _⟩ := S.mem.know (i := 1) (e := fRep (rL (rI .i64)) (dJ) aA) rfl
 obtain ⟨bh, cZ, S⟩ := pIdx (P := Try.prog) (r := (rI .i64)) (v := .slice aI aA.length aJ) (xs := aA) (j := w64 (a5 + 1)) 101 3 1 S Try.underlying101 rfl rfl cT
 obtain ⟨d3, S⟩ := pLoad (r := (rI .i64)) (q := bh) (x := ar) 0 S rfl
 obtain rfl : d3 = iv ar := S.mem.know (i := 1) (e := fRep (rI .i64) (d3) ar) rfl
 refine sDraw (nf := []) (W := [(0, 101, iv a9), (1, 102, .slice ad1 p0.length cp2), (2, 103, iv (p0.length : Int)), (3, 104, .bool (decide (a9 < (p0.length : Int)))), (4, 105, .bool (decide (a9 < (p0.length : Int)))), (5, 106, iv a5), (6, 107, .slice ad3 p1.length cp4), (7, 108, iv (p1.length : Int)), (8, 109, .bool (decide (a5 < (p1.length : Int)))), (9, 110, .bool (decide (a5 < (p1.length : Int)))), (10, 111, .bool (decide (a5 < (p1.length : Int)))), (11, 112, .slice ad1 p0.length cp2), (12, 113, iv a9), (13, 114, bc), (14, 115, .agg #[.int .u8 a0.Kind, .bool a0.Purl, iv a0.A, iv a0.B]), (15, 116, .slice ad3 p1.length cp4), (16, 117, iv a5), (17, 118, bf), (18, 119, .agg #[.int .u8 a4.Kind, .bool a4.Purl, iv a4.A, iv a4.B]), (19, 120, .bool (!((a0.Kind == a4.Kind) && ((a0.Purl == a4.Purl) && ((a0.A == a4.A) && ((a0.B == a4.B) && true)))))), (20, 121, .bool (!((a0.Kind == a4.Kind) && ((a0.Purl == a4.Purl) && ((a0.A == a4.A) && ((a0.B == a4.B) && true)))))), (21, 122, .bool (!((a0.Kind == a4.Kind) && ((a0.Purl == a4.Purl) && ((a0.A == a4.A) && ((a0.B == a4.B) && true)))))), (22, 123, iv aq), (23, 124, .slice ae am.length af), (24, 125, iv a9), (25, 126, iv (w64 (a9 + 1))), (26, 127, bg), (27, 128, .slice aI aA.length aJ), (28, 129, iv a5), (29, 130, iv (w64 (a5 + 1))), (30, 131, bh), (31, 132, iv ar), (32, 133, iv (w64 (1 + ar))), (33, 134, .bool (aq == (w64 (1 + ar)))), (34, 135, .bool (aq == (w64 (1 + ar)))), (35, 100, .bool (aq == (w64 (1 + ar))))]) rfl S ?_
 refine node_by (A := anc_compare_Edits_1) 36 (by kernel_rfl) (by kernel_rfl) (by kernel_rfl) (by kernel_rfl) (by kernel_rfl) [0, 1, 2, 3, 4, 5, 6, 7, 8, 9, 10, 11, 12, 13, 14, 15, 16, 17, 18, 19, 20, 21, 22, 23, 24, 25, 26, 27, 28, 29, 30, 31, 32, 33, 34, 35] (by kernel_rfl) (by decide) (by decide) (fF ?_ (fF ?_ (fF ?_ (fF ?_ (fF ?_ (fF ?_ (fF ?_ (fF ?_ (fF ?_ (fF ?_ (fF ?_ (fF ?_ (fF ?_ (fF ?_ (fF ?_ (fF ?_ (fF ?_ (fF ?_ (fF ?_ (fF ?_ (fF ?_ (fF ?_ (fF ?_ (fF ?_ (fF ?_ (fF ?_ (fF ?_ (fF ?_ (fF ?_ (fF ?_ (fF ?_ (fF ?_ (fF ?_ (fF ?_ (fF ?_ (fF ?_ (trivial))))))))))))))))))))))))))))))))))))) [(0, .slice ad1 p0.length cp2), (1, .slice ad3 p1.length cp4), (10, .slice ae am.length af), (11, .slice aj au.length ak), (12, iv a9), (13, iv a5), (14, iv aq), (100, .bool (aq == (w64 (1 + ar)))), (106, iv a5), (107, .slice ad3 p1.length cp4), (108, iv (p1.length : Int)), (109, .bool (decide (a5 < (p1.length : Int)))), (112, .slice ad1 p0.length cp2), (113, iv a9), (114, bc), (115, .agg #[.int .u8 a0.Kind, .bool a0.Purl, iv a0.A, iv a0.B]), (116, .slice ad3 p1.length cp4), (117, iv a5), (118, bf), (119, .agg #[.int .u8 a4.Kind, .bool a4.Purl, iv a4.A, iv a4.B]), (120, .bool (!((a0.Kind == a4.Kind) && ((a0.Purl == a4.Purl) && ((a0.A == a4.A) && ((a0.B == a4.B) && true)))))), (123, iv aq), (124, .slice ae am.length af), (125, iv a9), (126, iv (w64 (a9 + 1))), (127, bg), (128, .slice aI aA.length aJ), (129, iv a5), (130, iv (w64 (a5 + 1))), (131, bh), (132, iv ar), (133, iv (w64 (1 + ar))), (134, .bool (aq == (w64 (1 + ar))))] (fin_of [none, none, none, none, none, none, none, some 35, some 5, some 6, some 7, some 8, some 11, some 12, some 13, some 14, some 15, some 16, some 17, some 18, some 19, some 22, some 23, some 24, some 25, some 26, some 27, some 28, some 29, some 30, some 31, some 32, some 33] rfl (by kernel_rfl) (by kernel_rfl)) (fun _ a w S => ?_)
 ·exact fM 0 none rfl rfl rfl rfl (.inl rfl) rfl rfl rfl
 ·exact fM 1 none rfl rfl rfl rfl (.inl rfl) rfl rfl rfl
 ·refine fJ [(102, _)] 2 [some 1] fun G a w S => ?_
  exact sLen S (wN rfl) rfl Try.underlying47 rfl rfl (lb rfl) fun a S => leafL ⟨rfl, S⟩
 ·refine fJ [(101, _), (103, _)] 3 [some 0, some 2] fun G a w S => ?_
  exact sBin _ S (wN rfl) rfl rfl rfl (bLt _ _ _ _ .i64 a9 (p0.length : Int)) rfl (lb rfl) fun a S => leafL ⟨rfl, S⟩
 ·exact fM 4 (some 3) rfl rfl rfl rfl (.inl rfl) rfl rfl rfl
 ·refine fJ [(13, _), (105, _)] 5 [none, some 4] fun G a w S => ?_
  exact sMove (iv a5) S (wG 4 true 105 rfl rfl rfl ag) (.inl rfl) rfl rfl (lb rfl) fun a S => leafL ⟨rfl, S⟩
 ·refine fJ [(1, _), (105, _)] 6 [none, some 4] fun G a w S => ?_
  exact sMove (.slice ad3 p1.length cp4) S (wG 4 true 105 rfl rfl rfl ag) (.inl rfl) rfl rfl (lb rfl) fun a S => leafL ⟨rfl, S⟩
 ·refine fJ [(107, _), (105, _)] 7 [some 6, some 4] fun G a w S => ?_
  exact sLen S (wG 4 true 105 rfl rfl rfl ag) rfl Try.underlying47 rfl rfl (lb rfl) fun a S => leafL ⟨rfl, S⟩
 ·refine fJ [(106, _), (108, _), (105, _)] 8 [some 5, some 7, some 4] fun G a w S => ?_
  exact sBin _ S (wG 4 true 105 rfl rfl rfl ag) rfl rfl rfl (bLt _ _ _ _ .i64 a5 (p1.length : Int)) rfl (lb rfl) fun a S => leafL ⟨rfl, S⟩
 ·refine fJ [(105, _), (109, _)] 9 [some 4, some 8] fun G a w S => ?_
  exact sPickT (.bool (decide (a5 < (p1.length : Int)))) S (wN rfl) rfl rfl ag rfl rfl (lb rfl) fun a S => leafL ⟨rfl, S⟩
 ·exact fM 10 (some 9) rfl rfl rfl rfl (.inl rfl) rfl rfl rfl
 ·refine fJ [(0, _), (111, _)] 11 [none, some 10] fun G a w S => ?_
  exact sMove (.slice ad1 p0.length cp2) S (wG 10 true 111 rfl rfl rfl a6) (.inl rfl) rfl rfl (lb rfl) fun a S => leafL ⟨rfl, S⟩
 ·refine fJ [(12, _), (111, _)] 12 [none, some 10] fun G a w S => ?_
  exact sMove (iv a9) S (wG 10 true 111 rfl rfl rfl a6) (.inl rfl) rfl rfl (lb rfl) fun a S => leafL ⟨rfl, S⟩
 ·refine fJ [(112, _), (113, _), (111, _)] 13 [some 11, some 12, some 10] fun G a w S => ?_
  exact sIdxV S (wG 10 true 111 rfl rfl rfl a6) rfl rfl rfl cU rfl (lb rfl) fun a S => leafL ⟨rfl, S⟩
 ·refine fJ [(114, _), (111, _)] 14 [some 13, some 10] fun G a w S => ?_
  exact sLoadVN (vq := bc) 9 [.int .u8 a0.Kind, .bool a0.Purl, iv a0.A, iv a0.B] S (wG 10 true 111 rfl rfl rfl a6) rfl rfl rfl rfl rfl rfl (lb rfl) fun a S => leafL ⟨rfl, S⟩
 ·refine fJ [(1, _), (111, _)] 15 [none, some 10] fun G a w S => ?_
  exact sMove (.slice ad3 p1.length cp4) S (wG 10 true 111 rfl rfl rfl a6) (.inl rfl) rfl rfl (lb rfl) fun a S => leafL ⟨rfl, S⟩
 ·refine fJ [(13, _), (111, _)] 16 [none, some 10] fun G a w S => ?_
  exact sMove (iv a5) S (wG 10 true 111 rfl rfl rfl a6) (.inl rfl) rfl rfl (lb rfl) fun a S => leafL ⟨rfl, S⟩
 ·refine fJ [(116, _), (117, _), (111, _)] 17 [some 15, some 16, some 10] fun G a w S => ?_
  exact sIdxV S (wG 10 true 111 rfl rfl rfl a6) rfl rfl rfl cW rfl (lb rfl) fun a S => leafL ⟨rfl, S⟩
 ·refine fJ [(118, _), (111, _)] 18 [some 17, some 10] fun G a w S => ?_
  exact sLoadVN (vq := bf) 6 [.int .u8 a4.Kind, .bool a4.Purl, iv a4.A, iv a4.B] S (wG 10 true 111 rfl rfl rfl a6) rfl rfl rfl rfl rfl rfl (lb rfl) fun a S => leafL ⟨rfl, S⟩
 ·refine fJ [(115, _), (119, _), (111, _)] 19 [some 14, some 18, some 10] fun G a w S => ?_
  exact sBin _ S (wG 10 true 111 rfl rfl rfl a6) rfl rfl rfl (bNeV _ _ _ _ #[.int .u8 a0.Kind, .bool a0.Purl, iv a0.A, iv a0.B] #[.int .u8 a4.Kind, .bool a4.Purl, iv a4.A, iv a4.B] ((a0.Kind == a4.Kind) && ((a0.Purl == a4.Purl) && ((a0.A == a4.A) && ((a0.B == a4.B) && true)))) (by kernel_rfl) (eqlV_of (by kernel_rfl))) rfl (lb rfl) fun a S => leafL ⟨rfl, S⟩
 ·refine fJ [(111, _), (120, _)] 20 [some 10, some 19] fun G a w S => ?_
  exact sPickT (.bool (!((a0.Kind == a4.Kind) && ((a0.Purl == a4.Purl) && ((a0.A == a4.A) && ((a0.B == a4.B) && true)))))) S (wN rfl) rfl rfl a6 rfl rfl (lb rfl) fun a S => leafL ⟨rfl, S⟩
 ·exact fM 21 (some 20) rfl rfl rfl rfl (.inl rfl) rfl rfl rfl
 ·refine fJ [(14, _), (122, _)] 22 [none, some 21] fun G a w S => ?_
  exact sMove (iv aq) S (wG 21 true 122 rfl rfl rfl ac) (.inl rfl) rfl rfl (lb rfl) fun a S => leafL ⟨rfl, S⟩
 ·refine fJ [(10, _), (122, _)] 23 [none, some 21] fun G a w S => ?_
  exact sMove (.slice ae am.length af) S (wG 21 true 122 rfl rfl rfl ac) (.inl rfl) rfl rfl (lb rfl) fun a S => leafL ⟨rfl, S⟩
 ·refine fJ [(12, _), (122, _)] 24 [none, some 21] fun G a w S => ?_
  exact sMove (iv a9) S (wG 21 true 122 rfl rfl rfl ac) (.inl rfl) rfl rfl (lb rfl) fun a S => leafL ⟨rfl, S⟩
 ·refine fJ [(125, _), (122, _)] 25 [some 24, some 21] fun G a w S => ?_
  exact sBin _ S (wG 21 true 122 rfl rfl rfl ac) rfl rfl rfl (bAdd _ _ _ _ a9 1) rfl (lb rfl) fun a S => leafL ⟨rfl, S⟩
 ·refine fJ [(124, _), (126, _), (122, _)] 26 [some 23, some 25, some 21] fun G a w S => ?_
  exact sIdxV S (wG 21 true 122 rfl rfl rfl ac) rfl rfl rfl cY rfl (lb rfl) fun a S => leafL ⟨rfl, S⟩
 ·refine fJ [(127, _), (122, _)] 27 [some 26, some 21] fun G a w S => ?_
  exact sLoadV1 (vq := bg) 3 (.slice aI aA.length aJ) S (wG 21 true 122 rfl rfl rfl ac) rfl rfl rfl rfl rfl (lb rfl) fun a S => leafL ⟨rfl, S⟩
 ·refine fJ [(13, _), (122, _)] 28 [none, some 21] fun G a w S => ?_
  exact sMove (iv a5) S (wG 21 true 122 rfl rfl rfl ac) (.inl rfl) rfl rfl (lb rfl) fun a S => leafL ⟨rfl, S⟩
 ·refine fJ [(129, _), (122, _)] 29 [some 28, some 21] fun G a w S => ?_
  exact sBin _ S (wG 21 true 122 rfl rfl rfl ac) rfl rfl rfl (bAdd _ _ _ _ a5 1) rfl (lb rfl) fun a S => leafL ⟨rfl, S⟩
 ·refine fJ [(128, _), (130, _), (122, _)] 30 [some 27, some 29, some 21] fun G a w S => ?_
  exact sIdxV S (wG 21 true 122 rfl rfl rfl ac) rfl rfl rfl cZ rfl (lb rfl) fun a S => leafL ⟨rfl, S⟩
 ·refine fJ [(131, _), (122, _)] 31 [some 30, some 21] fun G a w S => ?_
  exact sLoadV1 (vq := bh) 0 (iv ar) S (wG 21 true 122 rfl rfl rfl ac) rfl rfl rfl rfl rfl (lb rfl) fun a S => leafL ⟨rfl, S⟩
 ·refine fJ [(132, _), (122, _)] 32 [some 31, some 21] fun G a w S => ?_
  exact sBin _ S (wG 21 true 122 rfl rfl rfl ac) rfl rfl rfl (bAdd _ _ _ _ 1 ar) rfl (lb rfl) fun a S => leafL ⟨rfl, S⟩
 ·refine fJ [(123, _), (133, _), (122, _)] 33 [some 22, some 32, some 21] fun G a w S => ?_
  exact sBin _ S (wG 21 true 122 rfl rfl rfl ac) rfl rfl rfl (bEq _ _ _ _ .i64 aq (w64 (1 + ar))) rfl (lb rfl) fun a S => leafL ⟨rfl, S⟩
 ·refine fJ [(122, _), (134, _)] 34 [some 21, some 33] fun G a w S => ?_
  exact sPickT (.bool (aq == (w64 (1 + ar)))) S (wN rfl) rfl rfl ac rfl rfl (lb rfl) fun a S => leafL ⟨rfl, S⟩
 ·exact fM 35 (some 34) rfl rfl rfl rfl (.inr rfl) rfl rfl rfl
 exact leafT (⟨aq == (w64 (1 + ar)), Option.some.inj h, S.fix [0] [12, 13, 14] (by decide) rfl rfl rfl⟩)
def anc_raddleref46_Same_0 : List (List Nat) := [[], [], [0, 1], [0, 1, 2], [], [], [4, 5], [4, 5, 6], [0, 1, 2, 3, 4, 5, 6, 7]]
noncomputable def raddleref46_Same_l1 (p0 : (List api_CellStep)) (p1 : (List api_CellStep)) : Int → Option (Int ⊕ (Bool ⊕ Unit)) := fun s0 => match s0 with
 | a5 =>
  if decide (a5 < (p0.length : Int)) then
   (idxO p0 a5).bind fun a0 =>
   (idxO p1 a5).bind fun a4 =>
   if !((a0.Kind == a4.Kind) && (((a0.S.Kind == a4.S.Kind) && ((a0.S.Purl == a4.S.Purl) && ((a0.S.A == a4.S.A) && ((a0.S.B == a4.S.B) && true)))) && true)) then
    some (.inr (.inl false))
   else
    some (.inl (w64 (a5 + 1)))
  else
   some (.inr (.inr ()))
noncomputable def F_raddleref46_Same (p0 : (List api_CellStep)) (p1 : (List api_CellStep)) : Option Bool :=
 if (p0.length : Int) != (p1.length : Int) then
  some false
 else
  Option.bind (α := Unit ⊕ Bool) (
   (whileO (raddleref46_Same_l1 p0 p1) 0).bind fun z0 => match z0 with
    | .inl z =>
     some (.inr z)
    | .inr _ =>
     some (.inl ())) fun z0 => match z0 with
   | .inl _ =>
    some true
   | .inr z =>
    some z
theorem c_raddleref46_Same (E : Nat → Prop) (w0 : World) (p0 : (List api_CellStep)) (v0 : Value) (p1 : (List api_CellStep)) (v1 : Value) (r : Bool) (h : F_raddleref46_Same p0 p1 = some r) (S : St0 E [] w0 w0 [] [fRep (rL r_api_CellStep) (v0) p0, fRep (rL r_api_CellStep) (v1) p1]) :
 Calls Try.prog 29 #[v0, v1] w0 (Ret (X := Unit) E [] w0 (fun _ => .bool r) (fun _ => []) (fun _ => [])) := by
 unfold F_raddleref46_Same at h
 obtain ⟨ad1, cp2, _, rfl, _⟩ := S.know (i := 0) (e := fRep (rL r_api_CellStep) (v0) p0) rfl
 obtain ⟨ad3, cp4, _, rfl, _⟩ := S.know (i := 1) (e := fRep (rL r_api_CellStep) (v1) p1) rfl
 refine sEnter (args := [.slice ad1 p0.length cp2, .slice ad3 p1.length cp4]) 26 Try.func29 rfl rfl (by simp) S (fun a S => ?_)
 refine sSeq (fun K5 hK5 => sRegion (sN S fun a S => ?_))
 refine lT (hK5 _ _ (sSeq (fun K6 hK6 => sSeq (fun K7 hK7 => sRegion (sM S fun a S => ?_)))))
 refine sLen S (wN rfl) rfl Try.underlying48 rfl rfl (lb rfl) fun a S => ?_
 refine sM S fun a S => ?_
 refine sLen S (wN rfl) rfl Try.underlying48 rfl rfl (lb rfl) fun a S => ?_
 refine sBin _ S (wN rfl) rfl rfl rfl (bNe _ _ _ _ .i64 (p0.length : Int) (p1.length : Int)) rfl (lb rfl) fun a S => ?_
 refine lT (hK7 _ _ ?_)
 rcases iS h with ⟨hc8, h⟩ | ⟨hc8, h⟩
 ·refine sCondT S rfl hc8 ?_
  refine sSeq (fun K9 hK9 => sRegion (sN S fun a S => ?_))
  refine lT (hK9 _ _ ?_)
  obtain rfl := tS h
  exact wp_ret (rThen (sRet (.bool false) S (rsl1 rfl (rvT (t := 4) (v := .bool false) S rfl)) ⟨(), rfl, S.mem.sel [] [] (by decide) rfl rfl⟩))
 refine sCondF S rfl hc8 ?_
 refine wp_skip (leafT (hK6 _ _ ?_))
 obtain ⟨av, h, ap⟩ := bS h
 refine sCut (fun a w => .inl () = av ∧ St [] E [] w0 26 a w [] [] []) ?_ (fun a w hI => ?_)
 rotate_left
 ·obtain ⟨rfl, S⟩ := hI
  have h := ap
  try dsimp only at h
  refine sSeq (fun aw a9 => sRegion (sN S fun a S => ?_))
  refine lT (a9 _ _ ?_)
  obtain rfl := tS h
  exact wp_ret (sRet (.bool true) S (rsl1 rfl (rvT (t := 4) (v := .bool true) S rfl)) ⟨(), rfl, S.mem.sel [] [] (by decide) rfl rfl⟩)
 refine sSeq (fun ax aa => sRegion (sN S fun a S => ?_))
 refine lT (aa _ _ (wp_block ?_))
 obtain ⟨ay, hl, aq⟩ := bS h
 refine sLoop hl (fun s0 a w => match s0 with | a5 => St [] E [] w0 26 a w [(0, .slice ad1 p0.length cp2), (1, .slice ad3 p1.length cp4), (5, iv a5)] [] [fRep (rL r_api_CellStep) (.slice ad1 p0.length cp2) p0, fRep (rL r_api_CellStep) (.slice ad3 p1.length cp4) p1]) (S.fix [] [0, 1] (by decide) rfl rfl rfl) ?_
 clear hl h
 intro a5 a w c0 hI h a8
 unfold raddleref46_Same_l1 at h
 dsimp only at h hI
 have S := hI
 refine sSeq (fun az ab => sSeq (fun aA ac => sRegion (sM S fun a S => ?_)))
 refine sM S fun a S => ?_
 refine sLen S (wN rfl) rfl Try.underlying48 rfl rfl (lb rfl) fun a S => ?_
 refine sBin _ S (wN rfl) rfl rfl rfl (bLt _ _ _ _ .i64 a5 (p0.length : Int)) rfl (lb rfl) fun a S => ?_
 refine lT (ac _ _ ?_)
 rcases iS h with ⟨a6, h⟩ | ⟨a6, h⟩
 rotate_left
 ·refine sCondF S rfl a6 ?_
  obtain rfl := tS h
  obtain rfl := a8 _ rfl
  have h := aq
  try dsimp only at h
  exact wp_exit (xThen (xThen (xHit (leafT (⟨Option.some.inj h, S.fix [] [] (by decide) rfl rfl rfl⟩)))))
 refine sCondT S rfl a6 ?_
 refine wp_skip (leafT (ab _ _ ?_))
 refine sSeq (fun aC ae => wp_block ?_)
 refine sSeq (fun aG af => ?_)
 obtain ⟨a0, ag, h⟩ := bS h
 obtain ⟨a4, ah, h⟩ := bS h
 obtain ⟨ai, aj, S⟩ := pIdx (P := Try.prog) (r := r_api_CellStep) (v := .slice ad1 p0.length cp2) (xs := p0) (j := a5) 48 83 0 S Try.underlying48 rfl rfl ag
 obtain ⟨ar, S⟩ := pLoad (r := r_api_CellStep) (q := ai) (x := a0) 0 S rfl
 obtain rfl : ar = .agg #[.int .u8 a0.Kind, .int .u8 a0.S.Kind, .bool a0.S.Purl, iv a0.S.A, iv a0.S.B] := S.mem.know (i := 1) (e := fRep r_api_CellStep (ar) a0) rfl
 obtain ⟨ak, am, S⟩ := pIdx (P := Try.prog) (r := r_api_CellStep) (v := .slice ad3 p1.length cp4) (xs := p1) (j := a5) 48 83 4 S Try.underlying48 rfl rfl ah
 obtain ⟨au, S⟩ := pLoad (r := r_api_CellStep) (q := ak) (x := a4) 0 S rfl
 obtain rfl : au = .agg #[.int .u8 a4.Kind, .int .u8 a4.S.Kind, .bool a4.S.Purl, iv a4.S.A, iv a4.S.B] := S.mem.know (i := 1) (e := fRep r_api_CellStep (au) a4) rfl
 refine sDraw (nf := []) (W := [(0, 17, .slice ad1 p0.length cp2), (1, 18, iv a5), (2, 19, ai), (3, 20, .agg #[.int .u8 a0.Kind, .int .u8 a0.S.Kind, .bool a0.S.Purl, iv a0.S.A, iv a0.S.B]), (4, 21, .slice ad3 p1.length cp4), (5, 22, iv a5), (6, 23, ak), (7, 24, .agg #[.int .u8 a4.Kind, .int .u8 a4.S.Kind, .bool a4.S.Purl, iv a4.S.A, iv a4.S.B]), (8, 25, .bool (!((a0.Kind == a4.Kind) && (((a0.S.Kind == a4.S.Kind) && ((a0.S.Purl == a4.S.Purl) && ((a0.S.A == a4.S.A) && ((a0.S.B == a4.S.B) && true)))) && true))))]) rfl S ?_
 refine node_by (A := anc_raddleref46_Same_0) 9 (by kernel_rfl) (by kernel_rfl) (by kernel_rfl) (by kernel_rfl) (by kernel_rfl) [0, 1, 2, 3, 4, 5, 6, 7, 8] (by kernel_rfl) (by decide) (by decide) (fF ?_ (fF ?_ (fF ?_ (fF ?_ (fF ?_ (fF ?_ (fF ?_ (fF ?_ (fF ?_ (trivial)))))))))) [(0, .slice ad1 p0.length cp2), (1, .slice ad3 p1.length cp4), (5, iv a5), (25, .bool (!((a0.Kind == a4.Kind) && (((a0.S.Kind == a4.S.Kind) && ((a0.S.Purl == a4.S.Purl) && ((a0.S.A == a4.S.A) && ((a0.S.B == a4.S.B) && true)))) && true))))] (fin_of [none, none, none, some 8] rfl (by kernel_rfl) (by kernel_rfl)) (fun _ a w S => ?_)
 ·exact fM 0 none rfl rfl rfl rfl (.inl rfl) rfl rfl rfl
 ·exact fM 1 none rfl rfl rfl rfl (.inl rfl) rfl rfl rfl
 ·refine fJ [(17, _), (18, _)] 2 [some 0, some 1] fun G a w S => ?_
  exact sIdxV S (wN rfl) rfl rfl rfl aj rfl (lb rfl) fun a S => leafL ⟨rfl, S⟩
 ·refine fJ [(19, _)] 3 [some 2] fun G a w S => ?_
  exact sLoadVN (vq := ai) 3 [.int .u8 a0.Kind, .int .u8 a0.S.Kind, .bool a0.S.Purl, iv a0.S.A, iv a0.S.B] S (wN rfl) rfl rfl rfl rfl rfl rfl (lb rfl) fun a S => leafL ⟨rfl, S⟩
 ·exact fM 4 none rfl rfl rfl rfl (.inl rfl) rfl rfl rfl
 ·exact fM 5 none rfl rfl rfl rfl (.inl rfl) rfl rfl rfl
 ·refine fJ [(21, _), (22, _)] 6 [some 4, some 5] fun G a w S => ?_
  exact sIdxV S (wN rfl) rfl rfl rfl am rfl (lb rfl) fun a S => leafL ⟨rfl, S⟩
 ·refine fJ [(23, _)] 7 [some 6] fun G a w S => ?_
  exact sLoadVN (vq := ak) 0 [.int .u8 a4.Kind, .int .u8 a4.S.Kind, .bool a4.S.Purl, iv a4.S.A, iv a4.S.B] S (wN rfl) rfl rfl rfl rfl rfl rfl (lb rfl) fun a S => leafL ⟨rfl, S⟩
 ·refine fJ [(20, _), (24, _)] 8 [some 3, some 7] fun G a w S => ?_
  exact sBin _ S (wN rfl) rfl rfl rfl (bNeV _ _ _ _ #[.int .u8 a0.Kind, .int .u8 a0.S.Kind, .bool a0.S.Purl, iv a0.S.A, iv a0.S.B] #[.int .u8 a4.Kind, .int .u8 a4.S.Kind, .bool a4.S.Purl, iv a4.S.A, iv a4.S.B] ((a0.Kind == a4.Kind) && (((a0.S.Kind == a4.S.Kind) && ((a0.S.Purl == a4.S.Purl) && ((a0.S.A == a4.S.A) && ((a0.S.B == a4.S.B) && true)))) && true)) (by kernel_rfl) (eqlV_of (by kernel_rfl))) rfl (lb rfl) fun a S => leafL ⟨rfl, S⟩
 refine leafT (af _ _ ?_)
 rcases iS h with ⟨a7, h⟩ | ⟨a7, h⟩
 rotate_left
 ·refine sCondF S rfl a7 ?_
  refine wp_skip (leafB (leafT (ae _ _ ?_)))
  refine sRegion (sM S fun a S => ?_)
  refine sBin _ S (wN rfl) rfl rfl rfl (bAdd _ _ _ _ a5 1) rfl (lb rfl) fun a S => ?_
  refine sN S fun a S => ?_
  exact lT (⟨w64 (a5 + 1), (Option.some.inj h).symm, (S.fix [] [6, 7] (by decide) rfl rfl rfl)⟩)
 refine sCondT S rfl a7 ?_
 refine sSeq (fun aH ao => sRegion (sN S fun a S => ?_))
 refine lT (ao _ _ ?_)
 obtain rfl := tS h
 obtain rfl := a8 _ rfl
 have h := aq
 try dsimp only at h
 obtain rfl := tS h
 have h := ap
 try dsimp only at h
 obtain rfl := tS h
 exact wp_ret (rBlock (rThen (rThen (rBlock (rThen (sRet (.bool false) S (rsl1 rfl (rvT (t := 4) (v := .bool false) S rfl)) ⟨(), rfl, S.mem.sel [] [] (by decide) rfl rfl⟩))))))
end Go.Proofs.Ytffikfajljbmnaa
