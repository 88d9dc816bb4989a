/- CompareLeast: walks, tables, laws. -/
import Derived.Test.YtffikfajljbmnaaProg
import Derived.Test.YtffikfajljbmnaaRows
import Derived.Test.YtffikfajljbmnaaMCompareLeast3
set_option linter.unusedVariables false
set_option linter.unusedSimpArgs false
set_option maxHeartbeats 4000000
set_option maxRecDepth 100000
namespace Go.Proofs.Ytffikfajljbmnaa
open Go.RowKit
def anc_compare_table_api_Row__s0_0 : List (List Nat) := [[], [], [0, 1], [0, 1, 2], [], [], [], [5, 6], [5, 6, 7], [], [9], [5, 6, 7, 8, 9, 10], [5, 6, 7, 8, 9, 10, 11], [], [], [], [14, 15], [14, 15, 16], [13, 14, 15, 16, 17], [5, 6, 7, 8, 9, 10, 11, 12, 13, 14, 15, 16, 17, 18], [0, 1, 2, 3, 4, 5, 6, 7, 8, 9, 10, 11, 12, 13, 14, 15, 16, 17, 18, 19], [0, 1, 2, 3, 4, 5, 6, 7, 8, 9, 10, 11, 12, 13, 14, 15, 16, 17, 18, 19, 20]]
def anc_compare_table_api_Row__s0_1 : List (List Nat) := [[], [], [0, 1], [0, 1, 2], [], [], [], [6], [5, 6, 7], [5, 6, 7, 8], [], [5, 6, 7, 8, 9, 10], [5, 6, 7, 8, 9, 10, 11], [], [], [], [14, 15], [14, 15, 16], [13, 14, 15, 16, 17], [5, 6, 7, 8, 9, 10, 11, 12, 13, 14, 15, 16, 17, 18], [0, 1, 2, 3, 4, 5, 6, 7, 8, 9, 10, 11, 12, 13, 14, 15, 16, 17, 18, 19], [0, 1, 2, 3, 4, 5, 6, 7, 8, 9, 10, 11, 12, 13, 14, 15, 16, 17, 18, 19, 20]]
def anc_compare_table_api_Row__s0_2 : List (List Nat) := [[], [], [0, 1], [0, 1, 2], [], [], [], [6], [5, 6, 7], [5, 6, 7, 8], [], [5, 6, 7, 8, 9, 10], [5, 6, 7, 8, 9, 10, 11], [], [], [], [14, 15], [14, 15, 16], [13, 14, 15, 16, 17], [5, 6, 7, 8, 9, 10, 11, 12, 13, 14, 15, 16, 17, 18], [], [], [20, 21], [20, 21, 22], [], [24], [20, 21, 22, 23, 24, 25], [20, 21, 22, 23, 24, 25, 26], [], [], [], [29, 30], [29, 30, 31], [13, 14, 15, 16, 17, 18, 28, 29, 30, 31, 32], [13, 14, 15, 16, 17, 18, 20, 21, 22, 23, 24, 25, 26, 27, 28, 29, 30, 31, 32, 33], [], [], [36], [35, 36, 37], [35, 36, 37, 38], [], [40], [35, 36, 37, 38, 39, 40, 41], [35, 36, 37, 38, 39, 40, 41, 42], [], [], [], [45, 46], [45, 46, 47], [], [], [49, 50], [49, 50, 51], [13, 14, 15, 16, 17, 18, 28, 29, 30, 31, 32, 33, 44, 45, 46, 47, 48, 49, 50, 51, 52], [13, 14, 15, 16, 17, 18, 28, 29, 30, 31, 32, 33, 35, 36, 37, 38, 39, 40, 41, 42, 43, 44, 45, 46, 47, 48, 49, 50, 51, 52, 53], [5, 6, 7, 8, 9, 10, 11, 12, 13, 14, 15, 16, 17, 18, 19, 20, 21, 22, 23, 24, 25, 26, 27, 28, 29, 30, 31, 32, 33, 34, 35, 36, 37, 38, 39, 40, 41, 42, 43, 44, 45, 46, 47, 48, 49, 50, 51, 52, 53, 54], [0, 1, 2, 3, 4, 5, 6, 7, 8, 9, 10, 11, 12, 13, 14, 15, 16, 17, 18, 19, 20, 21, 22, 23, 24, 25, 26, 27, 28, 29, 30, 31, 32, 33, 34, 35, 36, 37, 38, 39, 40, 41, 42, 43, 44, 45, 46, 47, 48, 49, 50, 51, 52, 53, 54, 55], [0, 1, 2, 3, 4, 5, 6, 7, 8, 9, 10, 11, 12, 13, 14, 15, 16, 17, 18, 19, 20, 21, 22, 23, 24, 25, 26, 27, 28, 29, 30, 31, 32, 33, 34, 35, 36, 37, 38, 39, 40, 41, 42, 43, 44, 45, 46, 47, 48, 49, 50, 51, 52, 53, 54, 55, 56]]
noncomputable def compare_table_api_Row__s0_l1 (a5 : Int) (p0 : (List api_Row)) (p1 : (List api_Row)) (ao : List (List Int)) : (Int × List Int) → Option ((Int × List Int) ⊕ List Int) := fun s0 => match s0 with
 | (a0, a4) =>
  if decide (0 ≤ a0) then
   Option.bind (α := List Int) (
    Option.bind (α := Bool) (
     if a5 == (p0.length : Int) then
      some (a0 == (p1.length : Int))
     else
      some false) fun ap =>
    if ap then
     some a4
    else
     if a5 == (p0.length : Int) then
      (idxO a4 (w64 (a0 + 1))).bind fun aq =>
      (idxO p1 a0).bind fun ar =>
      (F_compare_Charts_1 ar).bind fun au =>
      (idxO a4 a0).bind fun az =>
      (setO a4 a0 (w64 (aq + au))).bind fun av =>
      some av
     else
      if a0 == (p1.length : Int) then
       (idxO ao (w64 (a5 + 1))).bind fun a9 =>
       (idxO a9 a0).bind fun aa =>
       (idxO p0 a5).bind fun ab =>
       (F_compare_Charts_1 ab).bind fun ac =>
       (idxO a4 a0).bind fun aw =>
       (setO a4 a0 (w64 (aa + ac))).bind fun ae =>
       some ae
      else
       (idxO ao (w64 (a5 + 1))).bind fun a6 =>
       (idxO a6 a0).bind fun af =>
       (idxO p0 a5).bind fun a7 =>
       (F_compare_Charts_1 a7).bind fun ag =>
       (idxO a4 (w64 (a0 + 1))).bind fun ah =>
       (idxO p1 a0).bind fun a8 =>
       (F_compare_Charts_1 a8).bind fun ai =>
       (idxO a6 (w64 (a0 + 1))).bind fun aj =>
       (F_compare_Charts_2 a7 a8).bind fun ak =>
       (idxO a4 a0).bind fun ax =>
       (setO a4 a0 (min3 (w64 (af + ag)) (w64 (ah + ai)) (w64 (aj + ak)))).bind fun am =>
       some am) fun ay =>
   some (.inl (w64 (a0 - 1), ay))
  else
   some (.inr a4)
noncomputable def compare_table_api_Row__s0_l2 (p1 : (List api_Row)) (p0 : (List api_Row)) : (List (List Int) × Int) → Option ((List (List Int) × Int) ⊕ List (List Int)) := fun s0 => match s0 with
 | (a4, a0) =>
  if decide (0 ≤ a0) then
   Option.bind (α := List Int) (
    (makeO (w64 ((p1.length : Int) + 1)) (0 : Int)).bind fun a5 =>
    (idxO a4 a0).bind fun a8 =>
    (whileO (compare_table_api_Row__s0_l1 a0 p0 p1 a4) ((p1.length : Int), a5)).bind fun a6 =>
     some a6) fun a7 =>
   some (.inl ((a4.set (a0).toNat a7), w64 (a0 - 1)))
  else
   some (.inr a4)
noncomputable def F_compare_table_api_Row__s0 (p0 : (List api_Row)) (p1 : (List api_Row)) : Option (List (List Int)) :=
 (makeO (w64 ((p0.length : Int) + 1)) ([] : (List Int))).bind fun m9 =>
 Option.bind (α := List (List Int)) (
  (whileO (compare_table_api_Row__s0_l2 p1 p0) (m9, (p0.length : Int))).bind fun a0 =>
   some a0) fun a4 =>
 some a4
def c_compare_table_api_Row__s0_val (r : (List (List Int))) (x : Value) : Value := x
def c_compare_table_api_Row__s0_D (r : (List (List Int))) (x : Value) : List Fact := [fRep (rL (rL (rI .i64))) x r]
theorem c_compare_table_api_Row__s0 (E : Nat → Prop) (w0 : World) (p0 : (List api_Row)) (v0 : Value) (p1 : (List api_Row)) (v1 : Value) (r : (List (List Int))) (h : F_compare_table_api_Row__s0 p0 p1 = some r) (S : St0 E [] w0 w0 [] [fRep (rL r_api_Row) (v0) p0, fRep (rL r_api_Row) (v1) p1]) :
 Calls Try.prog 51 #[v0, v1, .func (.func 52) #[] #[], .func (.func 53) #[] #[]] w0 (Ret (X := Value) E [] w0 (c_compare_table_api_Row__s0_val r) (fun _ => []) (c_compare_table_api_Row__s0_D r)) := by
 unfold F_compare_table_api_Row__s0 at h
 obtain ⟨aI, aJ, _, rfl, _⟩ := S.know (i := 0) (e := fRep (rL r_api_Row) (v0) p0) rfl
 obtain ⟨aG, aH, _, rfl, _⟩ := S.know (i := 1) (e := fRep (rL r_api_Row) (v1) p1) rfl
 refine sEnter (args := [.slice aI p0.length aJ, .slice aG p1.length aH, .func (.func 52) #[] #[], .func (.func 53) #[] #[]]) 156 Try.func51 rfl rfl (by simp) S (fun a S => ?_)
 refine sSeq (fun K5 dY => sRegion (sN S fun a S => ?_))
 refine lT (dY _ _ (sSeq (fun K6 dZ => sRegion (sM S fun a S => ?_))))
 refine sLen S (wN rfl) rfl Try.underlying40 rfl rfl (lb rfl) fun a S => ?_
 refine sBin _ S (wN rfl) rfl rfl rfl (bAdd _ _ _ _ (p0.length : Int) 1) rfl (lb rfl) fun a S => ?_
 obtain ⟨m9, d7, h⟩ := bS h
 refine sMake (r := (rL (rI .i64))) (m := w64 ((p0.length : Int) + 1)) (xs := m9) (.slice none 0 0) ([] : (List Int)) 24 S (wN rfl) rfl Try.underlying98 rfl rfl (by decide) (fun E w => rL_nil _ E w) rfl rfl d7 rfl (lb rfl) fun a w ab ac S => ?_
 refine sN S fun a S => ?_
 refine lT (dZ _ _ ?_)
 obtain ⟨e5, h, e6⟩ := bS h
 refine sCut (fun a w => ∃ bB, bB = e5 ∧ St [] E [] w0 156 a w [(9, .slice ab bB.length ac)] [eRow (rL (rI .i64)) 101 (.slice ab bB.length ac) bB] []) ?_ (fun a w hI => ?_)
 rotate_left
 ·obtain ⟨bB, rfl, S⟩ := hI
  have h := e6
  try dsimp only at h
  refine sSeq (fun e7 cD => sRegion (sM S fun a S => ?_))
  refine sN S fun a S => ?_
  refine lT (cD _ _ ?_)
  obtain rfl := tS h
  have S := S.shutR (r := (rL (rI .i64))) (T := 101) (v := .slice ab bB.length ac) (xs := bB) 0 rfl
  exact wp_ret (sRet (.slice ab bB.length ac) S (rsl1 rfl (rvT (t := 8) (v := .slice ab bB.length ac) S rfl)) ⟨(.slice ab bB.length ac), rfl, S.mem.sel [] [0] (by decide) rfl rfl⟩)
 refine sSeq (fun en d8 => sRegion (sM S fun a S => ?_))
 refine sLen S (wN rfl) rfl Try.underlying40 rfl rfl (lb rfl) fun a S => ?_
 refine sN S fun a S => ?_
 refine lT (d8 _ _ (wp_block ?_))
 obtain ⟨eo, hl, e8⟩ := bS h
 refine sLoop hl (fun s0 a w => match s0 with | (a7, a8) => St [] E [] w0 156 a w [(0, .slice aI p0.length aJ), (1, .slice aG p1.length aH), (2, .func (.func 52) #[] #[]), (3, .func (.func 53) #[] #[]), (9, .slice ab a7.length ac), (10, iv a8)] [eRow (rL (rI .i64)) 101 (.slice ab a7.length ac) a7] [fRep (rL r_api_Row) (.slice aI p0.length aJ) p0, fRep (rL r_api_Row) (.slice aG p1.length aH) p1]) (S.fix [0] [0, 1] (by decide) rfl rfl rfl) ?_
 clear hl h
 intro s0 a w c0 hI h d9
 obtain ⟨a7, a8⟩ := s0
 unfold compare_table_api_Row__s0_l2 at h
 dsimp only at h hI
 have S := hI
 refine sSeq (fun ep da => sSeq (fun eq db => sRegion (sM S fun a S => ?_)))
 refine sBin _ S (wN rfl) rfl rfl rfl (bGe _ _ _ _ .i64 a8 0) rfl (lb rfl) fun a S => ?_
 refine lT (db _ _ ?_)
 rcases iS h with ⟨co, h⟩ | ⟨co, h⟩
 rotate_left
 ·refine sCondF S rfl co ?_
  obtain rfl := tS h
  obtain rfl := d9 _ rfl
  have h := e8
  try dsimp only at h
  exact wp_exit (xThen (xThen (xHit (leafT (⟨a7, Option.some.inj h, S.fix [0] [] (by decide) rfl rfl rfl⟩)))))
 refine sCondT S rfl co ?_
 refine wp_skip (leafT (da _ _ ?_))
 obtain ⟨e9, h, ea⟩ := bS h
 refine sCut (fun a w => ∃ bm, bm = e9 ∧ ∃ bn, ∃ bp, St [] E [] w0 156 a w [(0, .slice aI p0.length aJ), (1, .slice aG p1.length aH), (2, .func (.func 52) #[] #[]), (3, .func (.func 53) #[] #[]), (9, .slice ab a7.length ac), (10, iv a8)] [eHole (rL (rI .i64)) 101 (.slice ab a7.length ac) a7 ((a8).toNat * (rL (rI .i64)).sz + 0) (.slice bn bm.length bp), eRow (rI .i64) 3 (.slice bn bm.length bp) bm] [fRep (rL r_api_Row) (.slice aI p0.length aJ) p0, fRep (rL r_api_Row) (.slice aG p1.length aH) p1]) ?_ (fun a w hI => ?_)
 rotate_left
 ·obtain ⟨bm, rfl, bn, bp, S⟩ := hI
  have h := ea
  try dsimp only at h
  refine sRegion (sM S fun a S => ?_)
  refine sBin _ S (wN rfl) rfl rfl rfl (bSub _ _ _ _ a8 1) rfl (lb rfl) fun a S => ?_
  refine sN S fun a S => ?_
  have S := S.shutR (r := (rI .i64)) (T := 3) (v := .slice bn bm.length bp) (xs := bm) 1 rfl
  have S := S.closeHN (r := (rL (rI .i64))) (T := 101) (xs := a7) (y := bm) (v := .slice ab a7.length ac) (u := .slice bn bm.length bp) (j := a8) 0 rfl (S.mem.know (i := 0) (e := fRep (rL (rI .i64)) (.slice bn bm.length bp) bm) rfl) rfl (scal_L _)
  rw [set_v a7 (a8).toNat bm ab ac] at S
  exact lT (⟨((a7.set (a8).toNat bm), w64 (a8 - 1)), (Option.some.inj h).symm, (S.fix [0] [1, 2] (by decide) rfl rfl rfl)⟩)
 refine wp_block ?_
 refine sSeq (fun er dc => sRegion (sM S fun a S => ?_))
 refine sM S fun a S => ?_
 refine sM S fun a S => ?_
 refine sLen S (wN rfl) rfl Try.underlying40 rfl rfl (lb rfl) fun a S => ?_
 refine sBin _ S (wN rfl) rfl rfl rfl (bAdd _ _ _ _ (p1.length : Int) 1) rfl (lb rfl) fun a S => ?_
 obtain ⟨dS, de, h⟩ := bS h
 refine sMake (r := (rI .i64)) (m := w64 ((p1.length : Int) + 1)) (xs := dS) (iv 0) (0 : Int) 8 S (wN rfl) rfl Try.underlying101 rfl rfl (by decide) (fun _ _ => rfl) rfl rfl de rfl (lb rfl) fun a w a5 a6 S => ?_
 obtain ⟨eb, az, h⟩ := bS h
 obtain ⟨ec, df, dg⟩ := pIdxR (P := Try.prog) (r := (rL (rI .i64))) (T := 101) (v := .slice ab a7.length ac) (xs := a7) (j := a8) 98 101 1 S Try.underlying98 rfl rfl az
 refine sIdxV S (wN rfl) rfl rfl rfl df rfl (lb rfl) fun a S => ?_
 refine sStoreHE (r := (rL (rI .i64))) (T := 101) (xs := a7) (x := eb) (v := .slice ab a7.length ac) (vq := ec) (u := .slice a5 dS.length a6) (j := a8) 1 S dg (wN rfl) rfl rfl rfl rfl az rfl rfl rfl rfl fun a w S => ?_
 refine lT (dc _ _ (sSeq (fun es dh => sRegion (sM S fun a S => ?_))))
 refine sLen S (wN rfl) rfl Try.underlying40 rfl rfl (lb rfl) fun a S => ?_
 refine sN S fun a S => ?_
 refine lT (dh _ _ (wp_block ?_))
 obtain ⟨et, hl, ed⟩ := bS h
 refine sLoop hl (fun s0 a w => match s0 with | (a9, aa) => St [] E [] w0 156 a w [(0, .slice aI p0.length aJ), (1, .slice aG p1.length aH), (2, .func (.func 52) #[] #[]), (3, .func (.func 53) #[] #[]), (9, .slice ab a7.length ac), (10, iv a8), (11, iv a9)] [eHole (rL (rI .i64)) 101 (.slice ab a7.length ac) a7 ((a8).toNat * (rL (rI .i64)).sz + 0) (.slice a5 aa.length a6), eRow (rI .i64) 3 (.slice a5 aa.length a6) aa] [fRep (rL r_api_Row) (.slice aI p0.length aJ) p0, fRep (rL r_api_Row) (.slice aG p1.length aH) p1]) (S.fix [0, 1] [0, 1] (by decide) rfl rfl rfl) ?_
 clear hl h
 intro s0 a w c0 hI h di
 obtain ⟨a9, aa⟩ := s0
 unfold compare_table_api_Row__s0_l1 at h
 dsimp only at h hI
 have S := hI
 refine sSeq (fun eu dj => sSeq (fun ev dk => sRegion (sM S fun a S => ?_)))
 refine sBin _ S (wN rfl) rfl rfl rfl (bGe _ _ _ _ .i64 a9 0) rfl (lb rfl) fun a S => ?_
 refine lT (dk _ _ ?_)
 rcases iS h with ⟨cp, h⟩ | ⟨cp, h⟩
 rotate_left
 ·refine sCondF S rfl cp ?_
  obtain rfl := tS h
  obtain rfl := di _ rfl
  have h := ed
  try dsimp only at h
  exact wp_exit (xThen (xThen (xHit (leafB (leafT (⟨aa, Option.some.inj h, a5, a6, S.fix [0, 1] [0, 1] (by decide) rfl rfl rfl⟩))))))
 refine sCondT S rfl cp ?_
 refine wp_skip (leafT (dj _ _ ?_))
 obtain ⟨ee, h, ef⟩ := bS h
 refine sCut (fun a w => ∃ cC, cC = ee ∧ St [] E [] w0 156 a w [(0, .slice aI p0.length aJ), (1, .slice aG p1.length aH), (2, .func (.func 52) #[] #[]), (3, .func (.func 53) #[] #[]), (9, .slice ab a7.length ac), (10, iv a8), (11, iv a9)] [eHole (rL (rI .i64)) 101 (.slice ab a7.length ac) a7 ((a8).toNat * (rL (rI .i64)).sz + 0) (.slice a5 cC.length a6), eRow (rI .i64) 3 (.slice a5 cC.length a6) cC] [fRep (rL r_api_Row) (.slice aI p0.length aJ) p0, fRep (rL r_api_Row) (.slice aG p1.length aH) p1]) ?_ (fun a w hI => ?_)
 rotate_left
 ·obtain ⟨cC, rfl, S⟩ := hI
  have h := ef
  try dsimp only at h
  refine sRegion (sM S fun a S => ?_)
  refine sBin _ S (wN rfl) rfl rfl rfl (bSub _ _ _ _ a9 1) rfl (lb rfl) fun a S => ?_
  refine sN S fun a S => ?_
  exact lT (⟨(w64 (a9 - 1), cC), (Option.some.inj h).symm, (S.fix [0, 1] [0, 1] (by decide) rfl rfl rfl)⟩)
 refine wp_block ?_
 refine wp_block ?_
 obtain ⟨eh, h, ei⟩ := bS h
 refine sCut (fun a w => ∃ dl, dl = eh ∧ St [] E [] w0 156 a w [(0, .slice aI p0.length aJ), (1, .slice aG p1.length aH), (2, .func (.func 52) #[] #[]), (3, .func (.func 53) #[] #[]), (9, .slice ab a7.length ac), (10, iv a8), (11, iv a9), (92, .bool dl)] [eHole (rL (rI .i64)) 101 (.slice ab a7.length ac) a7 ((a8).toNat * (rL (rI .i64)).sz + 0) (.slice a5 aa.length a6), eRow (rI .i64) 3 (.slice a5 aa.length a6) aa] [fRep (rL r_api_Row) (.slice aI p0.length aJ) p0, fRep (rL r_api_Row) (.slice aG p1.length aH) p1]) ?_ (fun a w hI => ?_)
 ·refine sRegion (sM S fun a S => ?_)
  refine sM S fun a S => ?_
  refine sLen S (wN rfl) rfl Try.underlying40 rfl rfl (lb rfl) fun a S => ?_
  refine sBin _ S (wN rfl) rfl rfl rfl (bEq _ _ _ _ .i64 a8 (p0.length : Int)) rfl (lb rfl) fun a S => ?_
  refine sM S fun a S => ?_
  rcases iS h with ⟨aO, h⟩ | ⟨aO, h⟩
  rotate_left
  ·refine sSkN 4 4 true 97 S rfl rfl aO rfl fun a S => ?_
   refine sPickF (.bool false) S (wN rfl) rfl rfl aO rfl rfl (lb rfl) fun a S => ?_
   refine sN S fun a S => ?_
   exact lT (⟨false, Option.some.inj h, S.fix [0, 1] [0, 1] (by decide) rfl rfl rfl⟩)
  refine sMove (iv a9) S (wG 4 true 97 rfl rfl rfl aO) (.inl rfl) rfl rfl (lb rfl) fun a S => ?_
  refine sMove (.slice aG p1.length aH) S (wG 4 true 97 rfl rfl rfl aO) (.inl rfl) rfl rfl (lb rfl) fun a S => ?_
  refine sLen S (wG 4 true 97 rfl rfl rfl aO) rfl Try.underlying40 rfl rfl (lb rfl) fun a S => ?_
  refine sBin _ S (wG 4 true 97 rfl rfl rfl aO) rfl rfl rfl (bEq _ _ _ _ .i64 a9 (p1.length : Int)) rfl (lb rfl) fun a S => ?_
  refine sPickT (.bool (a9 == (p1.length : Int))) S (wN rfl) rfl rfl aO rfl rfl (lb rfl) fun a S => ?_
  refine sN S fun a S => ?_
  exact lT (⟨a9 == (p1.length : Int), Option.some.inj h, S.fix [0, 1] [0, 1] (by decide) rfl rfl rfl⟩)
 obtain ⟨dl, rfl, S⟩ := hI
 have h := ei
 try dsimp only at h
 rcases iS h with ⟨cq, h⟩ | ⟨cq, h⟩
 ·refine sCondT S rfl cq ?_
  exact wp_skip (leafB (leafB (leafT (⟨aa, Option.some.inj h, S.fix [0, 1] [0, 1] (by decide) rfl rfl rfl⟩))))
 refine sCondF S rfl cq ?_
 refine sSeq (fun ew dm => sRegion (sM S fun a S => ?_))
 refine sM S fun a S => ?_
 refine sLen S (wN rfl) rfl Try.underlying40 rfl rfl (lb rfl) fun a S => ?_
 refine sBin _ S (wN rfl) rfl rfl rfl (bEq _ _ _ _ .i64 a8 (p0.length : Int)) rfl (lb rfl) fun a S => ?_
 refine sN S fun a S => ?_
 refine lT (dm _ _ ?_)
 rcases iS h with ⟨cr, h⟩ | ⟨cr, h⟩
 ·refine sCondT S rfl cr ?_
  obtain ⟨bH, cE, h⟩ := bS h
  obtain ⟨bu, dn, h⟩ := bS h
  obtain ⟨bI, dp, h⟩ := bS h
  obtain ⟨ex, dr, h⟩ := bS h
  obtain ⟨dU, cF, h⟩ := bS h
  obtain ⟨dV, dt, du⟩ := pIdxH (P := Try.prog) (r := (rL (rI .i64))) (T := 101) (v := .slice ab a7.length ac) (xs := a7) (j := a8) 98 101 0 S Try.underlying98 rfl rfl az
  obtain ⟨dW, dv, dw⟩ := pIdxH (P := Try.prog) (r := (rL (rI .i64))) (T := 101) (v := .slice ab a7.length ac) (xs := a7) (j := a8) 98 101 0 S Try.underlying98 rfl rfl az
  obtain ⟨dX, dx, dy⟩ := pIdxR (P := Try.prog) (r := (rI .i64)) (T := 3) (v := .slice a5 aa.length a6) (xs := aa) (j := w64 (a9 + 1)) 101 3 1 S Try.underlying101 rfl rfl cE
  obtain ⟨dz, dA, S⟩ := pIdx (P := Try.prog) (r := r_api_Row) (v := .slice aG p1.length aH) (xs := p1) (j := a9) 40 87 1 S Try.underlying40 rfl rfl dn
  obtain ⟨ej, S⟩ := pLoad (r := r_api_Row) (q := dz) (x := bu) 0 S rfl
  obtain ⟨dB, rfl, bJ⟩ := S.mem.know (i := 1) (e := fRep r_api_Row (ej) bu) rfl
  have S := S.learn (fRep (rL r_api_Stitch) dB bu.Cells) bJ
  obtain ⟨bj, bk, _, rfl, _⟩ := bJ
  obtain ⟨ct, cG, cH⟩ := pIdxR (P := Try.prog) (r := (rI .i64)) (T := 3) (v := .slice a5 aa.length a6) (xs := aa) (j := a9) 101 3 1 S Try.underlying101 rfl rfl dr
  refine sDraw (nf := [21]) (W := [(0, 108, .slice ab a7.length ac), (1, 109, iv a8), (2, 110, dV), (3, 111, .slice a5 aa.length a6), (4, 112, iv a9), (5, 113, .slice ab a7.length ac), (6, 114, iv a8), (7, 115, dW), (8, 116, .slice a5 aa.length a6), (9, 117, iv a9), (10, 118, iv (w64 (a9 + 1))), (11, 119, dX), (12, 120, iv bH), (13, 121, .func (.func 52) #[] #[]), (14, 122, .slice aG p1.length aH), (15, 123, iv a9), (16, 124, dz), (17, 125, .agg #[.bool bu.Back, .slice bj bu.Cells.length bk]), (18, 126, iv bI), (19, 127, iv (w64 (bH + bI))), (20, 128, ct)]) rfl S ?_
  refine node_by (A := anc_compare_table_api_Row__s0_0) 22 (by kernel_rfl) (by kernel_rfl) (by kernel_rfl) (by kernel_rfl) (by kernel_rfl) [0, 1, 2, 3, 4, 5, 6, 7, 8, 9, 10, 11, 12, 13, 14, 15, 16, 17, 18, 19, 20] (by kernel_rfl) (by decide) (by decide) (fF ?_ (fF ?_ (fF ?_ (fF ?_ (fF ?_ (fF ?_ (fF ?_ (fF ?_ (fF ?_ (fF ?_ (fF ?_ (fF ?_ (fF ?_ (fF ?_ (fF ?_ (fF ?_ (fF ?_ (fF ?_ (fF ?_ (fF ?_ (fF ?_ (fN ?_ (trivial))))))))))))))))))))))) [] (fun q hq => by cases hq) (fun hY => absurd (hY 21 (by decide)) (by decide))
  ·exact fM 0 none rfl rfl rfl rfl (.inl rfl) rfl rfl rfl
  ·exact fM 1 none rfl rfl rfl rfl (.inl rfl) rfl rfl rfl
  ·refine fJ [(108, _), (109, _)] 2 [some 0, some 1] fun G a w S => ?_
   exact sIdxV S (wN rfl) rfl rfl rfl dt rfl (lb rfl) fun a S => leafL ⟨rfl, S⟩
  ·refine fJ [(110, _)] 3 [some 2] fun G a w S => ?_
   exact sLoadHE (r := (rL (rI .i64))) (T := 101) (xs := a7) (u := .slice a5 aa.length a6) (v := .slice ab a7.length ac) (vq := dV) (j := a8) 0 S du (wN rfl) rfl rfl rfl rfl rfl (lb rfl) fun a S => leafL ⟨rfl, S⟩
  ·exact fM 4 none rfl rfl rfl rfl (.inl rfl) rfl rfl rfl
  ·exact fM 5 none rfl rfl rfl rfl (.inl rfl) rfl rfl rfl
  ·exact fM 6 none rfl rfl rfl rfl (.inl rfl) rfl rfl rfl
  ·refine fJ [(113, _), (114, _)] 7 [some 5, some 6] fun G a w S => ?_
   exact sIdxV S (wN rfl) rfl rfl rfl dv rfl (lb rfl) fun a S => leafL ⟨rfl, S⟩
  ·refine fJ [(115, _)] 8 [some 7] fun G a w S => ?_
   exact sLoadHE (r := (rL (rI .i64))) (T := 101) (xs := a7) (u := .slice a5 aa.length a6) (v := .slice ab a7.length ac) (vq := dW) (j := a8) 0 S dw (wN rfl) rfl rfl rfl rfl rfl (lb rfl) fun a S => leafL ⟨rfl, S⟩
  ·exact fM 9 none rfl rfl rfl rfl (.inl rfl) rfl rfl rfl
  ·refine fJ [(117, _)] 10 [some 9] fun G a w S => ?_
   exact sBin _ S (wN rfl) rfl rfl rfl (bAdd _ _ _ _ a9 1) rfl (lb rfl) fun a S => leafL ⟨rfl, S⟩
  ·refine fJ [(116, _), (118, _)] 11 [some 8, some 10] fun G a w S => ?_
   exact sIdxV S (wN rfl) rfl rfl rfl dx rfl (lb rfl) fun a S => leafL ⟨rfl, S⟩
  ·refine fJ [(119, _)] 12 [some 11] fun G a w S => ?_
   exact sLoadR (r := (rI .i64)) (T := 3) (xs := aa) (x := bH) (v := .slice a5 aa.length a6) (vq := dX) (j := w64 (a9 + 1)) 1 (iv bH) S dy (wN rfl) rfl rfl rfl cE (fun _ _ _ h => h) (scal_I _) rfl rfl (lb rfl) fun a S => leafL ⟨rfl, S⟩
  ·exact fM 13 none rfl rfl rfl rfl (.inl rfl) rfl rfl rfl
  ·exact fM 14 none rfl rfl rfl rfl (.inl rfl) rfl rfl rfl
  ·exact fM 15 none rfl rfl rfl rfl (.inl rfl) rfl rfl rfl
  ·refine fJ [(122, _), (123, _)] 16 [some 14, some 15] fun G a w S => ?_
   exact sIdxV S (wN rfl) rfl rfl rfl dA rfl (lb rfl) fun a S => leafL ⟨rfl, S⟩
  ·refine fJ [(124, _)] 17 [some 16] fun G a w S => ?_
   exact sLoadVN (vq := dz) 1 [.bool bu.Back, .slice bj bu.Cells.length bk] S (wN rfl) rfl rfl rfl rfl rfl rfl (lb rfl) fun a S => leafL ⟨rfl, S⟩
  ·refine fJ [(121, _), (125, _)] 18 [some 13, some 17] fun G a w S => ?_
   have S1 := S.mem
   refine sCallVQ (X := Unit) (g := 52) (vs := [.agg #[.bool bu.Back, .slice bj bu.Cells.length bk]]) (caps := []) (val := fun _ => iv bI) S (wN rfl) rfl rfl callee52 rfl (S1.quiet [2] rfl) (fun E1 w1 S1 => c_compare_Charts_1 E1 w1 bu (.agg #[.bool bu.Back, .slice bj bu.Cells.length bk]) bI dp S1) rfl (lb rfl) fun _ a w S => ?_
   exact leafL ⟨rfl, S⟩
  ·refine fJ [(120, _), (126, _)] 19 [some 12, some 18] fun G a w S => ?_
   exact sBin _ S (wN rfl) rfl rfl rfl (bAdd _ _ _ _ bH bI) rfl (lb rfl) fun a S => leafL ⟨rfl, S⟩
  ·refine fJ [(111, _), (112, _)] 20 [some 3, some 4] fun G a w S => ?_
   exact sIdxV S (wN rfl) rfl rfl rfl cG rfl (lb rfl) fun a S => leafL ⟨rfl, S⟩
  refine ⟨_, [(127, iv (w64 (bH + bI))), (128, ct)], rfl, (srcs_of [some 19, some 20] rfl rfl rfl), fun G a w S => ?_⟩
  refine sStoreR (r := (rI .i64)) (T := 3) (xs := aa) (ys := dU) (y := (w64 (bH + bI))) (v := .slice a5 aa.length a6) (vq := ct) (u := iv (w64 (bH + bI))) (j := a9) 1 S cH (wN rfl) rfl rfl rfl rfl rfl cF rfl rfl fun a w S => ?_
  refine leafL ⟨rfl, _, _, .inr ⟨[], rfl, S, hz_of rfl, ?_⟩⟩
  refine node_by (A := anc_compare_table_api_Row__s0_0) 22 (by kernel_rfl) (by kernel_rfl) (by kernel_rfl) (by kernel_rfl) (by kernel_rfl) [0, 1, 2, 3, 4, 5, 6, 7, 8, 9, 10, 11, 12, 13, 14, 15, 16, 17, 18, 19, 20] (by kernel_rfl) (by decide) (by decide) (fD 21 (fD 21 (fD 21 (fD 21 (fD 21 (fD 21 (fD 21 (fD 21 (fD 21 (fD 21 (fD 21 (fD 21 (fD 21 (fD 21 (fD 21 (fD 21 (fD 21 (fD 21 (fD 21 (fD 21 (fD 21 (fY (trivial))))))))))))))))))))))) [(0, .slice aI p0.length aJ), (1, .slice aG p1.length aH), (2, .func (.func 52) #[] #[]), (3, .func (.func 53) #[] #[]), (9, .slice ab a7.length ac), (10, iv a8), (11, iv a9)] (fin_of [none, none, none, none, none, none, none] rfl (by kernel_rfl) (by kernel_rfl)) (fun _ a w S => ?_)
  rw [setO_v cF a5 a6] at S
  exact leafB (leafB (leafT (⟨dU, Option.some.inj h, S.fix [1, 0] [4, 5] (by decide) rfl rfl rfl⟩)))
 refine sCondF S rfl cr ?_
 refine sSeq (fun ek cI => sRegion (sM S fun a S => ?_))
 refine sM S fun a S => ?_
 refine sLen S (wN rfl) rfl Try.underlying40 rfl rfl (lb rfl) fun a S => ?_
 refine sBin _ S (wN rfl) rfl rfl rfl (bEq _ _ _ _ .i64 a9 (p1.length : Int)) rfl (lb rfl) fun a S => ?_
 refine sN S fun a S => ?_
 refine lT (cI _ _ ?_)
 rcases iS h with ⟨bv, h⟩ | ⟨bv, h⟩
 ·refine sCondT S rfl bv ?_
  obtain ⟨bw, bx, h⟩ := bS h
  obtain ⟨aK, cJ, h⟩ := bS h
  obtain ⟨ax, cK, h⟩ := bS h
  obtain ⟨aL, bK, h⟩ := bS h
  obtain ⟨el, cL, h⟩ := bS h
  obtain ⟨cM, bL, h⟩ := bS h
  obtain ⟨cu, bM, bN⟩ := pIdxH (P := Try.prog) (r := (rL (rI .i64))) (T := 101) (v := .slice ab a7.length ac) (xs := a7) (j := a8) 98 101 0 S Try.underlying98 rfl rfl az
  obtain ⟨cv, cN, cO⟩ := pIdxH (P := Try.prog) (r := (rL (rI .i64))) (T := 101) (v := .slice ab a7.length ac) (xs := a7) (j := w64 (a8 + 1)) 98 101 0 S Try.underlying98 rfl rfl bx
  obtain ⟨bC, bO, S⟩ := pIdx (P := Try.prog) (r := r_api_Row) (v := .slice aI p0.length aJ) (xs := p0) (j := a8) 40 87 0 S Try.underlying40 rfl rfl cK
  obtain ⟨dC, S⟩ := pLoad (r := r_api_Row) (q := bC) (x := ax) 0 S rfl
  obtain ⟨dD, rfl, bP⟩ := S.mem.know (i := 1) (e := fRep r_api_Row (dC) ax) rfl
  have S := S.learn (fRep (rL r_api_Stitch) dD ax.Cells) bP
  obtain ⟨aA, aC, _, rfl, _⟩ := bP
  refine sDraw (nf := [9, 21]) (W := [(0, 134, .slice ab a7.length ac), (1, 135, iv a8), (2, 136, cu), (3, 137, .slice a5 aa.length a6), (4, 138, iv a9), (5, 139, .slice ab a7.length ac), (6, 140, iv a8), (7, 141, iv (w64 (a8 + 1))), (8, 142, cv), (10, 144, iv a9), (13, 147, .func (.func 52) #[] #[]), (14, 148, .slice aI p0.length aJ), (15, 149, iv a8), (16, 150, bC), (17, 151, .agg #[.bool ax.Back, .slice aA ax.Cells.length aC]), (18, 152, iv aL)]) rfl S ?_
  refine node_by (A := anc_compare_table_api_Row__s0_1) 22 (by kernel_rfl) (by kernel_rfl) (by kernel_rfl) (by kernel_rfl) (by kernel_rfl) [0, 1, 2, 3, 4, 5, 6, 7, 8, 10, 13, 14, 15, 16, 17, 18] (by kernel_rfl) (by decide) (by decide) (fF ?_ (fF ?_ (fF ?_ (fF ?_ (fF ?_ (fF ?_ (fF ?_ (fF ?_ (fF ?_ (fN ?_ (fF ?_ (fE 9 (fE 9 (fF ?_ (fF ?_ (fF ?_ (fF ?_ (fF ?_ (fF ?_ (fE 9 (fE 9 (aB 21 0 9 (by decide) (trivial))))))))))))))))))))))) [] (fun q hq => by cases hq) (fun hY => absurd (hY 9 (by decide)) (by decide))
  ·exact fM 0 none rfl rfl rfl rfl (.inl rfl) rfl rfl rfl
  ·exact fM 1 none rfl rfl rfl rfl (.inl rfl) rfl rfl rfl
  ·refine fJ [(134, _), (135, _)] 2 [some 0, some 1] fun G a w S => ?_
   exact sIdxV S (wN rfl) rfl rfl rfl bM rfl (lb rfl) fun a S => leafL ⟨rfl, S⟩
  ·refine fJ [(136, _)] 3 [some 2] fun G a w S => ?_
   exact sLoadHE (r := (rL (rI .i64))) (T := 101) (xs := a7) (u := .slice a5 aa.length a6) (v := .slice ab a7.length ac) (vq := cu) (j := a8) 0 S bN (wN rfl) rfl rfl rfl rfl rfl (lb rfl) fun a S => leafL ⟨rfl, S⟩
  ·exact fM 4 none rfl rfl rfl rfl (.inl rfl) rfl rfl rfl
  ·exact fM 5 none rfl rfl rfl rfl (.inl rfl) rfl rfl rfl
  ·exact fM 6 none rfl rfl rfl rfl (.inl rfl) rfl rfl rfl
  ·refine fJ [(140, _)] 7 [some 6] fun G a w S => ?_
   exact sBin _ S (wN rfl) rfl rfl rfl (bAdd _ _ _ _ a8 1) rfl (lb rfl) fun a S => leafL ⟨rfl, S⟩
  ·refine fJ [(139, _), (141, _)] 8 [some 5, some 7] fun G a w S => ?_
   exact sIdxV S (wN rfl) rfl rfl rfl cN rfl (lb rfl) fun a S => leafL ⟨rfl, S⟩
  ·refine ⟨_, [(142, cv)], rfl, (srcs_of [some 8] rfl rfl rfl), fun G a w S => ?_⟩
   refine sLoadHo (r := (rL (rI .i64))) (T := 101) (xs := a7) (x := bw) (p := (a8).toNat * (rL (rI .i64)).sz + 0) (u := .slice a5 aa.length a6) (v := .slice ab a7.length ac) (vq := cv) (j := w64 (a8 + 1)) 0 S cO (wN rfl) rfl rfl rfl bx (idx_next (by decide) (hole_lim 0 S.mem rfl) az bx) (scal_L _) rfl rfl (lb rfl) fun a dE S => ?_
   obtain ⟨bQ, bR, _, rfl, _⟩ := S.mem.know (i := 0) (e := fRep (rL (rI .i64)) (dE) bw) rfl
   obtain ⟨cw, cP, S⟩ := pIdx (P := Try.prog) (r := (rI .i64)) (v := .slice bQ bw.length bR) (xs := bw) (j := a9) 101 3 0 S Try.underlying101 rfl rfl cJ
   obtain ⟨cQ, S⟩ := pLoad (r := (rI .i64)) (q := cw) (x := aK) 0 S rfl
   obtain rfl : cQ = iv aK := S.mem.know (i := 1) (e := fRep (rI .i64) (cQ) aK) rfl
   obtain ⟨cx, cR, cS⟩ := pIdxR (P := Try.prog) (r := (rI .i64)) (T := 3) (v := .slice a5 aa.length a6) (xs := aa) (j := a9) 101 3 1 S Try.underlying101 rfl rfl cL
   refine leafL ⟨rfl, _, _, .inl ⟨143, (.slice bQ bw.length bR), [(11, 145, cw), (12, 146, iv aK), (19, 153, iv (w64 (aK + aL))), (20, 154, cx)], rfl, S, hz_of rfl, ?_⟩⟩
   refine node_by (A := anc_compare_table_api_Row__s0_1) 22 (by kernel_rfl) (by kernel_rfl) (by kernel_rfl) (by kernel_rfl) (by kernel_rfl) [11, 12, 19, 20, 9, 0, 1, 2, 3, 4, 5, 6, 7, 8, 10, 13, 14, 15, 16, 17, 18] (by kernel_rfl) (by decide) (by decide) (fF ?_ (fF ?_ (fF ?_ (fF ?_ (fF ?_ (fD 9 (fD 9 (fD 9 (fD 9 (fY (fF ?_ (fF ?_ (fF ?_ (fF ?_ (fF ?_ (fF ?_ (fF ?_ (fF ?_ (fF ?_ (fF ?_ (fF ?_ (fN ?_ (trivial))))))))))))))))))))))) [] (fun q hq => by cases hq) (fun hY => absurd (hY 21 (by decide)) (by decide))
   ·exact fM 5 none rfl rfl rfl rfl (.inl rfl) rfl rfl rfl
   ·exact fM 6 none rfl rfl rfl rfl (.inl rfl) rfl rfl rfl
   ·refine fJ [(134, _), (135, _)] 7 [some 5, some 6] fun G a w S => ?_
    exact sIdxV S (wN rfl) rfl rfl rfl bM rfl (lb rfl) fun a S => leafL ⟨rfl, S⟩
   ·refine fJ [(136, _)] 8 [some 7] fun G a w S => ?_
    exact sLoadHE (r := (rL (rI .i64))) (T := 101) (xs := a7) (u := .slice a5 aa.length a6) (v := .slice ab a7.length ac) (vq := cu) (j := a8) 0 S bN (wN rfl) rfl rfl rfl rfl rfl (lb rfl) fun a S => leafL ⟨rfl, S⟩
   ·exact fM 9 none rfl rfl rfl rfl (.inl rfl) rfl rfl rfl
   ·exact fM 14 none rfl rfl rfl rfl (.inl rfl) rfl rfl rfl
   ·refine fJ [(143, _), (144, _)] 0 [some 4, some 14] fun G a w S => ?_
    exact sIdxV S (wN rfl) rfl rfl rfl cP rfl (lb rfl) fun a S => leafL ⟨rfl, S⟩
   ·refine fJ [(145, _)] 1 [some 0] fun G a w S => ?_
    exact sLoadV1 (vq := cw) 0 (iv aK) S (wN rfl) rfl rfl rfl rfl rfl (lb rfl) fun a S => leafL ⟨rfl, S⟩
   ·exact fM 15 none rfl rfl rfl rfl (.inl rfl) rfl rfl rfl
   ·exact fM 16 none rfl rfl rfl rfl (.inl rfl) rfl rfl rfl
   ·exact fM 17 none rfl rfl rfl rfl (.inl rfl) rfl rfl rfl
   ·refine fJ [(148, _), (149, _)] 18 [some 16, some 17] fun G a w S => ?_
    exact sIdxV S (wN rfl) rfl rfl rfl bO rfl (lb rfl) fun a S => leafL ⟨rfl, S⟩
   ·refine fJ [(150, _)] 19 [some 18] fun G a w S => ?_
    exact sLoadVN (vq := bC) 5 [.bool ax.Back, .slice aA ax.Cells.length aC] S (wN rfl) rfl rfl rfl rfl rfl rfl (lb rfl) fun a S => leafL ⟨rfl, S⟩
   ·refine fJ [(147, _), (151, _)] 20 [some 15, some 19] fun G a w S => ?_
    have S1 := S.mem
    refine sCallVQ (X := Unit) (g := 52) (vs := [.agg #[.bool ax.Back, .slice aA ax.Cells.length aC]]) (caps := []) (val := fun _ => iv aL) S (wN rfl) rfl rfl callee52 rfl (S1.quiet [6] rfl) (fun E1 w1 S1 => c_compare_Charts_1 E1 w1 ax (.agg #[.bool ax.Back, .slice aA ax.Cells.length aC]) aL bK S1) rfl (lb rfl) fun _ a w S => ?_
    exact leafL ⟨rfl, S⟩
   ·refine fJ [(146, _), (152, _)] 2 [some 1, some 20] fun G a w S => ?_
    exact sBin _ S (wN rfl) rfl rfl rfl (bAdd _ _ _ _ aK aL) rfl (lb rfl) fun a S => leafL ⟨rfl, S⟩
   ·refine fJ [(137, _), (138, _)] 3 [some 8, some 9] fun G a w S => ?_
    exact sIdxV S (wN rfl) rfl rfl rfl cR rfl (lb rfl) fun a S => leafL ⟨rfl, S⟩
   refine ⟨_, [(153, iv (w64 (aK + aL))), (154, cx)], rfl, (srcs_of [some 2, some 3] rfl rfl rfl), fun G a w S => ?_⟩
   refine sStoreR (r := (rI .i64)) (T := 3) (xs := aa) (ys := cM) (y := (w64 (aK + aL))) (v := .slice a5 aa.length a6) (vq := cx) (u := iv (w64 (aK + aL))) (j := a9) 1 S cS (wN rfl) rfl rfl rfl rfl rfl bL rfl rfl fun a w S => ?_
   refine leafL ⟨rfl, _, _, .inr ⟨[], rfl, S, hz_of rfl, ?_⟩⟩
   refine node_by (A := anc_compare_table_api_Row__s0_1) 22 (by kernel_rfl) (by kernel_rfl) (by kernel_rfl) (by kernel_rfl) (by kernel_rfl) [11, 12, 19, 20, 9, 0, 1, 2, 3, 4, 5, 6, 7, 8, 10, 13, 14, 15, 16, 17, 18] (by kernel_rfl) (by decide) (by decide) (fD 21 (fD 21 (fD 21 (fD 21 (fD 21 (fD 21 (fD 21 (fD 21 (fD 21 (fY (fD 21 (fD 21 (fD 21 (fD 21 (fD 21 (fD 21 (fD 21 (fD 21 (fD 21 (fD 21 (fD 21 (fY (trivial))))))))))))))))))))))) [(0, .slice aI p0.length aJ), (1, .slice aG p1.length aH), (2, .func (.func 52) #[] #[]), (3, .func (.func 53) #[] #[]), (9, .slice ab a7.length ac), (10, iv a8), (11, iv a9)] (fin_of [none, none, none, none, none, none, none] rfl (by kernel_rfl) (by kernel_rfl)) (fun _ a w S => ?_)
   rw [setO_v bL a5 a6] at S
   exact leafB (leafB (leafT (⟨cM, Option.some.inj h, S.fix [1, 0] [8, 9] (by decide) rfl rfl rfl⟩)))
  ·exact fM 9 none rfl rfl rfl rfl (.inl rfl) rfl rfl rfl
  ·exact fM 10 none rfl rfl rfl rfl (.inl rfl) rfl rfl rfl
  ·exact fM 11 none rfl rfl rfl rfl (.inl rfl) rfl rfl rfl
  ·exact fM 12 none rfl rfl rfl rfl (.inl rfl) rfl rfl rfl
  ·refine fJ [(148, _), (149, _)] 13 [some 11, some 12] fun G a w S => ?_
   exact sIdxV S (wN rfl) rfl rfl rfl bO rfl (lb rfl) fun a S => leafL ⟨rfl, S⟩
  ·refine fJ [(150, _)] 14 [some 13] fun G a w S => ?_
   exact sLoadVN (vq := bC) 1 [.bool ax.Back, .slice aA ax.Cells.length aC] S (wN rfl) rfl rfl rfl rfl rfl rfl (lb rfl) fun a S => leafL ⟨rfl, S⟩
  refine fJ [(147, _), (151, _)] 15 [some 10, some 14] fun G a w S => ?_
  have S1 := S.mem
  refine sCallVQ (X := Unit) (g := 52) (vs := [.agg #[.bool ax.Back, .slice aA ax.Cells.length aC]]) (caps := []) (val := fun _ => iv aL) S (wN rfl) rfl rfl callee52 rfl (S1.quiet [2] rfl) (fun E1 w1 S1 => c_compare_Charts_1 E1 w1 ax (.agg #[.bool ax.Back, .slice aA ax.Cells.length aC]) aL bK S1) rfl (lb rfl) fun _ a w S => ?_
  exact leafL ⟨rfl, S⟩
 refine sCondF S rfl bv ?_
 obtain ⟨aw, ay, h⟩ := bS h
 obtain ⟨ag, bU, h⟩ := bS h
 obtain ⟨a0, bV, h⟩ := bS h
 obtain ⟨ah, aP, h⟩ := bS h
 obtain ⟨ae, aM, h⟩ := bS h
 obtain ⟨a4, bW, h⟩ := bS h
 obtain ⟨af, aQ, h⟩ := bS h
 obtain ⟨ai, bX, h⟩ := bS h
 obtain ⟨aj, aR, h⟩ := bS h
 obtain ⟨em, bY, h⟩ := bS h
 obtain ⟨bD, bl, h⟩ := bS h
 obtain ⟨bq, aS, aT⟩ := pIdxH (P := Try.prog) (r := (rL (rI .i64))) (T := 101) (v := .slice ab a7.length ac) (xs := a7) (j := a8) 98 101 0 S Try.underlying98 rfl rfl az
 obtain ⟨bz, bZ, c5⟩ := pIdxH (P := Try.prog) (r := (rL (rI .i64))) (T := 101) (v := .slice ab a7.length ac) (xs := a7) (j := w64 (a8 + 1)) 98 101 0 S Try.underlying98 rfl rfl ay
 obtain ⟨bf, aU, S⟩ := pIdx (P := Try.prog) (r := r_api_Row) (v := .slice aI p0.length aJ) (xs := p0) (j := a8) 40 87 0 S Try.underlying40 rfl rfl bV
 obtain ⟨dG, S⟩ := pLoad (r := r_api_Row) (q := bf) (x := a0) 0 S rfl
 obtain ⟨dH, rfl, c6⟩ := S.mem.know (i := 1) (e := fRep r_api_Row (dG) a0) rfl
 have S := S.learn (fRep (rL r_api_Stitch) dH a0.Cells) c6
 obtain ⟨ak, am, _, rfl, _⟩ := c6
 obtain ⟨br, aV, aW⟩ := pIdxH (P := Try.prog) (r := (rL (rI .i64))) (T := 101) (v := .slice ab a7.length ac) (xs := a7) (j := a8) 98 101 0 S Try.underlying98 rfl rfl az
 obtain ⟨bt, aX, aZ⟩ := pIdxR (P := Try.prog) (r := (rI .i64)) (T := 3) (v := .slice a5 aa.length a6) (xs := aa) (j := w64 (a9 + 1)) 101 3 1 S Try.underlying101 rfl rfl aM
 obtain ⟨bg, ba, S⟩ := pIdx (P := Try.prog) (r := r_api_Row) (v := .slice aG p1.length aH) (xs := p1) (j := a9) 40 87 5 S Try.underlying40 rfl rfl bW
 obtain ⟨dI, S⟩ := pLoad (r := r_api_Row) (q := bg) (x := a4) 0 S rfl
 obtain ⟨dJ, rfl, c7⟩ := S.mem.know (i := 1) (e := fRep r_api_Row (dI) a4) rfl
 have S := S.learn (fRep (rL r_api_Stitch) dJ a4.Cells) c7
 obtain ⟨ao, ap, _, rfl, _⟩ := c7
 obtain ⟨bA, c8, c9⟩ := pIdxH (P := Try.prog) (r := (rL (rI .i64))) (T := 101) (v := .slice ab a7.length ac) (xs := a7) (j := w64 (a8 + 1)) 98 101 0 S Try.underlying98 rfl rfl ay
 obtain ⟨bh, bb, S⟩ := pIdx (P := Try.prog) (r := r_api_Row) (v := .slice aI p0.length aJ) (xs := p0) (j := a8) 40 87 8 S Try.underlying40 rfl rfl bV
 obtain ⟨dK, S⟩ := pLoad (r := r_api_Row) (q := bh) (x := a0) 0 S rfl
 obtain ⟨dL, rfl, ca⟩ := S.mem.know (i := 1) (e := fRep r_api_Row (dK) a0) rfl
 have S := S.learn (fRep (rL r_api_Stitch) dL a0.Cells) ca
 obtain ⟨aq, ar, _, rfl, _⟩ := ca
 obtain ⟨bi, bc, S⟩ := pIdx (P := Try.prog) (r := r_api_Row) (v := .slice aG p1.length aH) (xs := p1) (j := a9) 40 87 13 S Try.underlying40 rfl rfl bW
 obtain ⟨dM, S⟩ := pLoad (r := r_api_Row) (q := bi) (x := a4) 0 S rfl
 obtain ⟨dN, rfl, cb⟩ := S.mem.know (i := 1) (e := fRep r_api_Row (dM) a4) rfl
 have S := S.learn (fRep (rL r_api_Stitch) dN a4.Cells) cb
 obtain ⟨au, av, _, rfl, _⟩ := cb
 refine sDraw (nf := [9, 39, 57]) (W := [(0, 35, .slice ab a7.length ac), (1, 36, iv a8), (2, 37, bq), (3, 38, .slice a5 aa.length a6), (4, 39, iv a9), (5, 40, .slice ab a7.length ac), (6, 41, iv a8), (7, 42, iv (w64 (a8 + 1))), (8, 43, bz), (10, 45, iv a9), (13, 48, .func (.func 52) #[] #[]), (14, 49, .slice aI p0.length aJ), (15, 50, iv a8), (16, 51, bf), (17, 52, .agg #[.bool a0.Back, .slice ak a0.Cells.length am]), (18, 53, iv ah), (20, 55, .slice ab a7.length ac), (21, 56, iv a8), (22, 57, br), (23, 58, .slice a5 aa.length a6), (24, 59, iv a9), (25, 60, iv (w64 (a9 + 1))), (26, 61, bt), (27, 62, iv ae), (28, 63, .func (.func 52) #[] #[]), (29, 64, .slice aG p1.length aH), (30, 65, iv a9), (31, 66, bg), (32, 67, .agg #[.bool a4.Back, .slice ao a4.Cells.length ap]), (33, 68, iv af), (34, 69, iv (w64 (ae + af))), (35, 70, .slice ab a7.length ac), (36, 71, iv a8), (37, 72, iv (w64 (a8 + 1))), (38, 73, bA), (40, 75, iv a9), (41, 76, iv (w64 (a9 + 1))), (44, 79, .func (.func 53) #[] #[]), (45, 80, .slice aI p0.length aJ), (46, 81, iv a8), (47, 82, bh), (48, 83, .agg #[.bool a0.Back, .slice aq a0.Cells.length ar]), (49, 84, .slice aG p1.length aH), (50, 85, iv a9), (51, 86, bi), (52, 87, .agg #[.bool a4.Back, .slice au a4.Cells.length av]), (53, 88, iv aj)]) rfl S ?_
 refine node_by (A := anc_compare_table_api_Row__s0_2) 58 (by kernel_rfl) (by kernel_rfl) (by kernel_rfl) (by kernel_rfl) (by kernel_rfl) [0, 1, 2, 3, 4, 5, 6, 7, 8, 10, 13, 14, 15, 16, 17, 18, 20, 21, 22, 23, 24, 25, 26, 27, 28, 29, 30, 31, 32, 33, 34, 35, 36, 37, 38, 40, 41, 44, 45, 46, 47, 48, 49, 50, 51, 52, 53] (by kernel_rfl) (by decide) (by decide) (fF ?_ (fF ?_ (fF ?_ (fF ?_ (fF ?_ (fF ?_ (fF ?_ (fF ?_ (fF ?_ (fN ?_ (fF ?_ (fE 9 (fE 9 (fF ?_ (fF ?_ (fF ?_ (fF ?_ (fF ?_ (fF ?_ (fE 9 (fF ?_ (fF ?_ (fF ?_ (fF ?_ (fF ?_ (fF ?_ (fF ?_ (fF ?_ (fF ?_ (fF ?_ (fF ?_ (fF ?_ (fF ?_ (fF ?_ (fF ?_ (fF ?_ (fF ?_ (fF ?_ (fF ?_ (fN ?_ (fF ?_ (fF ?_ (fE 39 (fE 39 (fF ?_ (fF ?_ (fF ?_ (fF ?_ (fF ?_ (fF ?_ (fF ?_ (fF ?_ (fF ?_ (fF ?_ (fE 39 (fE 9 (fE 9 (aB 57 0 9 (by decide) (trivial))))))))))))))))))))))))))))))))))))))))))))))))))))))))))) [] (fun q hq => by cases hq) (fun hY => absurd (hY 9 (by decide)) (by decide))
 ·exact fM 0 none rfl rfl rfl rfl (.inl rfl) rfl rfl rfl
 ·exact fM 1 none rfl rfl rfl rfl (.inl rfl) rfl rfl rfl
 ·refine fJ [(35, _), (36, _)] 2 [some 0, some 1] fun G a w S => ?_
  exact sIdxV S (wN rfl) rfl rfl rfl aS rfl (lb rfl) fun a S => leafL ⟨rfl, S⟩
 ·refine fJ [(37, _)] 3 [some 2] fun G a w S => ?_
  exact sLoadHE (r := (rL (rI .i64))) (T := 101) (xs := a7) (u := .slice a5 aa.length a6) (v := .slice ab a7.length ac) (vq := bq) (j := a8) 0 S aT (wN rfl) rfl rfl rfl rfl rfl (lb rfl) fun a S => leafL ⟨rfl, S⟩
 ·exact fM 4 none rfl rfl rfl rfl (.inl rfl) rfl rfl rfl
 ·exact fM 5 none rfl rfl rfl rfl (.inl rfl) rfl rfl rfl
 ·exact fM 6 none rfl rfl rfl rfl (.inl rfl) rfl rfl rfl
 ·refine fJ [(41, _)] 7 [some 6] fun G a w S => ?_
  exact sBin _ S (wN rfl) rfl rfl rfl (bAdd _ _ _ _ a8 1) rfl (lb rfl) fun a S => leafL ⟨rfl, S⟩
 ·refine fJ [(40, _), (42, _)] 8 [some 5, some 7] fun G a w S => ?_
  exact sIdxV S (wN rfl) rfl rfl rfl bZ rfl (lb rfl) fun a S => leafL ⟨rfl, S⟩
 ·refine ⟨_, [(43, bz)], rfl, (srcs_of [some 8] rfl rfl rfl), fun G a w S => ?_⟩
  refine sLoadHo (r := (rL (rI .i64))) (T := 101) (xs := a7) (x := aw) (p := (a8).toNat * (rL (rI .i64)).sz + 0) (u := .slice a5 aa.length a6) (v := .slice ab a7.length ac) (vq := bz) (j := w64 (a8 + 1)) 0 S c5 (wN rfl) rfl rfl rfl ay (idx_next (by decide) (hole_lim 0 S.mem rfl) az ay) (scal_L _) rfl rfl (lb rfl) fun a dO S => ?_
  obtain ⟨cc, cd, _, rfl, _⟩ := S.mem.know (i := 0) (e := fRep (rL (rI .i64)) (dO) aw) rfl
  obtain ⟨bE, ce, S⟩ := pIdx (P := Try.prog) (r := (rI .i64)) (v := .slice cc aw.length cd) (xs := aw) (j := a9) 101 3 0 S Try.underlying101 rfl rfl bU
  obtain ⟨cT, S⟩ := pLoad (r := (rI .i64)) (q := bE) (x := ag) 0 S rfl
  obtain rfl : cT = iv ag := S.mem.know (i := 1) (e := fRep (rI .i64) (cT) ag) rfl
  refine leafL ⟨rfl, _, _, .inl ⟨44, (.slice cc aw.length cd), [(11, 46, bE), (12, 47, iv ag), (19, 54, iv (w64 (ag + ah)))], rfl, S, hz_of rfl, ?_⟩⟩
  refine node_by (A := anc_compare_table_api_Row__s0_2) 58 (by kernel_rfl) (by kernel_rfl) (by kernel_rfl) (by kernel_rfl) (by kernel_rfl) [11, 12, 19, 9, 0, 1, 2, 3, 4, 5, 6, 7, 8, 10, 13, 14, 15, 16, 17, 18, 20, 21, 22, 23, 24, 25, 26, 27, 28, 29, 30, 31, 32, 33, 34, 35, 36, 37, 38, 40, 41, 44, 45, 46, 47, 48, 49, 50, 51, 52, 53] (by kernel_rfl) (by decide) (by decide) (fF ?_ (fF ?_ (fF ?_ (fF ?_ (fF ?_ (fD 9 (fD 9 (fD 9 (fD 9 (fY (fF ?_ (fF ?_ (fF ?_ (fF ?_ (fF ?_ (fF ?_ (fF ?_ (fF ?_ (fF ?_ (fF ?_ (fF ?_ (fF ?_ (fF ?_ (fF ?_ (fF ?_ (fF ?_ (fF ?_ (fF ?_ (fF ?_ (fF ?_ (fF ?_ (fF ?_ (fF ?_ (fF ?_ (fF ?_ (fF ?_ (fF ?_ (fF ?_ (fF ?_ (fN ?_ (fF ?_ (fF ?_ (fE 39 (fE 39 (fF ?_ (fF ?_ (fF ?_ (fF ?_ (fF ?_ (fF ?_ (fF ?_ (fF ?_ (fF ?_ (fF ?_ (fE 39 (fE 39 (fE 39 (aB 57 0 39 (by decide) (trivial))))))))))))))))))))))))))))))))))))))))))))))))))))))))))) [] (fun q hq => by cases hq) (fun hY => absurd (hY 39 (by decide)) (by decide))
  ·exact fM 4 none rfl rfl rfl rfl (.inl rfl) rfl rfl rfl
  ·exact fM 5 none rfl rfl rfl rfl (.inl rfl) rfl rfl rfl
  ·refine fJ [(35, _), (36, _)] 6 [some 4, some 5] fun G a w S => ?_
   exact sIdxV S (wN rfl) rfl rfl rfl aS rfl (lb rfl) fun a S => leafL ⟨rfl, S⟩
  ·refine fJ [(37, _)] 7 [some 6] fun G a w S => ?_
   exact sLoadHE (r := (rL (rI .i64))) (T := 101) (xs := a7) (u := .slice a5 aa.length a6) (v := .slice ab a7.length ac) (vq := bq) (j := a8) 0 S aT (wN rfl) rfl rfl rfl rfl rfl (lb rfl) fun a S => leafL ⟨rfl, S⟩
  ·exact fM 8 none rfl rfl rfl rfl (.inl rfl) rfl rfl rfl
  ·exact fM 13 none rfl rfl rfl rfl (.inl rfl) rfl rfl rfl
  ·refine fJ [(44, _), (45, _)] 0 [some 3, some 13] fun G a w S => ?_
   exact sIdxV S (wN rfl) rfl rfl rfl ce rfl (lb rfl) fun a S => leafL ⟨rfl, S⟩
  ·refine fJ [(46, _)] 1 [some 0] fun G a w S => ?_
   exact sLoadV1 (vq := bE) 0 (iv ag) S (wN rfl) rfl rfl rfl rfl rfl (lb rfl) fun a S => leafL ⟨rfl, S⟩
  ·exact fM 14 none rfl rfl rfl rfl (.inl rfl) rfl rfl rfl
  ·exact fM 15 none rfl rfl rfl rfl (.inl rfl) rfl rfl rfl
  ·exact fM 16 none rfl rfl rfl rfl (.inl rfl) rfl rfl rfl
  ·refine fJ [(49, _), (50, _)] 17 [some 15, some 16] fun G a w S => ?_
   exact sIdxV S (wN rfl) rfl rfl rfl aU rfl (lb rfl) fun a S => leafL ⟨rfl, S⟩
  ·refine fJ [(51, _)] 18 [some 17] fun G a w S => ?_
   exact sLoadVN (vq := bf) 17 [.bool a0.Back, .slice ak a0.Cells.length am] S (wN rfl) rfl rfl rfl rfl rfl rfl (lb rfl) fun a S => leafL ⟨rfl, S⟩
  ·refine fJ [(48, _), (52, _)] 19 [some 14, some 18] fun G a w S => ?_
   have S1 := S.mem
   refine sCallVQ (X := Unit) (g := 52) (vs := [.agg #[.bool a0.Back, .slice ak a0.Cells.length am]]) (caps := []) (val := fun _ => iv ah) S (wN rfl) rfl rfl callee52 rfl (S1.quiet [18] rfl) (fun E1 w1 S1 => c_compare_Charts_1 E1 w1 a0 (.agg #[.bool a0.Back, .slice ak a0.Cells.length am]) ah aP S1) rfl (lb rfl) fun _ a w S => ?_
   exact leafL ⟨rfl, S⟩
  ·refine fJ [(47, _), (53, _)] 2 [some 1, some 19] fun G a w S => ?_
   exact sBin _ S (wN rfl) rfl rfl rfl (bAdd _ _ _ _ ag ah) rfl (lb rfl) fun a S => leafL ⟨rfl, S⟩
  ·exact fM 20 none rfl rfl rfl rfl (.inl rfl) rfl rfl rfl
  ·exact fM 21 none rfl rfl rfl rfl (.inl rfl) rfl rfl rfl
  ·refine fJ [(55, _), (56, _)] 22 [some 20, some 21] fun G a w S => ?_
   exact sIdxV S (wN rfl) rfl rfl rfl aV rfl (lb rfl) fun a S => leafL ⟨rfl, S⟩
  ·refine fJ [(57, _)] 23 [some 22] fun G a w S => ?_
   exact sLoadHE (r := (rL (rI .i64))) (T := 101) (xs := a7) (u := .slice a5 aa.length a6) (v := .slice ab a7.length ac) (vq := br) (j := a8) 0 S aW (wN rfl) rfl rfl rfl rfl rfl (lb rfl) fun a S => leafL ⟨rfl, S⟩
  ·exact fM 24 none rfl rfl rfl rfl (.inl rfl) rfl rfl rfl
  ·refine fJ [(59, _)] 25 [some 24] fun G a w S => ?_
   exact sBin _ S (wN rfl) rfl rfl rfl (bAdd _ _ _ _ a9 1) rfl (lb rfl) fun a S => leafL ⟨rfl, S⟩
  ·refine fJ [(58, _), (60, _)] 26 [some 23, some 25] fun G a w S => ?_
   exact sIdxV S (wN rfl) rfl rfl rfl aX rfl (lb rfl) fun a S => leafL ⟨rfl, S⟩
  ·refine fJ [(61, _)] 27 [some 26] fun G a w S => ?_
   exact sLoadR (r := (rI .i64)) (T := 3) (xs := aa) (x := ae) (v := .slice a5 aa.length a6) (vq := bt) (j := w64 (a9 + 1)) 1 (iv ae) S aZ (wN rfl) rfl rfl rfl aM (fun _ _ _ h => h) (scal_I _) rfl rfl (lb rfl) fun a S => leafL ⟨rfl, S⟩
  ·exact fM 28 none rfl rfl rfl rfl (.inl rfl) rfl rfl rfl
  ·exact fM 29 none rfl rfl rfl rfl (.inl rfl) rfl rfl rfl
  ·exact fM 30 none rfl rfl rfl rfl (.inl rfl) rfl rfl rfl
  ·refine fJ [(64, _), (65, _)] 31 [some 29, some 30] fun G a w S => ?_
   exact sIdxV S (wN rfl) rfl rfl rfl ba rfl (lb rfl) fun a S => leafL ⟨rfl, S⟩
  ·refine fJ [(66, _)] 32 [some 31] fun G a w S => ?_
   exact sLoadVN (vq := bg) 13 [.bool a4.Back, .slice ao a4.Cells.length ap] S (wN rfl) rfl rfl rfl rfl rfl rfl (lb rfl) fun a S => leafL ⟨rfl, S⟩
  ·refine fJ [(63, _), (67, _)] 33 [some 28, some 32] fun G a w S => ?_
   have S1 := S.mem
   refine sCallVQ (X := Unit) (g := 52) (vs := [.agg #[.bool a4.Back, .slice ao a4.Cells.length ap]]) (caps := []) (val := fun _ => iv af) S (wN rfl) rfl rfl callee52 rfl (S1.quiet [14] rfl) (fun E1 w1 S1 => c_compare_Charts_1 E1 w1 a4 (.agg #[.bool a4.Back, .slice ao a4.Cells.length ap]) af aQ S1) rfl (lb rfl) fun _ a w S => ?_
   exact leafL ⟨rfl, S⟩
  ·refine fJ [(62, _), (68, _)] 34 [some 27, some 33] fun G a w S => ?_
   exact sBin _ S (wN rfl) rfl rfl rfl (bAdd _ _ _ _ ae af) rfl (lb rfl) fun a S => leafL ⟨rfl, S⟩
  ·exact fM 35 none rfl rfl rfl rfl (.inl rfl) rfl rfl rfl
  ·exact fM 36 none rfl rfl rfl rfl (.inl rfl) rfl rfl rfl
  ·refine fJ [(71, _)] 37 [some 36] fun G a w S => ?_
   exact sBin _ S (wN rfl) rfl rfl rfl (bAdd _ _ _ _ a8 1) rfl (lb rfl) fun a S => leafL ⟨rfl, S⟩
  ·refine fJ [(70, _), (72, _)] 38 [some 35, some 37] fun G a w S => ?_
   exact sIdxV S (wN rfl) rfl rfl rfl c8 rfl (lb rfl) fun a S => leafL ⟨rfl, S⟩
  ·refine ⟨_, [(73, bA)], rfl, (srcs_of [some 38] rfl rfl rfl), fun G a w S => ?_⟩
   refine sLoadHo (r := (rL (rI .i64))) (T := 101) (xs := a7) (x := aw) (p := (a8).toNat * (rL (rI .i64)).sz + 0) (u := .slice a5 aa.length a6) (v := .slice ab a7.length ac) (vq := bA) (j := w64 (a8 + 1)) 0 S c9 (wN rfl) rfl rfl rfl ay (idx_next (by decide) (hole_lim 0 S.mem rfl) az ay) (scal_L _) rfl rfl (lb rfl) fun a dP S => ?_
   obtain ⟨cg, ci, _, rfl, _⟩ := S.mem.know (i := 0) (e := fRep (rL (rI .i64)) (dP) aw) rfl
   obtain ⟨cy, cU, S⟩ := pIdx (P := Try.prog) (r := (rI .i64)) (v := .slice cg aw.length ci) (xs := aw) (j := w64 (a9 + 1)) 101 3 0 S Try.underlying101 rfl rfl bX
   obtain ⟨cV, S⟩ := pLoad (r := (rI .i64)) (q := cy) (x := ai) 0 S rfl
   obtain rfl : cV = iv ai := S.mem.know (i := 1) (e := fRep (rI .i64) (cV) ai) rfl
   obtain ⟨cz, cW, cX⟩ := pIdxR (P := Try.prog) (r := (rI .i64)) (T := 3) (v := .slice a5 aa.length a6) (xs := aa) (j := a9) 101 3 1 S Try.underlying101 rfl rfl bY
   refine leafL ⟨rfl, _, _, .inl ⟨74, (.slice cg aw.length ci), [(42, 77, cy), (43, 78, iv ai), (54, 89, iv (w64 (ai + aj))), (55, 90, iv (min3 (w64 (ag + ah)) (w64 (ae + af)) (w64 (ai + aj)))), (56, 91, cz)], rfl, S, hz_of rfl, ?_⟩⟩
   refine node_by (A := anc_compare_table_api_Row__s0_2) 58 (by kernel_rfl) (by kernel_rfl) (by kernel_rfl) (by kernel_rfl) (by kernel_rfl) [42, 43, 54, 55, 56, 39, 11, 12, 19, 9, 0, 1, 2, 3, 4, 5, 6, 7, 8, 10, 13, 14, 15, 16, 17, 18, 20, 21, 22, 23, 24, 25, 26, 27, 28, 29, 30, 31, 32, 33, 34, 35, 36, 37, 38, 40, 41, 44, 45, 46, 47, 48, 49, 50, 51, 52, 53] (by kernel_rfl) (by decide) (by decide) (fF ?_ (fF ?_ (fF ?_ (fF ?_ (fF ?_ (fD 9 (fD 9 (fD 9 (fD 9 (fY (fF ?_ (fF ?_ (fF ?_ (fF ?_ (fF ?_ (fF ?_ (fF ?_ (fF ?_ (fF ?_ (fF ?_ (fF ?_ (fF ?_ (fF ?_ (fF ?_ (fF ?_ (fF ?_ (fF ?_ (fF ?_ (fF ?_ (fF ?_ (fF ?_ (fF ?_ (fF ?_ (fF ?_ (fF ?_ (fD 39 (fD 39 (fD 39 (fD 39 (fY (fF ?_ (fF ?_ (fF ?_ (fF ?_ (fF ?_ (fF ?_ (fF ?_ (fF ?_ (fF ?_ (fF ?_ (fF ?_ (fF ?_ (fF ?_ (fF ?_ (fF ?_ (fF ?_ (fF ?_ (fN ?_ (trivial))))))))))))))))))))))))))))))))))))))))))))))))))))))))))) [] (fun q hq => by cases hq) (fun hY => absurd (hY 57 (by decide)) (by decide))
   ·exact fM 10 none rfl rfl rfl rfl (.inl rfl) rfl rfl rfl
   ·exact fM 11 none rfl rfl rfl rfl (.inl rfl) rfl rfl rfl
   ·refine fJ [(35, _), (36, _)] 12 [some 10, some 11] fun G a w S => ?_
    exact sIdxV S (wN rfl) rfl rfl rfl aS rfl (lb rfl) fun a S => leafL ⟨rfl, S⟩
   ·refine fJ [(37, _)] 13 [some 12] fun G a w S => ?_
    exact sLoadHE (r := (rL (rI .i64))) (T := 101) (xs := a7) (u := .slice a5 aa.length a6) (v := .slice ab a7.length ac) (vq := bq) (j := a8) 0 S aT (wN rfl) rfl rfl rfl rfl rfl (lb rfl) fun a S => leafL ⟨rfl, S⟩
   ·exact fM 14 none rfl rfl rfl rfl (.inl rfl) rfl rfl rfl
   ·exact fM 19 none rfl rfl rfl rfl (.inl rfl) rfl rfl rfl
   ·refine fJ [(44, _), (45, _)] 6 [some 9, some 19] fun G a w S => ?_
    exact sIdxV S (wN rfl) rfl rfl rfl ce rfl (lb rfl) fun a S => leafL ⟨rfl, S⟩
   ·refine fJ [(46, _)] 7 [some 6] fun G a w S => ?_
    exact sLoadV1 (vq := bE) 4 (iv ag) S (wN rfl) rfl rfl rfl rfl rfl (lb rfl) fun a S => leafL ⟨rfl, S⟩
   ·exact fM 20 none rfl rfl rfl rfl (.inl rfl) rfl rfl rfl
   ·exact fM 21 none rfl rfl rfl rfl (.inl rfl) rfl rfl rfl
   ·exact fM 22 none rfl rfl rfl rfl (.inl rfl) rfl rfl rfl
   ·refine fJ [(49, _), (50, _)] 23 [some 21, some 22] fun G a w S => ?_
    exact sIdxV S (wN rfl) rfl rfl rfl aU rfl (lb rfl) fun a S => leafL ⟨rfl, S⟩
   ·refine fJ [(51, _)] 24 [some 23] fun G a w S => ?_
    exact sLoadVN (vq := bf) 21 [.bool a0.Back, .slice ak a0.Cells.length am] S (wN rfl) rfl rfl rfl rfl rfl rfl (lb rfl) fun a S => leafL ⟨rfl, S⟩
   ·refine fJ [(48, _), (52, _)] 25 [some 20, some 24] fun G a w S => ?_
    have S1 := S.mem
    refine sCallVQ (X := Unit) (g := 52) (vs := [.agg #[.bool a0.Back, .slice ak a0.Cells.length am]]) (caps := []) (val := fun _ => iv ah) S (wN rfl) rfl rfl callee52 rfl (S1.quiet [22] rfl) (fun E1 w1 S1 => c_compare_Charts_1 E1 w1 a0 (.agg #[.bool a0.Back, .slice ak a0.Cells.length am]) ah aP S1) rfl (lb rfl) fun _ a w S => ?_
    exact leafL ⟨rfl, S⟩
   ·refine fJ [(47, _), (53, _)] 8 [some 7, some 25] fun G a w S => ?_
    exact sBin _ S (wN rfl) rfl rfl rfl (bAdd _ _ _ _ ag ah) rfl (lb rfl) fun a S => leafL ⟨rfl, S⟩
   ·exact fM 26 none rfl rfl rfl rfl (.inl rfl) rfl rfl rfl
   ·exact fM 27 none rfl rfl rfl rfl (.inl rfl) rfl rfl rfl
   ·refine fJ [(55, _), (56, _)] 28 [some 26, some 27] fun G a w S => ?_
    exact sIdxV S (wN rfl) rfl rfl rfl aV rfl (lb rfl) fun a S => leafL ⟨rfl, S⟩
   ·refine fJ [(57, _)] 29 [some 28] fun G a w S => ?_
    exact sLoadHE (r := (rL (rI .i64))) (T := 101) (xs := a7) (u := .slice a5 aa.length a6) (v := .slice ab a7.length ac) (vq := br) (j := a8) 0 S aW (wN rfl) rfl rfl rfl rfl rfl (lb rfl) fun a S => leafL ⟨rfl, S⟩
   ·exact fM 30 none rfl rfl rfl rfl (.inl rfl) rfl rfl rfl
   ·refine fJ [(59, _)] 31 [some 30] fun G a w S => ?_
    exact sBin _ S (wN rfl) rfl rfl rfl (bAdd _ _ _ _ a9 1) rfl (lb rfl) fun a S => leafL ⟨rfl, S⟩
   ·refine fJ [(58, _), (60, _)] 32 [some 29, some 31] fun G a w S => ?_
    exact sIdxV S (wN rfl) rfl rfl rfl aX rfl (lb rfl) fun a S => leafL ⟨rfl, S⟩
   ·refine fJ [(61, _)] 33 [some 32] fun G a w S => ?_
    exact sLoadR (r := (rI .i64)) (T := 3) (xs := aa) (x := ae) (v := .slice a5 aa.length a6) (vq := bt) (j := w64 (a9 + 1)) 1 (iv ae) S aZ (wN rfl) rfl rfl rfl aM (fun _ _ _ h => h) (scal_I _) rfl rfl (lb rfl) fun a S => leafL ⟨rfl, S⟩
   ·exact fM 34 none rfl rfl rfl rfl (.inl rfl) rfl rfl rfl
   ·exact fM 35 none rfl rfl rfl rfl (.inl rfl) rfl rfl rfl
   ·exact fM 36 none rfl rfl rfl rfl (.inl rfl) rfl rfl rfl
   ·refine fJ [(64, _), (65, _)] 37 [some 35, some 36] fun G a w S => ?_
    exact sIdxV S (wN rfl) rfl rfl rfl ba rfl (lb rfl) fun a S => leafL ⟨rfl, S⟩
   ·refine fJ [(66, _)] 38 [some 37] fun G a w S => ?_
    exact sLoadVN (vq := bg) 17 [.bool a4.Back, .slice ao a4.Cells.length ap] S (wN rfl) rfl rfl rfl rfl rfl rfl (lb rfl) fun a S => leafL ⟨rfl, S⟩
   ·refine fJ [(63, _), (67, _)] 39 [some 34, some 38] fun G a w S => ?_
    have S1 := S.mem
    refine sCallVQ (X := Unit) (g := 52) (vs := [.agg #[.bool a4.Back, .slice ao a4.Cells.length ap]]) (caps := []) (val := fun _ => iv af) S (wN rfl) rfl rfl callee52 rfl (S1.quiet [18] rfl) (fun E1 w1 S1 => c_compare_Charts_1 E1 w1 a4 (.agg #[.bool a4.Back, .slice ao a4.Cells.length ap]) af aQ S1) rfl (lb rfl) fun _ a w S => ?_
    exact leafL ⟨rfl, S⟩
   ·refine fJ [(62, _), (68, _)] 40 [some 33, some 39] fun G a w S => ?_
    exact sBin _ S (wN rfl) rfl rfl rfl (bAdd _ _ _ _ ae af) rfl (lb rfl) fun a S => leafL ⟨rfl, S⟩
   ·exact fM 45 none rfl rfl rfl rfl (.inl rfl) rfl rfl rfl
   ·refine fJ [(75, _)] 46 [some 45] fun G a w S => ?_
    exact sBin _ S (wN rfl) rfl rfl rfl (bAdd _ _ _ _ a9 1) rfl (lb rfl) fun a S => leafL ⟨rfl, S⟩
   ·refine fJ [(74, _), (76, _)] 0 [some 5, some 46] fun G a w S => ?_
    exact sIdxV S (wN rfl) rfl rfl rfl cU rfl (lb rfl) fun a S => leafL ⟨rfl, S⟩
   ·refine fJ [(77, _)] 1 [some 0] fun G a w S => ?_
    exact sLoadV1 (vq := cy) 0 (iv ai) S (wN rfl) rfl rfl rfl rfl rfl (lb rfl) fun a S => leafL ⟨rfl, S⟩
   ·exact fM 47 none rfl rfl rfl rfl (.inl rfl) rfl rfl rfl
   ·exact fM 48 none rfl rfl rfl rfl (.inl rfl) rfl rfl rfl
   ·exact fM 49 none rfl rfl rfl rfl (.inl rfl) rfl rfl rfl
   ·refine fJ [(80, _), (81, _)] 50 [some 48, some 49] fun G a w S => ?_
    exact sIdxV S (wN rfl) rfl rfl rfl bb rfl (lb rfl) fun a S => leafL ⟨rfl, S⟩
   ·refine fJ [(82, _)] 51 [some 50] fun G a w S => ?_
    exact sLoadVN (vq := bh) 13 [.bool a0.Back, .slice aq a0.Cells.length ar] S (wN rfl) rfl rfl rfl rfl rfl rfl (lb rfl) fun a S => leafL ⟨rfl, S⟩
   ·exact fM 52 none rfl rfl rfl rfl (.inl rfl) rfl rfl rfl
   ·exact fM 53 none rfl rfl rfl rfl (.inl rfl) rfl rfl rfl
   ·refine fJ [(84, _), (85, _)] 54 [some 52, some 53] fun G a w S => ?_
    exact sIdxV S (wN rfl) rfl rfl rfl bc rfl (lb rfl) fun a S => leafL ⟨rfl, S⟩
   ·refine fJ [(86, _)] 55 [some 54] fun G a w S => ?_
    exact sLoadVN (vq := bi) 9 [.bool a4.Back, .slice au a4.Cells.length av] S (wN rfl) rfl rfl rfl rfl rfl rfl (lb rfl) fun a S => leafL ⟨rfl, S⟩
   ·refine fJ [(79, _), (83, _), (87, _)] 56 [some 47, some 51, some 55] fun G a w S => ?_
    have S1 := S.mem
    refine sCallVQ (X := Unit) (g := 53) (vs := [.agg #[.bool a0.Back, .slice aq a0.Cells.length ar], .agg #[.bool a4.Back, .slice au a4.Cells.length av]]) (caps := []) (val := fun _ => iv aj) S (wN rfl) rfl rfl callee53 rfl (S1.quiet [14, 10] rfl) (fun E1 w1 S1 => c_compare_Charts_2 E1 w1 a0 (.agg #[.bool a0.Back, .slice aq a0.Cells.length ar]) a4 (.agg #[.bool a4.Back, .slice au a4.Cells.length av]) aj aR S1) rfl (lb rfl) fun _ a w S => ?_
    exact leafL ⟨rfl, S⟩
   ·refine fJ [(78, _), (88, _)] 2 [some 1, some 56] fun G a w S => ?_
    exact sBin _ S (wN rfl) rfl rfl rfl (bAdd _ _ _ _ ai aj) rfl (lb rfl) fun a S => leafL ⟨rfl, S⟩
   ·refine fJ [(54, _), (69, _), (89, _)] 3 [some 8, some 40, some 2] fun G a w S => ?_
    exact sMin3 (p := w64 (ag + ah)) (q := w64 (ae + af)) (r := w64 (ai + aj)) S (wN rfl) rfl rfl rfl rfl rfl (lb rfl) fun a S => leafL ⟨rfl, S⟩
   ·refine fJ [(38, _), (39, _)] 4 [some 13, some 14] fun G a w S => ?_
    exact sIdxV S (wN rfl) rfl rfl rfl cW rfl (lb rfl) fun a S => leafL ⟨rfl, S⟩
   refine ⟨_, [(90, iv (min3 (w64 (ag + ah)) (w64 (ae + af)) (w64 (ai + aj)))), (91, cz)], rfl, (srcs_of [some 3, some 4] rfl rfl rfl), fun G a w S => ?_⟩
   refine sStoreR (r := (rI .i64)) (T := 3) (xs := aa) (ys := bD) (y := (min3 (w64 (ag + ah)) (w64 (ae + af)) (w64 (ai + aj)))) (v := .slice a5 aa.length a6) (vq := cz) (u := iv (min3 (w64 (ag + ah)) (w64 (ae + af)) (w64 (ai + aj)))) (j := a9) 1 S cX (wN rfl) rfl rfl rfl rfl rfl bl rfl rfl fun a w S => ?_
   refine leafL ⟨rfl, _, _, .inr ⟨[], rfl, S, hz_of rfl, ?_⟩⟩
   refine node_by (A := anc_compare_table_api_Row__s0_2) 58 (by kernel_rfl) (by kernel_rfl) (by kernel_rfl) (by kernel_rfl) (by kernel_rfl) [42, 43, 54, 55, 56, 39, 11, 12, 19, 9, 0, 1, 2, 3, 4, 5, 6, 7, 8, 10, 13, 14, 15, 16, 17, 18, 20, 21, 22, 23, 24, 25, 26, 27, 28, 29, 30, 31, 32, 33, 34, 35, 36, 37, 38, 40, 41, 44, 45, 46, 47, 48, 49, 50, 51, 52, 53] (by kernel_rfl) (by decide) (by decide) (fD 57 (fD 57 (fD 57 (fD 57 (fD 57 (fD 57 (fD 57 (fD 57 (fD 57 (fY (fD 57 (fD 57 (fD 57 (fD 57 (fD 57 (fD 57 (fD 57 (fD 57 (fD 57 (fD 57 (fD 57 (fD 57 (fD 57 (fD 57 (fD 57 (fD 57 (fD 57 (fD 57 (fD 57 (fD 57 (fD 57 (fD 57 (fD 57 (fD 57 (fD 57 (fD 57 (fD 57 (fD 57 (fD 57 (fY (fD 57 (fD 57 (fD 57 (fD 57 (fD 57 (fD 57 (fD 57 (fD 57 (fD 57 (fD 57 (fD 57 (fD 57 (fD 57 (fD 57 (fD 57 (fD 57 (fD 57 (fY (trivial))))))))))))))))))))))))))))))))))))))))))))))))))))))))))) [(0, .slice aI p0.length aJ), (1, .slice aG p1.length aH), (2, .func (.func 52) #[] #[]), (3, .func (.func 53) #[] #[]), (9, .slice ab a7.length ac), (10, iv a8), (11, iv a9)] (fin_of [none, none, none, none, none, none, none] rfl (by kernel_rfl) (by kernel_rfl)) (fun _ a w S => ?_)
   rw [setO_v bl a5 a6] at S
   exact leafB (leafB (leafT (⟨bD, Option.some.inj h, S.fix [1, 0] [24, 25] (by decide) rfl rfl rfl⟩)))
  ·exact fM 39 none rfl rfl rfl rfl (.inl rfl) rfl rfl rfl
  ·refine fJ [(75, _)] 40 [some 39] fun G a w S => ?_
   exact sBin _ S (wN rfl) rfl rfl rfl (bAdd _ _ _ _ a9 1) rfl (lb rfl) fun a S => leafL ⟨rfl, S⟩
  ·exact fM 41 none rfl rfl rfl rfl (.inl rfl) rfl rfl rfl
  ·exact fM 42 none rfl rfl rfl rfl (.inl rfl) rfl rfl rfl
  ·exact fM 43 none rfl rfl rfl rfl (.inl rfl) rfl rfl rfl
  ·refine fJ [(80, _), (81, _)] 44 [some 42, some 43] fun G a w S => ?_
   exact sIdxV S (wN rfl) rfl rfl rfl bb rfl (lb rfl) fun a S => leafL ⟨rfl, S⟩
  ·refine fJ [(82, _)] 45 [some 44] fun G a w S => ?_
   exact sLoadVN (vq := bh) 9 [.bool a0.Back, .slice aq a0.Cells.length ar] S (wN rfl) rfl rfl rfl rfl rfl rfl (lb rfl) fun a S => leafL ⟨rfl, S⟩
  ·exact fM 46 none rfl rfl rfl rfl (.inl rfl) rfl rfl rfl
  ·exact fM 47 none rfl rfl rfl rfl (.inl rfl) rfl rfl rfl
  ·refine fJ [(84, _), (85, _)] 48 [some 46, some 47] fun G a w S => ?_
   exact sIdxV S (wN rfl) rfl rfl rfl bc rfl (lb rfl) fun a S => leafL ⟨rfl, S⟩
  ·refine fJ [(86, _)] 49 [some 48] fun G a w S => ?_
   exact sLoadVN (vq := bi) 5 [.bool a4.Back, .slice au a4.Cells.length av] S (wN rfl) rfl rfl rfl rfl rfl rfl (lb rfl) fun a S => leafL ⟨rfl, S⟩
  refine fJ [(79, _), (83, _), (87, _)] 50 [some 41, some 45, some 49] fun G a w S => ?_
  have S1 := S.mem
  refine sCallVQ (X := Unit) (g := 53) (vs := [.agg #[.bool a0.Back, .slice aq a0.Cells.length ar], .agg #[.bool a4.Back, .slice au a4.Cells.length av]]) (caps := []) (val := fun _ => iv aj) S (wN rfl) rfl rfl callee53 rfl (S1.quiet [10, 6] rfl) (fun E1 w1 S1 => c_compare_Charts_2 E1 w1 a0 (.agg #[.bool a0.Back, .slice aq a0.Cells.length ar]) a4 (.agg #[.bool a4.Back, .slice au a4.Cells.length av]) aj aR S1) rfl (lb rfl) fun _ a w S => ?_
  exact leafL ⟨rfl, S⟩
 ·exact fM 9 none rfl rfl rfl rfl (.inl rfl) rfl rfl rfl
 ·exact fM 10 none rfl rfl rfl rfl (.inl rfl) rfl rfl rfl
 ·exact fM 11 none rfl rfl rfl rfl (.inl rfl) rfl rfl rfl
 ·exact fM 12 none rfl rfl rfl rfl (.inl rfl) rfl rfl rfl
 ·refine fJ [(49, _), (50, _)] 13 [some 11, some 12] fun G a w S => ?_
  exact sIdxV S (wN rfl) rfl rfl rfl aU rfl (lb rfl) fun a S => leafL ⟨rfl, S⟩
 ·refine fJ [(51, _)] 14 [some 13] fun G a w S => ?_
  exact sLoadVN (vq := bf) 13 [.bool a0.Back, .slice ak a0.Cells.length am] S (wN rfl) rfl rfl rfl rfl rfl rfl (lb rfl) fun a S => leafL ⟨rfl, S⟩
 ·refine fJ [(48, _), (52, _)] 15 [some 10, some 14] fun G a w S => ?_
  have S1 := S.mem
  refine sCallVQ (X := Unit) (g := 52) (vs := [.agg #[.bool a0.Back, .slice ak a0.Cells.length am]]) (caps := []) (val := fun _ => iv ah) S (wN rfl) rfl rfl callee52 rfl (S1.quiet [14] rfl) (fun E1 w1 S1 => c_compare_Charts_1 E1 w1 a0 (.agg #[.bool a0.Back, .slice ak a0.Cells.length am]) ah aP S1) rfl (lb rfl) fun _ a w S => ?_
  exact leafL ⟨rfl, S⟩
 ·exact fM 16 none rfl rfl rfl rfl (.inl rfl) rfl rfl rfl
 ·exact fM 17 none rfl rfl rfl rfl (.inl rfl) rfl rfl rfl
 ·refine fJ [(55, _), (56, _)] 18 [some 16, some 17] fun G a w S => ?_
  exact sIdxV S (wN rfl) rfl rfl rfl aV rfl (lb rfl) fun a S => leafL ⟨rfl, S⟩
 ·refine fJ [(57, _)] 19 [some 18] fun G a w S => ?_
  exact sLoadHE (r := (rL (rI .i64))) (T := 101) (xs := a7) (u := .slice a5 aa.length a6) (v := .slice ab a7.length ac) (vq := br) (j := a8) 0 S aW (wN rfl) rfl rfl rfl rfl rfl (lb rfl) fun a S => leafL ⟨rfl, S⟩
 ·exact fM 20 none rfl rfl rfl rfl (.inl rfl) rfl rfl rfl
 ·refine fJ [(59, _)] 21 [some 20] fun G a w S => ?_
  exact sBin _ S (wN rfl) rfl rfl rfl (bAdd _ _ _ _ a9 1) rfl (lb rfl) fun a S => leafL ⟨rfl, S⟩
 ·refine fJ [(58, _), (60, _)] 22 [some 19, some 21] fun G a w S => ?_
  exact sIdxV S (wN rfl) rfl rfl rfl aX rfl (lb rfl) fun a S => leafL ⟨rfl, S⟩
 ·refine fJ [(61, _)] 23 [some 22] fun G a w S => ?_
  exact sLoadR (r := (rI .i64)) (T := 3) (xs := aa) (x := ae) (v := .slice a5 aa.length a6) (vq := bt) (j := w64 (a9 + 1)) 1 (iv ae) S aZ (wN rfl) rfl rfl rfl aM (fun _ _ _ h => h) (scal_I _) rfl rfl (lb rfl) fun a S => leafL ⟨rfl, S⟩
 ·exact fM 24 none rfl rfl rfl rfl (.inl rfl) rfl rfl rfl
 ·exact fM 25 none rfl rfl rfl rfl (.inl rfl) rfl rfl rfl
 ·exact fM 26 none rfl rfl rfl rfl (.inl rfl) rfl rfl rfl
 ·refine fJ [(64, _), (65, _)] 27 [some 25, some 26] fun G a w S => ?_
  exact sIdxV S (wN rfl) rfl rfl rfl ba rfl (lb rfl) fun a S => leafL ⟨rfl, S⟩
 ·refine fJ [(66, _)] 28 [some 27] fun G a w S => ?_
  exact sLoadVN (vq := bg) 9 [.bool a4.Back, .slice ao a4.Cells.length ap] S (wN rfl) rfl rfl rfl rfl rfl rfl (lb rfl) fun a S => leafL ⟨rfl, S⟩
 ·refine fJ [(63, _), (67, _)] 29 [some 24, some 28] fun G a w S => ?_
  have S1 := S.mem
  refine sCallVQ (X := Unit) (g := 52) (vs := [.agg #[.bool a4.Back, .slice ao a4.Cells.length ap]]) (caps := []) (val := fun _ => iv af) S (wN rfl) rfl rfl callee52 rfl (S1.quiet [10] rfl) (fun E1 w1 S1 => c_compare_Charts_1 E1 w1 a4 (.agg #[.bool a4.Back, .slice ao a4.Cells.length ap]) af aQ S1) rfl (lb rfl) fun _ a w S => ?_
  exact leafL ⟨rfl, S⟩
 ·refine fJ [(62, _), (68, _)] 30 [some 23, some 29] fun G a w S => ?_
  exact sBin _ S (wN rfl) rfl rfl rfl (bAdd _ _ _ _ ae af) rfl (lb rfl) fun a S => leafL ⟨rfl, S⟩
 ·exact fM 31 none rfl rfl rfl rfl (.inl rfl) rfl rfl rfl
 ·exact fM 32 none rfl rfl rfl rfl (.inl rfl) rfl rfl rfl
 ·refine fJ [(71, _)] 33 [some 32] fun G a w S => ?_
  exact sBin _ S (wN rfl) rfl rfl rfl (bAdd _ _ _ _ a8 1) rfl (lb rfl) fun a S => leafL ⟨rfl, S⟩
 ·refine fJ [(70, _), (72, _)] 34 [some 31, some 33] fun G a w S => ?_
  exact sIdxV S (wN rfl) rfl rfl rfl c8 rfl (lb rfl) fun a S => leafL ⟨rfl, S⟩
 ·refine ⟨_, [(73, bA)], rfl, (srcs_of [some 34] rfl rfl rfl), fun G a w S => ?_⟩
  refine sLoadHo (r := (rL (rI .i64))) (T := 101) (xs := a7) (x := aw) (p := (a8).toNat * (rL (rI .i64)).sz + 0) (u := .slice a5 aa.length a6) (v := .slice ab a7.length ac) (vq := bA) (j := w64 (a8 + 1)) 0 S c9 (wN rfl) rfl rfl rfl ay (idx_next (by decide) (hole_lim 0 S.mem rfl) az ay) (scal_L _) rfl rfl (lb rfl) fun a dQ S => ?_
  obtain ⟨cj, ck, _, rfl, _⟩ := S.mem.know (i := 0) (e := fRep (rL (rI .i64)) (dQ) aw) rfl
  obtain ⟨bG, cl, S⟩ := pIdx (P := Try.prog) (r := (rI .i64)) (v := .slice cj aw.length ck) (xs := aw) (j := w64 (a9 + 1)) 101 3 0 S Try.underlying101 rfl rfl bX
  obtain ⟨cY, S⟩ := pLoad (r := (rI .i64)) (q := bG) (x := ai) 0 S rfl
  obtain rfl : cY = iv ai := S.mem.know (i := 1) (e := fRep (rI .i64) (cY) ai) rfl
  refine leafL ⟨rfl, _, _, .inl ⟨74, (.slice cj aw.length ck), [(42, 77, bG), (43, 78, iv ai), (54, 89, iv (w64 (ai + aj)))], rfl, S, hz_of rfl, ?_⟩⟩
  refine node_by (A := anc_compare_table_api_Row__s0_2) 58 (by kernel_rfl) (by kernel_rfl) (by kernel_rfl) (by kernel_rfl) (by kernel_rfl) [42, 43, 54, 39, 0, 1, 2, 3, 4, 5, 6, 7, 8, 10, 13, 14, 15, 16, 17, 18, 20, 21, 22, 23, 24, 25, 26, 27, 28, 29, 30, 31, 32, 33, 34, 35, 36, 37, 38, 40, 41, 44, 45, 46, 47, 48, 49, 50, 51, 52, 53] (by kernel_rfl) (by decide) (by decide) (fF ?_ (fF ?_ (fF ?_ (fF ?_ (fF ?_ (fF ?_ (fF ?_ (fF ?_ (fF ?_ (fN ?_ (fF ?_ (fE 9 (fE 9 (fF ?_ (fF ?_ (fF ?_ (fF ?_ (fF ?_ (fF ?_ (fE 9 (fF ?_ (fF ?_ (fF ?_ (fF ?_ (fF ?_ (fF ?_ (fF ?_ (fF ?_ (fF ?_ (fF ?_ (fF ?_ (fF ?_ (fF ?_ (fF ?_ (fF ?_ (fD 39 (fD 39 (fD 39 (fD 39 (fY (fF ?_ (fF ?_ (fF ?_ (fF ?_ (fF ?_ (fF ?_ (fF ?_ (fF ?_ (fF ?_ (fF ?_ (fF ?_ (fF ?_ (fF ?_ (fF ?_ (fF ?_ (fE 9 (fE 9 (aB 57 0 9 (by decide) (trivial))))))))))))))))))))))))))))))))))))))))))))))))))))))))))) [] (fun q hq => by cases hq) (fun hY => absurd (hY 9 (by decide)) (by decide))
  ·exact fM 4 none rfl rfl rfl rfl (.inl rfl) rfl rfl rfl
  ·exact fM 5 none rfl rfl rfl rfl (.inl rfl) rfl rfl rfl
  ·refine fJ [(35, _), (36, _)] 6 [some 4, some 5] fun G a w S => ?_
   exact sIdxV S (wN rfl) rfl rfl rfl aS rfl (lb rfl) fun a S => leafL ⟨rfl, S⟩
  ·refine fJ [(37, _)] 7 [some 6] fun G a w S => ?_
   exact sLoadHE (r := (rL (rI .i64))) (T := 101) (xs := a7) (u := .slice a5 aa.length a6) (v := .slice ab a7.length ac) (vq := bq) (j := a8) 0 S aT (wN rfl) rfl rfl rfl rfl rfl (lb rfl) fun a S => leafL ⟨rfl, S⟩
  ·exact fM 8 none rfl rfl rfl rfl (.inl rfl) rfl rfl rfl
  ·exact fM 9 none rfl rfl rfl rfl (.inl rfl) rfl rfl rfl
  ·exact fM 10 none rfl rfl rfl rfl (.inl rfl) rfl rfl rfl
  ·refine fJ [(41, _)] 11 [some 10] fun G a w S => ?_
   exact sBin _ S (wN rfl) rfl rfl rfl (bAdd _ _ _ _ a8 1) rfl (lb rfl) fun a S => leafL ⟨rfl, S⟩
  ·refine fJ [(40, _), (42, _)] 12 [some 9, some 11] fun G a w S => ?_
   exact sIdxV S (wN rfl) rfl rfl rfl bZ rfl (lb rfl) fun a S => leafL ⟨rfl, S⟩
  ·refine ⟨_, [(43, bz)], rfl, (srcs_of [some 12] rfl rfl rfl), fun G a w S => ?_⟩
   refine sLoadHo (r := (rL (rI .i64))) (T := 101) (xs := a7) (x := aw) (p := (a8).toNat * (rL (rI .i64)).sz + 0) (u := .slice a5 aa.length a6) (v := .slice ab a7.length ac) (vq := bz) (j := w64 (a8 + 1)) 0 S c5 (wN rfl) rfl rfl rfl ay (idx_next (by decide) (hole_lim 0 S.mem rfl) az ay) (scal_L _) rfl rfl (lb rfl) fun a dR S => ?_
   obtain ⟨cm, cn, _, rfl, _⟩ := S.mem.know (i := 0) (e := fRep (rL (rI .i64)) (dR) aw) rfl
   obtain ⟨cA, cZ, S⟩ := pIdx (P := Try.prog) (r := (rI .i64)) (v := .slice cm aw.length cn) (xs := aw) (j := a9) 101 3 0 S Try.underlying101 rfl rfl bU
   obtain ⟨d4, S⟩ := pLoad (r := (rI .i64)) (q := cA) (x := ag) 0 S rfl
   obtain rfl : d4 = iv ag := S.mem.know (i := 1) (e := fRep (rI .i64) (d4) ag) rfl
   obtain ⟨cB, d5, d6⟩ := pIdxR (P := Try.prog) (r := (rI .i64)) (T := 3) (v := .slice a5 aa.length a6) (xs := aa) (j := a9) 101 3 1 S Try.underlying101 rfl rfl bY
   refine leafL ⟨rfl, _, _, .inl ⟨44, (.slice cm aw.length cn), [(11, 46, cA), (12, 47, iv ag), (19, 54, iv (w64 (ag + ah))), (55, 90, iv (min3 (w64 (ag + ah)) (w64 (ae + af)) (w64 (ai + aj)))), (56, 91, cB)], rfl, S, hz_of rfl, ?_⟩⟩
   refine node_by (A := anc_compare_table_api_Row__s0_2) 58 (by kernel_rfl) (by kernel_rfl) (by kernel_rfl) (by kernel_rfl) (by kernel_rfl) [11, 12, 19, 55, 56, 9, 42, 43, 54, 39, 0, 1, 2, 3, 4, 5, 6, 7, 8, 10, 13, 14, 15, 16, 17, 18, 20, 21, 22, 23, 24, 25, 26, 27, 28, 29, 30, 31, 32, 33, 34, 35, 36, 37, 38, 40, 41, 44, 45, 46, 47, 48, 49, 50, 51, 52, 53] (by kernel_rfl) (by decide) (by decide) (fF ?_ (fF ?_ (fF ?_ (fF ?_ (fF ?_ (fD 9 (fD 9 (fD 9 (fD 9 (fY (fF ?_ (fF ?_ (fF ?_ (fF ?_ (fF ?_ (fF ?_ (fF ?_ (fF ?_ (fF ?_ (fF ?_ (fF ?_ (fF ?_ (fF ?_ (fF ?_ (fF ?_ (fF ?_ (fF ?_ (fF ?_ (fF ?_ (fF ?_ (fF ?_ (fF ?_ (fF ?_ (fF ?_ (fF ?_ (fD 39 (fD 39 (fD 39 (fD 39 (fY (fF ?_ (fF ?_ (fF ?_ (fF ?_ (fF ?_ (fF ?_ (fF ?_ (fF ?_ (fF ?_ (fF ?_ (fF ?_ (fF ?_ (fF ?_ (fF ?_ (fF ?_ (fF ?_ (fF ?_ (fN ?_ (trivial))))))))))))))))))))))))))))))))))))))))))))))))))))))))))) [] (fun q hq => by cases hq) (fun hY => absurd (hY 57 (by decide)) (by decide))
   ·exact fM 10 none rfl rfl rfl rfl (.inl rfl) rfl rfl rfl
   ·exact fM 11 none rfl rfl rfl rfl (.inl rfl) rfl rfl rfl
   ·refine fJ [(35, _), (36, _)] 12 [some 10, some 11] fun G a w S => ?_
    exact sIdxV S (wN rfl) rfl rfl rfl aS rfl (lb rfl) fun a S => leafL ⟨rfl, S⟩
   ·refine fJ [(37, _)] 13 [some 12] fun G a w S => ?_
    exact sLoadHE (r := (rL (rI .i64))) (T := 101) (xs := a7) (u := .slice a5 aa.length a6) (v := .slice ab a7.length ac) (vq := bq) (j := a8) 0 S aT (wN rfl) rfl rfl rfl rfl rfl (lb rfl) fun a S => leafL ⟨rfl, S⟩
   ·exact fM 14 none rfl rfl rfl rfl (.inl rfl) rfl rfl rfl
   ·exact fM 19 none rfl rfl rfl rfl (.inl rfl) rfl rfl rfl
   ·refine fJ [(44, _), (45, _)] 0 [some 5, some 19] fun G a w S => ?_
    exact sIdxV S (wN rfl) rfl rfl rfl cZ rfl (lb rfl) fun a S => leafL ⟨rfl, S⟩
   ·refine fJ [(46, _)] 1 [some 0] fun G a w S => ?_
    exact sLoadV1 (vq := cA) 0 (iv ag) S (wN rfl) rfl rfl rfl rfl rfl (lb rfl) fun a S => leafL ⟨rfl, S⟩
   ·exact fM 20 none rfl rfl rfl rfl (.inl rfl) rfl rfl rfl
   ·exact fM 21 none rfl rfl rfl rfl (.inl rfl) rfl rfl rfl
   ·exact fM 22 none rfl rfl rfl rfl (.inl rfl) rfl rfl rfl
   ·refine fJ [(49, _), (50, _)] 23 [some 21, some 22] fun G a w S => ?_
    exact sIdxV S (wN rfl) rfl rfl rfl aU rfl (lb rfl) fun a S => leafL ⟨rfl, S⟩
   ·refine fJ [(51, _)] 24 [some 23] fun G a w S => ?_
    exact sLoadVN (vq := bf) 21 [.bool a0.Back, .slice ak a0.Cells.length am] S (wN rfl) rfl rfl rfl rfl rfl rfl (lb rfl) fun a S => leafL ⟨rfl, S⟩
   ·refine fJ [(48, _), (52, _)] 25 [some 20, some 24] fun G a w S => ?_
    have S1 := S.mem
    refine sCallVQ (X := Unit) (g := 52) (vs := [.agg #[.bool a0.Back, .slice ak a0.Cells.length am]]) (caps := []) (val := fun _ => iv ah) S (wN rfl) rfl rfl callee52 rfl (S1.quiet [22] rfl) (fun E1 w1 S1 => c_compare_Charts_1 E1 w1 a0 (.agg #[.bool a0.Back, .slice ak a0.Cells.length am]) ah aP S1) rfl (lb rfl) fun _ a w S => ?_
    exact leafL ⟨rfl, S⟩
   ·refine fJ [(47, _), (53, _)] 2 [some 1, some 25] fun G a w S => ?_
    exact sBin _ S (wN rfl) rfl rfl rfl (bAdd _ _ _ _ ag ah) rfl (lb rfl) fun a S => leafL ⟨rfl, S⟩
   ·exact fM 26 none rfl rfl rfl rfl (.inl rfl) rfl rfl rfl
   ·exact fM 27 none rfl rfl rfl rfl (.inl rfl) rfl rfl rfl
   ·refine fJ [(55, _), (56, _)] 28 [some 26, some 27] fun G a w S => ?_
    exact sIdxV S (wN rfl) rfl rfl rfl aV rfl (lb rfl) fun a S => leafL ⟨rfl, S⟩
   ·refine fJ [(57, _)] 29 [some 28] fun G a w S => ?_
    exact sLoadHE (r := (rL (rI .i64))) (T := 101) (xs := a7) (u := .slice a5 aa.length a6) (v := .slice ab a7.length ac) (vq := br) (j := a8) 0 S aW (wN rfl) rfl rfl rfl rfl rfl (lb rfl) fun a S => leafL ⟨rfl, S⟩
   ·exact fM 30 none rfl rfl rfl rfl (.inl rfl) rfl rfl rfl
   ·refine fJ [(59, _)] 31 [some 30] fun G a w S => ?_
    exact sBin _ S (wN rfl) rfl rfl rfl (bAdd _ _ _ _ a9 1) rfl (lb rfl) fun a S => leafL ⟨rfl, S⟩
   ·refine fJ [(58, _), (60, _)] 32 [some 29, some 31] fun G a w S => ?_
    exact sIdxV S (wN rfl) rfl rfl rfl aX rfl (lb rfl) fun a S => leafL ⟨rfl, S⟩
   ·refine fJ [(61, _)] 33 [some 32] fun G a w S => ?_
    exact sLoadR (r := (rI .i64)) (T := 3) (xs := aa) (x := ae) (v := .slice a5 aa.length a6) (vq := bt) (j := w64 (a9 + 1)) 1 (iv ae) S aZ (wN rfl) rfl rfl rfl aM (fun _ _ _ h => h) (scal_I _) rfl rfl (lb rfl) fun a S => leafL ⟨rfl, S⟩
   ·exact fM 34 none rfl rfl rfl rfl (.inl rfl) rfl rfl rfl
   ·exact fM 35 none rfl rfl rfl rfl (.inl rfl) rfl rfl rfl
   ·exact fM 36 none rfl rfl rfl rfl (.inl rfl) rfl rfl rfl
   ·refine fJ [(64, _), (65, _)] 37 [some 35, some 36] fun G a w S => ?_
    exact sIdxV S (wN rfl) rfl rfl rfl ba rfl (lb rfl) fun a S => leafL ⟨rfl, S⟩
   ·refine fJ [(66, _)] 38 [some 37] fun G a w S => ?_
    exact sLoadVN (vq := bg) 17 [.bool a4.Back, .slice ao a4.Cells.length ap] S (wN rfl) rfl rfl rfl rfl rfl rfl (lb rfl) fun a S => leafL ⟨rfl, S⟩
   ·refine fJ [(63, _), (67, _)] 39 [some 34, some 38] fun G a w S => ?_
    have S1 := S.mem
    refine sCallVQ (X := Unit) (g := 52) (vs := [.agg #[.bool a4.Back, .slice ao a4.Cells.length ap]]) (caps := []) (val := fun _ => iv af) S (wN rfl) rfl rfl callee52 rfl (S1.quiet [18] rfl) (fun E1 w1 S1 => c_compare_Charts_1 E1 w1 a4 (.agg #[.bool a4.Back, .slice ao a4.Cells.length ap]) af aQ S1) rfl (lb rfl) fun _ a w S => ?_
    exact leafL ⟨rfl, S⟩
   ·refine fJ [(62, _), (68, _)] 40 [some 33, some 39] fun G a w S => ?_
    exact sBin _ S (wN rfl) rfl rfl rfl (bAdd _ _ _ _ ae af) rfl (lb rfl) fun a S => leafL ⟨rfl, S⟩
   ·exact fM 45 none rfl rfl rfl rfl (.inl rfl) rfl rfl rfl
   ·refine fJ [(75, _)] 46 [some 45] fun G a w S => ?_
    exact sBin _ S (wN rfl) rfl rfl rfl (bAdd _ _ _ _ a9 1) rfl (lb rfl) fun a S => leafL ⟨rfl, S⟩
   ·refine fJ [(74, _), (76, _)] 6 [some 9, some 46] fun G a w S => ?_
    exact sIdxV S (wN rfl) rfl rfl rfl cl rfl (lb rfl) fun a S => leafL ⟨rfl, S⟩
   ·refine fJ [(77, _)] 7 [some 6] fun G a w S => ?_
    exact sLoadV1 (vq := bG) 4 (iv ai) S (wN rfl) rfl rfl rfl rfl rfl (lb rfl) fun a S => leafL ⟨rfl, S⟩
   ·exact fM 47 none rfl rfl rfl rfl (.inl rfl) rfl rfl rfl
   ·exact fM 48 none rfl rfl rfl rfl (.inl rfl) rfl rfl rfl
   ·exact fM 49 none rfl rfl rfl rfl (.inl rfl) rfl rfl rfl
   ·refine fJ [(80, _), (81, _)] 50 [some 48, some 49] fun G a w S => ?_
    exact sIdxV S (wN rfl) rfl rfl rfl bb rfl (lb rfl) fun a S => leafL ⟨rfl, S⟩
   ·refine fJ [(82, _)] 51 [some 50] fun G a w S => ?_
    exact sLoadVN (vq := bh) 13 [.bool a0.Back, .slice aq a0.Cells.length ar] S (wN rfl) rfl rfl rfl rfl rfl rfl (lb rfl) fun a S => leafL ⟨rfl, S⟩
   ·exact fM 52 none rfl rfl rfl rfl (.inl rfl) rfl rfl rfl
   ·exact fM 53 none rfl rfl rfl rfl (.inl rfl) rfl rfl rfl
   ·refine fJ [(84, _), (85, _)] 54 [some 52, some 53] fun G a w S => ?_
    exact sIdxV S (wN rfl) rfl rfl rfl bc rfl (lb rfl) fun a S => leafL ⟨rfl, S⟩
   ·refine fJ [(86, _)] 55 [some 54] fun G a w S => ?_
    exact sLoadVN (vq := bi) 9 [.bool a4.Back, .slice au a4.Cells.length av] S (wN rfl) rfl rfl rfl rfl rfl rfl (lb rfl) fun a S => leafL ⟨rfl, S⟩
   ·refine fJ [(79, _), (83, _), (87, _)] 56 [some 47, some 51, some 55] fun G a w S => ?_
    have S1 := S.mem
    refine sCallVQ (X := Unit) (g := 53) (vs := [.agg #[.bool a0.Back, .slice aq a0.Cells.length ar], .agg #[.bool a4.Back, .slice au a4.Cells.length av]]) (caps := []) (val := fun _ => iv aj) S (wN rfl) rfl rfl callee53 rfl (S1.quiet [14, 10] rfl) (fun E1 w1 S1 => c_compare_Charts_2 E1 w1 a0 (.agg #[.bool a0.Back, .slice aq a0.Cells.length ar]) a4 (.agg #[.bool a4.Back, .slice au a4.Cells.length av]) aj aR S1) rfl (lb rfl) fun _ a w S => ?_
    exact leafL ⟨rfl, S⟩
   ·refine fJ [(78, _), (88, _)] 8 [some 7, some 56] fun G a w S => ?_
    exact sBin _ S (wN rfl) rfl rfl rfl (bAdd _ _ _ _ ai aj) rfl (lb rfl) fun a S => leafL ⟨rfl, S⟩
   ·refine fJ [(54, _), (69, _), (89, _)] 3 [some 2, some 40, some 8] fun G a w S => ?_
    exact sMin3 (p := w64 (ag + ah)) (q := w64 (ae + af)) (r := w64 (ai + aj)) S (wN rfl) rfl rfl rfl rfl rfl (lb rfl) fun a S => leafL ⟨rfl, S⟩
   ·refine fJ [(38, _), (39, _)] 4 [some 13, some 14] fun G a w S => ?_
    exact sIdxV S (wN rfl) rfl rfl rfl d5 rfl (lb rfl) fun a S => leafL ⟨rfl, S⟩
   refine ⟨_, [(90, iv (min3 (w64 (ag + ah)) (w64 (ae + af)) (w64 (ai + aj)))), (91, cB)], rfl, (srcs_of [some 3, some 4] rfl rfl rfl), fun G a w S => ?_⟩
   refine sStoreR (r := (rI .i64)) (T := 3) (xs := aa) (ys := bD) (y := (min3 (w64 (ag + ah)) (w64 (ae + af)) (w64 (ai + aj)))) (v := .slice a5 aa.length a6) (vq := cB) (u := iv (min3 (w64 (ag + ah)) (w64 (ae + af)) (w64 (ai + aj)))) (j := a9) 1 S d6 (wN rfl) rfl rfl rfl rfl rfl bl rfl rfl fun a w S => ?_
   refine leafL ⟨rfl, _, _, .inr ⟨[], rfl, S, hz_of rfl, ?_⟩⟩
   refine node_by (A := anc_compare_table_api_Row__s0_2) 58 (by kernel_rfl) (by kernel_rfl) (by kernel_rfl) (by kernel_rfl) (by kernel_rfl) [11, 12, 19, 55, 56, 9, 42, 43, 54, 39, 0, 1, 2, 3, 4, 5, 6, 7, 8, 10, 13, 14, 15, 16, 17, 18, 20, 21, 22, 23, 24, 25, 26, 27, 28, 29, 30, 31, 32, 33, 34, 35, 36, 37, 38, 40, 41, 44, 45, 46, 47, 48, 49, 50, 51, 52, 53] (by kernel_rfl) (by decide) (by decide) (fD 57 (fD 57 (fD 57 (fD 57 (fD 57 (fD 57 (fD 57 (fD 57 (fD 57 (fY (fD 57 (fD 57 (fD 57 (fD 57 (fD 57 (fD 57 (fD 57 (fD 57 (fD 57 (fD 57 (fD 57 (fD 57 (fD 57 (fD 57 (fD 57 (fD 57 (fD 57 (fD 57 (fD 57 (fD 57 (fD 57 (fD 57 (fD 57 (fD 57 (fD 57 (fD 57 (fD 57 (fD 57 (fD 57 (fY (fD 57 (fD 57 (fD 57 (fD 57 (fD 57 (fD 57 (fD 57 (fD 57 (fD 57 (fD 57 (fD 57 (fD 57 (fD 57 (fD 57 (fD 57 (fD 57 (fD 57 (fY (trivial))))))))))))))))))))))))))))))))))))))))))))))))))))))))))) [(0, .slice aI p0.length aJ), (1, .slice aG p1.length aH), (2, .func (.func 52) #[] #[]), (3, .func (.func 53) #[] #[]), (9, .slice ab a7.length ac), (10, iv a8), (11, iv a9)] (fin_of [none, none, none, none, none, none, none] rfl (by kernel_rfl) (by kernel_rfl)) (fun _ a w S => ?_)
   rw [setO_v bl a5 a6] at S
   exact leafB (leafB (leafT (⟨bD, Option.some.inj h, S.fix [1, 0] [24, 25] (by decide) rfl rfl rfl⟩)))
  ·exact fM 13 none rfl rfl rfl rfl (.inl rfl) rfl rfl rfl
  ·exact fM 14 none rfl rfl rfl rfl (.inl rfl) rfl rfl rfl
  ·exact fM 15 none rfl rfl rfl rfl (.inl rfl) rfl rfl rfl
  ·exact fM 16 none rfl rfl rfl rfl (.inl rfl) rfl rfl rfl
  ·refine fJ [(49, _), (50, _)] 17 [some 15, some 16] fun G a w S => ?_
   exact sIdxV S (wN rfl) rfl rfl rfl aU rfl (lb rfl) fun a S => leafL ⟨rfl, S⟩
  ·refine fJ [(51, _)] 18 [some 17] fun G a w S => ?_
   exact sLoadVN (vq := bf) 17 [.bool a0.Back, .slice ak a0.Cells.length am] S (wN rfl) rfl rfl rfl rfl rfl rfl (lb rfl) fun a S => leafL ⟨rfl, S⟩
  ·refine fJ [(48, _), (52, _)] 19 [some 14, some 18] fun G a w S => ?_
   have S1 := S.mem
   refine sCallVQ (X := Unit) (g := 52) (vs := [.agg #[.bool a0.Back, .slice ak a0.Cells.length am]]) (caps := []) (val := fun _ => iv ah) S (wN rfl) rfl rfl callee52 rfl (S1.quiet [18] rfl) (fun E1 w1 S1 => c_compare_Charts_1 E1 w1 a0 (.agg #[.bool a0.Back, .slice ak a0.Cells.length am]) ah aP S1) rfl (lb rfl) fun _ a w S => ?_
   exact leafL ⟨rfl, S⟩
  ·exact fM 20 none rfl rfl rfl rfl (.inl rfl) rfl rfl rfl
  ·exact fM 21 none rfl rfl rfl rfl (.inl rfl) rfl rfl rfl
  ·refine fJ [(55, _), (56, _)] 22 [some 20, some 21] fun G a w S => ?_
   exact sIdxV S (wN rfl) rfl rfl rfl aV rfl (lb rfl) fun a S => leafL ⟨rfl, S⟩
  ·refine fJ [(57, _)] 23 [some 22] fun G a w S => ?_
   exact sLoadHE (r := (rL (rI .i64))) (T := 101) (xs := a7) (u := .slice a5 aa.length a6) (v := .slice ab a7.length ac) (vq := br) (j := a8) 0 S aW (wN rfl) rfl rfl rfl rfl rfl (lb rfl) fun a S => leafL ⟨rfl, S⟩
  ·exact fM 24 none rfl rfl rfl rfl (.inl rfl) rfl rfl rfl
  ·refine fJ [(59, _)] 25 [some 24] fun G a w S => ?_
   exact sBin _ S (wN rfl) rfl rfl rfl (bAdd _ _ _ _ a9 1) rfl (lb rfl) fun a S => leafL ⟨rfl, S⟩
  ·refine fJ [(58, _), (60, _)] 26 [some 23, some 25] fun G a w S => ?_
   exact sIdxV S (wN rfl) rfl rfl rfl aX rfl (lb rfl) fun a S => leafL ⟨rfl, S⟩
  ·refine fJ [(61, _)] 27 [some 26] fun G a w S => ?_
   exact sLoadR (r := (rI .i64)) (T := 3) (xs := aa) (x := ae) (v := .slice a5 aa.length a6) (vq := bt) (j := w64 (a9 + 1)) 1 (iv ae) S aZ (wN rfl) rfl rfl rfl aM (fun _ _ _ h => h) (scal_I _) rfl rfl (lb rfl) fun a S => leafL ⟨rfl, S⟩
  ·exact fM 28 none rfl rfl rfl rfl (.inl rfl) rfl rfl rfl
  ·exact fM 29 none rfl rfl rfl rfl (.inl rfl) rfl rfl rfl
  ·exact fM 30 none rfl rfl rfl rfl (.inl rfl) rfl rfl rfl
  ·refine fJ [(64, _), (65, _)] 31 [some 29, some 30] fun G a w S => ?_
   exact sIdxV S (wN rfl) rfl rfl rfl ba rfl (lb rfl) fun a S => leafL ⟨rfl, S⟩
  ·refine fJ [(66, _)] 32 [some 31] fun G a w S => ?_
   exact sLoadVN (vq := bg) 13 [.bool a4.Back, .slice ao a4.Cells.length ap] S (wN rfl) rfl rfl rfl rfl rfl rfl (lb rfl) fun a S => leafL ⟨rfl, S⟩
  ·refine fJ [(63, _), (67, _)] 33 [some 28, some 32] fun G a w S => ?_
   have S1 := S.mem
   refine sCallVQ (X := Unit) (g := 52) (vs := [.agg #[.bool a4.Back, .slice ao a4.Cells.length ap]]) (caps := []) (val := fun _ => iv af) S (wN rfl) rfl rfl callee52 rfl (S1.quiet [14] rfl) (fun E1 w1 S1 => c_compare_Charts_1 E1 w1 a4 (.agg #[.bool a4.Back, .slice ao a4.Cells.length ap]) af aQ S1) rfl (lb rfl) fun _ a w S => ?_
   exact leafL ⟨rfl, S⟩
  ·refine fJ [(62, _), (68, _)] 34 [some 27, some 33] fun G a w S => ?_
   exact sBin _ S (wN rfl) rfl rfl rfl (bAdd _ _ _ _ ae af) rfl (lb rfl) fun a S => leafL ⟨rfl, S⟩
  ·exact fM 39 none rfl rfl rfl rfl (.inl rfl) rfl rfl rfl
  ·refine fJ [(75, _)] 40 [some 39] fun G a w S => ?_
   exact sBin _ S (wN rfl) rfl rfl rfl (bAdd _ _ _ _ a9 1) rfl (lb rfl) fun a S => leafL ⟨rfl, S⟩
  ·refine fJ [(74, _), (76, _)] 0 [some 3, some 40] fun G a w S => ?_
   exact sIdxV S (wN rfl) rfl rfl rfl cl rfl (lb rfl) fun a S => leafL ⟨rfl, S⟩
  ·refine fJ [(77, _)] 1 [some 0] fun G a w S => ?_
   exact sLoadV1 (vq := bG) 0 (iv ai) S (wN rfl) rfl rfl rfl rfl rfl (lb rfl) fun a S => leafL ⟨rfl, S⟩
  ·exact fM 41 none rfl rfl rfl rfl (.inl rfl) rfl rfl rfl
  ·exact fM 42 none rfl rfl rfl rfl (.inl rfl) rfl rfl rfl
  ·exact fM 43 none rfl rfl rfl rfl (.inl rfl) rfl rfl rfl
  ·refine fJ [(80, _), (81, _)] 44 [some 42, some 43] fun G a w S => ?_
   exact sIdxV S (wN rfl) rfl rfl rfl bb rfl (lb rfl) fun a S => leafL ⟨rfl, S⟩
  ·refine fJ [(82, _)] 45 [some 44] fun G a w S => ?_
   exact sLoadVN (vq := bh) 9 [.bool a0.Back, .slice aq a0.Cells.length ar] S (wN rfl) rfl rfl rfl rfl rfl rfl (lb rfl) fun a S => leafL ⟨rfl, S⟩
  ·exact fM 46 none rfl rfl rfl rfl (.inl rfl) rfl rfl rfl
  ·exact fM 47 none rfl rfl rfl rfl (.inl rfl) rfl rfl rfl
  ·refine fJ [(84, _), (85, _)] 48 [some 46, some 47] fun G a w S => ?_
   exact sIdxV S (wN rfl) rfl rfl rfl bc rfl (lb rfl) fun a S => leafL ⟨rfl, S⟩
  ·refine fJ [(86, _)] 49 [some 48] fun G a w S => ?_
   exact sLoadVN (vq := bi) 5 [.bool a4.Back, .slice au a4.Cells.length av] S (wN rfl) rfl rfl rfl rfl rfl rfl (lb rfl) fun a S => leafL ⟨rfl, S⟩
  ·refine fJ [(79, _), (83, _), (87, _)] 50 [some 41, some 45, some 49] fun G a w S => ?_
   have S1 := S.mem
   refine sCallVQ (X := Unit) (g := 53) (vs := [.agg #[.bool a0.Back, .slice aq a0.Cells.length ar], .agg #[.bool a4.Back, .slice au a4.Cells.length av]]) (caps := []) (val := fun _ => iv aj) S (wN rfl) rfl rfl callee53 rfl (S1.quiet [10, 6] rfl) (fun E1 w1 S1 => c_compare_Charts_2 E1 w1 a0 (.agg #[.bool a0.Back, .slice aq a0.Cells.length ar]) a4 (.agg #[.bool a4.Back, .slice au a4.Cells.length av]) aj aR S1) rfl (lb rfl) fun _ a w S => ?_
   exact leafL ⟨rfl, S⟩
  refine fJ [(78, _), (88, _)] 2 [some 1, some 50] fun G a w S => ?_
  exact sBin _ S (wN rfl) rfl rfl rfl (bAdd _ _ _ _ ai aj) rfl (lb rfl) fun a S => leafL ⟨rfl, S⟩
 ·exact fM 35 none rfl rfl rfl rfl (.inl rfl) rfl rfl rfl
 ·refine fJ [(75, _)] 36 [some 35] fun G a w S => ?_
  exact sBin _ S (wN rfl) rfl rfl rfl (bAdd _ _ _ _ a9 1) rfl (lb rfl) fun a S => leafL ⟨rfl, S⟩
 ·exact fM 37 none rfl rfl rfl rfl (.inl rfl) rfl rfl rfl
 ·exact fM 38 none rfl rfl rfl rfl (.inl rfl) rfl rfl rfl
 ·exact fM 39 none rfl rfl rfl rfl (.inl rfl) rfl rfl rfl
 ·refine fJ [(80, _), (81, _)] 40 [some 38, some 39] fun G a w S => ?_
  exact sIdxV S (wN rfl) rfl rfl rfl bb rfl (lb rfl) fun a S => leafL ⟨rfl, S⟩
 ·refine fJ [(82, _)] 41 [some 40] fun G a w S => ?_
  exact sLoadVN (vq := bh) 5 [.bool a0.Back, .slice aq a0.Cells.length ar] S (wN rfl) rfl rfl rfl rfl rfl rfl (lb rfl) fun a S => leafL ⟨rfl, S⟩
 ·exact fM 42 none rfl rfl rfl rfl (.inl rfl) rfl rfl rfl
 ·exact fM 43 none rfl rfl rfl rfl (.inl rfl) rfl rfl rfl
 ·refine fJ [(84, _), (85, _)] 44 [some 42, some 43] fun G a w S => ?_
  exact sIdxV S (wN rfl) rfl rfl rfl bc rfl (lb rfl) fun a S => leafL ⟨rfl, S⟩
 ·refine fJ [(86, _)] 45 [some 44] fun G a w S => ?_
  exact sLoadVN (vq := bi) 1 [.bool a4.Back, .slice au a4.Cells.length av] S (wN rfl) rfl rfl rfl rfl rfl rfl (lb rfl) fun a S => leafL ⟨rfl, S⟩
 refine fJ [(79, _), (83, _), (87, _)] 46 [some 37, some 41, some 45] fun G a w S => ?_
 have S1 := S.mem
 refine sCallVQ (X := Unit) (g := 53) (vs := [.agg #[.bool a0.Back, .slice aq a0.Cells.length ar], .agg #[.bool a4.Back, .slice au a4.Cells.length av]]) (caps := []) (val := fun _ => iv aj) S (wN rfl) rfl rfl callee53 rfl (S1.quiet [6, 2] rfl) (fun E1 w1 S1 => c_compare_Charts_2 E1 w1 a0 (.agg #[.bool a0.Back, .slice aq a0.Cells.length ar]) a4 (.agg #[.bool a4.Back, .slice au a4.Cells.length av]) aj aR S1) rfl (lb rfl) fun _ a w S => ?_
 exact leafL ⟨rfl, S⟩
noncomputable def F_compare_Charts (p0 : api_Chart) (p1 : api_Chart) : Option (Int × Int) :=
 (F_chart_Check p0).bind fun a0 =>
 if a0 != 0 then
  some (0, a0)
 else
  (F_chart_Check p1).bind fun a4 =>
  if a4 != 0 then
   some (0, a4)
  else
   (F_compare_table_api_Row__s0 p0.Rows p1.Rows).bind fun a6 =>
   (idxO a6 0).bind fun a7 =>
   (idxO a7 0).bind fun a5 =>
   Option.bind (α := Int) (
    if p0.Start != p1.Start then
     some (w64 (a5 + 1))
    else
     some a5) fun a8 =>
   some (a8, 0)
theorem c_compare_Charts (E : Nat → Prop) (w0 : World) (p0 : api_Chart) (v0 : Value) (p1 : api_Chart) (v1 : Value) (r : (Int × Int)) (h : F_compare_Charts p0 p1 = some r) (S : St0 E [] w0 w0 [] [fRep r_api_Chart (v0) p0, fRep r_api_Chart (v1) p1]) :
 Calls Try.prog 20 #[v0, v1] w0 (Ret (X := Unit) E [] w0 (fun _ => .tuple #[.int .i64 r.1, .int .i64 r.2]) (fun _ => []) (fun _ => [])) := by
 unfold F_compare_Charts at h
 obtain ⟨u1, rfl, aP⟩ := S.know (i := 0) (e := fRep r_api_Chart (v0) p0) rfl
 have S := S.learn (fRep (rL r_api_Row) u1 p0.Rows) aP
 obtain ⟨a0, a4, _, rfl, _⟩ := aP
 obtain ⟨u5, rfl, aQ⟩ := S.know (i := 2) (e := fRep r_api_Chart (v1) p1) rfl
 have S := S.learn (fRep (rL r_api_Row) u5 p1.Rows) aQ
 obtain ⟨a5, a6, _, rfl, _⟩ := aQ
 refine sEnter (args := [.agg #[iv p0.Start, .slice a0 p0.Rows.length a4], .agg #[iv p1.Start, .slice a5 p1.Rows.length a6]]) 38 Try.func20 rfl rfl (by simp) S (fun a S => ?_)
 refine sSeq (fun K9 aU => sRegion (sBox (v := .agg #[iv p0.Start, .slice a0 p0.Rows.length a4]) S (wN rfl) rfl rfl [iv p0.Start, .slice a0 p0.Rows.length a4] rfl rfl (lb rfl) fun a aj w S => ?_))
 refine sBox (v := .agg #[iv p1.Start, .slice a5 p1.Rows.length a6]) S (wN rfl) rfl rfl [iv p1.Start, .slice a5 p1.Rows.length a6] rfl rfl (lb rfl) fun a ak w S => ?_
 refine sN S fun a S => ?_
 refine sN S fun a S => ?_
 refine lT (aU _ _ (sSeq (fun ba am => sSeq (fun bb ao => sRegion (sLoadN (p := aj) (off := 0) (T := 42) (vs := [iv p0.Start, .slice a0 p0.Rows.length a4]) 1 [iv p0.Start, .slice a0 p0.Rows.length a4] S (wN rfl) rfl rfl rfl rfl rfl rfl rfl (lb rfl) fun a S => ?_)))))
 obtain ⟨ac, ap, h⟩ := bS h
 have S1 := S.mem
 refine sCq [.agg #[iv p0.Start, .slice a0 p0.Rows.length a4]] (iv ac) S callee50 (S1.quiet [2] rfl) (fun E1 w1 S1 => c_chart_Check E1 w1 p0 (.agg #[iv p0.Start, .slice a0 p0.Rows.length a4]) ac ap S1) fun a w S => ?_
 refine sN S fun a S => ?_
 refine lT (ao _ _ (sSeq (fun bc aq => sRegion (sM S fun a S => ?_))))
 refine sBin _ S (wN rfl) rfl rfl rfl (bNe _ _ _ _ .i64 ac 0) rfl (lb rfl) fun a S => ?_
 refine lT (aq _ _ ?_)
 rcases iS h with ⟨a7, h⟩ | ⟨a7, h⟩
 ·refine sCondT S rfl a7 ?_
  refine sSeq (fun bf ar => sRegion (sM S fun a S => ?_))
  refine sN S fun a S => ?_
  refine sN S fun a S => ?_
  refine lT (ar _ _ ?_)
  obtain rfl := tS h
  exact wp_ret (rThen (sRet (.tuple #[iv 0, iv ac]) S (rsl2 rfl (rvT (t := 4) (v := iv 0) S rfl) (rvT (t := 5) (v := iv ac) S rfl)) ⟨(), rfl, S.mem.sel [] [] (by decide) rfl rfl⟩))
 refine sCondF S rfl a7 ?_
 refine wp_skip (leafT (am _ _ ?_))
 refine sSeq (fun bg au => sSeq (fun bh av => sRegion (sLoadN (p := ak) (off := 0) (T := 42) (vs := [iv p1.Start, .slice a5 p1.Rows.length a6]) 0 [iv p1.Start, .slice a5 p1.Rows.length a6] S (wN rfl) rfl rfl rfl rfl rfl rfl rfl (lb rfl) fun a S => ?_)))
 obtain ⟨ae, aw, h⟩ := bS h
 have S1 := S.mem
 refine sCq [.agg #[iv p1.Start, .slice a5 p1.Rows.length a6]] (iv ae) S callee50 (S1.quiet [3] rfl) (fun E1 w1 S1 => c_chart_Check E1 w1 p1 (.agg #[iv p1.Start, .slice a5 p1.Rows.length a6]) ae aw S1) fun a w S => ?_
 refine sN S fun a S => ?_
 refine lT (av _ _ (sSeq (fun bi ax => sRegion (sM S fun a S => ?_))))
 refine sBin _ S (wN rfl) rfl rfl rfl (bNe _ _ _ _ .i64 ae 0) rfl (lb rfl) fun a S => ?_
 refine lT (ax _ _ ?_)
 rcases iS h with ⟨a8, h⟩ | ⟨a8, h⟩
 ·refine sCondT S rfl a8 ?_
  refine sSeq (fun bj ay => sRegion (sM S fun a S => ?_))
  refine sN S fun a S => ?_
  refine sN S fun a S => ?_
  refine lT (ay _ _ ?_)
  obtain rfl := tS h
  exact wp_ret (rThen (sRet (.tuple #[iv 0, iv ae]) S (rsl2 rfl (rvT (t := 4) (v := iv 0) S rfl) (rvT (t := 5) (v := iv ae) S rfl)) ⟨(), rfl, S.mem.sel [] [] (by decide) rfl rfl⟩))
 refine sCondF S rfl a8 ?_
 refine wp_skip (leafT (au _ _ ?_))
 refine sSeq (fun bk az => sRegion (sField (b := aj) (off := 0) 1 1 S (wN rfl) rfl rfl rfl rfl rfl (lb rfl) fun a S => ?_))
 refine sLoad1 1 (.slice a0 p0.Rows.length a4) S (wN rfl) rfl rfl rfl rfl rfl rfl (lb rfl) fun a S => ?_
 refine sField (b := ak) (off := 0) 1 1 S (wN rfl) rfl rfl rfl rfl rfl (lb rfl) fun a S => ?_
 refine sLoad1 0 (.slice a5 p1.Rows.length a6) S (wN rfl) rfl rfl rfl rfl rfl rfl (lb rfl) fun a S => ?_
 obtain ⟨ab, aA, h⟩ := bS h
 refine sCall (X := Value) (f := 51) (vs := [.slice a0 p0.Rows.length a4, .slice a5 p1.Rows.length a6, .func (.func 52) #[] #[], .func (.func 53) #[] #[]]) (val := c_compare_table_api_Row__s0_val ab) (B' := fun _ => []) (D' := c_compare_table_api_Row__s0_D ab) [] [eBox ak 42 [iv p1.Start, .slice a5 p1.Rows.length a6], eBox aj 42 [iv p0.Start, .slice a0 p0.Rows.length a4]] [fRep (rL r_api_Row) (.slice a0 p0.Rows.length a4) p0.Rows, fRep (rL r_api_Row) (.slice a5 p1.Rows.length a6) p1.Rows] [0, 1] [1, 0] S (wN rfl) rfl callee51 rfl (by decide) rfl rfl (fun E1 w1 S1 => c_compare_table_api_Row__s0 E1 w1 p0.Rows (.slice a0 p0.Rows.length a4) p1.Rows (.slice a5 p1.Rows.length a6) ab aA S1) rfl (lb rfl) fun aV a w S => ?_
 obtain ⟨aC, aG, _, rfl, _⟩ := S.mem.know (i := 0) (e := fRep (rL (rL (rI .i64))) (aV) ab) rfl
 refine sN S fun a S => ?_
 refine lT (az _ _ (sSeq (fun bl aH => sRegion (sM S fun a S => ?_))))
 obtain ⟨af, aI, h⟩ := bS h
 obtain ⟨aR, aJ, S⟩ := pIdx (P := Try.prog) (r := (rL (rI .i64))) (v := .slice aC ab.length aG) (xs := ab) (j := 0) 98 101 0 S Try.underlying98 rfl rfl aI
 refine sIdxV S (wN rfl) rfl rfl rfl aJ rfl (lb rfl) fun a S => ?_
 obtain ⟨aW, S⟩ := pLoad (r := (rL (rI .i64))) (q := aR) (x := af) 0 S rfl
 obtain ⟨ag, ah, _, rfl, _⟩ := S.mem.know (i := 1) (e := fRep (rL (rI .i64)) (aW) af) rfl
 refine sLoadV1 (vq := aR) 0 (.slice ag af.length ah) S (wN rfl) rfl rfl rfl rfl rfl (lb rfl) fun a S => ?_
 obtain ⟨a9, aK, h⟩ := bS h
 obtain ⟨aS, aL, S⟩ := pIdx (P := Try.prog) (r := (rI .i64)) (v := .slice ag af.length ah) (xs := af) (j := 0) 101 3 1 S Try.underlying101 rfl rfl aK
 refine sIdxV S (wN rfl) rfl rfl rfl aL rfl (lb rfl) fun a S => ?_
 obtain ⟨aT, S⟩ := pLoad (r := (rI .i64)) (q := aS) (x := a9) 0 S rfl
 obtain rfl : aT = iv a9 := S.mem.know (i := 1) (e := fRep (rI .i64) (aT) a9) rfl
 refine sLoadV1 (vq := aS) 0 (iv a9) S (wN rfl) rfl rfl rfl rfl rfl (lb rfl) fun a S => ?_
 refine sN S fun a S => ?_
 refine lT (aH _ _ ?_)
 obtain ⟨aX, h, aZ⟩ := bS h
 refine sCut (fun a w => ∃ ai, ai = aX ∧ St [] E [] w0 38 a w [(9, iv ai)] [] []) ?_ (fun a w hI => ?_)
 rotate_left
 ·obtain ⟨ai, rfl, S⟩ := hI
  have h := aZ
  try dsimp only at h
  refine sSeq (fun bm aM => sRegion (sM S fun a S => ?_))
  refine sN S fun a S => ?_
  refine sN S fun a S => ?_
  refine lT (aM _ _ ?_)
  obtain rfl := tS h
  exact wp_ret (sRet (.tuple #[iv ai, iv 0]) S (rsl2 rfl (rvT (t := 4) (v := iv ai) S rfl) (rvT (t := 5) (v := iv 0) S rfl)) ⟨(), rfl, S.mem.sel [] [] (by decide) rfl rfl⟩)
 refine sSeq (fun bn aO => sRegion (sField (b := aj) (off := 0) 0 0 S (wN rfl) rfl rfl rfl rfl rfl (lb rfl) fun a S => ?_))
 refine sLoad1 1 (iv p0.Start) S (wN rfl) rfl rfl rfl rfl rfl rfl (lb rfl) fun a S => ?_
 refine sField (b := ak) (off := 0) 0 0 S (wN rfl) rfl rfl rfl rfl rfl (lb rfl) fun a S => ?_
 refine sLoad1 0 (iv p1.Start) S (wN rfl) rfl rfl rfl rfl rfl rfl (lb rfl) fun a S => ?_
 refine sBin _ S (wN rfl) rfl rfl rfl (bNe _ _ _ _ .i64 p0.Start p1.Start) rfl (lb rfl) fun a S => ?_
 refine lT (aO _ _ ?_)
 rcases iS h with ⟨aa, h⟩ | ⟨aa, h⟩
 rotate_left
 ·refine sCondF S rfl aa ?_
  exact wp_skip (leafT (⟨a9, Option.some.inj h, S.fix [] [] (by decide) rfl rfl rfl⟩))
 refine sCondT S rfl aa ?_
 refine sRegion (sM S fun a S => ?_)
 refine sBin _ S (wN rfl) rfl rfl rfl (bAdd _ _ _ _ a9 1) rfl (lb rfl) fun a S => ?_
 refine sN S fun a S => ?_
 exact lT (⟨w64 (a9 + 1), Option.some.inj h, S.fix [] [] (by decide) rfl rfl rfl⟩)
def anc_compare_Edits_0 : List (List Nat) := [[], [], [1], [0, 1, 2], [0, 1, 2, 3], [0, 1, 2, 3, 4], [0, 1, 2, 3, 4], [0, 1, 2, 3, 4, 6], [0, 1, 2, 3, 4, 5, 6, 7], [0, 1, 2, 3, 4, 5, 6, 7, 8], [0, 1, 2, 3, 4, 5, 6, 7, 8, 9], [0, 1, 2, 3, 4, 5, 6, 7, 8, 9, 10], [0, 1, 2, 3, 4, 5, 6, 7, 8, 9, 10], [0, 1, 2, 3, 4, 5, 6, 7, 8, 9, 10, 11, 12], [0, 1, 2, 3, 4, 5, 6, 7, 8, 9, 10, 11, 12, 13], [0, 1, 2, 3, 4, 5, 6, 7, 8, 9, 10], [0, 1, 2, 3, 4, 5, 6, 7, 8, 9, 10], [0, 1, 2, 3, 4, 5, 6, 7, 8, 9, 10, 15, 16], [0, 1, 2, 3, 4, 5, 6, 7, 8, 9, 10, 15, 16, 17], [0, 1, 2, 3, 4, 5, 6, 7, 8, 9, 10, 11, 12, 13, 14, 15, 16, 17, 18], [0, 1, 2, 3, 4, 5, 6, 7, 8, 9, 10, 11, 12, 13, 14, 15, 16, 17, 18, 19], [0, 1, 2, 3, 4, 5, 6, 7, 8, 9, 10, 11, 12, 13, 14, 15, 16, 17, 18, 19, 20], [0, 1, 2, 3, 4, 5, 6, 7, 8, 9, 10, 11, 12, 13, 14, 15, 16, 17, 18, 19, 20, 21], [0, 1, 2, 3, 4, 5, 6, 7, 8, 9, 10, 11, 12, 13, 14, 15, 16, 17, 18, 19, 20, 21], [0, 1, 2, 3, 4, 5, 6, 7, 8, 9, 10, 11, 12, 13, 14, 15, 16, 17, 18, 19, 20, 21], [0, 1, 2, 3, 4, 5, 6, 7, 8, 9, 10, 11, 12, 13, 14, 15, 16, 17, 18, 19, 20, 21, 24], [0, 1, 2, 3, 4, 5, 6, 7, 8, 9, 10, 11, 12, 13, 14, 15, 16, 17, 18, 19, 20, 21, 23, 24, 25], [0, 1, 2, 3, 4, 5, 6, 7, 8, 9, 10, 11, 12, 13, 14, 15, 16, 17, 18, 19, 20, 21, 23, 24, 25, 26], [0, 1, 2, 3, 4, 5, 6, 7, 8, 9, 10, 11, 12, 13, 14, 15, 16, 17, 18, 19, 20, 21], [0, 1, 2, 3, 4, 5, 6, 7, 8, 9, 10, 11, 12, 13, 14, 15, 16, 17, 18, 19, 20, 21, 28], [0, 1, 2, 3, 4, 5, 6, 7, 8, 9, 10, 11, 12, 13, 14, 15, 16, 17, 18, 19, 20, 21, 23, 24, 25, 26, 27, 28, 29], [0, 1, 2, 3, 4, 5, 6, 7, 8, 9, 10, 11, 12, 13, 14, 15, 16, 17, 18, 19, 20, 21, 23, 24, 25, 26, 27, 28, 29, 30], [0, 1, 2, 3, 4, 5, 6, 7, 8, 9, 10, 11, 12, 13, 14, 15, 16, 17, 18, 19, 20, 21, 22, 23, 24, 25, 26, 27, 28, 29, 30, 31], [0, 1, 2, 3, 4, 5, 6, 7, 8, 9, 10, 11, 12, 13, 14, 15, 16, 17, 18, 19, 20, 21, 22, 23, 24, 25, 26, 27, 28, 29, 30, 31, 32], [0, 1, 2, 3, 4, 5, 6, 7, 8, 9, 10, 11, 12, 13, 14, 15, 16, 17, 18, 19, 20, 21, 22, 23, 24, 25, 26, 27, 28, 29, 30, 31, 32, 33]]
def anc_compare_Edits_1 : List (List Nat) := [[], [], [1], [0, 1, 2], [0, 1, 2, 3], [0, 1, 2, 3, 4], [0, 1, 2, 3, 4], [0, 1, 2, 3, 4, 6], [0, 1, 2, 3, 4, 5, 6, 7], [0, 1, 2, 3, 4, 5, 6, 7, 8], [0, 1, 2, 3, 4, 5, 6, 7, 8, 9], [0, 1, 2, 3, 4, 5, 6, 7, 8, 9, 10], [0, 1, 2, 3, 4, 5, 6, 7, 8, 9, 10], [0, 1, 2, 3, 4, 5, 6, 7, 8, 9, 10, 11, 12], [0, 1, 2, 3, 4, 5, 6, 7, 8, 9, 10, 11, 12, 13], [0, 1, 2, 3, 4, 5, 6, 7, 8, 9, 10], [0, 1, 2, 3, 4, 5, 6, 7, 8, 9, 10], [0, 1, 2, 3, 4, 5, 6, 7, 8, 9, 10, 15, 16], [0, 1, 2, 3, 4, 5, 6, 7, 8, 9, 10, 15, 16, 17], [0, 1, 2, 3, 4, 5, 6, 7, 8, 9, 10, 11, 12, 13, 14, 15, 16, 17, 18], [0, 1, 2, 3, 4, 5, 6, 7, 8, 9, 10, 11, 12, 13, 14, 15, 16, 17, 18, 19], [0, 1, 2, 3, 4, 5, 6, 7, 8, 9, 10, 11, 12, 13, 14, 15, 16, 17, 18, 19, 20], [0, 1, 2, 3, 4, 5, 6, 7, 8, 9, 10, 11, 12, 13, 14, 15, 16, 17, 18, 19, 20, 21], [0, 1, 2, 3, 4, 5, 6, 7, 8, 9, 10, 11, 12, 13, 14, 15, 16, 17, 18, 19, 20, 21], [0, 1, 2, 3, 4, 5, 6, 7, 8, 9, 10, 11, 12, 13, 14, 15, 16, 17, 18, 19, 20, 21], [0, 1, 2, 3, 4, 5, 6, 7, 8, 9, 10, 11, 12, 13, 14, 15, 16, 17, 18, 19, 20, 21, 24], [0, 1, 2, 3, 4, 5, 6, 7, 8, 9, 10, 11, 12, 13, 14, 15, 16, 17, 18, 19, 20, 21, 23, 24, 25], [0, 1, 2, 3, 4, 5, 6, 7, 8, 9, 10, 11, 12, 13, 14, 15, 16, 17, 18, 19, 20, 21, 23, 24, 25, 26], [0, 1, 2, 3, 4, 5, 6, 7, 8, 9, 10, 11, 12, 13, 14, 15, 16, 17, 18, 19, 20, 21], [0, 1, 2, 3, 4, 5, 6, 7, 8, 9, 10, 11, 12, 13, 14, 15, 16, 17, 18, 19, 20, 21, 28], [0, 1, 2, 3, 4, 5, 6, 7, 8, 9, 10, 11, 12, 13, 14, 15, 16, 17, 18, 19, 20, 21, 23, 24, 25, 26, 27, 28, 29], [0, 1, 2, 3, 4, 5, 6, 7, 8, 9, 10, 11, 12, 13, 14, 15, 16, 17, 18, 19, 20, 21, 23, 24, 25, 26, 27, 28, 29, 30], [0, 1, 2, 3, 4, 5, 6, 7, 8, 9, 10, 11, 12, 13, 14, 15, 16, 17, 18, 19, 20, 21, 23, 24, 25, 26, 27, 28, 29, 30, 31], [0, 1, 2, 3, 4, 5, 6, 7, 8, 9, 10, 11, 12, 13, 14, 15, 16, 17, 18, 19, 20, 21, 22, 23, 24, 25, 26, 27, 28, 29, 30, 31, 32], [0, 1, 2, 3, 4, 5, 6, 7, 8, 9, 10, 11, 12, 13, 14, 15, 16, 17, 18, 19, 20, 21, 22, 23, 24, 25, 26, 27, 28, 29, 30, 31, 32, 33], [0, 1, 2, 3, 4, 5, 6, 7, 8, 9, 10, 11, 12, 13, 14, 15, 16, 17, 18, 19, 20, 21, 22, 23, 24, 25, 26, 27, 28, 29, 30, 31, 32, 33, 34]]
def anc_compare_Edits_2 : List (List Nat) := [[], [], [1], [1, 2], [1, 2, 3], [1, 2, 3, 4], [0], [0, 1, 2, 3, 4, 5, 6], [0, 1, 2, 3, 4, 5, 6, 7]]
noncomputable def compare_Edits_l1 (p0 : (List api_Stitch)) (p1 : (List api_Stitch)) : Int → Option (Int ⊕ (((List api_CellStep) × Int × Int) ⊕ Unit)) := fun s0 => match s0 with
 | s9 =>
  if decide (s9 < 2) then
   (idxO ([p0, p1] : List (List api_Stitch)) s9).bind fun a4 =>
   (F_stitch_All a4).bind fun a0 =>
   if a0 != 0 then
    some (.inr (.inl (([] : (List api_CellStep)), 0, a0)))
   else
    some (.inl (w64 (s9 + 1)))
  else
   some (.inr (.inr ()))
noncomputable def compare_Edits_l2 (p0 : (List api_Stitch)) (p1 : (List api_Stitch)) (a8 : (List (List Int))) : (List api_CellStep × Int × Int) → Option ((List api_CellStep × Int × Int) ⊕ List api_CellStep) := fun s0 => match s0 with
 | (a7, a4, a0) =>
  Option.bind (α := Bool) (
   if decide (a4 < (p0.length : Int)) then
    some true
   else
    some (decide (a0 < (p1.length : Int)))) fun ar =>
  if ar then
   (idxO a8 a4).bind fun au =>
   (idxO au a0).bind fun ab =>
   Option.bind (α := Bool) (
    if decide (a4 < (p0.length : Int)) then
     if decide (a0 < (p1.length : Int)) then
      (idxO p0 a4).bind fun a9 =>
      (idxO p1 a0).bind fun aa =>
      if ((a9.Kind == aa.Kind) && ((a9.Purl == aa.Purl) && ((a9.A == aa.A) && ((a9.B == aa.B) && true)))) then
       (idxO a8 (w64 (a4 + 1))).bind fun av =>
       (idxO av (w64 (a0 + 1))).bind fun aw =>
       some (ab == aw)
      else
       some false
     else
      some false
    else
     some false) fun ax =>
   if ax then
    (appO a7 [(api_CellStep.mk 1 (api_Stitch.mk 0 false 0 0))]).bind fun ac =>
    some (.inl (ac, w64 (a4 + 1), w64 (a0 + 1)))
   else
    Option.bind (α := Bool) (
     if decide (a4 < (p0.length : Int)) then
      if decide (a0 < (p1.length : Int)) then
       (idxO p0 a4).bind fun a5 =>
       (idxO p1 a0).bind fun a6 =>
       if !((a5.Kind == a6.Kind) && ((a5.Purl == a6.Purl) && ((a5.A == a6.A) && ((a5.B == a6.B) && true)))) then
        (idxO a8 (w64 (a4 + 1))).bind fun ae =>
        (idxO ae (w64 (a0 + 1))).bind fun af =>
        some (ab == (w64 (1 + af)))
       else
        some false
      else
       some false
     else
      some false) fun ag =>
    if ag then
     (idxO p1 a0).bind fun ah =>
     (appO a7 [(api_CellStep.mk 2 ah)]).bind fun ai =>
     some (.inl (ai, w64 (a4 + 1), w64 (a0 + 1)))
    else
     Option.bind (α := Bool) (
      if decide (a4 < (p0.length : Int)) then
       (idxO a8 (w64 (a4 + 1))).bind fun aj =>
       (idxO aj a0).bind fun ak =>
       some (ab == (w64 (1 + ak)))
      else
       some false) fun am =>
     if am then
      (appO a7 [(api_CellStep.mk 4 (api_Stitch.mk 0 false 0 0))]).bind fun ao =>
      some (.inl (ao, w64 (a4 + 1), a0))
     else
      (idxO p1 a0).bind fun ap =>
      (appO a7 [(api_CellStep.mk 3 ap)]).bind fun aq =>
      some (.inl (aq, a4, w64 (a0 + 1)))
  else
   some (.inr a7)
noncomputable def F_compare_Edits (p0 : (List api_Stitch)) (p1 : (List api_Stitch)) : Option ((List api_CellStep) × Int × Int) :=
 Option.bind (α := Unit ⊕ ((List api_CellStep) × Int × Int)) (
  (whileO (compare_Edits_l1 p0 p1) 0).bind fun z0 => match z0 with
   | .inl z =>
    some (.inr z)
   | .inr _ =>
    some (.inl ())) fun z0 => match z0 with
  | .inl _ =>
   (F_compare_cellTable p0 p1).bind fun a5 =>
   Option.bind (α := List api_CellStep) (
    (whileO (compare_Edits_l2 p0 p1 a5) (([] : List api_CellStep), 0, 0)).bind fun a6 =>
     some a6) fun a7 =>
   (idxO a5 0).bind fun a0 =>
   (idxO a0 0).bind fun a4 =>
   some (a7, a4, 0)
  | .inr z =>
   some z
def c_compare_Edits_val (r : ((List api_CellStep) × Int × Int)) (x : Value) : Value := .tuple #[x, .int .i64 r.2.1, .int .i64 r.2.2]
def c_compare_Edits_D (r : ((List api_CellStep) × Int × Int)) (x : Value) : List Fact := [fRep (rL r_api_CellStep) x r.1]
theorem c_compare_Edits (E : Nat → Prop) (w0 : World) (p0 : (List api_Stitch)) (v0 : Value) (p1 : (List api_Stitch)) (v1 : Value) (r : ((List api_CellStep) × Int × Int)) (h : F_compare_Edits p0 p1 = some r) (S : St0 E [] w0 w0 [] [fRep (rL r_api_Stitch) (v0) p0, fRep (rL r_api_Stitch) (v1) p1]) :
 Calls Try.prog 23 #[v0, v1] w0 (Ret (X := Value) E [] w0 (c_compare_Edits_val r) (fun _ => []) (c_compare_Edits_D r)) := by
 unfold F_compare_Edits at h
 obtain ⟨ak, am, _, rfl, _⟩ := S.know (i := 0) (e := fRep (rL r_api_Stitch) (v0) p0) rfl
 obtain ⟨ae, af, _, rfl, _⟩ := S.know (i := 1) (e := fRep (rL r_api_Stitch) (v1) p1) rfl
 refine sEnter (args := [.slice ak p0.length am, .slice ae p1.length af]) 178 Try.func23 rfl rfl (by simp) S (fun a S => ?_)
 refine sSeq (fun K5 dS => sRegion (sN S fun a S => ?_))
 refine sN S fun a S => ?_
 refine sN S fun a S => ?_
 refine lT (dS _ _ ?_)
 obtain ⟨t6, h, g7⟩ := bS h
 refine sCut (fun a w => .inl () = t6 ∧ St [] E [] w0 178 a w [(0, .slice ak p0.length am), (1, .slice ae p1.length af)] [] [fRep (rL r_api_Stitch) (.slice ak p0.length am) p0, fRep (rL r_api_Stitch) (.slice ae p1.length af) p1]) ?_ (fun a w hI => ?_)
 ·refine sSeq (fun K8 dU => sRegion (sM S fun a S => ?_))
  refine sM S fun a S => ?_
  refine sBuild [(0, .slice ak p0.length am), (1, .slice ae p1.length af)] [.slice ak p0.length am, .slice ae p1.length af] S (wN rfl) rfl rfl rfl rfl (lb rfl) fun a S => ?_
  refine sM S fun a S => ?_
  refine lT (dU _ _ (wp_block ?_))
  obtain ⟨ei, hl, dO⟩ := bS h
  refine sLoop hl (fun s0 a w => match s0 with | s9 => St [] E [] w0 178 a w [(0, .slice ak p0.length am), (1, .slice ae p1.length af), (17, .agg #[.slice ak p0.length am, .slice ae p1.length af]), (18, iv s9)] [] [fRep (rL r_api_Stitch) (.slice ak p0.length am) p0, fRep (rL r_api_Stitch) (.slice ae p1.length af) p1]) (S.fix [] [0, 1] (by decide) rfl rfl rfl) ?_
  clear hl h
  intro s9 a w c0 hI h bB
  unfold compare_Edits_l1 at h
  dsimp only at h hI
  have S := hI
  refine sSeq (fun ej d9 => sRegion (sBin _ S (wN rfl) rfl rfl rfl (bLt _ _ _ _ .i64 s9 2) rfl (lb rfl) fun a S => ?_))
  refine lT (d9 _ _ (sSeq (fun ek da => ?_)))
  rcases iS h with ⟨br, h⟩ | ⟨br, h⟩
  rotate_left
  ·refine sCondF S rfl br ?_
   obtain rfl := tS h
   obtain rfl := bB _ rfl
   have h := dO
   try dsimp only at h
   exact wp_exit (xThen (xThen (xHit (leafT (⟨Option.some.inj h, S.fix [] [0, 1] (by decide) rfl rfl rfl⟩)))))
  refine sCondT S rfl br ?_
  refine wp_skip (leafT (da _ _ ?_))
  refine sSeq (fun el db => wp_block ?_)
  refine sSeq (fun em dc => sRegion ?_)
  obtain ⟨d8, de, h⟩ := bS h
  refine sIndexAL (r := (rL r_api_Stitch)) (xs := ([p0, p1] : List (List api_Stitch))) (j := s9) (k := .i64) 2 [.slice ak p0.length am, .slice ae p1.length af] [0, 1] S (wN rfl) rfl Try.underlying104 rfl rfl rfl rfl rfl de rfl rfl rfl (lb rfl) fun a dV S => ?_
  obtain ⟨bC, bD, _, rfl, _⟩ := S.mem.know (i := 0) (e := fRep (rL r_api_Stitch) (dV) d8) rfl
  refine sN S fun a S => ?_
  refine lT (dc _ _ (sSeq (fun en df => sRegion (sM S fun a S => ?_))))
  obtain ⟨bE, dg, h⟩ := bS h
  have S1 := S.mem
  refine sCq [.slice bC d8.length bD] (iv bE) S callee56 (S1.quiet [0] rfl) (fun E1 w1 S1 => c_stitch_All E1 w1 d8 (.slice bC d8.length bD) bE dg S1) fun a w S => ?_
  refine sN S fun a S => ?_
  refine lT (df _ _ (sSeq (fun eo dh => sRegion (sM S fun a S => ?_))))
  refine sBin _ S (wN rfl) rfl rfl rfl (bNe _ _ _ _ .i64 bE 0) rfl (lb rfl) fun a S => ?_
  refine lT (dh _ _ ?_)
  rcases iS h with ⟨bt, h⟩ | ⟨bt, h⟩
  rotate_left
  ·refine sCondF S rfl bt ?_
   refine wp_skip (leafB (leafT (db _ _ ?_)))
   refine sRegion (sBin _ S (wN rfl) rfl rfl rfl (bAdd _ _ _ _ s9 1) rfl (lb rfl) fun a S => ?_)
   refine sM S fun a S => ?_
   exact lT (⟨w64 (s9 + 1), (Option.some.inj h).symm, (S.fix [] [1, 2] (by decide) rfl rfl rfl)⟩)
  refine sCondT S rfl bt ?_
  refine sSeq (fun ep di => sRegion (sM S fun a S => ?_))
  refine sN S fun a S => ?_
  refine sN S fun a S => ?_
  refine sN S fun a S => ?_
  refine lT (di _ _ ?_)
  obtain rfl := tS h
  obtain rfl := bB _ rfl
  have h := dO
  try dsimp only at h
  obtain rfl := tS h
  have h := g7
  try dsimp only at h
  obtain rfl := tS h
  have S := S.learn (fRep (rL r_api_CellStep) (.slice none 0 0) ([] : (List api_CellStep))) (rL_nil _ _ _)
  exact wp_ret (rBlock (rThen (rThen (rBlock (rThen (sRet (.tuple #[.slice none 0 0, iv 0, iv bE]) S (rsl3 rfl (rvT (t := 4) (v := .slice none 0 0) S rfl) (rvT (t := 5) (v := iv 0) S rfl) (rvT (t := 6) (v := iv bE) S rfl)) ⟨(.slice none 0 0), rfl, S.mem.sel [] [0] (by decide) rfl rfl⟩))))))
 obtain ⟨rfl, S⟩ := hI
 have h := g7
 try dsimp only at h
 refine sSeq (fun eq dj => sRegion (sM S fun a S => ?_))
 refine sM S fun a S => ?_
 obtain ⟨ar, dk, h⟩ := bS h
 refine sCall (X := Value) (f := 54) (vs := [.slice ak p0.length am, .slice ae p1.length af]) (val := c_compare_cellTable_val ar) (B' := fun _ => []) (D' := c_compare_cellTable_D ar) [] [] [fRep (rL r_api_Stitch) (.slice ak p0.length am) p0, fRep (rL r_api_Stitch) (.slice ae p1.length af) p1] [] [0, 1] S (wN rfl) rfl callee54 rfl (by decide) rfl rfl (fun E1 w1 S1 => c_compare_cellTable E1 w1 p0 (.slice ak p0.length am) p1 (.slice ae p1.length af) ar dk S1) rfl (lb rfl) fun dW a w S => ?_
 obtain ⟨ag, ah, _, rfl, _⟩ := S.mem.know (i := 0) (e := fRep (rL (rL (rI .i64))) (dW) ar) rfl
 refine sN S fun a S => ?_
 refine lT (dj _ _ (sSeq (fun er dl => sRegion (sN S fun a S => ?_))))
 refine lT (dl _ _ (sSeq (fun es dm => sRegion (sN S fun a S => ?_))))
 refine sN S fun a S => ?_
 refine lT (dm _ _ ?_)
 obtain ⟨dX, h, dY⟩ := bS h
 refine sCut (fun a w => ∃ aP, aP = dX ∧ ∃ az, ∃ aA, St [] E [] w0 178 a w [(10, .slice ag ar.length ah), (11, .slice az aP.length aA)] [eRow r_api_CellStep 83 (.slice az aP.length aA) aP] [fRep (rL (rL (rI .i64))) (.slice ag ar.length ah) ar]) ?_ (fun a w hI => ?_)
 rotate_left
 ·obtain ⟨aP, rfl, az, aA, S⟩ := hI
  have h := dY
  try dsimp only at h
  refine sSeq (fun dZ bG => ?_)
  obtain ⟨aQ, bH, h⟩ := bS h
  obtain ⟨aC, bI, h⟩ := bS h
  obtain ⟨bu, bJ, S⟩ := pIdx (P := Try.prog) (r := (rL (rI .i64))) (v := .slice ag ar.length ah) (xs := ar) (j := 0) 98 101 0 S Try.underlying98 rfl rfl bH
  obtain ⟨dn, S⟩ := pLoad (r := (rL (rI .i64))) (q := bu) (x := aQ) 0 S rfl
  obtain ⟨aR, aS, _, rfl, _⟩ := S.mem.know (i := 1) (e := fRep (rL (rI .i64)) (dn) aQ) rfl
  obtain ⟨bv, bK, S⟩ := pIdx (P := Try.prog) (r := (rI .i64)) (v := .slice aR aQ.length aS) (xs := aQ) (j := 0) 101 3 1 S Try.underlying101 rfl rfl bI
  obtain ⟨bL, S⟩ := pLoad (r := (rI .i64)) (q := bv) (x := aC) 0 S rfl
  obtain rfl : bL = iv aC := S.mem.know (i := 1) (e := fRep (rI .i64) (bL) aC) rfl
  refine sDraw (nf := []) (W := [(0, 172, .slice az aP.length aA), (1, 173, .slice ag ar.length ah), (2, 174, bu), (3, 175, .slice aR aQ.length aS), (4, 176, bv), (5, 177, iv aC), (6, 4, .slice az aP.length aA), (7, 5, iv aC), (8, 6, iv 0)]) rfl S ?_
  refine node_by (A := anc_compare_Edits_2) 9 (by kernel_rfl) (by kernel_rfl) (by kernel_rfl) (by kernel_rfl) (by kernel_rfl) [0, 1, 2, 3, 4, 5, 6, 7, 8] (by kernel_rfl) (by decide) (by decide) (fF ?_ (fF ?_ (fF ?_ (fF ?_ (fF ?_ (fF ?_ (fF ?_ (fF ?_ (fF ?_ (trivial)))))))))) [(4, .slice az aP.length aA), (5, iv aC), (6, iv 0)] (fin_of [some 6, some 7, some 8] rfl (by kernel_rfl) (by kernel_rfl)) (fun _ a w S => ?_)
  ·exact fM 0 none rfl rfl rfl rfl (.inl rfl) rfl rfl rfl
  ·exact fM 1 none rfl rfl rfl rfl (.inl rfl) rfl rfl rfl
  ·refine fJ [(173, _)] 2 [some 1] fun G a w S => ?_
   exact sIdxV S (wN rfl) rfl rfl rfl bJ rfl (lb rfl) fun a S => leafL ⟨rfl, S⟩
  ·refine fJ [(174, _)] 3 [some 2] fun G a w S => ?_
   exact sLoadV1 (vq := bu) 3 (.slice aR aQ.length aS) S (wN rfl) rfl rfl rfl rfl rfl (lb rfl) fun a S => leafL ⟨rfl, S⟩
  ·refine fJ [(175, _)] 4 [some 3] fun G a w S => ?_
   exact sIdxV S (wN rfl) rfl rfl rfl bK rfl (lb rfl) fun a S => leafL ⟨rfl, S⟩
  ·refine fJ [(176, _)] 5 [some 4] fun G a w S => ?_
   exact sLoadV1 (vq := bv) 0 (iv aC) S (wN rfl) rfl rfl rfl rfl rfl (lb rfl) fun a S => leafL ⟨rfl, S⟩
  ·exact fM 6 (some 0) rfl rfl rfl rfl (.inr rfl) rfl rfl rfl
  ·exact fM 7 (some 5) rfl rfl rfl rfl (.inr rfl) rfl rfl rfl
  ·refine fJ [] 8 [] fun G a w S => ?_
   exact sN S fun a S => leafL ⟨rfl, S⟩
  refine leafT (bG _ _ ?_)
  obtain rfl := tS h
  have S := S.shutR (r := r_api_CellStep) (T := 83) (v := .slice az aP.length aA) (xs := aP) 0 rfl
  exact wp_ret (sRet (.tuple #[.slice az aP.length aA, iv aC, iv 0]) S (rsl3 rfl (rvT (t := 4) (v := .slice az aP.length aA) S rfl) (rvT (t := 5) (v := iv aC) S rfl) (rvT (t := 6) (v := iv 0) S rfl)) ⟨(.slice az aP.length aA), rfl, S.mem.sel [] [0] (by decide) rfl rfl⟩)
 refine wp_block ?_
 have S := S.nilRow r_api_CellStep 83 (α := api_CellStep)
 obtain ⟨et, hl, e5⟩ := bS h
 refine sLoop hl (fun s0 a w => match s0 with | (ay, a9, a5) => ∃ ap, ∃ aq, St [] E [] w0 178 a w [(0, .slice ak p0.length am), (1, .slice ae p1.length af), (10, .slice ag ar.length ah), (11, .slice ap ay.length aq), (12, iv a9), (13, iv a5)] [eRow r_api_CellStep 83 (.slice ap ay.length aq) ay] [fRep (rL r_api_Stitch) (.slice ak p0.length am) p0, fRep (rL r_api_Stitch) (.slice ae p1.length af) p1, fRep (rL (rL (rI .i64))) (.slice ag ar.length ah) ar]) ⟨none, 0, S.fix [0] [1, 2, 0] (by decide) rfl rfl rfl⟩ ?_
 clear hl h
 intro s0 a w c0 hI h dp
 obtain ⟨ay, a9, a5⟩ := s0
 unfold compare_Edits_l2 at h
 dsimp only at h hI
 obtain ⟨ap, aq, S⟩ := hI
 refine sSeq (fun eu dr => ?_)
 obtain ⟨e6, h, e7⟩ := bS h
 refine sCut (fun a w => ∃ dt, dt = e6 ∧ St [] E [] w0 178 a w [(0, .slice ak p0.length am), (1, .slice ae p1.length af), (10, .slice ag ar.length ah), (11, .slice ap ay.length aq), (12, iv a9), (13, iv a5), (39, .bool dt)] [eRow r_api_CellStep 83 (.slice ap ay.length aq) ay] [fRep (rL r_api_Stitch) (.slice ak p0.length am) p0, fRep (rL r_api_Stitch) (.slice ae p1.length af) p1, fRep (rL (rL (rI .i64))) (.slice ag ar.length ah) ar]) ?_ (fun a w hI => ?_)
 ·refine sRegion (sM S fun a S => ?_)
  refine sM S fun a S => ?_
  refine sLen S (wN rfl) rfl Try.underlying47 rfl rfl (lb rfl) fun a S => ?_
  refine sBin _ S (wN rfl) rfl rfl rfl (bLt _ _ _ _ .i64 a9 (p0.length : Int)) rfl (lb rfl) fun a S => ?_
  refine sM S fun a S => ?_
  rcases iS h with ⟨aG, h⟩ | ⟨aG, h⟩
  ·refine sSkN 4 4 false 34 S rfl rfl aG rfl fun a S => ?_
   refine sPickT (.bool true) S (wN rfl) rfl rfl aG rfl rfl (lb rfl) fun a S => ?_
   exact lT (⟨true, Option.some.inj h, S.fix [0] [0, 1, 2] (by decide) rfl rfl rfl⟩)
  refine sMove (iv a5) S (wG 4 false 34 rfl rfl rfl aG) (.inl rfl) rfl rfl (lb rfl) fun a S => ?_
  refine sMove (.slice ae p1.length af) S (wG 4 false 34 rfl rfl rfl aG) (.inl rfl) rfl rfl (lb rfl) fun a S => ?_
  refine sLen S (wG 4 false 34 rfl rfl rfl aG) rfl Try.underlying47 rfl rfl (lb rfl) fun a S => ?_
  refine sBin _ S (wG 4 false 34 rfl rfl rfl aG) rfl rfl rfl (bLt _ _ _ _ .i64 a5 (p1.length : Int)) rfl (lb rfl) fun a S => ?_
  refine sPickF (.bool (decide (a5 < (p1.length : Int)))) S (wN rfl) rfl rfl aG rfl rfl (lb rfl) fun a S => ?_
  exact lT (⟨decide (a5 < (p1.length : Int)), Option.some.inj h, S.fix [0] [0, 1, 2] (by decide) rfl rfl rfl⟩)
 obtain ⟨dt, rfl, S⟩ := hI
 have h := e7
 try dsimp only at h
 rcases iS h with ⟨bw, h⟩ | ⟨bw, h⟩
 rotate_left
 ·refine sCondF S rfl bw ?_
  obtain rfl := tS h
  obtain rfl := dp _ rfl
  have h := e5
  try dsimp only at h
  exact wp_exit (xThen (xThen (xHit (leafT (⟨ay, Option.some.inj h, ap, aq, S.fix [0] [2] (by decide) rfl rfl rfl⟩)))))
 refine sCondT S rfl bw ?_
 refine wp_skip (leafT (dr _ _ ?_))
 refine wp_block ?_
 refine sSeq (fun ev du => sRegion (sM S fun a S => ?_))
 refine sM S fun a S => ?_
 obtain ⟨bM, dv, h⟩ := bS h
 obtain ⟨dP, dw, S⟩ := pIdx (P := Try.prog) (r := (rL (rI .i64))) (v := .slice ag ar.length ah) (xs := ar) (j := a9) 98 101 2 S Try.underlying98 rfl rfl dv
 refine sIdxV S (wN rfl) rfl rfl rfl dw rfl (lb rfl) fun a S => ?_
 obtain ⟨e8, S⟩ := pLoad (r := (rL (rI .i64))) (q := dP) (x := bM) 0 S rfl
 obtain ⟨bN, bO, _, rfl, _⟩ := S.mem.know (i := 1) (e := fRep (rL (rI .i64)) (e8) bM) rfl
 refine sLoadV1 (vq := dP) 0 (.slice bN bM.length bO) S (wN rfl) rfl rfl rfl rfl rfl (lb rfl) fun a S => ?_
 refine sM S fun a S => ?_
 obtain ⟨aw, dx, h⟩ := bS h
 obtain ⟨dQ, dy, S⟩ := pIdx (P := Try.prog) (r := (rI .i64)) (v := .slice bN bM.length bO) (xs := bM) (j := a5) 101 3 1 S Try.underlying101 rfl rfl dx
 refine sIdxV S (wN rfl) rfl rfl rfl dy rfl (lb rfl) fun a S => ?_
 obtain ⟨dR, S⟩ := pLoad (r := (rI .i64)) (q := dQ) (x := aw) 0 S rfl
 obtain rfl : dR = iv aw := S.mem.know (i := 1) (e := fRep (rI .i64) (dR) aw) rfl
 refine sLoadV1 (vq := dQ) 0 (iv aw) S (wN rfl) rfl rfl rfl rfl rfl (lb rfl) fun a S => ?_
 refine sN S fun a S => ?_
 refine lT (du _ _ (wp_block ?_))
 obtain ⟨e9, h, ea⟩ := bS h
 refine sCut (fun a w => ∃ dz, dz = e9 ∧ St [] E [] w0 178 a w [(0, .slice ak p0.length am), (1, .slice ae p1.length af), (10, .slice ag ar.length ah), (11, .slice ap ay.length aq), (12, iv a9), (13, iv a5), (14, iv aw), (57, .bool dz)] [eRow r_api_CellStep 83 (.slice ap ay.length aq) ay] [fRep (rL r_api_Stitch) (.slice ak p0.length am) p0, fRep (rL r_api_Stitch) (.slice ae p1.length af) p1, fRep (rL (rL (rI .i64))) (.slice ag ar.length ah) ar]) ?_ (fun a w hI => ?_)
 ·rcases iS h with ⟨av, h⟩ | ⟨av, h⟩
  rotate_left
  ·refine sDraw (nf := []) (W := [(0, 58, iv a9), (1, 59, .slice ak p0.length am), (2, 60, iv (p0.length : Int)), (3, 61, .bool (decide (a9 < (p0.length : Int)))), (4, 62, .bool (decide (a9 < (p0.length : Int)))), (5, 63, undef), (6, 64, undef), (7, 65, undef), (8, 66, undef), (9, 67, .bool false), (10, 68, .bool false), (11, 69, undef), (12, 70, undef), (13, 71, undef), (14, 72, undef), (15, 73, undef), (16, 74, undef), (17, 75, undef), (18, 76, undef), (19, 77, undef), (20, 78, .bool false), (21, 79, .bool false), (22, 80, undef), (23, 81, undef), (24, 82, undef), (25, 83, undef), (26, 84, undef), (27, 85, undef), (28, 86, undef), (29, 87, undef), (30, 88, undef), (31, 89, undef), (32, 90, undef), (33, 91, .bool false), (34, 57, .bool false)]) rfl S ?_
   refine node_by (A := anc_compare_Edits_0) 35 (by kernel_rfl) (by kernel_rfl) (by kernel_rfl) (by kernel_rfl) (by kernel_rfl) [0, 1, 2, 3, 4, 5, 6, 7, 8, 9, 10, 11, 12, 13, 14, 15, 16, 17, 18, 19, 20, 21, 22, 23, 24, 25, 26, 27, 28, 29, 30, 31, 32, 33, 34] (by kernel_rfl) (by decide) (by decide) (fF ?_ (fF ?_ (fF ?_ (fF ?_ (fF ?_ (fF ?_ (fF ?_ (fF ?_ (fF ?_ (fF ?_ (fF ?_ (fF ?_ (fF ?_ (fF ?_ (fF ?_ (fF ?_ (fF ?_ (fF ?_ (fF ?_ (fF ?_ (fF ?_ (fF ?_ (fF ?_ (fF ?_ (fF ?_ (fF ?_ (fF ?_ (fF ?_ (fF ?_ (fF ?_ (fF ?_ (fF ?_ (fF ?_ (fF ?_ (fF ?_ (trivial)))))))))))))))))))))))))))))))))))) [(0, .slice ak p0.length am), (1, .slice ae p1.length af), (10, .slice ag ar.length ah), (11, .slice ap ay.length aq), (12, iv a9), (13, iv a5), (14, iv aw), (57, .bool false), (63, undef), (64, undef), (65, undef), (66, undef), (69, undef), (70, undef), (71, undef), (72, undef), (73, undef), (74, undef), (75, undef), (76, undef), (77, undef), (80, undef), (81, undef), (82, undef), (83, undef), (84, undef), (85, undef), (86, undef), (87, undef), (88, undef), (89, undef), (90, undef)] (fin_of [none, none, none, none, none, none, none, some 34, some 5, some 6, some 7, some 8, some 11, some 12, some 13, some 14, some 15, some 16, some 17, some 18, some 19, some 22, some 23, some 24, some 25, some 26, some 27, some 28, some 29, some 30, some 31, some 32] rfl (by kernel_rfl) (by kernel_rfl)) (fun _ a w S => ?_)
   ·exact fM 0 none rfl rfl rfl rfl (.inl rfl) rfl rfl rfl
   ·exact fM 1 none rfl rfl rfl rfl (.inl rfl) rfl rfl rfl
   ·refine fJ [(59, _)] 2 [some 1] fun G a w S => ?_
    exact sLen S (wN rfl) rfl Try.underlying47 rfl rfl (lb rfl) fun a S => leafL ⟨rfl, S⟩
   ·refine fJ [(58, _), (60, _)] 3 [some 0, some 2] fun G a w S => ?_
    exact sBin _ S (wN rfl) rfl rfl rfl (bLt _ _ _ _ .i64 a9 (p0.length : Int)) rfl (lb rfl) fun a S => leafL ⟨rfl, S⟩
   ·exact fM 4 (some 3) rfl rfl rfl rfl (.inl rfl) rfl rfl rfl
   ·refine fJ [(13, _), (62, _)] 5 [none, some 4] fun G a w S => ?_
    exact sSk S rfl rfl rfl av rfl rfl fun a S => leafL ⟨rfl, S⟩
   ·refine fJ [(1, _), (62, _)] 6 [none, some 4] fun G a w S => ?_
    exact sSk S rfl rfl rfl av rfl rfl fun a S => leafL ⟨rfl, S⟩
   ·refine fJ [(64, _), (62, _)] 7 [some 6, some 4] fun G a w S => ?_
    exact sSk S rfl rfl rfl av rfl rfl fun a S => leafL ⟨rfl, S⟩
   ·refine fJ [(63, _), (65, _), (62, _)] 8 [some 5, some 7, some 4] fun G a w S => ?_
    exact sSk S rfl rfl rfl av rfl rfl fun a S => leafL ⟨rfl, S⟩
   ·refine fJ [(62, _), (66, _)] 9 [some 4, some 8] fun G a w S => ?_
    exact sPickF (.bool false) S (wN rfl) rfl rfl av rfl rfl (lb rfl) fun a S => leafL ⟨rfl, S⟩
   ·exact fM 10 (some 9) rfl rfl rfl rfl (.inl rfl) rfl rfl rfl
   ·refine fJ [(0, _), (68, _)] 11 [none, some 10] fun G a w S => ?_
    exact sSk S rfl rfl rfl rfl rfl rfl fun a S => leafL ⟨rfl, S⟩
   ·refine fJ [(12, _), (68, _)] 12 [none, some 10] fun G a w S => ?_
    exact sSk S rfl rfl rfl rfl rfl rfl fun a S => leafL ⟨rfl, S⟩
   ·refine fJ [(69, _), (70, _), (68, _)] 13 [some 11, some 12, some 10] fun G a w S => ?_
    exact sSk S rfl rfl rfl rfl rfl rfl fun a S => leafL ⟨rfl, S⟩
   ·refine fJ [(71, _), (68, _)] 14 [some 13, some 10] fun G a w S => ?_
    exact sSk S rfl rfl rfl rfl rfl rfl fun a S => leafL ⟨rfl, S⟩
   ·refine fJ [(1, _), (68, _)] 15 [none, some 10] fun G a w S => ?_
    exact sSk S rfl rfl rfl rfl rfl rfl fun a S => leafL ⟨rfl, S⟩
   ·refine fJ [(13, _), (68, _)] 16 [none, some 10] fun G a w S => ?_
    exact sSk S rfl rfl rfl rfl rfl rfl fun a S => leafL ⟨rfl, S⟩
   ·refine fJ [(73, _), (74, _), (68, _)] 17 [some 15, some 16, some 10] fun G a w S => ?_
    exact sSk S rfl rfl rfl rfl rfl rfl fun a S => leafL ⟨rfl, S⟩
   ·refine fJ [(75, _), (68, _)] 18 [some 17, some 10] fun G a w S => ?_
    exact sSk S rfl rfl rfl rfl rfl rfl fun a S => leafL ⟨rfl, S⟩
   ·refine fJ [(72, _), (76, _), (68, _)] 19 [some 14, some 18, some 10] fun G a w S => ?_
    exact sSk S rfl rfl rfl rfl rfl rfl fun a S => leafL ⟨rfl, S⟩
   ·refine fJ [(68, _), (77, _)] 20 [some 10, some 19] fun G a w S => ?_
    exact sPickF (.bool false) S (wN rfl) rfl rfl rfl rfl rfl (lb rfl) fun a S => leafL ⟨rfl, S⟩
   ·exact fM 21 (some 20) rfl rfl rfl rfl (.inl rfl) rfl rfl rfl
   ·refine fJ [(14, _), (79, _)] 22 [none, some 21] fun G a w S => ?_
    exact sSk S rfl rfl rfl rfl rfl rfl fun a S => leafL ⟨rfl, S⟩
   ·refine fJ [(10, _), (79, _)] 23 [none, some 21] fun G a w S => ?_
    exact sSk S rfl rfl rfl rfl rfl rfl fun a S => leafL ⟨rfl, S⟩
   ·refine fJ [(12, _), (79, _)] 24 [none, some 21] fun G a w S => ?_
    exact sSk S rfl rfl rfl rfl rfl rfl fun a S => leafL ⟨rfl, S⟩
   ·refine fJ [(82, _), (79, _)] 25 [some 24, some 21] fun G a w S => ?_
    exact sSk S rfl rfl rfl rfl rfl rfl fun a S => leafL ⟨rfl, S⟩
   ·refine fJ [(81, _), (83, _), (79, _)] 26 [some 23, some 25, some 21] fun G a w S => ?_
    exact sSk S rfl rfl rfl rfl rfl rfl fun a S => leafL ⟨rfl, S⟩
   ·refine fJ [(84, _), (79, _)] 27 [some 26, some 21] fun G a w S => ?_
    exact sSk S rfl rfl rfl rfl rfl rfl fun a S => leafL ⟨rfl, S⟩
   ·refine fJ [(13, _), (79, _)] 28 [none, some 21] fun G a w S => ?_
    exact sSk S rfl rfl rfl rfl rfl rfl fun a S => leafL ⟨rfl, S⟩
   ·refine fJ [(86, _), (79, _)] 29 [some 28, some 21] fun G a w S => ?_
    exact sSk S rfl rfl rfl rfl rfl rfl fun a S => leafL ⟨rfl, S⟩
   ·refine fJ [(85, _), (87, _), (79, _)] 30 [some 27, some 29, some 21] fun G a w S => ?_
    exact sSk S rfl rfl rfl rfl rfl rfl fun a S => leafL ⟨rfl, S⟩
   ·refine fJ [(88, _), (79, _)] 31 [some 30, some 21] fun G a w S => ?_
    exact sSk S rfl rfl rfl rfl rfl rfl fun a S => leafL ⟨rfl, S⟩
   ·refine fJ [(80, _), (89, _), (79, _)] 32 [some 22, some 31, some 21] fun G a w S => ?_
    exact sSk S rfl rfl rfl rfl rfl rfl fun a S => leafL ⟨rfl, S⟩
   ·refine fJ [(79, _), (90, _)] 33 [some 21, some 32] fun G a w S => ?_
    exact sPickF (.bool false) S (wN rfl) rfl rfl rfl rfl rfl (lb rfl) fun a S => leafL ⟨rfl, S⟩
   ·exact fM 34 (some 33) rfl rfl rfl rfl (.inr rfl) rfl rfl rfl
   exact leafT (⟨false, Option.some.inj h, S.fix [0] [6, 7, 8] (by decide) rfl rfl rfl⟩)
  rcases iS h with ⟨aj, h⟩ | ⟨aj, h⟩
  rotate_left
  ·refine sDraw (nf := []) (W := [(0, 58, iv a9), (1, 59, .slice ak p0.length am), (2, 60, iv (p0.length : Int)), (3, 61, .bool (decide (a9 < (p0.length : Int)))), (4, 62, .bool (decide (a9 < (p0.length : Int)))), (5, 63, iv a5), (6, 64, .slice ae p1.length af), (7, 65, iv (p1.length : Int)), (8, 66, .bool (decide (a5 < (p1.length : Int)))), (9, 67, .bool (decide (a5 < (p1.length : Int)))), (10, 68, .bool (decide (a5 < (p1.length : Int)))), (11, 69, undef), (12, 70, undef), (13, 71, undef), (14, 72, undef), (15, 73, undef), (16, 74, undef), (17, 75, undef), (18, 76, undef), (19, 77, undef), (20, 78, .bool false), (21, 79, .bool false), (22, 80, undef), (23, 81, undef), (24, 82, undef), (25, 83, undef), (26, 84, undef), (27, 85, undef), (28, 86, undef), (29, 87, undef), (30, 88, undef), (31, 89, undef), (32, 90, undef), (33, 91, .bool false), (34, 57, .bool false)]) rfl S ?_
   refine node_by (A := anc_compare_Edits_0) 35 (by kernel_rfl) (by kernel_rfl) (by kernel_rfl) (by kernel_rfl) (by kernel_rfl) [0, 1, 2, 3, 4, 5, 6, 7, 8, 9, 10, 11, 12, 13, 14, 15, 16, 17, 18, 19, 20, 21, 22, 23, 24, 25, 26, 27, 28, 29, 30, 31, 32, 33, 34] (by kernel_rfl) (by decide) (by decide) (fF ?_ (fF ?_ (fF ?_ (fF ?_ (fF ?_ (fF ?_ (fF ?_ (fF ?_ (fF ?_ (fF ?_ (fF ?_ (fF ?_ (fF ?_ (fF ?_ (fF ?_ (fF ?_ (fF ?_ (fF ?_ (fF ?_ (fF ?_ (fF ?_ (fF ?_ (fF ?_ (fF ?_ (fF ?_ (fF ?_ (fF ?_ (fF ?_ (fF ?_ (fF ?_ (fF ?_ (fF ?_ (fF ?_ (fF ?_ (fF ?_ (trivial)))))))))))))))))))))))))))))))))))) [(0, .slice ak p0.length am), (1, .slice ae p1.length af), (10, .slice ag ar.length ah), (11, .slice ap ay.length aq), (12, iv a9), (13, iv a5), (14, iv aw), (57, .bool false), (63, iv a5), (64, .slice ae p1.length af), (65, iv (p1.length : Int)), (66, .bool (decide (a5 < (p1.length : Int)))), (69, undef), (70, undef), (71, undef), (72, undef), (73, undef), (74, undef), (75, undef), (76, undef), (77, undef), (80, undef), (81, undef), (82, undef), (83, undef), (84, undef), (85, undef), (86, undef), (87, undef), (88, undef), (89, undef), (90, undef)] (fin_of [none, none, none, none, none, none, none, some 34, some 5, some 6, some 7, some 8, some 11, some 12, some 13, some 14, some 15, some 16, some 17, some 18, some 19, some 22, some 23, some 24, some 25, some 26, some 27, some 28, some 29, some 30, some 31, some 32] rfl (by kernel_rfl) (by kernel_rfl)) (fun _ a w S => ?_)
   ·exact fM 0 none rfl rfl rfl rfl (.inl rfl) rfl rfl rfl
   ·exact fM 1 none rfl rfl rfl rfl (.inl rfl) rfl rfl rfl
   ·refine fJ [(59, _)] 2 [some 1] fun G a w S => ?_
    exact sLen S (wN rfl) rfl Try.underlying47 rfl rfl (lb rfl) fun a S => leafL ⟨rfl, S⟩
   ·refine fJ [(58, _), (60, _)] 3 [some 0, some 2] fun G a w S => ?_
    exact sBin _ S (wN rfl) rfl rfl rfl (bLt _ _ _ _ .i64 a9 (p0.length : Int)) rfl (lb rfl) fun a S => leafL ⟨rfl, S⟩
   ·exact fM 4 (some 3) rfl rfl rfl rfl (.inl rfl) rfl rfl rfl
   ·refine fJ [(13, _), (62, _)] 5 [none, some 4] fun G a w S => ?_
    exact sMove (iv a5) S (wG 4 true 62 rfl rfl rfl av) (.inl rfl) rfl rfl (lb rfl) fun a S => leafL ⟨rfl, S⟩
   ·refine fJ [(1, _), (62, _)] 6 [none, some 4] fun G a w S => ?_
    exact sMove (.slice ae p1.length af) S (wG 4 true 62 rfl rfl rfl av) (.inl rfl) rfl rfl (lb rfl) fun a S => leafL ⟨rfl, S⟩
   ·refine fJ [(64, _), (62, _)] 7 [some 6, some 4] fun G a w S => ?_
    exact sLen S (wG 4 true 62 rfl rfl rfl av) rfl Try.underlying47 rfl rfl (lb rfl) fun a S => leafL ⟨rfl, S⟩
   ·refine fJ [(63, _), (65, _), (62, _)] 8 [some 5, some 7, some 4] fun G a w S => ?_
    exact sBin _ S (wG 4 true 62 rfl rfl rfl av) rfl rfl rfl (bLt _ _ _ _ .i64 a5 (p1.length : Int)) rfl (lb rfl) fun a S => leafL ⟨rfl, S⟩
   ·refine fJ [(62, _), (66, _)] 9 [some 4, some 8] fun G a w S => ?_
    exact sPickT (.bool (decide (a5 < (p1.length : Int)))) S (wN rfl) rfl rfl av rfl rfl (lb rfl) fun a S => leafL ⟨rfl, S⟩
   ·exact fM 10 (some 9) rfl rfl rfl rfl (.inl rfl) rfl rfl rfl
   ·refine fJ [(0, _), (68, _)] 11 [none, some 10] fun G a w S => ?_
    exact sSk S rfl rfl rfl aj rfl rfl fun a S => leafL ⟨rfl, S⟩
   ·refine fJ [(12, _), (68, _)] 12 [none, some 10] fun G a w S => ?_
    exact sSk S rfl rfl rfl aj rfl rfl fun a S => leafL ⟨rfl, S⟩
   ·refine fJ [(69, _), (70, _), (68, _)] 13 [some 11, some 12, some 10] fun G a w S => ?_
    exact sSk S rfl rfl rfl aj rfl rfl fun a S => leafL ⟨rfl, S⟩
   ·refine fJ [(71, _), (68, _)] 14 [some 13, some 10] fun G a w S => ?_
    exact sSk S rfl rfl rfl aj rfl rfl fun a S => leafL ⟨rfl, S⟩
   ·refine fJ [(1, _), (68, _)] 15 [none, some 10] fun G a w S => ?_
    exact sSk S rfl rfl rfl aj rfl rfl fun a S => leafL ⟨rfl, S⟩
   ·refine fJ [(13, _), (68, _)] 16 [none, some 10] fun G a w S => ?_
    exact sSk S rfl rfl rfl aj rfl rfl fun a S => leafL ⟨rfl, S⟩
   ·refine fJ [(73, _), (74, _), (68, _)] 17 [some 15, some 16, some 10] fun G a w S => ?_
    exact sSk S rfl rfl rfl aj rfl rfl fun a S => leafL ⟨rfl, S⟩
   ·refine fJ [(75, _), (68, _)] 18 [some 17, some 10] fun G a w S => ?_
    exact sSk S rfl rfl rfl aj rfl rfl fun a S => leafL ⟨rfl, S⟩
   ·refine fJ [(72, _), (76, _), (68, _)] 19 [some 14, some 18, some 10] fun G a w S => ?_
    exact sSk S rfl rfl rfl aj rfl rfl fun a S => leafL ⟨rfl, S⟩
   ·refine fJ [(68, _), (77, _)] 20 [some 10, some 19] fun G a w S => ?_
    exact sPickF (.bool false) S (wN rfl) rfl rfl aj rfl rfl (lb rfl) fun a S => leafL ⟨rfl, S⟩
   ·exact fM 21 (some 20) rfl rfl rfl rfl (.inl rfl) rfl rfl rfl
   ·refine fJ [(14, _), (79, _)] 22 [none, some 21] fun G a w S => ?_
    exact sSk S rfl rfl rfl rfl rfl rfl fun a S => leafL ⟨rfl, S⟩
   ·refine fJ [(10, _), (79, _)] 23 [none, some 21] fun G a w S => ?_
    exact sSk S rfl rfl rfl rfl rfl rfl fun a S => leafL ⟨rfl, S⟩
   ·refine fJ [(12, _), (79, _)] 24 [none, some 21] fun G a w S => ?_
    exact sSk S rfl rfl rfl rfl rfl rfl fun a S => leafL ⟨rfl, S⟩
   ·refine fJ [(82, _), (79, _)] 25 [some 24, some 21] fun G a w S => ?_
    exact sSk S rfl rfl rfl rfl rfl rfl fun a S => leafL ⟨rfl, S⟩
   ·refine fJ [(81, _), (83, _), (79, _)] 26 [some 23, some 25, some 21] fun G a w S => ?_
    exact sSk S rfl rfl rfl rfl rfl rfl fun a S => leafL ⟨rfl, S⟩
   ·refine fJ [(84, _), (79, _)] 27 [some 26, some 21] fun G a w S => ?_
    exact sSk S rfl rfl rfl rfl rfl rfl fun a S => leafL ⟨rfl, S⟩
   ·refine fJ [(13, _), (79, _)] 28 [none, some 21] fun G a w S => ?_
    exact sSk S rfl rfl rfl rfl rfl rfl fun a S => leafL ⟨rfl, S⟩
   ·refine fJ [(86, _), (79, _)] 29 [some 28, some 21] fun G a w S => ?_
    exact sSk S rfl rfl rfl rfl rfl rfl fun a S => leafL ⟨rfl, S⟩
   ·refine fJ [(85, _), (87, _), (79, _)] 30 [some 27, some 29, some 21] fun G a w S => ?_
    exact sSk S rfl rfl rfl rfl rfl rfl fun a S => leafL ⟨rfl, S⟩
   ·refine fJ [(88, _), (79, _)] 31 [some 30, some 21] fun G a w S => ?_
    exact sSk S rfl rfl rfl rfl rfl rfl fun a S => leafL ⟨rfl, S⟩
   ·refine fJ [(80, _), (89, _), (79, _)] 32 [some 22, some 31, some 21] fun G a w S => ?_
    exact sSk S rfl rfl rfl rfl rfl rfl fun a S => leafL ⟨rfl, S⟩
   ·refine fJ [(79, _), (90, _)] 33 [some 21, some 32] fun G a w S => ?_
    exact sPickF (.bool false) S (wN rfl) rfl rfl rfl rfl rfl (lb rfl) fun a S => leafL ⟨rfl, S⟩
   ·exact fM 34 (some 33) rfl rfl rfl rfl (.inr rfl) rfl rfl rfl
   exact leafT (⟨false, Option.some.inj h, S.fix [0] [6, 7, 8] (by decide) rfl rfl rfl⟩)
  obtain ⟨a7, bP, h⟩ := bS h
  obtain ⟨a8, bQ, h⟩ := bS h
  rcases iS h with ⟨ao, h⟩ | ⟨ao, h⟩
  rotate_left
  ·obtain ⟨aX, bR, S⟩ := pIdx (P := Try.prog) (r := r_api_Stitch) (v := .slice ak p0.length am) (xs := p0) (j := a9) 47 81 6 S Try.underlying47 rfl rfl bP
   obtain ⟨bU, S⟩ := pLoad (r := r_api_Stitch) (q := aX) (x := a7) 0 S rfl
   obtain rfl : bU = .agg #[.int .u8 a7.Kind, .bool a7.Purl, iv a7.A, iv a7.B] := S.mem.know (i := 1) (e := fRep r_api_Stitch (bU) a7) rfl
   obtain ⟨aZ, bV, S⟩ := pIdx (P := Try.prog) (r := r_api_Stitch) (v := .slice ae p1.length af) (xs := p1) (j := a5) 47 81 10 S Try.underlying47 rfl rfl bQ
   obtain ⟨bW, S⟩ := pLoad (r := r_api_Stitch) (q := aZ) (x := a8) 0 S rfl
   obtain rfl : bW = .agg #[.int .u8 a8.Kind, .bool a8.Purl, iv a8.A, iv a8.B] := S.mem.know (i := 1) (e := fRep r_api_Stitch (bW) a8) rfl
   refine sDraw (nf := []) (W := [(0, 58, iv a9), (1, 59, .slice ak p0.length am), (2, 60, iv (p0.length : Int)), (3, 61, .bool (decide (a9 < (p0.length : Int)))), (4, 62, .bool (decide (a9 < (p0.length : Int)))), (5, 63, iv a5), (6, 64, .slice ae p1.length af), (7, 65, iv (p1.length : Int)), (8, 66, .bool (decide (a5 < (p1.length : Int)))), (9, 67, .bool (decide (a5 < (p1.length : Int)))), (10, 68, .bool (decide (a5 < (p1.length : Int)))), (11, 69, .slice ak p0.length am), (12, 70, iv a9), (13, 71, aX), (14, 72, .agg #[.int .u8 a7.Kind, .bool a7.Purl, iv a7.A, iv a7.B]), (15, 73, .slice ae p1.length af), (16, 74, iv a5), (17, 75, aZ), (18, 76, .agg #[.int .u8 a8.Kind, .bool a8.Purl, iv a8.A, iv a8.B]), (19, 77, .bool ((a7.Kind == a8.Kind) && ((a7.Purl == a8.Purl) && ((a7.A == a8.A) && ((a7.B == a8.B) && true))))), (20, 78, .bool ((a7.Kind == a8.Kind) && ((a7.Purl == a8.Purl) && ((a7.A == a8.A) && ((a7.B == a8.B) && true))))), (21, 79, .bool ((a7.Kind == a8.Kind) && ((a7.Purl == a8.Purl) && ((a7.A == a8.A) && ((a7.B == a8.B) && true))))), (22, 80, undef), (23, 81, undef), (24, 82, undef), (25, 83, undef), (26, 84, undef), (27, 85, undef), (28, 86, undef), (29, 87, undef), (30, 88, undef), (31, 89, undef), (32, 90, undef), (33, 91, .bool false), (34, 57, .bool false)]) rfl S ?_
   refine node_by (A := anc_compare_Edits_0) 35 (by kernel_rfl) (by kernel_rfl) (by kernel_rfl) (by kernel_rfl) (by kernel_rfl) [0, 1, 2, 3, 4, 5, 6, 7, 8, 9, 10, 11, 12, 13, 14, 15, 16, 17, 18, 19, 20, 21, 22, 23, 24, 25, 26, 27, 28, 29, 30, 31, 32, 33, 34] (by kernel_rfl) (by decide) (by decide) (fF ?_ (fF ?_ (fF ?_ (fF ?_ (fF ?_ (fF ?_ (fF ?_ (fF ?_ (fF ?_ (fF ?_ (fF ?_ (fF ?_ (fF ?_ (fF ?_ (fF ?_ (fF ?_ (fF ?_ (fF ?_ (fF ?_ (fF ?_ (fF ?_ (fF ?_ (fF ?_ (fF ?_ (fF ?_ (fF ?_ (fF ?_ (fF ?_ (fF ?_ (fF ?_ (fF ?_ (fF ?_ (fF ?_ (fF ?_ (fF ?_ (trivial)))))))))))))))))))))))))))))))))))) [(0, .slice ak p0.length am), (1, .slice ae p1.length af), (10, .slice ag ar.length ah), (11, .slice ap ay.length aq), (12, iv a9), (13, iv a5), (14, iv aw), (57, .bool false), (63, iv a5), (64, .slice ae p1.length af), (65, iv (p1.length : Int)), (66, .bool (decide (a5 < (p1.length : Int)))), (69, .slice ak p0.length am), (70, iv a9), (71, aX), (72, .agg #[.int .u8 a7.Kind, .bool a7.Purl, iv a7.A, iv a7.B]), (73, .slice ae p1.length af), (74, iv a5), (75, aZ), (76, .agg #[.int .u8 a8.Kind, .bool a8.Purl, iv a8.A, iv a8.B]), (77, .bool ((a7.Kind == a8.Kind) && ((a7.Purl == a8.Purl) && ((a7.A == a8.A) && ((a7.B == a8.B) && true))))), (80, undef), (81, undef), (82, undef), (83, undef), (84, undef), (85, undef), (86, undef), (87, undef), (88, undef), (89, undef), (90, undef)] (fin_of [none, none, none, none, none, none, none, some 34, some 5, some 6, some 7, some 8, some 11, some 12, some 13, some 14, some 15, some 16, some 17, some 18, some 19, some 22, some 23, some 24, some 25, some 26, some 27, some 28, some 29, some 30, some 31, some 32] rfl (by kernel_rfl) (by kernel_rfl)) (fun _ a w S => ?_)
   ·exact fM 0 none rfl rfl rfl rfl (.inl rfl) rfl rfl rfl
   ·exact fM 1 none rfl rfl rfl rfl (.inl rfl) rfl rfl rfl
   ·refine fJ [(59, _)] 2 [some 1] fun G a w S => ?_
    exact sLen S (wN rfl) rfl Try.underlying47 rfl rfl (lb rfl) fun a S => leafL ⟨rfl, S⟩
   ·refine fJ [(58, _), (60, _)] 3 [some 0, some 2] fun G a w S => ?_
    exact sBin _ S (wN rfl) rfl rfl rfl (bLt _ _ _ _ .i64 a9 (p0.length : Int)) rfl (lb rfl) fun a S => leafL ⟨rfl, S⟩
   ·exact fM 4 (some 3) rfl rfl rfl rfl (.inl rfl) rfl rfl rfl
   ·refine fJ [(13, _), (62, _)] 5 [none, some 4] fun G a w S => ?_
    exact sMove (iv a5) S (wG 4 true 62 rfl rfl rfl av) (.inl rfl) rfl rfl (lb rfl) fun a S => leafL ⟨rfl, S⟩
   ·refine fJ [(1, _), (62, _)] 6 [none, some 4] fun G a w S => ?_
    exact sMove (.slice ae p1.length af) S (wG 4 true 62 rfl rfl rfl av) (.inl rfl) rfl rfl (lb rfl) fun a S => leafL ⟨rfl, S⟩
   ·refine fJ [(64, _), (62, _)] 7 [some 6, some 4] fun G a w S => ?_
    exact sLen S (wG 4 true 62 rfl rfl rfl av) rfl Try.underlying47 rfl rfl (lb rfl) fun a S => leafL ⟨rfl, S⟩
   ·refine fJ [(63, _), (65, _), (62, _)] 8 [some 5, some 7, some 4] fun G a w S => ?_
    exact sBin _ S (wG 4 true 62 rfl rfl rfl av) rfl rfl rfl (bLt _ _ _ _ .i64 a5 (p1.length : Int)) rfl (lb rfl) fun a S => leafL ⟨rfl, S⟩
   ·refine fJ [(62, _), (66, _)] 9 [some 4, some 8] fun G a w S => ?_
    exact sPickT (.bool (decide (a5 < (p1.length : Int)))) S (wN rfl) rfl rfl av rfl rfl (lb rfl) fun a S => leafL ⟨rfl, S⟩
   ·exact fM 10 (some 9) rfl rfl rfl rfl (.inl rfl) rfl rfl rfl
   ·refine fJ [(0, _), (68, _)] 11 [none, some 10] fun G a w S => ?_
    exact sMove (.slice ak p0.length am) S (wG 10 true 68 rfl rfl rfl aj) (.inl rfl) rfl rfl (lb rfl) fun a S => leafL ⟨rfl, S⟩
   ·refine fJ [(12, _), (68, _)] 12 [none, some 10] fun G a w S => ?_
    exact sMove (iv a9) S (wG 10 true 68 rfl rfl rfl aj) (.inl rfl) rfl rfl (lb rfl) fun a S => leafL ⟨rfl, S⟩
   ·refine fJ [(69, _), (70, _), (68, _)] 13 [some 11, some 12, some 10] fun G a w S => ?_
    exact sIdxV S (wG 10 true 68 rfl rfl rfl aj) rfl rfl rfl bR rfl (lb rfl) fun a S => leafL ⟨rfl, S⟩
   ·refine fJ [(71, _), (68, _)] 14 [some 13, some 10] fun G a w S => ?_
    exact sLoadVN (vq := aX) 3 [.int .u8 a7.Kind, .bool a7.Purl, iv a7.A, iv a7.B] S (wG 10 true 68 rfl rfl rfl aj) rfl rfl rfl rfl rfl rfl (lb rfl) fun a S => leafL ⟨rfl, S⟩
   ·refine fJ [(1, _), (68, _)] 15 [none, some 10] fun G a w S => ?_
    exact sMove (.slice ae p1.length af) S (wG 10 true 68 rfl rfl rfl aj) (.inl rfl) rfl rfl (lb rfl) fun a S => leafL ⟨rfl, S⟩
   ·refine fJ [(13, _), (68, _)] 16 [none, some 10] fun G a w S => ?_
    exact sMove (iv a5) S (wG 10 true 68 rfl rfl rfl aj) (.inl rfl) rfl rfl (lb rfl) fun a S => leafL ⟨rfl, S⟩
   ·refine fJ [(73, _), (74, _), (68, _)] 17 [some 15, some 16, some 10] fun G a w S => ?_
    exact sIdxV S (wG 10 true 68 rfl rfl rfl aj) rfl rfl rfl bV rfl (lb rfl) fun a S => leafL ⟨rfl, S⟩
   ·refine fJ [(75, _), (68, _)] 18 [some 17, some 10] fun G a w S => ?_
    exact sLoadVN (vq := aZ) 0 [.int .u8 a8.Kind, .bool a8.Purl, iv a8.A, iv a8.B] S (wG 10 true 68 rfl rfl rfl aj) rfl rfl rfl rfl rfl rfl (lb rfl) fun a S => leafL ⟨rfl, S⟩
   ·refine fJ [(72, _), (76, _), (68, _)] 19 [some 14, some 18, some 10] fun G a w S => ?_
    exact sBin _ S (wG 10 true 68 rfl rfl rfl aj) rfl rfl rfl (bEqV _ _ _ _ #[.int .u8 a7.Kind, .bool a7.Purl, iv a7.A, iv a7.B] #[.int .u8 a8.Kind, .bool a8.Purl, iv a8.A, iv a8.B] ((a7.Kind == a8.Kind) && ((a7.Purl == a8.Purl) && ((a7.A == a8.A) && ((a7.B == a8.B) && true)))) (by kernel_rfl) (eqlV_of (by kernel_rfl))) rfl (lb rfl) fun a S => leafL ⟨rfl, S⟩
   ·refine fJ [(68, _), (77, _)] 20 [some 10, some 19] fun G a w S => ?_
    exact sPickT (.bool ((a7.Kind == a8.Kind) && ((a7.Purl == a8.Purl) && ((a7.A == a8.A) && ((a7.B == a8.B) && true))))) S (wN rfl) rfl rfl aj rfl rfl (lb rfl) fun a S => leafL ⟨rfl, S⟩
   ·exact fM 21 (some 20) rfl rfl rfl rfl (.inl rfl) rfl rfl rfl
   ·refine fJ [(14, _), (79, _)] 22 [none, some 21] fun G a w S => ?_
    exact sSk S rfl rfl rfl ao rfl rfl fun a S => leafL ⟨rfl, S⟩
   ·refine fJ [(10, _), (79, _)] 23 [none, some 21] fun G a w S => ?_
    exact sSk S rfl rfl rfl ao rfl rfl fun a S => leafL ⟨rfl, S⟩
   ·refine fJ [(12, _), (79, _)] 24 [none, some 21] fun G a w S => ?_
    exact sSk S rfl rfl rfl ao rfl rfl fun a S => leafL ⟨rfl, S⟩
   ·refine fJ [(82, _), (79, _)] 25 [some 24, some 21] fun G a w S => ?_
    exact sSk S rfl rfl rfl ao rfl rfl fun a S => leafL ⟨rfl, S⟩
   ·refine fJ [(81, _), (83, _), (79, _)] 26 [some 23, some 25, some 21] fun G a w S => ?_
    exact sSk S rfl rfl rfl ao rfl rfl fun a S => leafL ⟨rfl, S⟩
   ·refine fJ [(84, _), (79, _)] 27 [some 26, some 21] fun G a w S => ?_
    exact sSk S rfl rfl rfl ao rfl rfl fun a S => leafL ⟨rfl, S⟩
   ·refine fJ [(13, _), (79, _)] 28 [none, some 21] fun G a w S => ?_
    exact sSk S rfl rfl rfl ao rfl rfl fun a S => leafL ⟨rfl, S⟩
   ·refine fJ [(86, _), (79, _)] 29 [some 28, some 21] fun G a w S => ?_
    exact sSk S rfl rfl rfl ao rfl rfl fun a S => leafL ⟨rfl, S⟩
   ·refine fJ [(85, _), (87, _), (79, _)] 30 [some 27, some 29, some 21] fun G a w S => ?_
    exact sSk S rfl rfl rfl ao rfl rfl fun a S => leafL ⟨rfl, S⟩
   ·refine fJ [(88, _), (79, _)] 31 [some 30, some 21] fun G a w S => ?_
    exact sSk S rfl rfl rfl ao rfl rfl fun a S => leafL ⟨rfl, S⟩
   ·refine fJ [(80, _), (89, _), (79, _)] 32 [some 22, some 31, some 21] fun G a w S => ?_
    exact sSk S rfl rfl rfl ao rfl rfl fun a S => leafL ⟨rfl, S⟩
   ·refine fJ [(79, _), (90, _)] 33 [some 21, some 32] fun G a w S => ?_
    exact sPickF (.bool false) S (wN rfl) rfl rfl ao rfl rfl (lb rfl) fun a S => leafL ⟨rfl, S⟩
   ·exact fM 34 (some 33) rfl rfl rfl rfl (.inr rfl) rfl rfl rfl
   exact leafT (⟨false, Option.some.inj h, S.fix [0] [12, 13, 14] (by decide) rfl rfl rfl⟩)
  obtain ⟨bx, dA, h⟩ := bS h
  obtain ⟨aJ, dB, h⟩ := bS h
  obtain ⟨ba, bX, S⟩ := pIdx (P := Try.prog) (r := r_api_Stitch) (v := .slice ak p0.length am) (xs := p0) (j := a9) 47 81 6 S Try.underlying47 rfl rfl bP
  obtain ⟨bY, S⟩ := pLoad (r := r_api_Stitch) (q := ba) (x := a7) 0 S rfl
  obtain rfl : bY = .agg #[.int .u8 a7.Kind, .bool a7.Purl, iv a7.A, iv a7.B] := S.mem.know (i := 1) (e := fRep r_api_Stitch (bY) a7) rfl
  obtain ⟨bb, bZ, S⟩ := pIdx (P := Try.prog) (r := r_api_Stitch) (v := .slice ae p1.length af) (xs := p1) (j := a5) 47 81 10 S Try.underlying47 rfl rfl bQ
  obtain ⟨c5, S⟩ := pLoad (r := r_api_Stitch) (q := bb) (x := a8) 0 S rfl
  obtain rfl : c5 = .agg #[.int .u8 a8.Kind, .bool a8.Purl, iv a8.A, iv a8.B] := S.mem.know (i := 1) (e := fRep r_api_Stitch (c5) a8) rfl
  obtain ⟨bc, c6, S⟩ := pIdx (P := Try.prog) (r := (rL (rI .i64))) (v := .slice ag ar.length ah) (xs := ar) (j := w64 (a9 + 1)) 98 101 14 S Try.underlying98 rfl rfl dA
  obtain ⟨dC, S⟩ := pLoad (r := (rL (rI .i64))) (q := bc) (x := bx) 0 S rfl
  obtain ⟨aK, aL, _, rfl, _⟩ := S.mem.know (i := 1) (e := fRep (rL (rI .i64)) (dC) bx) rfl
  obtain ⟨bf, c7, S⟩ := pIdx (P := Try.prog) (r := (rI .i64)) (v := .slice aK bx.length aL) (xs := bx) (j := w64 (a5 + 1)) 101 3 1 S Try.underlying101 rfl rfl dB
  obtain ⟨c8, S⟩ := pLoad (r := (rI .i64)) (q := bf) (x := aJ) 0 S rfl
  obtain rfl : c8 = iv aJ := S.mem.know (i := 1) (e := fRep (rI .i64) (c8) aJ) rfl
  refine sDraw (nf := []) (W := [(0, 58, iv a9), (1, 59, .slice ak p0.length am), (2, 60, iv (p0.length : Int)), (3, 61, .bool (decide (a9 < (p0.length : Int)))), (4, 62, .bool (decide (a9 < (p0.length : Int)))), (5, 63, iv a5), (6, 64, .slice ae p1.length af), (7, 65, iv (p1.length : Int)), (8, 66, .bool (decide (a5 < (p1.length : Int)))), (9, 67, .bool (decide (a5 < (p1.length : Int)))), (10, 68, .bool (decide (a5 < (p1.length : Int)))), (11, 69, .slice ak p0.length am), (12, 70, iv a9), (13, 71, ba), (14, 72, .agg #[.int .u8 a7.Kind, .bool a7.Purl, iv a7.A, iv a7.B]), (15, 73, .slice ae p1.length af), (16, 74, iv a5), (17, 75, bb), (18, 76, .agg #[.int .u8 a8.Kind, .bool a8.Purl, iv a8.A, iv a8.B]), (19, 77, .bool ((a7.Kind == a8.Kind) && ((a7.Purl == a8.Purl) && ((a7.A == a8.A) && ((a7.B == a8.B) && true))))), (20, 78, .bool ((a7.Kind == a8.Kind) && ((a7.Purl == a8.Purl) && ((a7.A == a8.A) && ((a7.B == a8.B) && true))))), (21, 79, .bool ((a7.Kind == a8.Kind) && ((a7.Purl == a8.Purl) && ((a7.A == a8.A) && ((a7.B == a8.B) && true))))), (22, 80, iv aw), (23, 81, .slice ag ar.length ah), (24, 82, iv a9), (25, 83, iv (w64 (a9 + 1))), (26, 84, bc), (27, 85, .slice aK bx.length aL), (28, 86, iv a5), (29, 87, iv (w64 (a5 + 1))), (30, 88, bf), (31, 89, iv aJ), (32, 90, .bool (aw == aJ)), (33, 91, .bool (aw == aJ)), (34, 57, .bool (aw == aJ))]) rfl S ?_
  refine node_by (A := anc_compare_Edits_0) 35 (by kernel_rfl) (by kernel_rfl) (by kernel_rfl) (by kernel_rfl) (by kernel_rfl) [0, 1, 2, 3, 4, 5, 6, 7, 8, 9, 10, 11, 12, 13, 14, 15, 16, 17, 18, 19, 20, 21, 22, 23, 24, 25, 26, 27, 28, 29, 30, 31, 32, 33, 34] (by kernel_rfl) (by decide) (by decide) (fF ?_ (fF ?_ (fF ?_ (fF ?_ (fF ?_ (fF ?_ (fF ?_ (fF ?_ (fF ?_ (fF ?_ (fF ?_ (fF ?_ (fF ?_ (fF ?_ (fF ?_ (fF ?_ (fF ?_ (fF ?_ (fF ?_ (fF ?_ (fF ?_ (fF ?_ (fF ?_ (fF ?_ (fF ?_ (fF ?_ (fF ?_ (fF ?_ (fF ?_ (fF ?_ (fF ?_ (fF ?_ (fF ?_ (fF ?_ (fF ?_ (trivial)))))))))))))))))))))))))))))))))))) [(0, .slice ak p0.length am), (1, .slice ae p1.length af), (10, .slice ag ar.length ah), (11, .slice ap ay.length aq), (12, iv a9), (13, iv a5), (14, iv aw), (57, .bool (aw == aJ)), (63, iv a5), (64, .slice ae p1.length af), (65, iv (p1.length : Int)), (66, .bool (decide (a5 < (p1.length : Int)))), (69, .slice ak p0.length am), (70, iv a9), (71, ba), (72, .agg #[.int .u8 a7.Kind, .bool a7.Purl, iv a7.A, iv a7.B]), (73, .slice ae p1.length af), (74, iv a5), (75, bb), (76, .agg #[.int .u8 a8.Kind, .bool a8.Purl, iv a8.A, iv a8.B]), (77, .bool ((a7.Kind == a8.Kind) && ((a7.Purl == a8.Purl) && ((a7.A == a8.A) && ((a7.B == a8.B) && true))))), (80, iv aw), (81, .slice ag ar.length ah), (82, iv a9), (83, iv (w64 (a9 + 1))), (84, bc), (85, .slice aK bx.length aL), (86, iv a5), (87, iv (w64 (a5 + 1))), (88, bf), (89, iv aJ), (90, .bool (aw == aJ))] (fin_of [none, none, none, none, none, none, none, some 34, some 5, some 6, some 7, some 8, some 11, some 12, some 13, some 14, some 15, some 16, some 17, some 18, some 19, some 22, some 23, some 24, some 25, some 26, some 27, some 28, some 29, some 30, some 31, some 32] rfl (by kernel_rfl) (by kernel_rfl)) (fun _ a w S => ?_)
  ·exact fM 0 none rfl rfl rfl rfl (.inl rfl) rfl rfl rfl
  ·exact fM 1 none rfl rfl rfl rfl (.inl rfl) rfl rfl rfl
  ·refine fJ [(59, _)] 2 [some 1] fun G a w S => ?_
   exact sLen S (wN rfl) rfl Try.underlying47 rfl rfl (lb rfl) fun a S => leafL ⟨rfl, S⟩
  ·refine fJ [(58, _), (60, _)] 3 [some 0, some 2] fun G a w S => ?_
   exact sBin _ S (wN rfl) rfl rfl rfl (bLt _ _ _ _ .i64 a9 (p0.length : Int)) rfl (lb rfl) fun a S => leafL ⟨rfl, S⟩
  ·exact fM 4 (some 3) rfl rfl rfl rfl (.inl rfl) rfl rfl rfl
  ·refine fJ [(13, _), (62, _)] 5 [none, some 4] fun G a w S => ?_
   exact sMove (iv a5) S (wG 4 true 62 rfl rfl rfl av) (.inl rfl) rfl rfl (lb rfl) fun a S => leafL ⟨rfl, S⟩
  ·refine fJ [(1, _), (62, _)] 6 [none, some 4] fun G a w S => ?_
   exact sMove (.slice ae p1.length af) S (wG 4 true 62 rfl rfl rfl av) (.inl rfl) rfl rfl (lb rfl) fun a S => leafL ⟨rfl, S⟩
  ·refine fJ [(64, _), (62, _)] 7 [some 6, some 4] fun G a w S => ?_
   exact sLen S (wG 4 true 62 rfl rfl rfl av) rfl Try.underlying47 rfl rfl (lb rfl) fun a S => leafL ⟨rfl, S⟩
  ·refine fJ [(63, _), (65, _), (62, _)] 8 [some 5, some 7, some 4] fun G a w S => ?_
   exact sBin _ S (wG 4 true 62 rfl rfl rfl av) rfl rfl rfl (bLt _ _ _ _ .i64 a5 (p1.length : Int)) rfl (lb rfl) fun a S => leafL ⟨rfl, S⟩
  ·refine fJ [(62, _), (66, _)] 9 [some 4, some 8] fun G a w S => ?_
   exact sPickT (.bool (decide (a5 < (p1.length : Int)))) S (wN rfl) rfl rfl av rfl rfl (lb rfl) fun a S => leafL ⟨rfl, S⟩
  ·exact fM 10 (some 9) rfl rfl rfl rfl (.inl rfl) rfl rfl rfl
  ·refine fJ [(0, _), (68, _)] 11 [none, some 10] fun G a w S => ?_
   exact sMove (.slice ak p0.length am) S (wG 10 true 68 rfl rfl rfl aj) (.inl rfl) rfl rfl (lb rfl) fun a S => leafL ⟨rfl, S⟩
  ·refine fJ [(12, _), (68, _)] 12 [none, some 10] fun G a w S => ?_
   exact sMove (iv a9) S (wG 10 true 68 rfl rfl rfl aj) (.inl rfl) rfl rfl (lb rfl) fun a S => leafL ⟨rfl, S⟩
  ·refine fJ [(69, _), (70, _), (68, _)] 13 [some 11, some 12, some 10] fun G a w S => ?_
   exact sIdxV S (wG 10 true 68 rfl rfl rfl aj) rfl rfl rfl bX rfl (lb rfl) fun a S => leafL ⟨rfl, S⟩
  ·refine fJ [(71, _), (68, _)] 14 [some 13, some 10] fun G a w S => ?_
   exact sLoadVN (vq := ba) 9 [.int .u8 a7.Kind, .bool a7.Purl, iv a7.A, iv a7.B] S (wG 10 true 68 rfl rfl rfl aj) rfl rfl rfl rfl rfl rfl (lb rfl) fun a S => leafL ⟨rfl, S⟩
  ·refine fJ [(1, _), (68, _)] 15 [none, some 10] fun G a w S => ?_
   exact sMove (.slice ae p1.length af) S (wG 10 true 68 rfl rfl rfl aj) (.inl rfl) rfl rfl (lb rfl) fun a S => leafL ⟨rfl, S⟩
  ·refine fJ [(13, _), (68, _)] 16 [none, some 10] fun G a w S => ?_
   exact sMove (iv a5) S (wG 10 true 68 rfl rfl rfl aj) (.inl rfl) rfl rfl (lb rfl) fun a S => leafL ⟨rfl, S⟩
  ·refine fJ [(73, _), (74, _), (68, _)] 17 [some 15, some 16, some 10] fun G a w S => ?_
   exact sIdxV S (wG 10 true 68 rfl rfl rfl aj) rfl rfl rfl bZ rfl (lb rfl) fun a S => leafL ⟨rfl, S⟩
  ·refine fJ [(75, _), (68, _)] 18 [some 17, some 10] fun G a w S => ?_
   exact sLoadVN (vq := bb) 6 [.int .u8 a8.Kind, .bool a8.Purl, iv a8.A, iv a8.B] S (wG 10 true 68 rfl rfl rfl aj) rfl rfl rfl rfl rfl rfl (lb rfl) fun a S => leafL ⟨rfl, S⟩
  ·refine fJ [(72, _), (76, _), (68, _)] 19 [some 14, some 18, some 10] fun G a w S => ?_
   exact sBin _ S (wG 10 true 68 rfl rfl rfl aj) rfl rfl rfl (bEqV _ _ _ _ #[.int .u8 a7.Kind, .bool a7.Purl, iv a7.A, iv a7.B] #[.int .u8 a8.Kind, .bool a8.Purl, iv a8.A, iv a8.B] ((a7.Kind == a8.Kind) && ((a7.Purl == a8.Purl) && ((a7.A == a8.A) && ((a7.B == a8.B) && true)))) (by kernel_rfl) (eqlV_of (by kernel_rfl))) rfl (lb rfl) fun a S => leafL ⟨rfl, S⟩
  ·refine fJ [(68, _), (77, _)] 20 [some 10, some 19] fun G a w S => ?_
   exact sPickT (.bool ((a7.Kind == a8.Kind) && ((a7.Purl == a8.Purl) && ((a7.A == a8.A) && ((a7.B == a8.B) && true))))) S (wN rfl) rfl rfl aj rfl rfl (lb rfl) fun a S => leafL ⟨rfl, S⟩
  ·exact fM 21 (some 20) rfl rfl rfl rfl (.inl rfl) rfl rfl rfl
  ·refine fJ [(14, _), (79, _)] 22 [none, some 21] fun G a w S => ?_
   exact sMove (iv aw) S (wG 21 true 79 rfl rfl rfl ao) (.inl rfl) rfl rfl (lb rfl) fun a S => leafL ⟨rfl, S⟩
  ·refine fJ [(10, _), (79, _)] 23 [none, some 21] fun G a w S => ?_
   exact sMove (.slice ag ar.length ah) S (wG 21 true 79 rfl rfl rfl ao) (.inl rfl) rfl rfl (lb rfl) fun a S => leafL ⟨rfl, S⟩
  ·refine fJ [(12, _), (79, _)] 24 [none, some 21] fun G a w S => ?_
   exact sMove (iv a9) S (wG 21 true 79 rfl rfl rfl ao) (.inl rfl) rfl rfl (lb rfl) fun a S => leafL ⟨rfl, S⟩
  ·refine fJ [(82, _), (79, _)] 25 [some 24, some 21] fun G a w S => ?_
   exact sBin _ S (wG 21 true 79 rfl rfl rfl ao) rfl rfl rfl (bAdd _ _ _ _ a9 1) rfl (lb rfl) fun a S => leafL ⟨rfl, S⟩
  ·refine fJ [(81, _), (83, _), (79, _)] 26 [some 23, some 25, some 21] fun G a w S => ?_
   exact sIdxV S (wG 21 true 79 rfl rfl rfl ao) rfl rfl rfl c6 rfl (lb rfl) fun a S => leafL ⟨rfl, S⟩
  ·refine fJ [(84, _), (79, _)] 27 [some 26, some 21] fun G a w S => ?_
   exact sLoadV1 (vq := bc) 3 (.slice aK bx.length aL) S (wG 21 true 79 rfl rfl rfl ao) rfl rfl rfl rfl rfl (lb rfl) fun a S => leafL ⟨rfl, S⟩
  ·refine fJ [(13, _), (79, _)] 28 [none, some 21] fun G a w S => ?_
   exact sMove (iv a5) S (wG 21 true 79 rfl rfl rfl ao) (.inl rfl) rfl rfl (lb rfl) fun a S => leafL ⟨rfl, S⟩
  ·refine fJ [(86, _), (79, _)] 29 [some 28, some 21] fun G a w S => ?_
   exact sBin _ S (wG 21 true 79 rfl rfl rfl ao) rfl rfl rfl (bAdd _ _ _ _ a5 1) rfl (lb rfl) fun a S => leafL ⟨rfl, S⟩
  ·refine fJ [(85, _), (87, _), (79, _)] 30 [some 27, some 29, some 21] fun G a w S => ?_
   exact sIdxV S (wG 21 true 79 rfl rfl rfl ao) rfl rfl rfl c7 rfl (lb rfl) fun a S => leafL ⟨rfl, S⟩
  ·refine fJ [(88, _), (79, _)] 31 [some 30, some 21] fun G a w S => ?_
   exact sLoadV1 (vq := bf) 0 (iv aJ) S (wG 21 true 79 rfl rfl rfl ao) rfl rfl rfl rfl rfl (lb rfl) fun a S => leafL ⟨rfl, S⟩
  ·refine fJ [(80, _), (89, _), (79, _)] 32 [some 22, some 31, some 21] fun G a w S => ?_
   exact sBin _ S (wG 21 true 79 rfl rfl rfl ao) rfl rfl rfl (bEq _ _ _ _ .i64 aw aJ) rfl (lb rfl) fun a S => leafL ⟨rfl, S⟩
  ·refine fJ [(79, _), (90, _)] 33 [some 21, some 32] fun G a w S => ?_
   exact sPickT (.bool (aw == aJ)) S (wN rfl) rfl rfl ao rfl rfl (lb rfl) fun a S => leafL ⟨rfl, S⟩
  ·exact fM 34 (some 33) rfl rfl rfl rfl (.inr rfl) rfl rfl rfl
  exact leafT (⟨aw == aJ, Option.some.inj h, S.fix [0] [18, 19, 20] (by decide) rfl rfl rfl⟩)
 obtain ⟨dz, rfl, S⟩ := hI
 have h := ea
 try dsimp only at h
 rcases iS h with ⟨aT, h⟩ | ⟨aT, h⟩
 ·refine sCondT S rfl aT ?_
  refine sSeq (fun eb c9 => sRegion (sM S fun a S => ?_))
  refine sBuild [(0, .int .u8 1)] [.int .u8 1, .int .u8 0, .bool false, iv 0, iv 0] S (wN rfl) rfl rfl rfl rfl (lb rfl) fun a S => ?_
  have S := S.learn (fRep r_api_CellStep (.agg #[.int .u8 1, .int .u8 0, .bool false, iv 0, iv 0]) (api_CellStep.mk 1 (api_Stitch.mk 0 false 0 0))) rfl
  refine sLit (r := r_api_CellStep) (T := 83) (xs := [(api_CellStep.mk 1 (api_Stitch.mk 0 false 0 0))]) [(0, .agg #[.int .u8 1, .int .u8 0, .bool false, iv 0, iv 0])] 1 [.agg #[.int .u8 1, .int .u8 0, .bool false, iv 0, iv 0]] [.int .u8 1, .int .u8 0, .bool false, iv 0, iv 0] (.agg #[.int .u8 0, .int .u8 0, .bool false, iv 0, iv 0]) 32 S (wN rfl) rfl rfl Try.underlying48 rfl (by decide) (by decide) (by kernel_rfl) rfl (fun E1 w1 hE => All.cons (r_api_CellStep.mono hE (S.mem.know (i := 0) (e := fRep r_api_CellStep (.agg #[.int .u8 1, .int .u8 0, .bool false, iv 0, iv 0]) (api_CellStep.mk 1 (api_Stitch.mk 0 false 0 0))) rfl)) (All.nil _ _ _)) rfl rfl (lb rfl) fun a w ca cb S => ?_
  obtain ⟨dD, cc, h⟩ := bS h
  refine sApp (r := r_api_CellStep) (T := 83) (xs := ay) (ys := [(api_CellStep.mk 1 (api_Stitch.mk 0 false 0 0))]) (v := .slice ap ay.length aq) (u := .slice ca [(api_CellStep.mk 1 (api_Stitch.mk 0 false 0 0))].length cb) 1 (.agg #[.int .u8 0, .int .u8 0, .bool false, iv 0, iv 0]) 32 S (wN rfl) rfl Try.underlying48 rfl rfl (by decide) rfl rfl rfl (src_R (T := 83) 0 S.mem rfl) cc rfl (lb rfl) fun a w cd ce S => ?_
  refine sN S fun a S => ?_
  refine lT (c9 _ _ (sSeq (fun ec cg => sRegion (sM S fun a S => ?_))))
  refine sBin _ S (wN rfl) rfl rfl rfl (bAdd _ _ _ _ a9 1) rfl (lb rfl) fun a S => ?_
  refine sN S fun a S => ?_
  refine lT (cg _ _ (sRegion (sM S fun a S => ?_)))
  refine sBin _ S (wN rfl) rfl rfl rfl (bAdd _ _ _ _ a5 1) rfl (lb rfl) fun a S => ?_
  refine sN S fun a S => ?_
  exact leafL (leafB (leafB (leafT (⟨(dD, w64 (a9 + 1), w64 (a5 + 1)), (Option.some.inj h).symm, ⟨cd, ce, S.fix [0] [1, 2, 3] (by decide) rfl rfl rfl⟩⟩))))
 refine sCondF S rfl aT ?_
 obtain ⟨dE, h, dG⟩ := bS h
 refine sCut (fun a w => ∃ bz, bz = dE ∧ St [] E [] w0 178 a w [(0, .slice ak p0.length am), (1, .slice ae p1.length af), (10, .slice ag ar.length ah), (11, .slice ap ay.length aq), (12, iv a9), (13, iv a5), (14, iv aw), (100, .bool bz)] [eRow r_api_CellStep 83 (.slice ap ay.length aq) ay] [fRep (rL r_api_Stitch) (.slice ak p0.length am) p0, fRep (rL r_api_Stitch) (.slice ae p1.length af) p1, fRep (rL (rL (rI .i64))) (.slice ag ar.length ah) ar]) ?_ (fun a w hI => ?_)
 rotate_left
 ·obtain ⟨bz, rfl, S⟩ := hI
  have h := dG
  try dsimp only at h
  rcases iS h with ⟨aU, h⟩ | ⟨aU, h⟩
  ·refine sCondT S rfl aU ?_
   refine sSeq (fun ed ci => sRegion (sM S fun a S => ?_))
   refine sM S fun a S => ?_
   refine sM S fun a S => ?_
   obtain ⟨aa, cj, h⟩ := bS h
   obtain ⟨ck, cl, S⟩ := pIdx (P := Try.prog) (r := r_api_Stitch) (v := .slice ae p1.length af) (xs := p1) (j := a5) 47 81 1 S Try.underlying47 rfl rfl cj
   refine sIdxV S (wN rfl) rfl rfl rfl cl rfl (lb rfl) fun a S => ?_
   obtain ⟨cm, S⟩ := pLoad (r := r_api_Stitch) (q := ck) (x := aa) 0 S rfl
   obtain rfl : cm = .agg #[.int .u8 aa.Kind, .bool aa.Purl, iv aa.A, iv aa.B] := S.mem.know (i := 1) (e := fRep r_api_Stitch (cm) aa) rfl
   refine sLoadVN (vq := ck) 0 [.int .u8 aa.Kind, .bool aa.Purl, iv aa.A, iv aa.B] S (wN rfl) rfl rfl rfl rfl rfl rfl (lb rfl) fun a S => ?_
   refine sBuild [(0, .int .u8 2), (1, .agg #[.int .u8 aa.Kind, .bool aa.Purl, iv aa.A, iv aa.B])] [.int .u8 2, .int .u8 aa.Kind, .bool aa.Purl, iv aa.A, iv aa.B] S (wN rfl) rfl rfl rfl rfl (lb rfl) fun a S => ?_
   have S := S.learn (fRep r_api_CellStep (.agg #[.int .u8 2, .int .u8 aa.Kind, .bool aa.Purl, iv aa.A, iv aa.B]) (api_CellStep.mk 2 aa)) rfl
   refine sLit (r := r_api_CellStep) (T := 83) (xs := [(api_CellStep.mk 2 aa)]) [(0, .agg #[.int .u8 2, .int .u8 aa.Kind, .bool aa.Purl, iv aa.A, iv aa.B])] 1 [.agg #[.int .u8 2, .int .u8 aa.Kind, .bool aa.Purl, iv aa.A, iv aa.B]] [.int .u8 2, .int .u8 aa.Kind, .bool aa.Purl, iv aa.A, iv aa.B] (.agg #[.int .u8 0, .int .u8 0, .bool false, iv 0, iv 0]) 32 S (wN rfl) rfl rfl Try.underlying48 rfl (by decide) (by decide) (by kernel_rfl) rfl (fun E1 w1 hE => All.cons (r_api_CellStep.mono hE (S.mem.know (i := 0) (e := fRep r_api_CellStep (.agg #[.int .u8 2, .int .u8 aa.Kind, .bool aa.Purl, iv aa.A, iv aa.B]) (api_CellStep.mk 2 aa)) rfl)) (All.nil _ _ _)) rfl rfl (lb rfl) fun a w cn co S => ?_
   obtain ⟨dH, cp, h⟩ := bS h
   refine sApp (r := r_api_CellStep) (T := 83) (xs := ay) (ys := [(api_CellStep.mk 2 aa)]) (v := .slice ap ay.length aq) (u := .slice cn [(api_CellStep.mk 2 aa)].length co) 1 (.agg #[.int .u8 0, .int .u8 0, .bool false, iv 0, iv 0]) 32 S (wN rfl) rfl Try.underlying48 rfl rfl (by decide) rfl rfl rfl (src_R (T := 83) 0 S.mem rfl) cp rfl (lb rfl) fun a w cq cr S => ?_
   refine sN S fun a S => ?_
   refine lT (ci _ _ (sSeq (fun ee ct => sRegion (sM S fun a S => ?_))))
   refine sBin _ S (wN rfl) rfl rfl rfl (bAdd _ _ _ _ a9 1) rfl (lb rfl) fun a S => ?_
   refine sN S fun a S => ?_
   refine lT (ct _ _ (sRegion (sM S fun a S => ?_)))
   refine sBin _ S (wN rfl) rfl rfl rfl (bAdd _ _ _ _ a5 1) rfl (lb rfl) fun a S => ?_
   refine sN S fun a S => ?_
   exact leafL (leafB (leafB (leafT (⟨(dH, w64 (a9 + 1), w64 (a5 + 1)), (Option.some.inj h).symm, ⟨cq, cr, S.fix [0] [4, 5, 6] (by decide) rfl rfl rfl⟩⟩))))
  refine sCondF S rfl aU ?_
  obtain ⟨dI, h, dJ⟩ := bS h
  refine sCut (fun a w => ∃ bA, bA = dI ∧ St [] E [] w0 178 a w [(0, .slice ak p0.length am), (1, .slice ae p1.length af), (10, .slice ag ar.length ah), (11, .slice ap ay.length aq), (12, iv a9), (13, iv a5), (148, .bool bA)] [eRow r_api_CellStep 83 (.slice ap ay.length aq) ay] [fRep (rL r_api_Stitch) (.slice ak p0.length am) p0, fRep (rL r_api_Stitch) (.slice ae p1.length af) p1, fRep (rL (rL (rI .i64))) (.slice ag ar.length ah) ar]) ?_ (fun a w hI => ?_)
  ·refine sRegion (sM S fun a S => ?_)
   refine sM S fun a S => ?_
   refine sLen S (wN rfl) rfl Try.underlying47 rfl rfl (lb rfl) fun a S => ?_
   refine sBin _ S (wN rfl) rfl rfl rfl (bLt _ _ _ _ .i64 a9 (p0.length : Int)) rfl (lb rfl) fun a S => ?_
   refine sM S fun a S => ?_
   rcases iS h with ⟨au, h⟩ | ⟨au, h⟩
   rotate_left
   ·refine sSkN 11 4 true 153 S rfl rfl au rfl fun a S => ?_
    refine sPickF (.bool false) S (wN rfl) rfl rfl au rfl rfl (lb rfl) fun a S => ?_
    refine sN S fun a S => ?_
    exact lT (⟨false, Option.some.inj h, S.fix [0] [0, 1, 2] (by decide) rfl rfl rfl⟩)
   refine sMove (iv aw) S (wG 4 true 153 rfl rfl rfl au) (.inl rfl) rfl rfl (lb rfl) fun a S => ?_
   refine sMove (.slice ag ar.length ah) S (wG 4 true 153 rfl rfl rfl au) (.inl rfl) rfl rfl (lb rfl) fun a S => ?_
   refine sMove (iv a9) S (wG 4 true 153 rfl rfl rfl au) (.inl rfl) rfl rfl (lb rfl) fun a S => ?_
   refine sBin _ S (wG 4 true 153 rfl rfl rfl au) rfl rfl rfl (bAdd _ _ _ _ a9 1) rfl (lb rfl) fun a S => ?_
   obtain ⟨aV, cu, h⟩ := bS h
   obtain ⟨cv, cw, S⟩ := pIdx (P := Try.prog) (r := (rL (rI .i64))) (v := .slice ag ar.length ah) (xs := ar) (j := w64 (a9 + 1)) 98 101 2 S Try.underlying98 rfl rfl cu
   refine sIdxV S (wG 4 true 153 rfl rfl rfl au) rfl rfl rfl cw rfl (lb rfl) fun a S => ?_
   obtain ⟨dK, S⟩ := pLoad (r := (rL (rI .i64))) (q := cv) (x := aV) 0 S rfl
   obtain ⟨bm, bn, _, rfl, _⟩ := S.mem.know (i := 1) (e := fRep (rL (rI .i64)) (dK) aV) rfl
   refine sLoadV1 (vq := cv) 0 (.slice bm aV.length bn) S (wG 4 true 153 rfl rfl rfl au) rfl rfl rfl rfl rfl (lb rfl) fun a S => ?_
   refine sMove (iv a5) S (wG 4 true 153 rfl rfl rfl au) (.inl rfl) rfl rfl (lb rfl) fun a S => ?_
   obtain ⟨aH, cx, h⟩ := bS h
   obtain ⟨cy, cz, S⟩ := pIdx (P := Try.prog) (r := (rI .i64)) (v := .slice bm aV.length bn) (xs := aV) (j := a5) 101 3 1 S Try.underlying101 rfl rfl cx
   refine sIdxV S (wG 4 true 153 rfl rfl rfl au) rfl rfl rfl cz rfl (lb rfl) fun a S => ?_
   obtain ⟨cA, S⟩ := pLoad (r := (rI .i64)) (q := cy) (x := aH) 0 S rfl
   obtain rfl : cA = iv aH := S.mem.know (i := 1) (e := fRep (rI .i64) (cA) aH) rfl
   refine sLoadV1 (vq := cy) 0 (iv aH) S (wG 4 true 153 rfl rfl rfl au) rfl rfl rfl rfl rfl (lb rfl) fun a S => ?_
   refine sBin _ S (wG 4 true 153 rfl rfl rfl au) rfl rfl rfl (bAdd _ _ _ _ 1 aH) rfl (lb rfl) fun a S => ?_
   refine sBin _ S (wG 4 true 153 rfl rfl rfl au) rfl rfl rfl (bEq _ _ _ _ .i64 aw (w64 (1 + aH))) rfl (lb rfl) fun a S => ?_
   refine sPickT (.bool (aw == (w64 (1 + aH)))) S (wN rfl) rfl rfl au rfl rfl (lb rfl) fun a S => ?_
   refine sN S fun a S => ?_
   exact lT (⟨aw == (w64 (1 + aH)), Option.some.inj h, S.fix [0] [6, 7, 8] (by decide) rfl rfl rfl⟩)
  obtain ⟨bA, rfl, S⟩ := hI
  have h := dJ
  try dsimp only at h
  rcases iS h with ⟨aW, h⟩ | ⟨aW, h⟩
  ·refine sCondT S rfl aW ?_
   refine sSeq (fun ef cB => sRegion (sM S fun a S => ?_))
   refine sBuild [(0, .int .u8 4)] [.int .u8 4, .int .u8 0, .bool false, iv 0, iv 0] S (wN rfl) rfl rfl rfl rfl (lb rfl) fun a S => ?_
   have S := S.learn (fRep r_api_CellStep (.agg #[.int .u8 4, .int .u8 0, .bool false, iv 0, iv 0]) (api_CellStep.mk 4 (api_Stitch.mk 0 false 0 0))) rfl
   refine sLit (r := r_api_CellStep) (T := 83) (xs := [(api_CellStep.mk 4 (api_Stitch.mk 0 false 0 0))]) [(0, .agg #[.int .u8 4, .int .u8 0, .bool false, iv 0, iv 0])] 1 [.agg #[.int .u8 4, .int .u8 0, .bool false, iv 0, iv 0]] [.int .u8 4, .int .u8 0, .bool false, iv 0, iv 0] (.agg #[.int .u8 0, .int .u8 0, .bool false, iv 0, iv 0]) 32 S (wN rfl) rfl rfl Try.underlying48 rfl (by decide) (by decide) (by kernel_rfl) rfl (fun E1 w1 hE => All.cons (r_api_CellStep.mono hE (S.mem.know (i := 0) (e := fRep r_api_CellStep (.agg #[.int .u8 4, .int .u8 0, .bool false, iv 0, iv 0]) (api_CellStep.mk 4 (api_Stitch.mk 0 false 0 0))) rfl)) (All.nil _ _ _)) rfl rfl (lb rfl) fun a w cC cD S => ?_
   obtain ⟨dL, cE, h⟩ := bS h
   refine sApp (r := r_api_CellStep) (T := 83) (xs := ay) (ys := [(api_CellStep.mk 4 (api_Stitch.mk 0 false 0 0))]) (v := .slice ap ay.length aq) (u := .slice cC [(api_CellStep.mk 4 (api_Stitch.mk 0 false 0 0))].length cD) 1 (.agg #[.int .u8 0, .int .u8 0, .bool false, iv 0, iv 0]) 32 S (wN rfl) rfl Try.underlying48 rfl rfl (by decide) rfl rfl rfl (src_R (T := 83) 0 S.mem rfl) cE rfl (lb rfl) fun a w cF cG S => ?_
   refine sN S fun a S => ?_
   refine lT (cB _ _ (sRegion (sM S fun a S => ?_)))
   refine sBin _ S (wN rfl) rfl rfl rfl (bAdd _ _ _ _ a9 1) rfl (lb rfl) fun a S => ?_
   refine sN S fun a S => ?_
   exact leafL (leafB (leafB (leafT (⟨(dL, w64 (a9 + 1), a5), (Option.some.inj h).symm, ⟨cF, cG, S.fix [0] [1, 2, 3] (by decide) rfl rfl rfl⟩⟩))))
  refine sCondF S rfl aW ?_
  refine sSeq (fun eh cH => sRegion (sM S fun a S => ?_))
  refine sM S fun a S => ?_
  refine sM S fun a S => ?_
  obtain ⟨ab, cI, h⟩ := bS h
  obtain ⟨cJ, cK, S⟩ := pIdx (P := Try.prog) (r := r_api_Stitch) (v := .slice ae p1.length af) (xs := p1) (j := a5) 47 81 1 S Try.underlying47 rfl rfl cI
  refine sIdxV S (wN rfl) rfl rfl rfl cK rfl (lb rfl) fun a S => ?_
  obtain ⟨cL, S⟩ := pLoad (r := r_api_Stitch) (q := cJ) (x := ab) 0 S rfl
  obtain rfl : cL = .agg #[.int .u8 ab.Kind, .bool ab.Purl, iv ab.A, iv ab.B] := S.mem.know (i := 1) (e := fRep r_api_Stitch (cL) ab) rfl
  refine sLoadVN (vq := cJ) 0 [.int .u8 ab.Kind, .bool ab.Purl, iv ab.A, iv ab.B] S (wN rfl) rfl rfl rfl rfl rfl rfl (lb rfl) fun a S => ?_
  refine sBuild [(0, .int .u8 3), (1, .agg #[.int .u8 ab.Kind, .bool ab.Purl, iv ab.A, iv ab.B])] [.int .u8 3, .int .u8 ab.Kind, .bool ab.Purl, iv ab.A, iv ab.B] S (wN rfl) rfl rfl rfl rfl (lb rfl) fun a S => ?_
  have S := S.learn (fRep r_api_CellStep (.agg #[.int .u8 3, .int .u8 ab.Kind, .bool ab.Purl, iv ab.A, iv ab.B]) (api_CellStep.mk 3 ab)) rfl
  refine sLit (r := r_api_CellStep) (T := 83) (xs := [(api_CellStep.mk 3 ab)]) [(0, .agg #[.int .u8 3, .int .u8 ab.Kind, .bool ab.Purl, iv ab.A, iv ab.B])] 1 [.agg #[.int .u8 3, .int .u8 ab.Kind, .bool ab.Purl, iv ab.A, iv ab.B]] [.int .u8 3, .int .u8 ab.Kind, .bool ab.Purl, iv ab.A, iv ab.B] (.agg #[.int .u8 0, .int .u8 0, .bool false, iv 0, iv 0]) 32 S (wN rfl) rfl rfl Try.underlying48 rfl (by decide) (by decide) (by kernel_rfl) rfl (fun E1 w1 hE => All.cons (r_api_CellStep.mono hE (S.mem.know (i := 0) (e := fRep r_api_CellStep (.agg #[.int .u8 3, .int .u8 ab.Kind, .bool ab.Purl, iv ab.A, iv ab.B]) (api_CellStep.mk 3 ab)) rfl)) (All.nil _ _ _)) rfl rfl (lb rfl) fun a w cM cN S => ?_
  obtain ⟨dM, cO, h⟩ := bS h
  refine sApp (r := r_api_CellStep) (T := 83) (xs := ay) (ys := [(api_CellStep.mk 3 ab)]) (v := .slice ap ay.length aq) (u := .slice cM [(api_CellStep.mk 3 ab)].length cN) 1 (.agg #[.int .u8 0, .int .u8 0, .bool false, iv 0, iv 0]) 32 S (wN rfl) rfl Try.underlying48 rfl rfl (by decide) rfl rfl rfl (src_R (T := 83) 0 S.mem rfl) cO rfl (lb rfl) fun a w cP cQ S => ?_
  refine sN S fun a S => ?_
  refine lT (cH _ _ (sRegion (sM S fun a S => ?_)))
  refine sBin _ S (wN rfl) rfl rfl rfl (bAdd _ _ _ _ a5 1) rfl (lb rfl) fun a S => ?_
  refine sN S fun a S => ?_
  exact leafL (leafB (leafB (leafT (⟨(dM, a9, w64 (a5 + 1)), (Option.some.inj h).symm, ⟨cP, cQ, S.fix [0] [4, 5, 6] (by decide) rfl rfl rfl⟩⟩))))
 rcases iS h with ⟨ai, h⟩ | ⟨ai, h⟩
 rotate_left
 ·refine sDraw (nf := []) (W := [(0, 101, iv a9), (1, 102, .slice ak p0.length am), (2, 103, iv (p0.length : Int)), (3, 104, .bool (decide (a9 < (p0.length : Int)))), (4, 105, .bool (decide (a9 < (p0.length : Int)))), (5, 106, undef), (6, 107, undef), (7, 108, undef), (8, 109, undef), (9, 110, .bool false), (10, 111, .bool false), (11, 112, undef), (12, 113, undef), (13, 114, undef), (14, 115, undef), (15, 116, undef), (16, 117, undef), (17, 118, undef), (18, 119, undef), (19, 120, undef), (20, 121, .bool false), (21, 122, .bool false), (22, 123, undef), (23, 124, undef), (24, 125, undef), (25, 126, undef), (26, 127, undef), (27, 128, undef), (28, 129, undef), (29, 130, undef), (30, 131, undef), (31, 132, undef), (32, 133, undef), (33, 134, undef), (34, 135, .bool false), (35, 100, .bool false)]) rfl S ?_
  refine node_by (A := anc_compare_Edits_1) 36 (by kernel_rfl) (by kernel_rfl) (by kernel_rfl) (by kernel_rfl) (by kernel_rfl) [0, 1, 2, 3, 4, 5, 6, 7, 8, 9, 10, 11, 12, 13, 14, 15, 16, 17, 18, 19, 20, 21, 22, 23, 24, 25, 26, 27, 28, 29, 30, 31, 32, 33, 34, 35] (by kernel_rfl) (by decide) (by decide) (fF ?_ (fF ?_ (fF ?_ (fF ?_ (fF ?_ (fF ?_ (fF ?_ (fF ?_ (fF ?_ (fF ?_ (fF ?_ (fF ?_ (fF ?_ (fF ?_ (fF ?_ (fF ?_ (fF ?_ (fF ?_ (fF ?_ (fF ?_ (fF ?_ (fF ?_ (fF ?_ (fF ?_ (fF ?_ (fF ?_ (fF ?_ (fF ?_ (fF ?_ (fF ?_ (fF ?_ (fF ?_ (fF ?_ (fF ?_ (fF ?_ (fF ?_ (trivial))))))))))))))))))))))))))))))))))))) [(0, .slice ak p0.length am), (1, .slice ae p1.length af), (10, .slice ag ar.length ah), (11, .slice ap ay.length aq), (12, iv a9), (13, iv a5), (14, iv aw), (100, .bool false), (106, undef), (107, undef), (108, undef), (109, undef), (112, undef), (113, undef), (114, undef), (115, undef), (116, undef), (117, undef), (118, undef), (119, undef), (120, undef), (123, undef), (124, undef), (125, undef), (126, undef), (127, undef), (128, undef), (129, undef), (130, undef), (131, undef), (132, undef), (133, undef), (134, undef)] (fin_of [none, none, none, none, none, none, none, some 35, some 5, some 6, some 7, some 8, some 11, some 12, some 13, some 14, some 15, some 16, some 17, some 18, some 19, some 22, some 23, some 24, some 25, some 26, some 27, some 28, some 29, some 30, some 31, some 32, some 33] rfl (by kernel_rfl) (by kernel_rfl)) (fun _ a w S => ?_)
  ·exact fM 0 none rfl rfl rfl rfl (.inl rfl) rfl rfl rfl
  ·exact fM 1 none rfl rfl rfl rfl (.inl rfl) rfl rfl rfl
  ·refine fJ [(102, _)] 2 [some 1] fun G a w S => ?_
   exact sLen S (wN rfl) rfl Try.underlying47 rfl rfl (lb rfl) fun a S => leafL ⟨rfl, S⟩
  ·refine fJ [(101, _), (103, _)] 3 [some 0, some 2] fun G a w S => ?_
   exact sBin _ S (wN rfl) rfl rfl rfl (bLt _ _ _ _ .i64 a9 (p0.length : Int)) rfl (lb rfl) fun a S => leafL ⟨rfl, S⟩
  ·exact fM 4 (some 3) rfl rfl rfl rfl (.inl rfl) rfl rfl rfl
  ·refine fJ [(13, _), (105, _)] 5 [none, some 4] fun G a w S => ?_
   exact sSk S rfl rfl rfl ai rfl rfl fun a S => leafL ⟨rfl, S⟩
  ·refine fJ [(1, _), (105, _)] 6 [none, some 4] fun G a w S => ?_
   exact sSk S rfl rfl rfl ai rfl rfl fun a S => leafL ⟨rfl, S⟩
  ·refine fJ [(107, _), (105, _)] 7 [some 6, some 4] fun G a w S => ?_
   exact sSk S rfl rfl rfl ai rfl rfl fun a S => leafL ⟨rfl, S⟩
  ·refine fJ [(106, _), (108, _), (105, _)] 8 [some 5, some 7, some 4] fun G a w S => ?_
   exact sSk S rfl rfl rfl ai rfl rfl fun a S => leafL ⟨rfl, S⟩
  ·refine fJ [(105, _), (109, _)] 9 [some 4, some 8] fun G a w S => ?_
   exact sPickF (.bool false) S (wN rfl) rfl rfl ai rfl rfl (lb rfl) fun a S => leafL ⟨rfl, S⟩
  ·exact fM 10 (some 9) rfl rfl rfl rfl (.inl rfl) rfl rfl rfl
  ·refine fJ [(0, _), (111, _)] 11 [none, some 10] fun G a w S => ?_
   exact sSk S rfl rfl rfl rfl rfl rfl fun a S => leafL ⟨rfl, S⟩
  ·refine fJ [(12, _), (111, _)] 12 [none, some 10] fun G a w S => ?_
   exact sSk S rfl rfl rfl rfl rfl rfl fun a S => leafL ⟨rfl, S⟩
  ·refine fJ [(112, _), (113, _), (111, _)] 13 [some 11, some 12, some 10] fun G a w S => ?_
   exact sSk S rfl rfl rfl rfl rfl rfl fun a S => leafL ⟨rfl, S⟩
  ·refine fJ [(114, _), (111, _)] 14 [some 13, some 10] fun G a w S => ?_
   exact sSk S rfl rfl rfl rfl rfl rfl fun a S => leafL ⟨rfl, S⟩
  ·refine fJ [(1, _), (111, _)] 15 [none, some 10] fun G a w S => ?_
   exact sSk S rfl rfl rfl rfl rfl rfl fun a S => leafL ⟨rfl, S⟩
  ·refine fJ [(13, _), (111, _)] 16 [none, some 10] fun G a w S => ?_
   exact sSk S rfl rfl rfl rfl rfl rfl fun a S => leafL ⟨rfl, S⟩
  ·refine fJ [(116, _), (117, _), (111, _)] 17 [some 15, some 16, some 10] fun G a w S => ?_
   exact sSk S rfl rfl rfl rfl rfl rfl fun a S => leafL ⟨rfl, S⟩
  ·refine fJ [(118, _), (111, _)] 18 [some 17, some 10] fun G a w S => ?_
   exact sSk S rfl rfl rfl rfl rfl rfl fun a S => leafL ⟨rfl, S⟩
  ·refine fJ [(115, _), (119, _), (111, _)] 19 [some 14, some 18, some 10] fun G a w S => ?_
   exact sSk S rfl rfl rfl rfl rfl rfl fun a S => leafL ⟨rfl, S⟩
  ·refine fJ [(111, _), (120, _)] 20 [some 10, some 19] fun G a w S => ?_
   exact sPickF (.bool false) S (wN rfl) rfl rfl rfl rfl rfl (lb rfl) fun a S => leafL ⟨rfl, S⟩
  ·exact fM 21 (some 20) rfl rfl rfl rfl (.inl rfl) rfl rfl rfl
  ·refine fJ [(14, _), (122, _)] 22 [none, some 21] fun G a w S => ?_
   exact sSk S rfl rfl rfl rfl rfl rfl fun a S => leafL ⟨rfl, S⟩
  ·refine fJ [(10, _), (122, _)] 23 [none, some 21] fun G a w S => ?_
   exact sSk S rfl rfl rfl rfl rfl rfl fun a S => leafL ⟨rfl, S⟩
  ·refine fJ [(12, _), (122, _)] 24 [none, some 21] fun G a w S => ?_
   exact sSk S rfl rfl rfl rfl rfl rfl fun a S => leafL ⟨rfl, S⟩
  ·refine fJ [(125, _), (122, _)] 25 [some 24, some 21] fun G a w S => ?_
   exact sSk S rfl rfl rfl rfl rfl rfl fun a S => leafL ⟨rfl, S⟩
  ·refine fJ [(124, _), (126, _), (122, _)] 26 [some 23, some 25, some 21] fun G a w S => ?_
   exact sSk S rfl rfl rfl rfl rfl rfl fun a S => leafL ⟨rfl, S⟩
  ·refine fJ [(127, _), (122, _)] 27 [some 26, some 21] fun G a w S => ?_
   exact sSk S rfl rfl rfl rfl rfl rfl fun a S => leafL ⟨rfl, S⟩
  ·refine fJ [(13, _), (122, _)] 28 [none, some 21] fun G a w S => ?_
   exact sSk S rfl rfl rfl rfl rfl rfl fun a S => leafL ⟨rfl, S⟩
  ·refine fJ [(129, _), (122, _)] 29 [some 28, some 21] fun G a w S => ?_
   exact sSk S rfl rfl rfl rfl rfl rfl fun a S => leafL ⟨rfl, S⟩
  ·refine fJ [(128, _), (130, _), (122, _)] 30 [some 27, some 29, some 21] fun G a w S => ?_
   exact sSk S rfl rfl rfl rfl rfl rfl fun a S => leafL ⟨rfl, S⟩
  ·refine fJ [(131, _), (122, _)] 31 [some 30, some 21] fun G a w S => ?_
   exact sSk S rfl rfl rfl rfl rfl rfl fun a S => leafL ⟨rfl, S⟩
  ·refine fJ [(132, _), (122, _)] 32 [some 31, some 21] fun G a w S => ?_
   exact sSk S rfl rfl rfl rfl rfl rfl fun a S => leafL ⟨rfl, S⟩
  ·refine fJ [(123, _), (133, _), (122, _)] 33 [some 22, some 32, some 21] fun G a w S => ?_
   exact sSk S rfl rfl rfl rfl rfl rfl fun a S => leafL ⟨rfl, S⟩
  ·refine fJ [(122, _), (134, _)] 34 [some 21, some 33] fun G a w S => ?_
   exact sPickF (.bool false) S (wN rfl) rfl rfl rfl rfl rfl (lb rfl) fun a S => leafL ⟨rfl, S⟩
  ·exact fM 35 (some 34) rfl rfl rfl rfl (.inr rfl) rfl rfl rfl
  exact leafT (⟨false, Option.some.inj h, S.fix [0] [0, 1, 2] (by decide) rfl rfl rfl⟩)
 rcases iS h with ⟨a6, h⟩ | ⟨a6, h⟩
 rotate_left
 ·refine sDraw (nf := []) (W := [(0, 101, iv a9), (1, 102, .slice ak p0.length am), (2, 103, iv (p0.length : Int)), (3, 104, .bool (decide (a9 < (p0.length : Int)))), (4, 105, .bool (decide (a9 < (p0.length : Int)))), (5, 106, iv a5), (6, 107, .slice ae p1.length af), (7, 108, iv (p1.length : Int)), (8, 109, .bool (decide (a5 < (p1.length : Int)))), (9, 110, .bool (decide (a5 < (p1.length : Int)))), (10, 111, .bool (decide (a5 < (p1.length : Int)))), (11, 112, undef), (12, 113, undef), (13, 114, undef), (14, 115, undef), (15, 116, undef), (16, 117, undef), (17, 118, undef), (18, 119, undef), (19, 120, undef), (20, 121, .bool false), (21, 122, .bool false), (22, 123, undef), (23, 124, undef), (24, 125, undef), (25, 126, undef), (26, 127, undef), (27, 128, undef), (28, 129, undef), (29, 130, undef), (30, 131, undef), (31, 132, undef), (32, 133, undef), (33, 134, undef), (34, 135, .bool false), (35, 100, .bool false)]) rfl S ?_
  refine node_by (A := anc_compare_Edits_1) 36 (by kernel_rfl) (by kernel_rfl) (by kernel_rfl) (by kernel_rfl) (by kernel_rfl) [0, 1, 2, 3, 4, 5, 6, 7, 8, 9, 10, 11, 12, 13, 14, 15, 16, 17, 18, 19, 20, 21, 22, 23, 24, 25, 26, 27, 28, 29, 30, 31, 32, 33, 34, 35] (by kernel_rfl) (by decide) (by decide) (fF ?_ (fF ?_ (fF ?_ (fF ?_ (fF ?_ (fF ?_ (fF ?_ (fF ?_ (fF ?_ (fF ?_ (fF ?_ (fF ?_ (fF ?_ (fF ?_ (fF ?_ (fF ?_ (fF ?_ (fF ?_ (fF ?_ (fF ?_ (fF ?_ (fF ?_ (fF ?_ (fF ?_ (fF ?_ (fF ?_ (fF ?_ (fF ?_ (fF ?_ (fF ?_ (fF ?_ (fF ?_ (fF ?_ (fF ?_ (fF ?_ (fF ?_ (trivial))))))))))))))))))))))))))))))))))))) [(0, .slice ak p0.length am), (1, .slice ae p1.length af), (10, .slice ag ar.length ah), (11, .slice ap ay.length aq), (12, iv a9), (13, iv a5), (14, iv aw), (100, .bool false), (106, iv a5), (107, .slice ae p1.length af), (108, iv (p1.length : Int)), (109, .bool (decide (a5 < (p1.length : Int)))), (112, undef), (113, undef), (114, undef), (115, undef), (116, undef), (117, undef), (118, undef), (119, undef), (120, undef), (123, undef), (124, undef), (125, undef), (126, undef), (127, undef), (128, undef), (129, undef), (130, undef), (131, undef), (132, undef), (133, undef), (134, undef)] (fin_of [none, none, none, none, none, none, none, some 35, some 5, some 6, some 7, some 8, some 11, some 12, some 13, some 14, some 15, some 16, some 17, some 18, some 19, some 22, some 23, some 24, some 25, some 26, some 27, some 28, some 29, some 30, some 31, some 32, some 33] rfl (by kernel_rfl) (by kernel_rfl)) (fun _ a w S => ?_)
  ·exact fM 0 none rfl rfl rfl rfl (.inl rfl) rfl rfl rfl
  ·exact fM 1 none rfl rfl rfl rfl (.inl rfl) rfl rfl rfl
  ·refine fJ [(102, _)] 2 [some 1] fun G a w S => ?_
   exact sLen S (wN rfl) rfl Try.underlying47 rfl rfl (lb rfl) fun a S => leafL ⟨rfl, S⟩
  ·refine fJ [(101, _), (103, _)] 3 [some 0, some 2] fun G a w S => ?_
   exact sBin _ S (wN rfl) rfl rfl rfl (bLt _ _ _ _ .i64 a9 (p0.length : Int)) rfl (lb rfl) fun a S => leafL ⟨rfl, S⟩
  ·exact fM 4 (some 3) rfl rfl rfl rfl (.inl rfl) rfl rfl rfl
  ·refine fJ [(13, _), (105, _)] 5 [none, some 4] fun G a w S => ?_
   exact sMove (iv a5) S (wG 4 true 105 rfl rfl rfl ai) (.inl rfl) rfl rfl (lb rfl) fun a S => leafL ⟨rfl, S⟩
  ·refine fJ [(1, _), (105, _)] 6 [none, some 4] fun G a w S => ?_
   exact sMove (.slice ae p1.length af) S (wG 4 true 105 rfl rfl rfl ai) (.inl rfl) rfl rfl (lb rfl) fun a S => leafL ⟨rfl, S⟩
  ·refine fJ [(107, _), (105, _)] 7 [some 6, some 4] fun G a w S => ?_
   exact sLen S (wG 4 true 105 rfl rfl rfl ai) rfl Try.underlying47 rfl rfl (lb rfl) fun a S => leafL ⟨rfl, S⟩
  ·refine fJ [(106, _), (108, _), (105, _)] 8 [some 5, some 7, some 4] fun G a w S => ?_
   exact sBin _ S (wG 4 true 105 rfl rfl rfl ai) rfl rfl rfl (bLt _ _ _ _ .i64 a5 (p1.length : Int)) rfl (lb rfl) fun a S => leafL ⟨rfl, S⟩
  ·refine fJ [(105, _), (109, _)] 9 [some 4, some 8] fun G a w S => ?_
   exact sPickT (.bool (decide (a5 < (p1.length : Int)))) S (wN rfl) rfl rfl ai rfl rfl (lb rfl) fun a S => leafL ⟨rfl, S⟩
  ·exact fM 10 (some 9) rfl rfl rfl rfl (.inl rfl) rfl rfl rfl
  ·refine fJ [(0, _), (111, _)] 11 [none, some 10] fun G a w S => ?_
   exact sSk S rfl rfl rfl a6 rfl rfl fun a S => leafL ⟨rfl, S⟩
  ·refine fJ [(12, _), (111, _)] 12 [none, some 10] fun G a w S => ?_
   exact sSk S rfl rfl rfl a6 rfl rfl fun a S => leafL ⟨rfl, S⟩
  ·refine fJ [(112, _), (113, _), (111, _)] 13 [some 11, some 12, some 10] fun G a w S => ?_
   exact sSk S rfl rfl rfl a6 rfl rfl fun a S => leafL ⟨rfl, S⟩
  ·refine fJ [(114, _), (111, _)] 14 [some 13, some 10] fun G a w S => ?_
   exact sSk S rfl rfl rfl a6 rfl rfl fun a S => leafL ⟨rfl, S⟩
  ·refine fJ [(1, _), (111, _)] 15 [none, some 10] fun G a w S => ?_
   exact sSk S rfl rfl rfl a6 rfl rfl fun a S => leafL ⟨rfl, S⟩
  ·refine fJ [(13, _), (111, _)] 16 [none, some 10] fun G a w S => ?_
   exact sSk S rfl rfl rfl a6 rfl rfl fun a S => leafL ⟨rfl, S⟩
  ·refine fJ [(116, _), (117, _), (111, _)] 17 [some 15, some 16, some 10] fun G a w S => ?_
   exact sSk S rfl rfl rfl a6 rfl rfl fun a S => leafL ⟨rfl, S⟩
  ·refine fJ [(118, _), (111, _)] 18 [some 17, some 10] fun G a w S => ?_
   exact sSk S rfl rfl rfl a6 rfl rfl fun a S => leafL ⟨rfl, S⟩
  ·refine fJ [(115, _), (119, _), (111, _)] 19 [some 14, some 18, some 10] fun G a w S => ?_
   exact sSk S rfl rfl rfl a6 rfl rfl fun a S => leafL ⟨rfl, S⟩
  ·refine fJ [(111, _), (120, _)] 20 [some 10, some 19] fun G a w S => ?_
   exact sPickF (.bool false) S (wN rfl) rfl rfl a6 rfl rfl (lb rfl) fun a S => leafL ⟨rfl, S⟩
  ·exact fM 21 (some 20) rfl rfl rfl rfl (.inl rfl) rfl rfl rfl
  ·refine fJ [(14, _), (122, _)] 22 [none, some 21] fun G a w S => ?_
   exact sSk S rfl rfl rfl rfl rfl rfl fun a S => leafL ⟨rfl, S⟩
  ·refine fJ [(10, _), (122, _)] 23 [none, some 21] fun G a w S => ?_
   exact sSk S rfl rfl rfl rfl rfl rfl fun a S => leafL ⟨rfl, S⟩
  ·refine fJ [(12, _), (122, _)] 24 [none, some 21] fun G a w S => ?_
   exact sSk S rfl rfl rfl rfl rfl rfl fun a S => leafL ⟨rfl, S⟩
  ·refine fJ [(125, _), (122, _)] 25 [some 24, some 21] fun G a w S => ?_
   exact sSk S rfl rfl rfl rfl rfl rfl fun a S => leafL ⟨rfl, S⟩
  ·refine fJ [(124, _), (126, _), (122, _)] 26 [some 23, some 25, some 21] fun G a w S => ?_
   exact sSk S rfl rfl rfl rfl rfl rfl fun a S => leafL ⟨rfl, S⟩
  ·refine fJ [(127, _), (122, _)] 27 [some 26, some 21] fun G a w S => ?_
   exact sSk S rfl rfl rfl rfl rfl rfl fun a S => leafL ⟨rfl, S⟩
  ·refine fJ [(13, _), (122, _)] 28 [none, some 21] fun G a w S => ?_
   exact sSk S rfl rfl rfl rfl rfl rfl fun a S => leafL ⟨rfl, S⟩
  ·refine fJ [(129, _), (122, _)] 29 [some 28, some 21] fun G a w S => ?_
   exact sSk S rfl rfl rfl rfl rfl rfl fun a S => leafL ⟨rfl, S⟩
  ·refine fJ [(128, _), (130, _), (122, _)] 30 [some 27, some 29, some 21] fun G a w S => ?_
   exact sSk S rfl rfl rfl rfl rfl rfl fun a S => leafL ⟨rfl, S⟩
  ·refine fJ [(131, _), (122, _)] 31 [some 30, some 21] fun G a w S => ?_
   exact sSk S rfl rfl rfl rfl rfl rfl fun a S => leafL ⟨rfl, S⟩
  ·refine fJ [(132, _), (122, _)] 32 [some 31, some 21] fun G a w S => ?_
   exact sSk S rfl rfl rfl rfl rfl rfl fun a S => leafL ⟨rfl, S⟩
  ·refine fJ [(123, _), (133, _), (122, _)] 33 [some 22, some 32, some 21] fun G a w S => ?_
   exact sSk S rfl rfl rfl rfl rfl rfl fun a S => leafL ⟨rfl, S⟩
  ·refine fJ [(122, _), (134, _)] 34 [some 21, some 33] fun G a w S => ?_
   exact sPickF (.bool false) S (wN rfl) rfl rfl rfl rfl rfl (lb rfl) fun a S => leafL ⟨rfl, S⟩
  ·exact fM 35 (some 34) rfl rfl rfl rfl (.inr rfl) rfl rfl rfl
  exact leafT (⟨false, Option.some.inj h, S.fix [0] [0, 1, 2] (by decide) rfl rfl rfl⟩)
 obtain ⟨a0, bp, h⟩ := bS h
 obtain ⟨a4, bq, h⟩ := bS h
 rcases iS h with ⟨ac, h⟩ | ⟨ac, h⟩
 rotate_left
 ·obtain ⟨bg, cR, S⟩ := pIdx (P := Try.prog) (r := r_api_Stitch) (v := .slice ak p0.length am) (xs := p0) (j := a9) 47 81 0 S Try.underlying47 rfl rfl bp
  obtain ⟨cS, S⟩ := pLoad (r := r_api_Stitch) (q := bg) (x := a0) 0 S rfl
  obtain rfl : cS = .agg #[.int .u8 a0.Kind, .bool a0.Purl, iv a0.A, iv a0.B] := S.mem.know (i := 1) (e := fRep r_api_Stitch (cS) a0) rfl
  obtain ⟨bh, cT, S⟩ := pIdx (P := Try.prog) (r := r_api_Stitch) (v := .slice ae p1.length af) (xs := p1) (j := a5) 47 81 4 S Try.underlying47 rfl rfl bq
  obtain ⟨cU, S⟩ := pLoad (r := r_api_Stitch) (q := bh) (x := a4) 0 S rfl
  obtain rfl : cU = .agg #[.int .u8 a4.Kind, .bool a4.Purl, iv a4.A, iv a4.B] := S.mem.know (i := 1) (e := fRep r_api_Stitch (cU) a4) rfl
  refine sDraw (nf := []) (W := [(0, 101, iv a9), (1, 102, .slice ak p0.length am), (2, 103, iv (p0.length : Int)), (3, 104, .bool (decide (a9 < (p0.length : Int)))), (4, 105, .bool (decide (a9 < (p0.length : Int)))), (5, 106, iv a5), (6, 107, .slice ae p1.length af), (7, 108, iv (p1.length : Int)), (8, 109, .bool (decide (a5 < (p1.length : Int)))), (9, 110, .bool (decide (a5 < (p1.length : Int)))), (10, 111, .bool (decide (a5 < (p1.length : Int)))), (11, 112, .slice ak p0.length am), (12, 113, iv a9), (13, 114, bg), (14, 115, .agg #[.int .u8 a0.Kind, .bool a0.Purl, iv a0.A, iv a0.B]), (15, 116, .slice ae p1.length af), (16, 117, iv a5), (17, 118, bh), (18, 119, .agg #[.int .u8 a4.Kind, .bool a4.Purl, iv a4.A, iv a4.B]), (19, 120, .bool (!((a0.Kind == a4.Kind) && ((a0.Purl == a4.Purl) && ((a0.A == a4.A) && ((a0.B == a4.B) && true)))))), (20, 121, .bool (!((a0.Kind == a4.Kind) && ((a0.Purl == a4.Purl) && ((a0.A == a4.A) && ((a0.B == a4.B) && true)))))), (21, 122, .bool (!((a0.Kind == a4.Kind) && ((a0.Purl == a4.Purl) && ((a0.A == a4.A) && ((a0.B == a4.B) && true)))))), (22, 123, undef), (23, 124, undef), (24, 125, undef), (25, 126, undef), (26, 127, undef), (27, 128, undef), (28, 129, undef), (29, 130, undef), (30, 131, undef), (31, 132, undef), (32, 133, undef), (33, 134, undef), (34, 135, .bool false), (35, 100, .bool false)]) rfl S ?_
  refine node_by (A := anc_compare_Edits_1) 36 (by kernel_rfl) (by kernel_rfl) (by kernel_rfl) (by kernel_rfl) (by kernel_rfl) [0, 1, 2, 3, 4, 5, 6, 7, 8, 9, 10, 11, 12, 13, 14, 15, 16, 17, 18, 19, 20, 21, 22, 23, 24, 25, 26, 27, 28, 29, 30, 31, 32, 33, 34, 35] (by kernel_rfl) (by decide) (by decide) (fF ?_ (fF ?_ (fF ?_ (fF ?_ (fF ?_ (fF ?_ (fF ?_ (fF ?_ (fF ?_ (fF ?_ (fF ?_ (fF ?_ (fF ?_ (fF ?_ (fF ?_ (fF ?_ (fF ?_ (fF ?_ (fF ?_ (fF ?_ (fF ?_ (fF ?_ (fF ?_ (fF ?_ (fF ?_ (fF ?_ (fF ?_ (fF ?_ (fF ?_ (fF ?_ (fF ?_ (fF ?_ (fF ?_ (fF ?_ (fF ?_ (fF ?_ (trivial))))))))))))))))))))))))))))))))))))) [(0, .slice ak p0.length am), (1, .slice ae p1.length af), (10, .slice ag ar.length ah), (11, .slice ap ay.length aq), (12, iv a9), (13, iv a5), (14, iv aw), (100, .bool false), (106, iv a5), (107, .slice ae p1.length af), (108, iv (p1.length : Int)), (109, .bool (decide (a5 < (p1.length : Int)))), (112, .slice ak p0.length am), (113, iv a9), (114, bg), (115, .agg #[.int .u8 a0.Kind, .bool a0.Purl, iv a0.A, iv a0.B]), (116, .slice ae p1.length af), (117, iv a5), (118, bh), (119, .agg #[.int .u8 a4.Kind, .bool a4.Purl, iv a4.A, iv a4.B]), (120, .bool (!((a0.Kind == a4.Kind) && ((a0.Purl == a4.Purl) && ((a0.A == a4.A) && ((a0.B == a4.B) && true)))))), (123, undef), (124, undef), (125, undef), (126, undef), (127, undef), (128, undef), (129, undef), (130, undef), (131, undef), (132, undef), (133, undef), (134, undef)] (fin_of [none, none, none, none, none, none, none, some 35, some 5, some 6, some 7, some 8, some 11, some 12, some 13, some 14, some 15, some 16, some 17, some 18, some 19, some 22, some 23, some 24, some 25, some 26, some 27, some 28, some 29, some 30, some 31, some 32, some 33] rfl (by kernel_rfl) (by kernel_rfl)) (fun _ a w S => ?_)
  ·exact fM 0 none rfl rfl rfl rfl (.inl rfl) rfl rfl rfl
  ·exact fM 1 none rfl rfl rfl rfl (.inl rfl) rfl rfl rfl
  ·refine fJ [(102, _)] 2 [some 1] fun G a w S => ?_
   exact sLen S (wN rfl) rfl Try.underlying47 rfl rfl (lb rfl) fun a S => leafL ⟨rfl, S⟩
  ·refine fJ [(101, _), (103, _)] 3 [some 0, some 2] fun G a w S => ?_
   exact sBin _ S (wN rfl) rfl rfl rfl (bLt _ _ _ _ .i64 a9 (p0.length : Int)) rfl (lb rfl) fun a S => leafL ⟨rfl, S⟩
  ·exact fM 4 (some 3) rfl rfl rfl rfl (.inl rfl) rfl rfl rfl
  ·refine fJ [(13, _), (105, _)] 5 [none, some 4] fun G a w S => ?_
   exact sMove (iv a5) S (wG 4 true 105 rfl rfl rfl ai) (.inl rfl) rfl rfl (lb rfl) fun a S => leafL ⟨rfl, S⟩
  ·refine fJ [(1, _), (105, _)] 6 [none, some 4] fun G a w S => ?_
   exact sMove (.slice ae p1.length af) S (wG 4 true 105 rfl rfl rfl ai) (.inl rfl) rfl rfl (lb rfl) fun a S => leafL ⟨rfl, S⟩
  ·refine fJ [(107, _), (105, _)] 7 [some 6, some 4] fun G a w S => ?_
   exact sLen S (wG 4 true 105 rfl rfl rfl ai) rfl Try.underlying47 rfl rfl (lb rfl) fun a S => leafL ⟨rfl, S⟩
  ·refine fJ [(106, _), (108, _), (105, _)] 8 [some 5, some 7, some 4] fun G a w S => ?_
   exact sBin _ S (wG 4 true 105 rfl rfl rfl ai) rfl rfl rfl (bLt _ _ _ _ .i64 a5 (p1.length : Int)) rfl (lb rfl) fun a S => leafL ⟨rfl, S⟩
  ·refine fJ [(105, _), (109, _)] 9 [some 4, some 8] fun G a w S => ?_
   exact sPickT (.bool (decide (a5 < (p1.length : Int)))) S (wN rfl) rfl rfl ai rfl rfl (lb rfl) fun a S => leafL ⟨rfl, S⟩
  ·exact fM 10 (some 9) rfl rfl rfl rfl (.inl rfl) rfl rfl rfl
  ·refine fJ [(0, _), (111, _)] 11 [none, some 10] fun G a w S => ?_
   exact sMove (.slice ak p0.length am) S (wG 10 true 111 rfl rfl rfl a6) (.inl rfl) rfl rfl (lb rfl) fun a S => leafL ⟨rfl, S⟩
  ·refine fJ [(12, _), (111, _)] 12 [none, some 10] fun G a w S => ?_
   exact sMove (iv a9) S (wG 10 true 111 rfl rfl rfl a6) (.inl rfl) rfl rfl (lb rfl) fun a S => leafL ⟨rfl, S⟩
  ·refine fJ [(112, _), (113, _), (111, _)] 13 [some 11, some 12, some 10] fun G a w S => ?_
   exact sIdxV S (wG 10 true 111 rfl rfl rfl a6) rfl rfl rfl cR rfl (lb rfl) fun a S => leafL ⟨rfl, S⟩
  ·refine fJ [(114, _), (111, _)] 14 [some 13, some 10] fun G a w S => ?_
   exact sLoadVN (vq := bg) 3 [.int .u8 a0.Kind, .bool a0.Purl, iv a0.A, iv a0.B] S (wG 10 true 111 rfl rfl rfl a6) rfl rfl rfl rfl rfl rfl (lb rfl) fun a S => leafL ⟨rfl, S⟩
  ·refine fJ [(1, _), (111, _)] 15 [none, some 10] fun G a w S => ?_
   exact sMove (.slice ae p1.length af) S (wG 10 true 111 rfl rfl rfl a6) (.inl rfl) rfl rfl (lb rfl) fun a S => leafL ⟨rfl, S⟩
  ·refine fJ [(13, _), (111, _)] 16 [none, some 10] fun G a w S => ?_
   exact sMove (iv a5) S (wG 10 true 111 rfl rfl rfl a6) (.inl rfl) rfl rfl (lb rfl) fun a S => leafL ⟨rfl, S⟩
  ·refine fJ [(116, _), (117, _), (111, _)] 17 [some 15, some 16, some 10] fun G a w S => ?_
   exact sIdxV S (wG 10 true 111 rfl rfl rfl a6) rfl rfl rfl cT rfl (lb rfl) fun a S => leafL ⟨rfl, S⟩
  ·refine fJ [(118, _), (111, _)] 18 [some 17, some 10] fun G a w S => ?_
   exact sLoadVN (vq := bh) 0 [.int .u8 a4.Kind, .bool a4.Purl, iv a4.A, iv a4.B] S (wG 10 true 111 rfl rfl rfl a6) rfl rfl rfl rfl rfl rfl (lb rfl) fun a S => leafL ⟨rfl, S⟩
  ·refine fJ [(115, _), (119, _), (111, _)] 19 [some 14, some 18, some 10] fun G a w S => ?_
   exact sBin _ S (wG 10 true 111 rfl rfl rfl a6) rfl rfl rfl (bNeV _ _ _ _ #[.int .u8 a0.Kind, .bool a0.Purl, iv a0.A, iv a0.B] #[.int .u8 a4.Kind, .bool a4.Purl, iv a4.A, iv a4.B] ((a0.Kind == a4.Kind) && ((a0.Purl == a4.Purl) && ((a0.A == a4.A) && ((a0.B == a4.B) && true)))) (by kernel_rfl) (eqlV_of (by kernel_rfl))) rfl (lb rfl) fun a S => leafL ⟨rfl, S⟩
  ·refine fJ [(111, _), (120, _)] 20 [some 10, some 19] fun G a w S => ?_
   exact sPickT (.bool (!((a0.Kind == a4.Kind) && ((a0.Purl == a4.Purl) && ((a0.A == a4.A) && ((a0.B == a4.B) && true)))))) S (wN rfl) rfl rfl a6 rfl rfl (lb rfl) fun a S => leafL ⟨rfl, S⟩
  ·exact fM 21 (some 20) rfl rfl rfl rfl (.inl rfl) rfl rfl rfl
  ·refine fJ [(14, _), (122, _)] 22 [none, some 21] fun G a w S => ?_
   exact sSk S rfl rfl rfl ac rfl rfl fun a S => leafL ⟨rfl, S⟩
  ·refine fJ [(10, _), (122, _)] 23 [none, some 21] fun G a w S => ?_
   exact sSk S rfl rfl rfl ac rfl rfl fun a S => leafL ⟨rfl, S⟩
  ·refine fJ [(12, _), (122, _)] 24 [none, some 21] fun G a w S => ?_
   exact sSk S rfl rfl rfl ac rfl rfl fun a S => leafL ⟨rfl, S⟩
  ·refine fJ [(125, _), (122, _)] 25 [some 24, some 21] fun G a w S => ?_
   exact sSk S rfl rfl rfl ac rfl rfl fun a S => leafL ⟨rfl, S⟩
  ·refine fJ [(124, _), (126, _), (122, _)] 26 [some 23, some 25, some 21] fun G a w S => ?_
   exact sSk S rfl rfl rfl ac rfl rfl fun a S => leafL ⟨rfl, S⟩
  ·refine fJ [(127, _), (122, _)] 27 [some 26, some 21] fun G a w S => ?_
   exact sSk S rfl rfl rfl ac rfl rfl fun a S => leafL ⟨rfl, S⟩
  ·refine fJ [(13, _), (122, _)] 28 [none, some 21] fun G a w S => ?_
   exact sSk S rfl rfl rfl ac rfl rfl fun a S => leafL ⟨rfl, S⟩
  ·refine fJ [(129, _), (122, _)] 29 [some 28, some 21] fun G a w S => ?_
   exact sSk S rfl rfl rfl ac rfl rfl fun a S => leafL ⟨rfl, S⟩
  ·refine fJ [(128, _), (130, _), (122, _)] 30 [some 27, some 29, some 21] fun G a w S => ?_
   exact sSk S rfl rfl rfl ac rfl rfl fun a S => leafL ⟨rfl, S⟩
  ·refine fJ [(131, _), (122, _)] 31 [some 30, some 21] fun G a w S => ?_
   exact sSk S rfl rfl rfl ac rfl rfl fun a S => leafL ⟨rfl, S⟩
  ·refine fJ [(132, _), (122, _)] 32 [some 31, some 21] fun G a w S => ?_
   exact sSk S rfl rfl rfl ac rfl rfl fun a S => leafL ⟨rfl, S⟩
  ·refine fJ [(123, _), (133, _), (122, _)] 33 [some 22, some 32, some 21] fun G a w S => ?_
   exact sSk S rfl rfl rfl ac rfl rfl fun a S => leafL ⟨rfl, S⟩
  ·refine fJ [(122, _), (134, _)] 34 [some 21, some 33] fun G a w S => ?_
   exact sPickF (.bool false) S (wN rfl) rfl rfl ac rfl rfl (lb rfl) fun a S => leafL ⟨rfl, S⟩
  ·exact fM 35 (some 34) rfl rfl rfl rfl (.inr rfl) rfl rfl rfl
  exact leafT (⟨false, Option.some.inj h, S.fix [0] [6, 7, 8] (by decide) rfl rfl rfl⟩)
 obtain ⟨aI, cV, h⟩ := bS h
 obtain ⟨ax, cW, h⟩ := bS h
 obtain ⟨bi, cX, S⟩ := pIdx (P := Try.prog) (r := r_api_Stitch) (v := .slice ak p0.length am) (xs := p0) (j := a9) 47 81 0 S Try.underlying47 rfl rfl bp
 obtain ⟨cY, S⟩ := pLoad (r := r_api_Stitch) (q := bi) (x := a0) 0 S rfl
 obtain rfl : cY = .agg #[.int .u8 a0.Kind, .bool a0.Purl, iv a0.A, iv a0.B] := S.mem.know (i := 1) (e := fRep r_api_Stitch (cY) a0) rfl
 obtain ⟨bj, cZ, S⟩ := pIdx (P := Try.prog) (r := r_api_Stitch) (v := .slice ae p1.length af) (xs := p1) (j := a5) 47 81 4 S Try.underlying47 rfl rfl bq
 obtain ⟨d4, S⟩ := pLoad (r := r_api_Stitch) (q := bj) (x := a4) 0 S rfl
 obtain rfl : d4 = .agg #[.int .u8 a4.Kind, .bool a4.Purl, iv a4.A, iv a4.B] := S.mem.know (i := 1) (e := fRep r_api_Stitch (d4) a4) rfl
 obtain ⟨bk, d5, S⟩ := pIdx (P := Try.prog) (r := (rL (rI .i64))) (v := .slice ag ar.length ah) (xs := ar) (j := w64 (a9 + 1)) 98 101 8 S Try.underlying98 rfl rfl cV
 obtain ⟨dN, S⟩ := pLoad (r := (rL (rI .i64))) (q := bk) (x := aI) 0 S rfl
 obtain ⟨aM, aO, _, rfl, _⟩ := S.mem.know (i := 1) (e := fRep (rL (rI .i64)) (dN) aI) rfl
 obtain ⟨bl, d6, S⟩ := pIdx (P := Try.prog) (r := (rI .i64)) (v := .slice aM aI.length aO) (xs := aI) (j := w64 (a5 + 1)) 101 3 1 S Try.underlying101 rfl rfl cW
 obtain ⟨d7, S⟩ := pLoad (r := (rI .i64)) (q := bl) (x := ax) 0 S rfl
 obtain rfl : d7 = iv ax := S.mem.know (i := 1) (e := fRep (rI .i64) (d7) ax) rfl
 refine sDraw (nf := []) (W := [(0, 101, iv a9), (1, 102, .slice ak p0.length am), (2, 103, iv (p0.length : Int)), (3, 104, .bool (decide (a9 < (p0.length : Int)))), (4, 105, .bool (decide (a9 < (p0.length : Int)))), (5, 106, iv a5), (6, 107, .slice ae p1.length af), (7, 108, iv (p1.length : Int)), (8, 109, .bool (decide (a5 < (p1.length : Int)))), (9, 110, .bool (decide (a5 < (p1.length : Int)))), (10, 111, .bool (decide (a5 < (p1.length : Int)))), (11, 112, .slice ak p0.length am), (12, 113, iv a9), (13, 114, bi), (14, 115, .agg #[.int .u8 a0.Kind, .bool a0.Purl, iv a0.A, iv a0.B]), (15, 116, .slice ae p1.length af), (16, 117, iv a5), (17, 118, bj), (18, 119, .agg #[.int .u8 a4.Kind, .bool a4.Purl, iv a4.A, iv a4.B]), (19, 120, .bool (!((a0.Kind == a4.Kind) && ((a0.Purl == a4.Purl) && ((a0.A == a4.A) && ((a0.B == a4.B) && true)))))), (20, 121, .bool (!((a0.Kind == a4.Kind) && ((a0.Purl == a4.Purl) && ((a0.A == a4.A) && ((a0.B == a4.B) && true)))))), (21, 122, .bool (!((a0.Kind == a4.Kind) && ((a0.Purl == a4.Purl) && ((a0.A == a4.A) && ((a0.B == a4.B) && true)))))), (22, 123, iv aw), (23, 124, .slice ag ar.length ah), (24, 125, iv a9), (25, 126, iv (w64 (a9 + 1))), (26, 127, bk), (27, 128, .slice aM aI.length aO), (28, 129, iv a5), (29, 130, iv (w64 (a5 + 1))), (30, 131, bl), (31, 132, iv ax), (32, 133, iv (w64 (1 + ax))), (33, 134, .bool (aw == (w64 (1 + ax)))), (34, 135, .bool (aw == (w64 (1 + ax)))), (35, 100, .bool (aw == (w64 (1 + ax))))]) rfl S ?_
 refine node_by (A := anc_compare_Edits_1) 36 (by kernel_rfl) (by kernel_rfl) (by kernel_rfl) (by kernel_rfl) (by kernel_rfl) [0, 1, 2, 3, 4, 5, 6, 7, 8, 9, 10, 11, 12, 13, 14, 15, 16, 17, 18, 19, 20, 21, 22, 23, 24, 25, 26, 27, 28, 29, 30, 31, 32, 33, 34, 35] (by kernel_rfl) (by decide) (by decide) (fF ?_ (fF ?_ (fF ?_ (fF ?_ (fF ?_ (fF ?_ (fF ?_ (fF ?_ (fF ?_ (fF ?_ (fF ?_ (fF ?_ (fF ?_ (fF ?_ (fF ?_ (fF ?_ (fF ?_ (fF ?_ (fF ?_ (fF ?_ (fF ?_ (fF ?_ (fF ?_ (fF ?_ (fF ?_ (fF ?_ (fF ?_ (fF ?_ (fF ?_ (fF ?_ (fF ?_ (fF ?_ (fF ?_ (fF ?_ (fF ?_ (fF ?_ (trivial))))))))))))))))))))))))))))))))))))) [(0, .slice ak p0.length am), (1, .slice ae p1.length af), (10, .slice ag ar.length ah), (11, .slice ap ay.length aq), (12, iv a9), (13, iv a5), (14, iv aw), (100, .bool (aw == (w64 (1 + ax)))), (106, iv a5), (107, .slice ae p1.length af), (108, iv (p1.length : Int)), (109, .bool (decide (a5 < (p1.length : Int)))), (112, .slice ak p0.length am), (113, iv a9), (114, bi), (115, .agg #[.int .u8 a0.Kind, .bool a0.Purl, iv a0.A, iv a0.B]), (116, .slice ae p1.length af), (117, iv a5), (118, bj), (119, .agg #[.int .u8 a4.Kind, .bool a4.Purl, iv a4.A, iv a4.B]), (120, .bool (!((a0.Kind == a4.Kind) && ((a0.Purl == a4.Purl) && ((a0.A == a4.A) && ((a0.B == a4.B) && true)))))), (123, iv aw), (124, .slice ag ar.length ah), (125, iv a9), (126, iv (w64 (a9 + 1))), (127, bk), (128, .slice aM aI.length aO), (129, iv a5), (130, iv (w64 (a5 + 1))), (131, bl), (132, iv ax), (133, iv (w64 (1 + ax))), (134, .bool (aw == (w64 (1 + ax))))] (fin_of [none, none, none, none, none, none, none, some 35, some 5, some 6, some 7, some 8, some 11, some 12, some 13, some 14, some 15, some 16, some 17, some 18, some 19, some 22, some 23, some 24, some 25, some 26, some 27, some 28, some 29, some 30, some 31, some 32, some 33] rfl (by kernel_rfl) (by kernel_rfl)) (fun _ a w S => ?_)
 ·exact fM 0 none rfl rfl rfl rfl (.inl rfl) rfl rfl rfl
 ·exact fM 1 none rfl rfl rfl rfl (.inl rfl) rfl rfl rfl
 ·refine fJ [(102, _)] 2 [some 1] fun G a w S => ?_
  exact sLen S (wN rfl) rfl Try.underlying47 rfl rfl (lb rfl) fun a S => leafL ⟨rfl, S⟩
 ·refine fJ [(101, _), (103, _)] 3 [some 0, some 2] fun G a w S => ?_
  exact sBin _ S (wN rfl) rfl rfl rfl (bLt _ _ _ _ .i64 a9 (p0.length : Int)) rfl (lb rfl) fun a S => leafL ⟨rfl, S⟩
 ·exact fM 4 (some 3) rfl rfl rfl rfl (.inl rfl) rfl rfl rfl
 ·refine fJ [(13, _), (105, _)] 5 [none, some 4] fun G a w S => ?_
  exact sMove (iv a5) S (wG 4 true 105 rfl rfl rfl ai) (.inl rfl) rfl rfl (lb rfl) fun a S => leafL ⟨rfl, S⟩
 ·refine fJ [(1, _), (105, _)] 6 [none, some 4] fun G a w S => ?_
  exact sMove (.slice ae p1.length af) S (wG 4 true 105 rfl rfl rfl ai) (.inl rfl) rfl rfl (lb rfl) fun a S => leafL ⟨rfl, S⟩
 ·refine fJ [(107, _), (105, _)] 7 [some 6, some 4] fun G a w S => ?_
  exact sLen S (wG 4 true 105 rfl rfl rfl ai) rfl Try.underlying47 rfl rfl (lb rfl) fun a S => leafL ⟨rfl, S⟩
 ·refine fJ [(106, _), (108, _), (105, _)] 8 [some 5, some 7, some 4] fun G a w S => ?_
  exact sBin _ S (wG 4 true 105 rfl rfl rfl ai) rfl rfl rfl (bLt _ _ _ _ .i64 a5 (p1.length : Int)) rfl (lb rfl) fun a S => leafL ⟨rfl, S⟩
 ·refine fJ [(105, _), (109, _)] 9 [some 4, some 8] fun G a w S => ?_
  exact sPickT (.bool (decide (a5 < (p1.length : Int)))) S (wN rfl) rfl rfl ai rfl rfl (lb rfl) fun a S => leafL ⟨rfl, S⟩
 ·exact fM 10 (some 9) rfl rfl rfl rfl (.inl rfl) rfl rfl rfl
 ·refine fJ [(0, _), (111, _)] 11 [none, some 10] fun G a w S => ?_
  exact sMove (.slice ak p0.length am) S (wG 10 true 111 rfl rfl rfl a6) (.inl rfl) rfl rfl (lb rfl) fun a S => leafL ⟨rfl, S⟩
 ·refine fJ [(12, _), (111, _)] 12 [none, some 10] fun G a w S => ?_
  exact sMove (iv a9) S (wG 10 true 111 rfl rfl rfl a6) (.inl rfl) rfl rfl (lb rfl) fun a S => leafL ⟨rfl, S⟩
 ·refine fJ [(112, _), (113, _), (111, _)] 13 [some 11, some 12, some 10] fun G a w S => ?_
  exact sIdxV S (wG 10 true 111 rfl rfl rfl a6) rfl rfl rfl cX rfl (lb rfl) fun a S => leafL ⟨rfl, S⟩
 ·refine fJ [(114, _), (111, _)] 14 [some 13, some 10] fun G a w S => ?_
  exact sLoadVN (vq := bi) 9 [.int .u8 a0.Kind, .bool a0.Purl, iv a0.A, iv a0.B] S (wG 10 true 111 rfl rfl rfl a6) rfl rfl rfl rfl rfl rfl (lb rfl) fun a S => leafL ⟨rfl, S⟩
 ·refine fJ [(1, _), (111, _)] 15 [none, some 10] fun G a w S => ?_
  exact sMove (.slice ae p1.length af) S (wG 10 true 111 rfl rfl rfl a6) (.inl rfl) rfl rfl (lb rfl) fun a S => leafL ⟨rfl, S⟩
 ·refine fJ [(13, _), (111, _)] 16 [none, some 10] fun G a w S => ?_
  exact sMove (iv a5) S (wG 10 true 111 rfl rfl rfl a6) (.inl rfl) rfl rfl (lb rfl) fun a S => leafL ⟨rfl, S⟩
 ·refine fJ [(116, _), (117, _), (111, _)] 17 [some 15, some 16, some 10] fun G a w S => ?_
  exact sIdxV S (wG 10 true 111 rfl rfl rfl a6) rfl rfl rfl cZ rfl (lb rfl) fun a S => leafL ⟨rfl, S⟩
 ·refine fJ [(118, _), (111, _)] 18 [some 17, some 10] fun G a w S => ?_
  exact sLoadVN (vq := bj) 6 [.int .u8 a4.Kind, .bool a4.Purl, iv a4.A, iv a4.B] S (wG 10 true 111 rfl rfl rfl a6) rfl rfl rfl rfl rfl rfl (lb rfl) fun a S => leafL ⟨rfl, S⟩
 ·refine fJ [(115, _), (119, _), (111, _)] 19 [some 14, some 18, some 10] fun G a w S => ?_
  exact sBin _ S (wG 10 true 111 rfl rfl rfl a6) rfl rfl rfl (bNeV _ _ _ _ #[.int .u8 a0.Kind, .bool a0.Purl, iv a0.A, iv a0.B] #[.int .u8 a4.Kind, .bool a4.Purl, iv a4.A, iv a4.B] ((a0.Kind == a4.Kind) && ((a0.Purl == a4.Purl) && ((a0.A == a4.A) && ((a0.B == a4.B) && true)))) (by kernel_rfl) (eqlV_of (by kernel_rfl))) rfl (lb rfl) fun a S => leafL ⟨rfl, S⟩
 ·refine fJ [(111, _), (120, _)] 20 [some 10, some 19] fun G a w S => ?_
  exact sPickT (.bool (!((a0.Kind == a4.Kind) && ((a0.Purl == a4.Purl) && ((a0.A == a4.A) && ((a0.B == a4.B) && true)))))) S (wN rfl) rfl rfl a6 rfl rfl (lb rfl) fun a S => leafL ⟨rfl, S⟩
 ·exact fM 21 (some 20) rfl rfl rfl rfl (.inl rfl) rfl rfl rfl
 ·refine fJ [(14, _), (122, _)] 22 [none, some 21] fun G a w S => ?_
  exact sMove (iv aw) S (wG 21 true 122 rfl rfl rfl ac) (.inl rfl) rfl rfl (lb rfl) fun a S => leafL ⟨rfl, S⟩
 ·refine fJ [(10, _), (122, _)] 23 [none, some 21] fun G a w S => ?_
  exact sMove (.slice ag ar.length ah) S (wG 21 true 122 rfl rfl rfl ac) (.inl rfl) rfl rfl (lb rfl) fun a S => leafL ⟨rfl, S⟩
 ·refine fJ [(12, _), (122, _)] 24 [none, some 21] fun G a w S => ?_
  exact sMove (iv a9) S (wG 21 true 122 rfl rfl rfl ac) (.inl rfl) rfl rfl (lb rfl) fun a S => leafL ⟨rfl, S⟩
 ·refine fJ [(125, _), (122, _)] 25 [some 24, some 21] fun G a w S => ?_
  exact sBin _ S (wG 21 true 122 rfl rfl rfl ac) rfl rfl rfl (bAdd _ _ _ _ a9 1) rfl (lb rfl) fun a S => leafL ⟨rfl, S⟩
 ·refine fJ [(124, _), (126, _), (122, _)] 26 [some 23, some 25, some 21] fun G a w S => ?_
  exact sIdxV S (wG 21 true 122 rfl rfl rfl ac) rfl rfl rfl d5 rfl (lb rfl) fun a S => leafL ⟨rfl, S⟩
 ·refine fJ [(127, _), (122, _)] 27 [some 26, some 21] fun G a w S => ?_
  exact sLoadV1 (vq := bk) 3 (.slice aM aI.length aO) S (wG 21 true 122 rfl rfl rfl ac) rfl rfl rfl rfl rfl (lb rfl) fun a S => leafL ⟨rfl, S⟩
 ·refine fJ [(13, _), (122, _)] 28 [none, some 21] fun G a w S => ?_
  exact sMove (iv a5) S (wG 21 true 122 rfl rfl rfl ac) (.inl rfl) rfl rfl (lb rfl) fun a S => leafL ⟨rfl, S⟩
 ·refine fJ [(129, _), (122, _)] 29 [some 28, some 21] fun G a w S => ?_
  exact sBin _ S (wG 21 true 122 rfl rfl rfl ac) rfl rfl rfl (bAdd _ _ _ _ a5 1) rfl (lb rfl) fun a S => leafL ⟨rfl, S⟩
 ·refine fJ [(128, _), (130, _), (122, _)] 30 [some 27, some 29, some 21] fun G a w S => ?_
  exact sIdxV S (wG 21 true 122 rfl rfl rfl ac) rfl rfl rfl d6 rfl (lb rfl) fun a S => leafL ⟨rfl, S⟩
 ·refine fJ [(131, _), (122, _)] 31 [some 30, some 21] fun G a w S => ?_
  exact sLoadV1 (vq := bl) 0 (iv ax) S (wG 21 true 122 rfl rfl rfl ac) rfl rfl rfl rfl rfl (lb rfl) fun a S => leafL ⟨rfl, S⟩
 ·refine fJ [(132, _), (122, _)] 32 [some 31, some 21] fun G a w S => ?_
  exact sBin _ S (wG 21 true 122 rfl rfl rfl ac) rfl rfl rfl (bAdd _ _ _ _ 1 ax) rfl (lb rfl) fun a S => leafL ⟨rfl, S⟩
 ·refine fJ [(123, _), (133, _), (122, _)] 33 [some 22, some 32, some 21] fun G a w S => ?_
  exact sBin _ S (wG 21 true 122 rfl rfl rfl ac) rfl rfl rfl (bEq _ _ _ _ .i64 aw (w64 (1 + ax))) rfl (lb rfl) fun a S => leafL ⟨rfl, S⟩
 ·refine fJ [(122, _), (134, _)] 34 [some 21, some 33] fun G a w S => ?_
  exact sPickT (.bool (aw == (w64 (1 + ax)))) S (wN rfl) rfl rfl ac rfl rfl (lb rfl) fun a S => leafL ⟨rfl, S⟩
 ·exact fM 35 (some 34) rfl rfl rfl rfl (.inr rfl) rfl rfl rfl
 exact leafT (⟨aw == (w64 (1 + ax)), Option.some.inj h, S.fix [0] [12, 13, 14] (by decide) rfl rfl rfl⟩)
def anc_raddleref46_Same_0 : List (List Nat) := [[], [], [0, 1], [0, 1, 2], [], [], [4, 5], [4, 5, 6], [0, 1, 2, 3, 4, 5, 6, 7]]
noncomputable def raddleref46_Same_l1 (p0 : (List api_CellStep)) (p1 : (List api_CellStep)) : Int → Option (Int ⊕ (Bool ⊕ Unit)) := fun s0 => match s0 with
 | a5 =>
  if decide (a5 < (p0.length : Int)) then
   (idxO p0 a5).bind fun a0 =>
   (idxO p1 a5).bind fun a4 =>
   if !((a0.Kind == a4.Kind) && (((a0.S.Kind == a4.S.Kind) && ((a0.S.Purl == a4.S.Purl) && ((a0.S.A == a4.S.A) && ((a0.S.B == a4.S.B) && true)))) && true)) then
    some (.inr (.inl false))
   else
    some (.inl (w64 (a5 + 1)))
  else
   some (.inr (.inr ()))
noncomputable def F_raddleref46_Same (p0 : (List api_CellStep)) (p1 : (List api_CellStep)) : Option Bool :=
 if (p0.length : Int) != (p1.length : Int) then
  some false
 else
  Option.bind (α := Unit ⊕ Bool) (
   (whileO (raddleref46_Same_l1 p0 p1) 0).bind fun z0 => match z0 with
    | .inl z =>
     some (.inr z)
    | .inr _ =>
     some (.inl ())) fun z0 => match z0 with
   | .inl _ =>
    some true
   | .inr z =>
    some z
theorem c_raddleref46_Same (E : Nat → Prop) (w0 : World) (p0 : (List api_CellStep)) (v0 : Value) (p1 : (List api_CellStep)) (v1 : Value) (r : Bool) (h : F_raddleref46_Same p0 p1 = some r) (S : St0 E [] w0 w0 [] [fRep (rL r_api_CellStep) (v0) p0, fRep (rL r_api_CellStep) (v1) p1]) :
 Calls Try.prog 29 #[v0, v1] w0 (Ret (X := Unit) E [] w0 (fun _ => .bool r) (fun _ => []) (fun _ => [])) := by
 unfold F_raddleref46_Same at h
 obtain ⟨a8, a9, _, rfl, _⟩ := S.know (i := 0) (e := fRep (rL r_api_CellStep) (v0) p0) rfl
 obtain ⟨aa, ab, _, rfl, _⟩ := S.know (i := 1) (e := fRep (rL r_api_CellStep) (v1) p1) rfl
 refine sEnter (args := [.slice a8 p0.length a9, .slice aa p1.length ab]) 26 Try.func29 rfl rfl (by simp) S (fun a S => ?_)
 refine sSeq (fun K5 aA => sRegion (sN S fun a S => ?_))
 refine lT (aA _ _ (sSeq (fun K6 aC => sSeq (fun K7 aG => sRegion (sM S fun a S => ?_)))))
 refine sLen S (wN rfl) rfl Try.underlying48 rfl rfl (lb rfl) fun a S => ?_
 refine sM S fun a S => ?_
 refine sLen S (wN rfl) rfl Try.underlying48 rfl rfl (lb rfl) fun a S => ?_
 refine sBin _ S (wN rfl) rfl rfl rfl (bNe _ _ _ _ .i64 (p0.length : Int) (p1.length : Int)) rfl (lb rfl) fun a S => ?_
 refine lT (aG _ _ ?_)
 rcases iS h with ⟨ae, h⟩ | ⟨ae, h⟩
 ·refine sCondT S rfl ae ?_
  refine sSeq (fun K9 aH => sRegion (sN S fun a S => ?_))
  refine lT (aH _ _ ?_)
  obtain rfl := tS h
  exact wp_ret (rThen (sRet (.bool false) S (rsl1 rfl (rvT (t := 4) (v := .bool false) S rfl)) ⟨(), rfl, S.mem.sel [] [] (by decide) rfl rfl⟩))
 refine sCondF S rfl ae ?_
 refine wp_skip (leafT (aC _ _ ?_))
 obtain ⟨aI, h, aw⟩ := bS h
 refine sCut (fun a w => .inl () = aI ∧ St [] E [] w0 26 a w [] [] []) ?_ (fun a w hI => ?_)
 rotate_left
 ·obtain ⟨rfl, S⟩ := hI
  have h := aw
  try dsimp only at h
  refine sSeq (fun aJ af => sRegion (sN S fun a S => ?_))
  refine lT (af _ _ ?_)
  obtain rfl := tS h
  exact wp_ret (sRet (.bool true) S (rsl1 rfl (rvT (t := 4) (v := .bool true) S rfl)) ⟨(), rfl, S.mem.sel [] [] (by decide) rfl rfl⟩)
 refine sSeq (fun aK ag => sRegion (sN S fun a S => ?_))
 refine lT (ag _ _ (wp_block ?_))
 obtain ⟨aL, hl, ax⟩ := bS h
 refine sLoop hl (fun s0 a w => match s0 with | a5 => St [] E [] w0 26 a w [(0, .slice a8 p0.length a9), (1, .slice aa p1.length ab), (5, iv a5)] [] [fRep (rL r_api_CellStep) (.slice a8 p0.length a9) p0, fRep (rL r_api_CellStep) (.slice aa p1.length ab) p1]) (S.fix [] [0, 1] (by decide) rfl rfl rfl) ?_
 clear hl h
 intro a5 a w c0 hI h ac
 unfold raddleref46_Same_l1 at h
 dsimp only at h hI
 have S := hI
 refine sSeq (fun aM ah => sSeq (fun aO ai => sRegion (sM S fun a S => ?_)))
 refine sM S fun a S => ?_
 refine sLen S (wN rfl) rfl Try.underlying48 rfl rfl (lb rfl) fun a S => ?_
 refine sBin _ S (wN rfl) rfl rfl rfl (bLt _ _ _ _ .i64 a5 (p0.length : Int)) rfl (lb rfl) fun a S => ?_
 refine lT (ai _ _ ?_)
 rcases iS h with ⟨a6, h⟩ | ⟨a6, h⟩
 rotate_left
 ·refine sCondF S rfl a6 ?_
  obtain rfl := tS h
  obtain rfl := ac _ rfl
  have h := ax
  try dsimp only at h
  exact wp_exit (xThen (xThen (xHit (leafT (⟨Option.some.inj h, S.fix [] [] (by decide) rfl rfl rfl⟩)))))
 refine sCondT S rfl a6 ?_
 refine wp_skip (leafT (ah _ _ ?_))
 refine sSeq (fun aP aj => wp_block ?_)
 refine sSeq (fun aQ ak => ?_)
 obtain ⟨a0, am, h⟩ := bS h
 obtain ⟨a4, ao, h⟩ := bS h
 obtain ⟨ap, aq, S⟩ := pIdx (P := Try.prog) (r := r_api_CellStep) (v := .slice a8 p0.length a9) (xs := p0) (j := a5) 48 83 0 S Try.underlying48 rfl rfl am
 obtain ⟨ay, S⟩ := pLoad (r := r_api_CellStep) (q := ap) (x := a0) 0 S rfl
 obtain rfl : ay = .agg #[.int .u8 a0.Kind, .int .u8 a0.S.Kind, .bool a0.S.Purl, iv a0.S.A, iv a0.S.B] := S.mem.know (i := 1) (e := fRep r_api_CellStep (ay) a0) rfl
 obtain ⟨ar, au, S⟩ := pIdx (P := Try.prog) (r := r_api_CellStep) (v := .slice aa p1.length ab) (xs := p1) (j := a5) 48 83 4 S Try.underlying48 rfl rfl ao
 obtain ⟨az, S⟩ := pLoad (r := r_api_CellStep) (q := ar) (x := a4) 0 S rfl
 obtain rfl : az = .agg #[.int .u8 a4.Kind, .int .u8 a4.S.Kind, .bool a4.S.Purl, iv a4.S.A, iv a4.S.B] := S.mem.know (i := 1) (e := fRep r_api_CellStep (az) a4) rfl
 refine sDraw (nf := []) (W := [(0, 17, .slice a8 p0.length a9), (1, 18, iv a5), (2, 19, ap), (3, 20, .agg #[.int .u8 a0.Kind, .int .u8 a0.S.Kind, .bool a0.S.Purl, iv a0.S.A, iv a0.S.B]), (4, 21, .slice aa p1.length ab), (5, 22, iv a5), (6, 23, ar), (7, 24, .agg #[.int .u8 a4.Kind, .int .u8 a4.S.Kind, .bool a4.S.Purl, iv a4.S.A, iv a4.S.B]), (8, 25, .bool (!((a0.Kind == a4.Kind) && (((a0.S.Kind == a4.S.Kind) && ((a0.S.Purl == a4.S.Purl) && ((a0.S.A == a4.S.A) && ((a0.S.B == a4.S.B) && true)))) && true))))]) rfl S ?_
 refine node_by (A := anc_raddleref46_Same_0) 9 (by kernel_rfl) (by kernel_rfl) (by kernel_rfl) (by kernel_rfl) (by kernel_rfl) [0, 1, 2, 3, 4, 5, 6, 7, 8] (by kernel_rfl) (by decide) (by decide) (fF ?_ (fF ?_ (fF ?_ (fF ?_ (fF ?_ (fF ?_ (fF ?_ (fF ?_ (fF ?_ (trivial)))))))))) [(0, .slice a8 p0.length a9), (1, .slice aa p1.length ab), (5, iv a5), (25, .bool (!((a0.Kind == a4.Kind) && (((a0.S.Kind == a4.S.Kind) && ((a0.S.Purl == a4.S.Purl) && ((a0.S.A == a4.S.A) && ((a0.S.B == a4.S.B) && true)))) && true))))] (fin_of [none, none, none, some 8] rfl (by kernel_rfl) (by kernel_rfl)) (fun _ a w S => ?_)
 ·exact fM 0 none rfl rfl rfl rfl (.inl rfl) rfl rfl rfl
 ·exact fM 1 none rfl rfl rfl rfl (.inl rfl) rfl rfl rfl
 ·refine fJ [(17, _), (18, _)] 2 [some 0, some 1] fun G a w S => ?_
  exact sIdxV S (wN rfl) rfl rfl rfl aq rfl (lb rfl) fun a S => leafL ⟨rfl, S⟩
 ·refine fJ [(19, _)] 3 [some 2] fun G a w S => ?_
  exact sLoadVN (vq := ap) 3 [.int .u8 a0.Kind, .int .u8 a0.S.Kind, .bool a0.S.Purl, iv a0.S.A, iv a0.S.B] S (wN rfl) rfl rfl rfl rfl rfl rfl (lb rfl) fun a S => leafL ⟨rfl, S⟩
 ·exact fM 4 none rfl rfl rfl rfl (.inl rfl) rfl rfl rfl
 ·exact fM 5 none rfl rfl rfl rfl (.inl rfl) rfl rfl rfl
 ·refine fJ [(21, _), (22, _)] 6 [some 4, some 5] fun G a w S => ?_
  exact sIdxV S (wN rfl) rfl rfl rfl au rfl (lb rfl) fun a S => leafL ⟨rfl, S⟩
 ·refine fJ [(23, _)] 7 [some 6] fun G a w S => ?_
  exact sLoadVN (vq := ar) 0 [.int .u8 a4.Kind, .int .u8 a4.S.Kind, .bool a4.S.Purl, iv a4.S.A, iv a4.S.B] S (wN rfl) rfl rfl rfl rfl rfl rfl (lb rfl) fun a S => leafL ⟨rfl, S⟩
 ·refine fJ [(20, _), (24, _)] 8 [some 3, some 7] fun G a w S => ?_
  exact sBin _ S (wN rfl) rfl rfl rfl (bNeV _ _ _ _ #[.int .u8 a0.Kind, .int .u8 a0.S.Kind, .bool a0.S.Purl, iv a0.S.A, iv a0.S.B] #[.int .u8 a4.Kind, .int .u8 a4.S.Kind, .bool a4.S.Purl, iv a4.S.A, iv a4.S.B] ((a0.Kind == a4.Kind) && (((a0.S.Kind == a4.S.Kind) && ((a0.S.Purl == a4.S.Purl) && ((a0.S.A == a4.S.A) && ((a0.S.B == a4.S.B) && true)))) && true)) (by kernel_rfl) (eqlV_of (by kernel_rfl))) rfl (lb rfl) fun a S => leafL ⟨rfl, S⟩
 refine leafT (ak _ _ ?_)
 rcases iS h with ⟨a7, h⟩ | ⟨a7, h⟩
 rotate_left
 ·refine sCondF S rfl a7 ?_
  refine wp_skip (leafB (leafT (aj _ _ ?_)))
  refine sRegion (sM S fun a S => ?_)
  refine sBin _ S (wN rfl) rfl rfl rfl (bAdd _ _ _ _ a5 1) rfl (lb rfl) fun a S => ?_
  refine sN S fun a S => ?_
  exact lT (⟨w64 (a5 + 1), (Option.some.inj h).symm, (S.fix [] [6, 7] (by decide) rfl rfl rfl)⟩)
 refine sCondT S rfl a7 ?_
 refine sSeq (fun aR av => sRegion (sN S fun a S => ?_))
 refine lT (av _ _ ?_)
 obtain rfl := tS h
 obtain rfl := ac _ rfl
 have h := ax
 try dsimp only at h
 obtain rfl := tS h
 have h := aw
 try dsimp only at h
 obtain rfl := tS h
 exact wp_ret (rBlock (rThen (rThen (rBlock (rThen (sRet (.bool false) S (rsl1 rfl (rvT (t := 4) (v := .bool false) S rfl)) ⟨(), rfl, S.mem.sel [] [] (by decide) rfl rfl⟩))))))
end Go.Proofs.Ytffikfajljbmnaa
