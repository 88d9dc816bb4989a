/- CompareLeast: walks, tables, laws. -/
import Derived.Test.YtffikfajljbmnaaProg
import Derived.Test.YtffikfajljbmnaaRows
import Derived.Test.YtffikfajljbmnaaMCompareLeast2
set_option linter.unusedVariables false
set_option linter.unusedSimpArgs false
set_option maxHeartbeats 4000000
set_option maxRecDepth 100000
namespace Go.Proofs.Ytffikfajljbmnaa
open Go.RowKit
def anc_grid_build_s0_0 : List (List Nat) := [[], [0], [], [], [], [2, 3, 4], [2, 3, 4, 5], [0, 1, 2, 3, 4, 5, 6], [0, 1, 2, 3, 4, 5, 6, 7], [0, 1, 2, 3, 4, 5, 6, 7, 8]]
noncomputable def grid_build_s0_l1 (p0 : Int) (a5 : Int) (p2 : api_Grid) (p3 : Int) (p4 : Int) : (Int × List Bool) → Option ((Int × List Bool) ⊕ List Bool) := fun s0 => match s0 with
 | (a0, a4) =>
  if decide (a0 < p0) then
   (F_grid_Shift_1_s0 a0 a5 p2 p3 p4).bind fun a6 =>
   (appO a4 [a6]).bind fun a7 =>
   some (.inl (w64 (a0 + 1), a7))
  else
   some (.inr a4)
noncomputable def grid_build_s0_l2 (p1 : Int) (p0 : Int) (p2 : api_Grid) (p3 : Int) (p4 : Int) : (Int × List Bool) → Option ((Int × List Bool) ⊕ List Bool) := fun s0 => match s0 with
 | (a0, a4) =>
  if decide (a0 < p1) then
   Option.bind (α := List Bool) (
    (whileO (grid_build_s0_l1 p0 a0 p2 p3 p4) (0, a4)).bind fun a5 =>
     some a5) fun a6 =>
   some (.inl (w64 (a0 + 1), a6))
  else
   some (.inr a4)
noncomputable def F_grid_build_s0 (p0 : Int) (p1 : Int) (p2 : api_Grid) (p3 : Int) (p4 : Int) : Option api_Grid :=
 (capO (w64 (p0 * p1))).bind fun z6 =>
 Option.bind (α := List Bool) (
  (whileO (grid_build_s0_l2 p1 p0 p2 p3 p4) (0, ([] : List Bool))).bind fun a0 =>
   some a0) fun o9 =>
 some (api_Grid.mk p0 p1 o9)
def c_grid_build_s0_val (r : api_Grid) (x : Value) : Value := x
def c_grid_build_s0_D (r : api_Grid) (x : Value) : List Fact := [fRep r_api_Grid x r]
theorem c_grid_build_s0 (E : Nat → Prop) (w0 : World) (p0 : Int) (p1 : Int) (p2 : api_Grid) (v2 : Value) (p3 : Int) (v3 : Value) (p4 : Int) (v4 : Value) (r : api_Grid) (h : F_grid_build_s0 p0 p1 p2 p3 p4 = some r) (S : St0 E [] w0 w0 [] [fPtr r_api_Grid (v2) p2, fPtr (rI .i64) (v3) p3, fPtr (rI .i64) (v4) p4]) :
 Calls Try.prog 64 #[iv p0, iv p1, .func (.func 65) #[] #[v2, v3, v4]] w0 (Ret (X := Value) E [] w0 (c_grid_build_s0_val r) (fun _ => []) (c_grid_build_s0_D r)) := by
 unfold F_grid_build_s0 at h
 refine sEnter (args := [iv p0, iv p1, .func (.func 65) #[] #[v2, v3, v4]]) 37 Try.func64 rfl rfl (by simp) S (fun a S => ?_)
 refine sSeq (fun K1 aO => sRegion (sAlloc (.agg #[iv 0, iv 0, .slice none 0 0]) S (wN rfl) rfl rfl [iv 0, iv 0, .slice none 0 0] rfl rfl (lb rfl) fun a b2 w S => ?_))
 refine lT (aO _ _ (sSeq (fun K3 aP => sRegion (sM S fun a S => ?_))))
 refine sM S fun a S => ?_
 refine sM S fun a S => ?_
 refine sM S fun a S => ?_
 refine sBin _ S (wN rfl) rfl rfl rfl (bMul _ _ _ _ p0 p1) rfl (lb rfl) fun a S => ?_
 obtain ⟨z6, aQ, h⟩ := bS h
 refine sMake0 rB (m := w64 (p0 * p1)) (u := z6) (.bool false) 1 S (wN rfl) rfl Try.underlying22 rfl (by decide) rfl rfl aQ rfl (lb rfl) fun a w ap aq S => ?_
 refine sBuild [(0, iv p0), (1, iv p1), (2, .slice ap ([] : List Bool).length aq)] [iv p0, iv p1, .slice ap ([] : List Bool).length aq] S (wN rfl) rfl rfl rfl rfl (lb rfl) fun a S => ?_
 refine sAlloc (.agg #[iv 0, iv 0, .slice none 0 0]) S (wN rfl) rfl rfl [iv 0, iv 0, .slice none 0 0] rfl rfl (lb rfl) fun a b8 w S => ?_
 refine sStore (p := b8) (off := 0) (T := 24) (vs := [iv 0, iv 0, .slice none 0 0]) (v := .agg #[iv p0, iv p1, .slice ap ([] : List Bool).length aq]) 0 [iv p0, iv p1, .slice ap ([] : List Bool).length aq] S (wN rfl) rfl rfl rfl rfl rfl rfl rfl (by simp) rfl fun a w S => ?_
 refine lT (aP _ _ ?_)
 obtain ⟨aR, h, aS⟩ := bS h
 refine sCut (fun a w => ∃ o9, o9 = aR ∧ ∃ a0, ∃ a4, St [] E [] w0 37 a w [(6, .pointer (some ⟨b2, 0, none⟩)), (7, .pointer (some ⟨b8, 0, none⟩))] [eBox b2 24 [iv 0, iv 0, .slice none 0 0], eBox b8 24 [iv p0, iv p1, .slice a0 o9.length a4], eRow rB 4 (.slice a0 o9.length a4) o9] []) ?_ (fun a w hI => ?_)
 rotate_left
 ·obtain ⟨o9, rfl, a0, a4, S⟩ := hI
  have h := aS
  try dsimp only at h
  refine sSeq (fun aX av => sRegion (sLoadN (p := b8) (off := 0) (T := 24) (vs := [iv p0, iv p1, .slice a0 o9.length a4]) 1 [iv p0, iv p1, .slice a0 o9.length a4] S (wN rfl) rfl rfl rfl rfl rfl rfl rfl (lb rfl) fun a S => ?_))
  refine sStore (p := b2) (off := 0) (T := 24) (vs := [iv 0, iv 0, .slice none 0 0]) (v := .agg #[iv p0, iv p1, .slice a0 o9.length a4]) 0 [iv p0, iv p1, .slice a0 o9.length a4] S (wN rfl) rfl rfl rfl rfl rfl rfl rfl (by simp) rfl fun a w S => ?_
  refine lT (av _ _ ?_)
  obtain rfl := tS h
  have S := S.shutR (r := rB) (T := 4) (v := .slice a0 o9.length a4) (xs := o9) 2 rfl
  have S := S.learn (fRep r_api_Grid (.agg #[iv p0, iv p1, .slice a0 o9.length a4]) (api_Grid.mk p0 p1 o9)) ⟨_, rfl, S.mem.know (i := 0) (e := fRep (rL rB) (.slice a0 o9.length a4) o9) rfl⟩
  exact wp_ret (sRet (.agg #[iv p0, iv p1, .slice a0 o9.length a4]) S (rsl1 rfl (rvN (c := 6) (t := 24) (T := 24) (p := b2) 0 [iv p0, iv p1, .slice a0 o9.length a4] S rfl rfl rfl rfl)) ⟨(.agg #[iv p0, iv p1, .slice a0 o9.length a4]), rfl, S.mem.sel [] [0] (by decide) rfl rfl⟩)
 refine sSeq (fun aZ aw => sRegion (sM S fun a S => ?_))
 refine sM S fun a S => ?_
 refine lT (aw _ _ (wp_block ?_))
 obtain ⟨ba, hl, aT⟩ := bS h
 refine sLoop hl (fun s0 a w => match s0 with | (a7, ar) => ∃ aa, ∃ ab, St [] E [] w0 37 a w [(0, iv p0), (2, .func (.func 65) #[] #[v2, v3, v4]), (6, .pointer (some ⟨b2, 0, none⟩)), (7, .pointer (some ⟨b8, 0, none⟩)), (17, iv p1), (18, iv a7)] [eBox b2 24 [iv 0, iv 0, .slice none 0 0], eBox b8 24 [iv p0, iv p1, .slice aa ar.length ab], eRow rB 4 (.slice aa ar.length ab) ar] [fPtr r_api_Grid (v2) p2, fPtr (rI .i64) (v3) p3, fPtr (rI .i64) (v4) p4]) ⟨ap, aq, S.fix [2, 0, 1] [0, 1, 2] (by decide) rfl rfl rfl⟩ ?_
 clear hl h
 intro s0 a w c0 hI h ax
 obtain ⟨a7, ar⟩ := s0
 unfold grid_build_s0_l2 at h
 dsimp only at h hI
 obtain ⟨aa, ab, S⟩ := hI
 refine sSeq (fun bb ay => sRegion (sBin _ S (wN rfl) rfl rfl rfl (bLt _ _ _ _ .i64 a7 p1) rfl (lb rfl) fun a S => ?_))
 refine lT (ay _ _ (sSeq (fun bc az => ?_)))
 rcases iS h with ⟨ai, h⟩ | ⟨ai, h⟩
 rotate_left
 ·refine sCondF S rfl ai ?_
  obtain rfl := tS h
  obtain rfl := ax _ rfl
  have h := aT
  try dsimp only at h
  exact wp_exit (xThen (xThen (xHit (leafT (⟨ar, Option.some.inj h, aa, ab, S.fix [0, 1, 2] [] (by decide) rfl rfl rfl⟩)))))
 refine sCondT S rfl ai ?_
 refine wp_skip (leafT (az _ _ ?_))
 obtain ⟨aU, h, aV⟩ := bS h
 refine sCut (fun a w => ∃ ao, ao = aU ∧ ∃ af, ∃ ag, St [] E [] w0 37 a w [(0, iv p0), (2, .func (.func 65) #[] #[v2, v3, v4]), (6, .pointer (some ⟨b2, 0, none⟩)), (7, .pointer (some ⟨b8, 0, none⟩)), (17, iv p1), (18, iv a7)] [eBox b2 24 [iv 0, iv 0, .slice none 0 0], eBox b8 24 [iv p0, iv p1, .slice af ao.length ag], eRow rB 4 (.slice af ao.length ag) ao] [fPtr r_api_Grid (v2) p2, fPtr (rI .i64) (v3) p3, fPtr (rI .i64) (v4) p4]) ?_ (fun a w hI => ?_)
 rotate_left
 ·obtain ⟨ao, rfl, af, ag, S⟩ := hI
  have h := aV
  try dsimp only at h
  refine sRegion (sBin _ S (wN rfl) rfl rfl rfl (bAdd _ _ _ _ a7 1) rfl (lb rfl) fun a S => ?_)
  refine sM S fun a S => ?_
  exact lT (⟨(w64 (a7 + 1), ao), (Option.some.inj h).symm, ⟨af, ag, S.fix [0, 1, 2] [0, 1, 2] (by decide) rfl rfl rfl⟩⟩)
 refine wp_block ?_
 refine sSeq (fun bf aA => sRegion (sM S fun a S => ?_))
 refine sN S fun a S => ?_
 refine lT (aA _ _ (sSeq (fun bg aC => sRegion (sM S fun a S => ?_))))
 refine sM S fun a S => ?_
 refine lT (aC _ _ (wp_block ?_))
 obtain ⟨bh, hl, aW⟩ := bS h
 refine sLoop hl (fun s0 a w => match s0 with | (ah, a8) => ∃ a5, ∃ a6, St [] E [] w0 37 a w [(0, iv p0), (2, .func (.func 65) #[] #[v2, v3, v4]), (6, .pointer (some ⟨b2, 0, none⟩)), (7, .pointer (some ⟨b8, 0, none⟩)), (8, iv a7), (17, iv p1), (18, iv a7), (21, iv p0), (22, iv ah)] [eBox b2 24 [iv 0, iv 0, .slice none 0 0], eBox b8 24 [iv p0, iv p1, .slice a5 a8.length a6], eRow rB 4 (.slice a5 a8.length a6) a8] [fPtr r_api_Grid (v2) p2, fPtr (rI .i64) (v3) p3, fPtr (rI .i64) (v4) p4]) ⟨aa, ab, S.fix [0, 1, 2] [0, 1, 2] (by decide) rfl rfl rfl⟩ ?_
 clear hl h
 intro s0 a w c0 hI h aG
 obtain ⟨ah, a8⟩ := s0
 unfold grid_build_s0_l1 at h
 dsimp only at h hI
 obtain ⟨a5, a6, S⟩ := hI
 refine sSeq (fun bi aH => sRegion (sBin _ S (wN rfl) rfl rfl rfl (bLt _ _ _ _ .i64 ah p0) rfl (lb rfl) fun a S => ?_))
 refine lT (aH _ _ (sSeq (fun bj aI => ?_)))
 rcases iS h with ⟨aj, h⟩ | ⟨aj, h⟩
 rotate_left
 ·refine sCondF S rfl aj ?_
  obtain rfl := tS h
  obtain rfl := aG _ rfl
  have h := aW
  try dsimp only at h
  exact wp_exit (xThen (xThen (xHit (leafB (leafT (⟨a8, Option.some.inj h, a5, a6, S.fix [0, 1, 2] [0, 1, 2] (by decide) rfl rfl rfl⟩))))))
 refine sCondT S rfl aj ?_
 refine wp_skip (leafT (aI _ _ ?_))
 refine sSeq (fun bk aJ => wp_block ?_)
 refine sSeq (fun bl aK => sRegion (sM S fun a S => ?_))
 refine sN S fun a S => ?_
 refine lT (aK _ _ ?_)
 obtain ⟨a9, aL, h⟩ := bS h
 obtain ⟨au, aM, h⟩ := bS h
 refine sDraw (nf := [6, 7, 9]) (W := [(0, 25, .pointer (some ⟨b8, 2, none⟩)), (1, 26, .slice a5 a8.length a6), (2, 27, .func (.func 65) #[] #[v2, v3, v4]), (3, 28, iv ah), (4, 29, iv a7), (5, 30, .bool a9)]) rfl S ?_
 refine node_by (A := anc_grid_build_s0_0) 10 (by kernel_rfl) (by kernel_rfl) (by kernel_rfl) (by kernel_rfl) (by kernel_rfl) [0, 1, 2, 3, 4, 5] (by kernel_rfl) (by decide) (by decide) (fF ?_ (fF ?_ (fF ?_ (fF ?_ (fF ?_ (fF ?_ (fN ?_ (aB 7 2 6 (by decide) (fE 6 (aB 9 0 6 (by decide) (trivial))))))))))) [] (fun q hq => by cases hq) (fun hY => absurd (hY 6 (by decide)) (by decide))
 ·refine fJ [(7, _)] 0 [none] fun G a w S => ?_
  exact sField (b := b8) (off := 0) 2 2 S (wN rfl) rfl rfl rfl rfl rfl (lb rfl) fun a S => leafL ⟨rfl, S⟩
 ·refine fJ [(25, _)] 1 [some 0] fun G a w S => ?_
  exact sLoad1 1 (.slice a5 a8.length a6) S (wN rfl) rfl rfl rfl rfl rfl rfl (lb rfl) fun a S => leafL ⟨rfl, S⟩
 ·exact fM 2 none rfl rfl rfl rfl (.inl rfl) rfl rfl rfl
 ·exact fM 3 none rfl rfl rfl rfl (.inl rfl) rfl rfl rfl
 ·exact fM 4 none rfl rfl rfl rfl (.inl rfl) rfl rfl rfl
 ·refine fJ [(27, _), (28, _), (29, _)] 5 [some 2, some 3, some 4] fun G a w S => ?_
  have S1 := S.mem
  refine sCallVQ (X := Unit) (g := 65) (vs := [iv ah, iv a7]) (caps := [v2, v3, v4]) (val := fun _ => .bool a9) S (wN rfl) rfl rfl callee65 rfl (S1.quiet [0, 1, 2] rfl) (fun E1 w1 S1 => c_grid_Shift_1_s0 E1 w1 ah a7 p2 v2 p3 v3 p4 v4 a9 aL S1) rfl (lb rfl) fun _ a w S => ?_
  exact leafL ⟨rfl, S⟩
 refine ⟨_, [(30, .bool a9)], rfl, (srcs_of [some 5] rfl rfl rfl), fun G a w S => ?_⟩
 refine sLit (r := rB) (T := 4) (xs := [a9]) [(0, .bool a9)] 1 [.bool a9] [.bool a9] (.bool false) 1 S (wN rfl) rfl rfl Try.underlying22 rfl (by decide) (by decide) (by kernel_rfl) rfl (fun E1 w1 hE => All.cons rfl (All.nil _ _ _)) rfl rfl (lb rfl) fun a w ak am S => ?_
 refine leafL ⟨rfl, _, _, .inl ⟨31, (.slice ak [a9].length am), [], rfl, S, hz_of rfl, ?_⟩⟩
 refine node_by (A := anc_grid_build_s0_0) 10 (by kernel_rfl) (by kernel_rfl) (by kernel_rfl) (by kernel_rfl) (by kernel_rfl) [6, 0, 1, 2, 3, 4, 5] (by kernel_rfl) (by decide) (by decide) (fF ?_ (fF ?_ (fD 6 (fD 6 (fD 6 (fD 6 (fY (fN ?_ (fE 7 (aB 9 0 7 (by decide) (trivial))))))))))) [] (fun q hq => by cases hq) (fun hY => absurd (hY 7 (by decide)) (by decide))
 ·refine fJ [(7, _)] 1 [none] fun G a w S => ?_
  exact sField (b := b8) (off := 0) 2 2 S (wN rfl) rfl rfl rfl rfl rfl (lb rfl) fun a S => leafL ⟨rfl, S⟩
 ·refine fJ [(25, _)] 2 [some 1] fun G a w S => ?_
  exact sLoad1 2 (.slice a5 a8.length a6) S (wN rfl) rfl rfl rfl rfl rfl rfl (lb rfl) fun a S => leafL ⟨rfl, S⟩
 refine ⟨_, [(26, .slice a5 a8.length a6), (31, .slice ak [a9].length am)], rfl, (srcs_of [some 2, some 0] rfl rfl rfl), fun G a w S => ?_⟩
 refine sApp (r := rB) (T := 4) (xs := a8) (ys := [a9]) (v := .slice a5 a8.length a6) (u := .slice ak [a9].length am) 3 (.bool false) 1 S (wN rfl) rfl Try.underlying22 rfl rfl (by decide) rfl rfl rfl (src_R (T := 4) 0 S.mem rfl) aM rfl (lb rfl) fun a w ac ae S => ?_
 refine leafL ⟨rfl, _, _, .inl ⟨32, (.slice ac au.length ae), [(8, 33, .pointer (some ⟨b8, 2, none⟩))], rfl, S, hz_of rfl, ?_⟩⟩
 refine node_by (A := anc_grid_build_s0_0) 10 (by kernel_rfl) (by kernel_rfl) (by kernel_rfl) (by kernel_rfl) (by kernel_rfl) [8, 7, 6, 0, 1, 2, 3, 4, 5] (by kernel_rfl) (by decide) (by decide) (fD 7 (fD 7 (fD 7 (fD 7 (fD 7 (fD 7 (fY (fY (fF ?_ (fN ?_ (trivial))))))))))) [] (fun q hq => by cases hq) (fun hY => absurd (hY 9 (by decide)) (by decide))
 ·refine fJ [(7, _)] 0 [none] fun G a w S => ?_
  exact sField (b := b8) (off := 0) 2 2 S (wN rfl) rfl rfl rfl rfl rfl (lb rfl) fun a S => leafL ⟨rfl, S⟩
 refine ⟨_, [(32, .slice ac au.length ae), (33, .pointer (some ⟨b8, 2, none⟩))], rfl, (srcs_of [some 1, some 0] rfl rfl rfl), fun G a w S => ?_⟩
 refine sStore (p := b8) (off := 2) (T := 24) (vs := [iv p0, iv p1, .slice a5 a8.length a6]) (v := .slice ac au.length ae) 3 [.slice ac au.length ae] S (wN rfl) rfl rfl rfl rfl rfl rfl rfl (by simp) rfl fun a w S => ?_
 refine leafL ⟨rfl, _, _, .inr ⟨[], rfl, S, hz_of rfl, ?_⟩⟩
 refine node_by (A := anc_grid_build_s0_0) 10 (by kernel_rfl) (by kernel_rfl) (by kernel_rfl) (by kernel_rfl) (by kernel_rfl) [8, 7, 6, 0, 1, 2, 3, 4, 5] (by kernel_rfl) (by decide) (by decide) (fD 9 (fD 9 (fD 9 (fD 9 (fD 9 (fD 9 (fY (fY (fD 9 (fY (trivial))))))))))) [(0, iv p0), (2, .func (.func 65) #[] #[v2, v3, v4]), (6, .pointer (some ⟨b2, 0, none⟩)), (7, .pointer (some ⟨b8, 0, none⟩)), (8, iv a7), (17, iv p1), (18, iv a7), (21, iv p0), (22, iv ah)] (fin_of [none, none, none, none, none, none, none, none, none] rfl (by kernel_rfl) (by kernel_rfl)) (fun _ a w S => ?_)
 refine leafB (leafT (aJ _ _ ?_))
 refine sRegion (sBin _ S (wN rfl) rfl rfl rfl (bAdd _ _ _ _ ah 1) rfl (lb rfl) fun a S => ?_)
 refine sM S fun a S => ?_
 exact lT (⟨(w64 (ah + 1), au), (Option.some.inj h).symm, ⟨ac, ae, S.fix [3, 0, 1] [0, 1, 2] (by decide) rfl rfl rfl⟩⟩)
def anc_grid_Shift_0 : List (List Nat) := [[], [], [1], [0, 1, 2], [], [], [5], [0, 1, 2, 3, 4, 5, 6], [0, 1, 2, 3, 4, 5, 6, 7], [0, 1, 2, 3, 4, 5, 6, 7, 8]]
noncomputable def F_grid_Shift (p0 : api_Grid) (p1 : Int) (p2 : Int) : Option (api_Grid × Int) :=
 (F_grid_Check p0).bind fun a0 =>
 if a0 != 0 then
  some ((api_Grid.mk 0 0 ([] : (List Bool))), a0)
 else
  (F_grid_around p1 p0.W).bind fun a4 =>
  (F_grid_around p2 p0.H).bind fun a5 =>
  (F_grid_build_s0 p0.W p0.H p0 a5 a4).bind fun a6 =>
  some (a6, 0)
def c_grid_Shift_val (r : (api_Grid × Int)) (x : Value) : Value := .tuple #[x, .int .i64 r.2]
def c_grid_Shift_D (r : (api_Grid × Int)) (x : Value) : List Fact := [fRep r_api_Grid x r.1]
theorem c_grid_Shift (E : Nat → Prop) (w0 : World) (p0 : api_Grid) (v0 : Value) (p1 : Int) (p2 : Int) (r : (api_Grid × Int)) (h : F_grid_Shift p0 p1 p2 = some r) (S : St0 E [] w0 w0 [] [fRep r_api_Grid (v0) p0]) :
 Calls Try.prog 34 #[v0, iv p1, iv p2] w0 (Ret (X := Value) E [] w0 (c_grid_Shift_val r) (fun _ => []) (c_grid_Shift_D r)) := by
 unfold F_grid_Shift at h
 obtain ⟨u1, rfl, aq⟩ := S.know (i := 0) (e := fRep r_api_Grid (v0) p0) rfl
 have S := S.learn (fRep (rL rB) u1 p0.Bits) aq
 obtain ⟨a8, a9, _, rfl, _⟩ := aq
 refine sEnter (args := [.agg #[iv p0.W, iv p0.H, .slice a8 p0.Bits.length a9], iv p1, iv p2]) 29 Try.func34 rfl rfl (by simp) S (fun a S => ?_)
 refine sSeq (fun K5 ar => sRegion (sBox (v := .agg #[iv p0.W, iv p0.H, .slice a8 p0.Bits.length a9]) S (wN rfl) rfl rfl [iv p0.W, iv p0.H, .slice a8 p0.Bits.length a9] rfl rfl (lb rfl) fun a b6 w S => ?_))
 refine sBox (v := iv p1) S (wN rfl) rfl rfl [iv p1] rfl rfl (lb rfl) fun a b7 w S => ?_
 refine sBox (v := iv p2) S (wN rfl) rfl rfl [iv p2] rfl rfl (lb rfl) fun a b8 w S => ?_
 refine sAlloc (.agg #[iv 0, iv 0, .slice none 0 0]) S (wN rfl) rfl rfl [iv 0, iv 0, .slice none 0 0] rfl rfl (lb rfl) fun a b9 w S => ?_
 refine sN S fun a S => ?_
 refine lT (ar _ _ (sSeq (fun aw ae => sSeq (fun ax af => sRegion (sLoadN (p := b6) (off := 0) (T := 24) (vs := [iv p0.W, iv p0.H, .slice a8 p0.Bits.length a9]) 3 [iv p0.W, iv p0.H, .slice a8 p0.Bits.length a9] S (wN rfl) rfl rfl rfl rfl rfl rfl rfl (lb rfl) fun a S => ?_)))))
 obtain ⟨ab, ag, h⟩ := bS h
 have S1 := S.mem
 refine sCq [.agg #[iv p0.W, iv p0.H, .slice a8 p0.Bits.length a9]] (iv ab) S callee45 (S1.quiet [1] rfl) (fun E1 w1 S1 => c_grid_Check E1 w1 p0 (.agg #[iv p0.W, iv p0.H, .slice a8 p0.Bits.length a9]) ab ag S1) fun a w S => ?_
 refine sN S fun a S => ?_
 refine lT (af _ _ (sSeq (fun ay ah => sRegion (sM S fun a S => ?_))))
 refine sBin _ S (wN rfl) rfl rfl rfl (bNe _ _ _ _ .i64 ab 0) rfl (lb rfl) fun a S => ?_
 refine lT (ah _ _ ?_)
 rcases iS h with ⟨aa, h⟩ | ⟨aa, h⟩
 ·refine sCondT S rfl aa ?_
  refine sSeq (fun az ai => sRegion (sBuild [] [iv 0, iv 0, .slice none 0 0] S (wN rfl) rfl rfl rfl rfl (lb rfl) fun a S => ?_))
  refine sM S fun a S => ?_
  refine sStore (p := b9) (off := 0) (T := 24) (vs := [iv 0, iv 0, .slice none 0 0]) (v := .agg #[iv 0, iv 0, .slice none 0 0]) 0 [iv 0, iv 0, .slice none 0 0] S (wN rfl) rfl rfl rfl rfl rfl rfl rfl (by simp) rfl fun a w S => ?_
  refine sN S fun a S => ?_
  refine lT (ai _ _ ?_)
  obtain rfl := tS h
  have S := S.learn (fRep (rL rB) (.slice none 0 0) ([] : (List Bool))) (rL_nil _ _ _)
  have S := S.learn (fRep r_api_Grid (.agg #[iv 0, iv 0, .slice none 0 0]) (api_Grid.mk 0 0 ([] : (List Bool)))) ⟨_, rfl, S.mem.know (i := 0) (e := fRep (rL rB) (.slice none 0 0) ([] : (List Bool))) rfl⟩
  exact wp_ret (rThen (sRet (.tuple #[.agg #[iv 0, iv 0, .slice none 0 0], iv ab]) S (rsl2 rfl (rvN (c := 6) (t := 24) (T := 24) (p := b9) 0 [iv 0, iv 0, .slice none 0 0] S rfl rfl rfl rfl) (rvT (t := 7) (v := iv ab) S rfl)) ⟨(.agg #[iv 0, iv 0, .slice none 0 0]), rfl, S.mem.sel [] [0] (by decide) rfl rfl⟩))
 refine sCondF S rfl aa ?_
 refine wp_skip (leafT (ae _ _ ?_))
 refine sSeq (fun aA aj => ?_)
 obtain ⟨a4, ak, h⟩ := bS h
 obtain ⟨a5, am, h⟩ := bS h
 refine sDraw (nf := [8, 9]) (W := [(0, 15, iv p1), (1, 16, .pointer (some ⟨b6, 0, none⟩)), (2, 17, iv p0.W), (3, 18, iv a4), (4, 19, iv p2), (5, 20, .pointer (some ⟨b6, 1, none⟩)), (6, 21, iv p0.H), (7, 22, iv a5)]) rfl S ?_
 refine node_by (A := anc_grid_Shift_0) 10 (by kernel_rfl) (by kernel_rfl) (by kernel_rfl) (by kernel_rfl) (by kernel_rfl) [0, 1, 2, 3, 4, 5, 6, 7] (by kernel_rfl) (by decide) (by decide) (fF ?_ (fF ?_ (fF ?_ (fF ?_ (fF ?_ (fF ?_ (fF ?_ (fF ?_ (fN ?_ (aB 9 0 8 (by decide) (trivial))))))))))) [] (fun q hq => by cases hq) (fun hY => absurd (hY 8 (by decide)) (by decide))
 ·refine fJ [(4, _)] 0 [none] fun G a w S => ?_
  exact sLoad1 2 (iv p1) S (wN rfl) rfl rfl rfl rfl rfl rfl (lb rfl) fun a S => leafL ⟨rfl, S⟩
 ·refine fJ [(3, _)] 1 [none] fun G a w S => ?_
  exact sField (b := b6) (off := 0) 0 0 S (wN rfl) rfl rfl rfl rfl rfl (lb rfl) fun a S => leafL ⟨rfl, S⟩
 ·refine fJ [(16, _)] 2 [some 1] fun G a w S => ?_
  exact sLoad1 3 (iv p0.W) S (wN rfl) rfl rfl rfl rfl rfl rfl (lb rfl) fun a S => leafL ⟨rfl, S⟩
 ·refine fJ [(15, _), (17, _)] 3 [some 0, some 2] fun G a w S => ?_
  have S1 := S.mem
  refine sCq [iv p1, iv p0.W] (iv a4) S callee63 (S1.quiet [] rfl) (fun E1 w1 S1 => c_grid_around E1 w1 p1 p0.W a4 ak S1) fun a w S => ?_
  exact leafL ⟨rfl, S⟩
 ·refine fJ [(5, _)] 4 [none] fun G a w S => ?_
  exact sLoad1 1 (iv p2) S (wN rfl) rfl rfl rfl rfl rfl rfl (lb rfl) fun a S => leafL ⟨rfl, S⟩
 ·refine fJ [(3, _)] 5 [none] fun G a w S => ?_
  exact sField (b := b6) (off := 0) 1 1 S (wN rfl) rfl rfl rfl rfl rfl (lb rfl) fun a S => leafL ⟨rfl, S⟩
 ·refine fJ [(20, _)] 6 [some 5] fun G a w S => ?_
  exact sLoad1 3 (iv p0.H) S (wN rfl) rfl rfl rfl rfl rfl rfl (lb rfl) fun a S => leafL ⟨rfl, S⟩
 ·refine fJ [(19, _), (21, _)] 7 [some 4, some 6] fun G a w S => ?_
  have S1 := S.mem
  refine sCq [iv p2, iv p0.H] (iv a5) S callee63 (S1.quiet [] rfl) (fun E1 w1 S1 => c_grid_around E1 w1 p2 p0.H a5 am S1) fun a w S => ?_
  exact leafL ⟨rfl, S⟩
 refine ⟨_, [(4, .pointer (some ⟨b7, 0, none⟩)), (18, iv a4)], rfl, (srcs_of [none, some 3] rfl rfl rfl), fun G a w S => ?_⟩
 refine sStore (p := b7) (off := 0) (T := 3) (vs := [iv p1]) (v := iv a4) 2 [iv a4] S (wN rfl) rfl rfl rfl rfl rfl rfl rfl (by simp) rfl fun a w S => ?_
 refine leafL ⟨rfl, _, _, .inr ⟨[], rfl, S, hz_of rfl, ?_⟩⟩
 refine node_by (A := anc_grid_Shift_0) 10 (by kernel_rfl) (by kernel_rfl) (by kernel_rfl) (by kernel_rfl) (by kernel_rfl) [0, 1, 2, 3, 4, 5, 6, 7] (by kernel_rfl) (by decide) (by decide) (fD 8 (fD 8 (fD 8 (fD 8 (fD 8 (fD 8 (fD 8 (fD 8 (fY (fN ?_ (trivial))))))))))) [] (fun q hq => by cases hq) (fun hY => absurd (hY 9 (by decide)) (by decide))
 refine ⟨_, [(5, .pointer (some ⟨b8, 0, none⟩)), (22, iv a5)], rfl, (srcs_of [none, some 7] rfl rfl rfl), fun G a w S => ?_⟩
 refine sStore (p := b8) (off := 0) (T := 3) (vs := [iv p2]) (v := iv a5) 2 [iv a5] S (wN rfl) rfl rfl rfl rfl rfl rfl rfl (by simp) rfl fun a w S => ?_
 refine leafL ⟨rfl, _, _, .inr ⟨[], rfl, S, hz_of rfl, ?_⟩⟩
 refine node_by (A := anc_grid_Shift_0) 10 (by kernel_rfl) (by kernel_rfl) (by kernel_rfl) (by kernel_rfl) (by kernel_rfl) [0, 1, 2, 3, 4, 5, 6, 7] (by kernel_rfl) (by decide) (by decide) (fD 9 (fD 9 (fD 9 (fD 9 (fD 9 (fD 9 (fD 9 (fD 9 (fY (fY (trivial))))))))))) [(3, .pointer (some ⟨b6, 0, none⟩)), (4, .pointer (some ⟨b7, 0, none⟩)), (5, .pointer (some ⟨b8, 0, none⟩)), (6, .pointer (some ⟨b9, 0, none⟩))] (fin_of [none, none, none, none] rfl (by kernel_rfl) (by kernel_rfl)) (fun _ a w S => ?_)
 refine leafT (aj _ _ ?_)
 refine sSeq (fun aC ao => sRegion (sField (b := b6) (off := 0) 0 0 S (wN rfl) rfl rfl rfl rfl rfl (lb rfl) fun a S => ?_))
 refine sLoad1 3 (iv p0.W) S (wN rfl) rfl rfl rfl rfl rfl rfl (lb rfl) fun a S => ?_
 refine sField (b := b6) (off := 0) 1 1 S (wN rfl) rfl rfl rfl rfl rfl (lb rfl) fun a S => ?_
 refine sLoad1 3 (iv p0.H) S (wN rfl) rfl rfl rfl rfl rfl rfl (lb rfl) fun a S => ?_
 refine sFunc (g := 65) (vs := [.pointer (some ⟨b6, 0, none⟩), .pointer (some ⟨b8, 0, none⟩), .pointer (some ⟨b7, 0, none⟩)]) S (wN rfl) rfl rfl rfl (lb rfl) fun a S => ?_
 obtain ⟨a0, ap, h⟩ := bS h
 have S := S.shutB (r := r_api_Grid) (T := 24) (b := b6) (cs := [iv p0.W, iv p0.H, .slice a8 p0.Bits.length a9]) 3 (.agg #[iv p0.W, iv p0.H, .slice a8 p0.Bits.length a9]) p0 rfl rfl (S.mem.know (i := 1) (e := fRep r_api_Grid (.agg #[iv p0.W, iv p0.H, .slice a8 p0.Bits.length a9]) p0) rfl)
 have S := S.shutB (r := (rI .i64)) (T := 3) (b := b8) (cs := [iv a5]) 0 (iv a5) a5 rfl rfl (rfl)
 have S := S.shutB (r := (rI .i64)) (T := 3) (b := b7) (cs := [iv a4]) 0 (iv a4) a4 rfl rfl (rfl)
 refine sCall (X := Value) (f := 64) (vs := [iv p0.W, iv p0.H, .func (.func 65) #[] #[.pointer (some ⟨b6, 0, none⟩), .pointer (some ⟨b8, 0, none⟩), .pointer (some ⟨b7, 0, none⟩)]]) (val := c_grid_build_s0_val a0) (B' := fun _ => []) (D' := c_grid_build_s0_D a0) [] [eBox b9 24 [iv 0, iv 0, .slice none 0 0]] [fPtr r_api_Grid (.pointer (some ⟨b6, 0, none⟩)) p0, fPtr (rI .i64) (.pointer (some ⟨b8, 0, none⟩)) a5, fPtr (rI .i64) (.pointer (some ⟨b7, 0, none⟩)) a4] [0] [2, 1, 0] S (wN rfl) rfl callee64 rfl (by decide) rfl rfl (fun E1 w1 S1 => c_grid_build_s0 E1 w1 p0.W p0.H p0 (.pointer (some ⟨b6, 0, none⟩)) a5 (.pointer (some ⟨b8, 0, none⟩)) a4 (.pointer (some ⟨b7, 0, none⟩)) a0 ap S1) rfl (lb rfl) fun au a w S => ?_
 obtain ⟨av, rfl, ac⟩ := S.mem.know (i := 0) (e := fRep r_api_Grid (au) a0) rfl
 have S := S.learn (fRep (rL rB) av a0.Bits) ac
 obtain ⟨a6, a7, _, rfl, _⟩ := ac
 refine sStore (p := b9) (off := 0) (T := 24) (vs := [iv 0, iv 0, .slice none 0 0]) (v := .agg #[iv a0.W, iv a0.H, .slice a6 a0.Bits.length a7]) 0 [iv a0.W, iv a0.H, .slice a6 a0.Bits.length a7] S (wN rfl) rfl rfl rfl rfl rfl rfl rfl (by simp) rfl fun a w S => ?_
 refine sN S fun a S => ?_
 refine lT (ao _ _ ?_)
 obtain rfl := tS h
 exact wp_ret (sRet (.tuple #[.agg #[iv a0.W, iv a0.H, .slice a6 a0.Bits.length a7], iv 0]) S (rsl2 rfl (rvN (c := 6) (t := 24) (T := 24) (p := b9) 0 [iv a0.W, iv a0.H, .slice a6 a0.Bits.length a7] S rfl rfl rfl rfl) (rvT (t := 7) (v := iv 0) S rfl)) ⟨(.agg #[iv a0.W, iv a0.H, .slice a6 a0.Bits.length a7]), rfl, S.mem.sel [] [1] (by decide) rfl rfl⟩)
noncomputable def compare_ways_1_l1 {σ τ : Type} (p1 : api_Grid) (a5 : (api_Grid × Int)) (a4 : Int) (B : σ → (compare_way × api_Grid) → Option (σ ⊕ τ)) (s6 : Int) : (Int × σ) → Option ((Int × σ) ⊕ ((σ ⊕ τ) ⊕ (σ))) := fun s0 => match s0 with
 | (a0, gz54) =>
  if decide (a0 < p1.W) then
   (F_grid_Shift a5.1 a0 a4).bind fun a6 =>
   (B gz54 ((compare_way.mk s6 (api_Point.mk a0 a4)), a6.1)).bind fun a7 =>
   match a7 with
   | .inl gz82 =>
    some (.inl (w64 (a0 + 1), gz82))
   | .inr tz83 =>
    some (.inr (.inl (.inr tz83)))
  else
   some (.inr (.inr gz54))
noncomputable def compare_ways_1_l2 {σ τ : Type} (p1 : api_Grid) (a4 : (api_Grid × Int)) (B : σ → (compare_way × api_Grid) → Option (σ ⊕ τ)) (s6 : Int) : (Int × σ) → Option ((Int × σ) ⊕ ((σ ⊕ τ) ⊕ (σ))) := fun s0 => match s0 with
 | (a0, gz37) =>
  if decide (a0 < p1.H) then
   Option.bind (α := σ ⊕ (σ ⊕ τ)) (
    (whileO (compare_ways_1_l1 p1 a4 a0 B s6) (0, gz37)).bind fun z0 => match z0 with
     | .inl z =>
      some (.inr z)
     | .inr gz58 =>
      some (.inl gz58)) fun z0 => match z0 with
    | .inl gz45 =>
     some (.inl (w64 (a0 + 1), gz45))
    | .inr z =>
     some (.inr (.inl z))
  else
   some (.inr (.inr gz37))
noncomputable def compare_ways_1_l3 {σ τ : Type} (x3 : Int) (p1 : api_Grid) (B : σ → (compare_way × api_Grid) → Option (σ ⊕ τ)) : (Int × σ) → Option ((Int × σ) ⊕ ((σ ⊕ τ) ⊕ (σ))) := fun s0 => match s0 with
 | (s6, gz7) =>
  if decide (s6 ≤ x3) then
   Option.bind (α := σ ⊕ (σ ⊕ τ)) (
    (F_symmetry_Apply p1 s6).bind fun a0 =>
    (whileO (compare_ways_1_l2 p1 a0 B s6) (0, gz7)).bind fun z0 => match z0 with
     | .inl z =>
      some (.inr z)
     | .inr gz41 =>
      some (.inl gz41)) fun z0 => match z0 with
    | .inl gz15 =>
     some (.inl (w64 (s6 + 1), gz15))
    | .inr z =>
     some (.inr (.inl z))
  else
   some (.inr (.inr gz7))
noncomputable def I_compare_ways_1 (p0 : Int) (p1 : api_Grid) (σ τ : Type) (B : σ → (compare_way × api_Grid) → Option (σ ⊕ τ)) (gz0 : σ) : Option (σ ⊕ τ) :=
 (idxO ([0, 3, 7, 15] : List Int) p0).bind fun x3 =>
 (whileO (compare_ways_1_l3 x3 p1 B) (0, gz0)).bind fun z0 => match z0 with
  | .inl z =>
   some z
  | .inr gz11 =>
   some (.inl gz11)
theorem it_compare_ways_1 (p0 : Int) (v0 : Value) (p1 : api_Grid) (v1 : Value) : SeqF Try.prog 81 #[v0, v1] (fA2 r_compare_way r_api_Grid) (I_compare_ways_1 p0 p1) [fPtr (rI .i64) (v0) p0, fPtr r_api_Grid (v1) p1] := by
 refine seqF_of (lb := [v0, v1]) (fun σ τ B gz0 r h l J Jx E w0 hC S hJ => ?_)
 unfold I_compare_ways_1 at h
 refine sEnterI (args := [.func (.yield l) #[] #[], v0, v1]) 54 Try.func81 rfl rfl (by simp) S (fun a S => ?_)
 refine sSeq (fun K1 bf => sRegion (sBuild [(0, iv 0), (1, iv 3), (2, iv 7), (3, iv 15)] [iv 0, iv 3, iv 7, iv 15] S (wN rfl) rfl rfl rfl rfl (lb rfl) fun a S => ?_))
 obtain ⟨u2, S⟩ := pLoad (r := (rI .i64)) (q := v0) (x := p0) 0 S rfl
 obtain rfl : u2 = iv p0 := S.mem.know (i := 1) (e := fRep (rI .i64) (u2) p0) rfl
 refine sLoadV1 (vq := v0) 0 (iv p0) S (wN rfl) rfl rfl rfl rfl rfl (lb rfl) fun a S => ?_
 obtain ⟨x3, bg, h⟩ := bS h
 refine sIndexA (g := fun z => .int .i64 z) (xs := ([0, 3, 7, 15] : List Int)) (j := p0) (k := .i64) 4 [iv 0, iv 3, iv 7, iv 15] S (wN rfl) rfl Try.underlying129 rfl rfl rfl rfl rfl rfl bg rfl (lb rfl) fun a S => ?_
 refine sN S fun a S => ?_
 refine lT (bf _ _ (sSeq (fun K5 bh => sRegion (sN S fun a S => ?_))))
 refine lT (bh _ _ (wp_block ?_))
 obtain ⟨bu, hl, g9⟩ := bS h
 refine sLoop hl (fun s0 a w => match s0 with | (s6, gz7) => ∃ E w0, J gz7 E w0 ∧ St [] E [] w0 54 a w [(0, .func (.yield l) #[] #[]), (2, v1), (4, iv x3), (5, iv s6)] [] [fPtr r_api_Grid (v1) p1]) ⟨_, _, hJ, S.fix [] [3] (by decide) rfl rfl rfl⟩ ?_
 clear hl h
 intro s0 a w c0 hI h aT
 obtain ⟨s6, gz7⟩ := s0
 unfold compare_ways_1_l3 at h
 dsimp only at h hI
 obtain ⟨E, w0, hJ, S⟩ := hI
 refine sSeq (fun bv av => sSeq (fun bw aw => sRegion (sM S fun a S => ?_)))
 refine sM S fun a S => ?_
 refine sBin _ S (wN rfl) rfl rfl rfl (bLe _ _ _ _ .i64 s6 x3) rfl (lb rfl) fun a S => ?_
 refine lT (aw _ _ ?_)
 rcases iS h with ⟨ah, h⟩ | ⟨ah, h⟩
 rotate_left
 ·refine sCondF S rfl ah ?_
  obtain rfl := tS h
  obtain rfl := aT _ rfl
  have h := g9
  try dsimp only at h
  exact wp_exit (xThen (xThen (xHit (sEnd (.tuple #[]) S (res0 rfl) (sGoI S hC hJ (Option.some.inj h) _)))))
 refine sCondT S rfl ah ?_
 refine wp_skip (leafT (av _ _ ?_))
 obtain ⟨bi, h, aU⟩ := bS h
 refine sCut (fun a w => ∃ gz15, .inl gz15 = bi ∧ ∃ E w0, J gz15 E w0 ∧ St [] E [] w0 54 a w [(0, .func (.yield l) #[] #[]), (2, v1), (4, iv x3), (5, iv s6)] [] [fPtr r_api_Grid (v1) p1]) ?_ (fun a w hI => ?_)
 rotate_left
 ·obtain ⟨gz15, rfl, E, w0, hJ, S⟩ := hI
  have h := aU
  try dsimp only at h
  refine sRegion (sM S fun a S => ?_)
  refine sBin _ S (wN rfl) rfl rfl rfl (bAdd _ _ _ _ s6 1) rfl (lb rfl) fun a S => ?_
  refine sN S fun a S => ?_
  exact lT (⟨(w64 (s6 + 1), gz15), (Option.some.inj h).symm, ⟨_, _, hJ, S.fix [] [0] (by decide) rfl rfl rfl⟩⟩)
 refine wp_block ?_
 refine sSeq (fun bx ax => sRegion ?_)
 obtain ⟨bj, S⟩ := pLoad (r := r_api_Grid) (q := v1) (x := p1) 0 S rfl
 obtain ⟨bk, rfl, ak⟩ := S.mem.know (i := 1) (e := fRep r_api_Grid (bj) p1) rfl
 have S := S.learn (fRep (rL rB) bk p1.Bits) ak
 obtain ⟨ac, ae, _, rfl, _⟩ := ak
 refine sLoadVN (vq := v1) 1 [iv p1.W, iv p1.H, .slice ac p1.Bits.length ae] S (wN rfl) rfl rfl rfl rfl rfl rfl (lb rfl) fun a S => ?_
 refine sM S fun a S => ?_
 obtain ⟨a0, ay, h⟩ := bS h
 refine sCall (X := Value) (f := 33) (vs := [.agg #[iv p1.W, iv p1.H, .slice ac p1.Bits.length ae], iv s6]) (val := c_symmetry_Apply_val a0) (B' := fun _ => []) (D' := c_symmetry_Apply_D a0) [] [] [fRep r_api_Grid (.agg #[iv p1.W, iv p1.H, .slice ac p1.Bits.length ae]) p1] [] [2] S (wN rfl) rfl callee33 rfl (by decide) rfl rfl (fun E1 w1 S1 => c_symmetry_Apply E1 w1 p1 (.agg #[iv p1.W, iv p1.H, .slice ac p1.Bits.length ae]) s6 a0 ay S1) rfl (lb rfl) fun bl a w S => ?_
 obtain ⟨bm, rfl, am⟩ := S.mem.know (i := 0) (e := fRep r_api_Grid (bl) a0.1) rfl
 have S := S.learn (fRep (rL rB) bm a0.1.Bits) am
 obtain ⟨a8, a9, _, rfl, _⟩ := am
 refine sM S fun a S => ?_
 refine sExtract (vs := [.agg #[iv a0.1.W, iv a0.1.H, .slice a8 a0.1.Bits.length a9], iv a0.2]) (.agg #[iv a0.1.W, iv a0.1.H, .slice a8 a0.1.Bits.length a9]) S (wN rfl) rfl rfl rfl rfl (lb rfl) fun a S => ?_
 refine sExtract (vs := [.agg #[iv a0.1.W, iv a0.1.H, .slice a8 a0.1.Bits.length a9], iv a0.2]) (iv a0.2) S (wN rfl) rfl rfl rfl rfl (lb rfl) fun a S => ?_
 refine sAlloc (.agg #[iv 0, iv 0, .slice none 0 0]) S (wN rfl) rfl rfl [iv 0, iv 0, .slice none 0 0] rfl rfl (lb rfl) fun a ab w S => ?_
 refine sStore (p := ab) (off := 0) (T := 24) (vs := [iv 0, iv 0, .slice none 0 0]) (v := .agg #[iv a0.1.W, iv a0.1.H, .slice a8 a0.1.Bits.length a9]) 0 [iv a0.1.W, iv a0.1.H, .slice a8 a0.1.Bits.length a9] S (wN rfl) rfl rfl rfl rfl rfl rfl rfl (by simp) rfl fun a w S => ?_
 refine sN S fun a S => ?_
 refine lT (ax _ _ (sSeq (fun bz az => sRegion ?_)))
 obtain ⟨aV, aA, S⟩ := pFld (P := Try.prog) (r := r_api_Grid) (s2 := (rI .i64)) (g := (·.H)) (q := v1) (z := p1) 24 1 5 1 S rfl rfl comp_api_Grid_H
 refine sFldV (q := v1) S (wN rfl) rfl rfl aA rfl (lb rfl) fun a S => ?_
 obtain ⟨aW, S⟩ := pLoad (r := (rI .i64)) (q := aV) (x := p1.H) 0 S rfl
 obtain rfl : aW = iv p1.H := S.mem.know (i := 1) (e := fRep (rI .i64) (aW) p1.H) rfl
 refine sLoadV1 (vq := aV) 0 (iv p1.H) S (wN rfl) rfl rfl rfl rfl rfl (lb rfl) fun a S => ?_
 refine sM S fun a S => ?_
 refine lT (az _ _ (wp_block ?_))
 have S := S.shutB (r := r_api_Grid) (T := 24) (b := ab) (cs := [iv a0.1.W, iv a0.1.H, .slice a8 a0.1.Bits.length a9]) 0 (.agg #[iv a0.1.W, iv a0.1.H, .slice a8 a0.1.Bits.length a9]) a0.1 rfl rfl (S.mem.know (i := 4) (e := fRep r_api_Grid (.agg #[iv a0.1.W, iv a0.1.H, .slice a8 a0.1.Bits.length a9]) a0.1) rfl)
 obtain ⟨bA, hl, aX⟩ := bS h
 refine sLoop hl (fun s0 a w => match s0 with | (a7, gz37) => ∃ E w0, J gz37 E w0 ∧ St [] E [] w0 54 a w [(0, .func (.yield l) #[] #[]), (2, v1), (4, iv x3), (5, iv s6), (6, .pointer (some ⟨ab, 0, none⟩)), (27, iv p1.H), (28, iv a7)] [] [fPtr r_api_Grid (v1) p1, fPtr r_api_Grid (.pointer (some ⟨ab, 0, none⟩)) a0.1]) ⟨_, _, hJ, S.fix [] [9, 0] (by decide) rfl rfl rfl⟩ ?_
 clear hl h
 intro s0 a w c0 hI h ao
 obtain ⟨a7, gz37⟩ := s0
 unfold compare_ways_1_l2 at h
 dsimp only at h hI
 obtain ⟨E, w0, hJ, S⟩ := hI
 refine sSeq (fun bB aC => sRegion (sBin _ S (wN rfl) rfl rfl rfl (bLt _ _ _ _ .i64 a7 p1.H) rfl (lb rfl) fun a S => ?_))
 refine lT (aC _ _ (sSeq (fun bC aG => ?_)))
 rcases iS h with ⟨ai, h⟩ | ⟨ai, h⟩
 rotate_left
 ·refine sCondF S rfl ai ?_
  obtain rfl := tS h
  obtain rfl := ao _ rfl
  have h := aX
  try dsimp only at h
  exact wp_exit (xThen (xThen (xHit (leafB (leafT (⟨gz37, Option.some.inj h, _, _, hJ, S.fix [] [0] (by decide) rfl rfl rfl⟩))))))
 refine sCondT S rfl ai ?_
 refine wp_skip (leafT (aG _ _ ?_))
 obtain ⟨bn, h, aZ⟩ := bS h
 refine sCut (fun a w => ∃ gz45, .inl gz45 = bn ∧ ∃ E w0, J gz45 E w0 ∧ St [] E [] w0 54 a w [(0, .func (.yield l) #[] #[]), (2, v1), (4, iv x3), (5, iv s6), (6, .pointer (some ⟨ab, 0, none⟩)), (27, iv p1.H), (28, iv a7)] [] [fPtr r_api_Grid (v1) p1, fPtr r_api_Grid (.pointer (some ⟨ab, 0, none⟩)) a0.1]) ?_ (fun a w hI => ?_)
 rotate_left
 ·obtain ⟨gz45, rfl, E, w0, hJ, S⟩ := hI
  have h := aZ
  try dsimp only at h
  refine sRegion (sBin _ S (wN rfl) rfl rfl rfl (bAdd _ _ _ _ a7 1) rfl (lb rfl) fun a S => ?_)
  refine sM S fun a S => ?_
  exact lT (⟨(w64 (a7 + 1), gz45), (Option.some.inj h).symm, ⟨_, _, hJ, S.fix [] [0, 1] (by decide) rfl rfl rfl⟩⟩)
 refine wp_block ?_
 refine sSeq (fun bD aH => sRegion (sM S fun a S => ?_))
 refine sN S fun a S => ?_
 refine lT (aH _ _ (sSeq (fun bE aI => sRegion ?_)))
 obtain ⟨ba, aJ, S⟩ := pFld (P := Try.prog) (r := r_api_Grid) (s2 := (rI .i64)) (g := (·.W)) (q := v1) (z := p1) 24 0 0 0 S rfl rfl comp_api_Grid_W
 refine sFldV (q := v1) S (wN rfl) rfl rfl aJ rfl (lb rfl) fun a S => ?_
 obtain ⟨bb, S⟩ := pLoad (r := (rI .i64)) (q := ba) (x := p1.W) 0 S rfl
 obtain rfl : bb = iv p1.W := S.mem.know (i := 1) (e := fRep (rI .i64) (bb) p1.W) rfl
 refine sLoadV1 (vq := ba) 0 (iv p1.W) S (wN rfl) rfl rfl rfl rfl rfl (lb rfl) fun a S => ?_
 refine sM S fun a S => ?_
 refine lT (aI _ _ (wp_block ?_))
 obtain ⟨bG, hl, bc⟩ := bS h
 refine sLoop hl (fun s0 a w => match s0 with | (aa, gz54) => ∃ E w0, J gz54 E w0 ∧ St [] E [] w0 54 a w [(0, .func (.yield l) #[] #[]), (2, v1), (4, iv x3), (5, iv s6), (6, .pointer (some ⟨ab, 0, none⟩)), (8, iv a7), (27, iv p1.H), (28, iv a7), (32, iv p1.W), (33, iv aa)] [] [fPtr r_api_Grid (v1) p1, fPtr r_api_Grid (.pointer (some ⟨ab, 0, none⟩)) a0.1]) ⟨_, _, hJ, S.fix [] [3, 4] (by decide) rfl rfl rfl⟩ ?_
 clear hl h
 intro s0 a w c0 hI h ap
 obtain ⟨aa, gz54⟩ := s0
 unfold compare_ways_1_l1 at h
 dsimp only at h hI
 obtain ⟨E, w0, hJ, S⟩ := hI
 refine sSeq (fun bH aK => sRegion (sBin _ S (wN rfl) rfl rfl rfl (bLt _ _ _ _ .i64 aa p1.W) rfl (lb rfl) fun a S => ?_))
 refine lT (aK _ _ (sSeq (fun bI aL => ?_)))
 rcases iS h with ⟨aj, h⟩ | ⟨aj, h⟩
 rotate_left
 ·refine sCondF S rfl aj ?_
  obtain rfl := tS h
  obtain rfl := ap _ rfl
  have h := bc
  try dsimp only at h
  exact wp_exit (xThen (xThen (xHit (leafB (leafT (⟨gz54, Option.some.inj h, _, _, hJ, S.fix [] [0, 1] (by decide) rfl rfl rfl⟩))))))
 refine sCondT S rfl aj ?_
 refine wp_skip (leafT (aL _ _ ?_))
 refine sSeq (fun bJ aM => wp_block ?_)
 refine sSeq (fun bK aO => sRegion (sM S fun a S => ?_))
 refine sN S fun a S => ?_
 refine lT (aO _ _ (sSeq (fun bL aP => sRegion ?_)))
 obtain ⟨bp, S⟩ := pLoad (r := r_api_Grid) (q := .pointer (some ⟨ab, 0, none⟩)) (x := a0.1) 1 S rfl
 obtain ⟨bq, rfl, aq⟩ := S.mem.know (i := 1) (e := fRep r_api_Grid (bp) a0.1) rfl
 have S := S.learn (fRep (rL rB) bq a0.1.Bits) aq
 obtain ⟨af, ag, _, rfl, _⟩ := aq
 refine sLoadVN (vq := .pointer (some ⟨ab, 0, none⟩)) 1 [iv a0.1.W, iv a0.1.H, .slice af a0.1.Bits.length ag] S (wN rfl) rfl rfl rfl rfl rfl rfl (lb rfl) fun a S => ?_
 refine sM S fun a S => ?_
 refine sM S fun a S => ?_
 obtain ⟨a4, aQ, h⟩ := bS h
 refine sCall (X := Value) (f := 34) (vs := [.agg #[iv a0.1.W, iv a0.1.H, .slice af a0.1.Bits.length ag], iv aa, iv a7]) (val := c_grid_Shift_val a4) (B' := fun _ => []) (D' := c_grid_Shift_D a4) [] [] [fRep r_api_Grid (.agg #[iv a0.1.W, iv a0.1.H, .slice af a0.1.Bits.length ag]) a0.1] [] [2] S (wN rfl) rfl callee34 rfl (by decide) rfl rfl (fun E1 w1 S1 => c_grid_Shift E1 w1 a0.1 (.agg #[iv a0.1.W, iv a0.1.H, .slice af a0.1.Bits.length ag]) aa a7 a4 aQ S1) rfl (lb rfl) fun br a w S => ?_
 obtain ⟨bt, rfl, ar⟩ := S.mem.know (i := 0) (e := fRep r_api_Grid (br) a4.1) rfl
 have S := S.learn (fRep (rL rB) bt a4.1.Bits) ar
 obtain ⟨a5, a6, _, rfl, _⟩ := ar
 refine sM S fun a S => ?_
 refine sExtract (vs := [.agg #[iv a4.1.W, iv a4.1.H, .slice a5 a4.1.Bits.length a6], iv a4.2]) (.agg #[iv a4.1.W, iv a4.1.H, .slice a5 a4.1.Bits.length a6]) S (wN rfl) rfl rfl rfl rfl (lb rfl) fun a S => ?_
 refine sExtract (vs := [.agg #[iv a4.1.W, iv a4.1.H, .slice a5 a4.1.Bits.length a6], iv a4.2]) (iv a4.2) S (wN rfl) rfl rfl rfl rfl (lb rfl) fun a S => ?_
 refine sAlloc (.agg #[iv 0, iv 0, .slice none 0 0]) S (wN rfl) rfl rfl [iv 0, iv 0, .slice none 0 0] rfl rfl (lb rfl) fun a aR w S => ?_
 refine sStore (p := aR) (off := 0) (T := 24) (vs := [iv 0, iv 0, .slice none 0 0]) (v := .agg #[iv a4.1.W, iv a4.1.H, .slice a5 a4.1.Bits.length a6]) 0 [iv a4.1.W, iv a4.1.H, .slice a5 a4.1.Bits.length a6] S (wN rfl) rfl rfl rfl rfl rfl rfl rfl (by simp) rfl fun a w S => ?_
 refine sN S fun a S => ?_
 refine lT (aP _ _ (sSeq (fun bM au => sRegionY ?_)))
 refine sSplitR (by repeat (first | exact roundU_out | exact it_out | exact lo_false | refine lo_then ?_ | refine lo_block ?_)) 7 rfl (fun bN aS => ?_)
 refine sM S fun a S => ?_
 refine sM S fun a S => ?_
 refine sM S fun a S => ?_
 refine sM S fun a S => ?_
 refine sBuild [(0, iv aa), (1, iv a7)] [iv aa, iv a7] S (wN rfl) rfl rfl rfl rfl (lb rfl) fun a S => ?_
 refine sBuild [(0, iv s6), (1, .agg #[iv aa, iv a7])] [iv s6, iv aa, iv a7] S (wN rfl) rfl rfl rfl rfl (lb rfl) fun a S => ?_
 refine sLoadN (p := aR) (off := 0) (T := 24) (vs := [iv a4.1.W, iv a4.1.H, .slice a5 a4.1.Bits.length a6]) 0 [iv a4.1.W, iv a4.1.H, .slice a5 a4.1.Bits.length a6] S (wN rfl) rfl rfl rfl rfl rfl rfl rfl (lb rfl) fun a S => ?_
 refine leafL ⟨rfl, aS _ _ ?_⟩
 have S := S.shutB (r := r_api_Grid) (T := 24) (b := aR) (cs := [iv a4.1.W, iv a4.1.H, .slice a5 a4.1.Bits.length a6]) 0 (.agg #[iv a4.1.W, iv a4.1.H, .slice a5 a4.1.Bits.length a6]) a4.1 rfl rfl (S.mem.know (i := 1) (e := fRep r_api_Grid (.agg #[iv a4.1.W, iv a4.1.H, .slice a5 a4.1.Bits.length a6]) a4.1) rfl)
 have S := S.learn (fRep r_compare_way (.agg #[iv s6, iv aa, iv a7]) (compare_way.mk s6 (api_Point.mk aa a7))) rfl
 obtain ⟨bO, hy81, h⟩ := bS h
 refine sYieldI ((compare_way.mk s6 (api_Point.mk aa a7)), a4.1) [.agg #[iv s6, iv aa, iv a7], .agg #[iv a4.1.W, iv a4.1.H, .slice a5 a4.1.Bits.length a6]] S hC hJ hy81 (fA2_mk (S.mem.know (i := 0) (e := fRep r_compare_way (.agg #[iv s6, iv aa, iv a7]) (compare_way.mk s6 (api_Point.mk aa a7))) rfl) (S.mem.know (i := 3) (e := fRep r_api_Grid (.agg #[iv a4.1.W, iv a4.1.H, .slice a5 a4.1.Bits.length a6]) a4.1) rfl)) (wN rfl) rfl rfl rfl rfl (by decide) (fun gz82 E a w hb hJ S => ?_) (fun tz83 a w hb hJ S => ?_)
 ·obtain rfl := hb
  dsimp only at h
  refine list_inR (by repeat (first | exact roundU_out | exact it_out | exact lo_false | refine lo_then ?_ | refine lo_block ?_)) _ rfl _ _ ?_
  refine sNot (b := true) S (wN rfl) rfl rfl rfl (lb rfl) fun a S => ?_
  refine lT (au _ _ (sCondF S rfl rfl ?_))
  refine wp_skip (leafB (leafT (aM _ _ ?_)))
  refine sRegion (sBin _ S (wN rfl) rfl rfl rfl (bAdd _ _ _ _ aa 1) rfl (lb rfl) fun a S => ?_)
  refine sM S fun a S => ?_
  exact lT (⟨(w64 (aa + 1), gz82), (Option.some.inj h).symm, ⟨_, _, hJ, S.fix [] [7, 8] (by decide) rfl rfl rfl⟩⟩)
 ·obtain rfl := hb
  dsimp only at h
  refine list_inR (by repeat (first | exact roundU_out | exact it_out | exact lo_false | refine lo_then ?_ | refine lo_block ?_)) _ rfl _ _ ?_
  refine sNot (b := false) S (wN rfl) rfl rfl rfl (lb rfl) fun a S => ?_
  refine lT (au _ _ (sCondT S rfl rfl ?_))
  obtain rfl := tS h
  obtain rfl := ap _ rfl
  have h := bc
  try dsimp only at h
  obtain rfl := tS h
  have h := aZ
  try dsimp only at h
  obtain rfl := tS h
  obtain rfl := ao _ rfl
  have h := aX
  try dsimp only at h
  obtain rfl := tS h
  have h := aU
  try dsimp only at h
  obtain rfl := tS h
  obtain rfl := aT _ rfl
  have h := g9
  try dsimp only at h
  exact wp_ret (rBlock (rThen (rThen (rBlock (rBlock (rThen (rThen (rBlock (rBlock (rThen (rThen (rBlock (sRet (.tuple #[]) S (res0 rfl) (sStopI S hC hJ (Option.some.inj h) _))))))))))))))
def anc_compare_Nearest_0 : List (List Nat) := [[], [], [1], [], [3], [0], [0, 1, 2, 5], [0, 1, 2, 3, 4, 5, 6], [0, 1, 2, 3, 4, 5, 6, 7]]
noncomputable def compare_Nearest_l2 (p1 : api_Grid) : (Int × Int × Int × Int) → (compare_way × api_Grid) → Option ((Int × Int × Int × Int) ⊕ (Int × Int × Int × Int)) := fun s0 x0 => match s0, x0 with
 | (a5, aa, ab, ac), (a0, ae) =>
  Option.bind (α := (Int × Int × Int × Int)) (
   (F_compare_differ ae.Bits p1.Bits).bind fun a6 =>
   if decide (a6 < a5) then
    some (a6, a0.op, a0.at_.X, a0.at_.Y)
   else
    some (a5, aa, ab, ac)) fun (a4, a7, a8, a9) =>
  if a4 == 0 then
   some (.inr (a4, a7, a8, a9))
  else
   some (.inl (a4, a7, a8, a9))
noncomputable def F_compare_Nearest (p0 : api_Grid) (p1 : api_Grid) (p2 : Int) : Option (Int × Int × api_Point × Int) :=
 (F_grid_Check p0).bind fun a0 =>
 if a0 != 0 then
  some (0, 0, (api_Point.mk 0 0), a0)
 else
  (F_grid_Check p1).bind fun a4 =>
  if a4 != 0 then
   some (0, 0, (api_Point.mk 0 0), a4)
  else
   if decide (16 < (max4 p0.W p0.H p1.W p1.H)) then
    some (0, 0, (api_Point.mk 0 0), 4)
   else
    Option.bind (α := Bool) (
     if decide (p2 < 0) then
      some true
     else
      if decide (3 < p2) then
       some true
      else
       if p0.W != p1.W then
        some true
       else
        if p0.H != p1.H then
         some true
        else
         if decide (1 < p2) then
          some (p0.W != p0.H)
         else
          some false) fun a6 =>
    if a6 then
     some (0, 0, (api_Point.mk 0 0), 2)
    else
     Option.bind (α := (Int × Int × Int × Int)) (
      (F_compare_ways p0 p2).bind fun a5 =>
      (I_compare_ways_1 a5.1 a5.2 _ _ (compare_Nearest_l2 p1) (w64 ((p0.Bits.length : Int) + 1), 0, 0, 0)).bind fun z0 => match z0 with
       | .inl (a7, a8, a9, aa) =>
        some (a7, a8, a9, aa)
       | .inr (ab, ac, ae, af) =>
        some (ab, ac, ae, af)) fun (ag, ah, ai, aj) =>
     some (ag, ah, (api_Point.mk ai aj), 0)
def c_compare_Nearest_val (r : (Int × Int × api_Point × Int)) (x : Value) : Value := .tuple #[.int .i64 r.1, .int .i64 r.2.1, x, .int .i64 r.2.2.2]
def c_compare_Nearest_D (r : (Int × Int × api_Point × Int)) (x : Value) : List Fact := [fRep r_api_Point x r.2.2.1]
theorem c_compare_Nearest (E : Nat → Prop) (w0 : World) (p0 : api_Grid) (v0 : Value) (p1 : api_Grid) (v1 : Value) (p2 : Int) (r : (Int × Int × api_Point × Int)) (h : F_compare_Nearest p0 p1 p2 = some r) (S : St0 E [] w0 w0 [] [fRep r_api_Grid (v0) p0, fRep r_api_Grid (v1) p1]) :
 Calls Try.prog 16 #[v0, v1, iv p2] w0 (Ret (X := Value) E [] w0 (c_compare_Nearest_val r) (fun _ => []) (c_compare_Nearest_D r)) := by
 unfold F_compare_Nearest at h
 obtain ⟨u1, rfl, bJ⟩ := S.know (i := 0) (e := fRep r_api_Grid (v0) p0) rfl
 have S := S.learn (fRep (rL rB) u1 p0.Bits) bJ
 obtain ⟨ae, af, _, rfl, _⟩ := bJ
 obtain ⟨u5, rfl, bK⟩ := S.know (i := 2) (e := fRep r_api_Grid (v1) p1) rfl
 have S := S.learn (fRep (rL rB) u5 p1.Bits) bK
 obtain ⟨a7, a8, _, rfl, _⟩ := bK
 refine sEnterM (args := [.agg #[iv p0.W, iv p0.H, .slice ae p0.Bits.length af], .agg #[iv p1.W, iv p1.H, .slice a7 p1.Bits.length a8], iv p2]) 99 Try.func16 rfl rfl (by simp) S (fun a S => ?_)
 refine sSeq (fun K9 bN => sRegion (sBox (v := .agg #[iv p0.W, iv p0.H, .slice ae p0.Bits.length af]) S (wN rfl) rfl rfl [iv p0.W, iv p0.H, .slice ae p0.Bits.length af] rfl rfl (lb rfl) fun a ar w S => ?_))
 refine sBox (v := .agg #[iv p1.W, iv p1.H, .slice a7 p1.Bits.length a8]) S (wN rfl) rfl rfl [iv p1.W, iv p1.H, .slice a7 p1.Bits.length a8] rfl rfl (lb rfl) fun a ag w S => ?_
 refine sN S fun a S => ?_
 refine sN S fun a S => ?_
 refine sAlloc (.agg #[iv 0, iv 0]) S (wN rfl) rfl rfl [iv 0, iv 0] rfl rfl (lb rfl) fun a a4 w S => ?_
 refine sN S fun a S => ?_
 refine lT (bN _ _ (sSeq (fun bY bf => sSeq (fun bZ bg => sRegion (sLoadN (p := ar) (off := 0) (T := 24) (vs := [iv p0.W, iv p0.H, .slice ae p0.Bits.length af]) 2 [iv p0.W, iv p0.H, .slice ae p0.Bits.length af] S (wN rfl) rfl rfl rfl rfl rfl rfl rfl (lb rfl) fun a S => ?_)))))
 obtain ⟨aS, bh, h⟩ := bS h
 have S1 := S.mem
 refine sCq [.agg #[iv p0.W, iv p0.H, .slice ae p0.Bits.length af]] (iv aS) S callee45 (S1.quiet [2] rfl) (fun E1 w1 S1 => c_grid_Check E1 w1 p0 (.agg #[iv p0.W, iv p0.H, .slice ae p0.Bits.length af]) aS bh S1) fun a w S => ?_
 refine sN S fun a S => ?_
 refine lT (bg _ _ (sSeq (fun c5 bi => sRegion (sM S fun a S => ?_))))
 refine sBin _ S (wN rfl) rfl rfl rfl (bNe _ _ _ _ .i64 aS 0) rfl (lb rfl) fun a S => ?_
 refine lT (bi _ _ ?_)
 rcases iS h with ⟨aC, h⟩ | ⟨aC, h⟩
 ·refine sCondT S rfl aC ?_
  refine sSeq (fun c6 bj => sRegion (sBuild [] [iv 0, iv 0] S (wN rfl) rfl rfl rfl rfl (lb rfl) fun a S => ?_))
  refine sM S fun a S => ?_
  refine sN S fun a S => ?_
  refine sN S fun a S => ?_
  refine sStore (p := a4) (off := 0) (T := 33) (vs := [iv 0, iv 0]) (v := .agg #[iv 0, iv 0]) 0 [iv 0, iv 0] S (wN rfl) rfl rfl rfl rfl rfl rfl rfl (by simp) rfl fun a w S => ?_
  refine sN S fun a S => ?_
  refine lT (bj _ _ ?_)
  obtain rfl := tS h
  have S := S.learn (fRep r_api_Point (.agg #[iv 0, iv 0]) (api_Point.mk 0 0)) rfl
  exact wp_ret (rThen (sRetM0 (.tuple #[iv 0, iv 0, .agg #[iv 0, iv 0], iv aS]) S (rsl4 rfl (rvT (t := 6) (v := iv 0) S rfl) (rvT (t := 7) (v := iv 0) S rfl) (rvN (c := 8) (t := 33) (T := 33) (p := a4) 0 [iv 0, iv 0] S rfl rfl rfl rfl) (rvT (t := 9) (v := iv aS) S rfl)) ⟨(.agg #[iv 0, iv 0]), rfl, S.mem.sel [] [0] (by decide) rfl rfl⟩))
 refine sCondF S rfl aC ?_
 refine wp_skip (leafT (bf _ _ ?_))
 refine sSeq (fun c7 bk => sSeq (fun c8 bl => sRegion (sLoadN (p := ag) (off := 0) (T := 24) (vs := [iv p1.W, iv p1.H, .slice a7 p1.Bits.length a8]) 1 [iv p1.W, iv p1.H, .slice a7 p1.Bits.length a8] S (wN rfl) rfl rfl rfl rfl rfl rfl rfl (lb rfl) fun a S => ?_)))
 obtain ⟨aT, bm, h⟩ := bS h
 have S1 := S.mem
 refine sCq [.agg #[iv p1.W, iv p1.H, .slice a7 p1.Bits.length a8]] (iv aT) S callee45 (S1.quiet [3] rfl) (fun E1 w1 S1 => c_grid_Check E1 w1 p1 (.agg #[iv p1.W, iv p1.H, .slice a7 p1.Bits.length a8]) aT bm S1) fun a w S => ?_
 refine sN S fun a S => ?_
 refine lT (bl _ _ (sSeq (fun c9 bn => sRegion (sM S fun a S => ?_))))
 refine sBin _ S (wN rfl) rfl rfl rfl (bNe _ _ _ _ .i64 aT 0) rfl (lb rfl) fun a S => ?_
 refine lT (bn _ _ ?_)
 rcases iS h with ⟨aG, h⟩ | ⟨aG, h⟩
 ·refine sCondT S rfl aG ?_
  refine sSeq (fun ca bp => sRegion (sBuild [] [iv 0, iv 0] S (wN rfl) rfl rfl rfl rfl (lb rfl) fun a S => ?_))
  refine sM S fun a S => ?_
  refine sN S fun a S => ?_
  refine sN S fun a S => ?_
  refine sStore (p := a4) (off := 0) (T := 33) (vs := [iv 0, iv 0]) (v := .agg #[iv 0, iv 0]) 0 [iv 0, iv 0] S (wN rfl) rfl rfl rfl rfl rfl rfl rfl (by simp) rfl fun a w S => ?_
  refine sN S fun a S => ?_
  refine lT (bp _ _ ?_)
  obtain rfl := tS h
  have S := S.learn (fRep r_api_Point (.agg #[iv 0, iv 0]) (api_Point.mk 0 0)) rfl
  exact wp_ret (rThen (sRetM0 (.tuple #[iv 0, iv 0, .agg #[iv 0, iv 0], iv aT]) S (rsl4 rfl (rvT (t := 6) (v := iv 0) S rfl) (rvT (t := 7) (v := iv 0) S rfl) (rvN (c := 8) (t := 33) (T := 33) (p := a4) 0 [iv 0, iv 0] S rfl rfl rfl rfl) (rvT (t := 9) (v := iv aT) S rfl)) ⟨(.agg #[iv 0, iv 0]), rfl, S.mem.sel [] [0] (by decide) rfl rfl⟩))
 refine sCondF S rfl aG ?_
 refine wp_skip (leafT (bk _ _ ?_))
 refine sSeq (fun cb bq => sSeq (fun cc br => sRegion (sField (b := ar) (off := 0) 0 0 S (wN rfl) rfl rfl rfl rfl rfl (lb rfl) fun a S => ?_)))
 refine sLoad1 2 (iv p0.W) S (wN rfl) rfl rfl rfl rfl rfl rfl (lb rfl) fun a S => ?_
 refine sField (b := ar) (off := 0) 1 1 S (wN rfl) rfl rfl rfl rfl rfl (lb rfl) fun a S => ?_
 refine sLoad1 2 (iv p0.H) S (wN rfl) rfl rfl rfl rfl rfl rfl (lb rfl) fun a S => ?_
 refine sField (b := ag) (off := 0) 0 0 S (wN rfl) rfl rfl rfl rfl rfl (lb rfl) fun a S => ?_
 refine sLoad1 1 (iv p1.W) S (wN rfl) rfl rfl rfl rfl rfl rfl (lb rfl) fun a S => ?_
 refine sField (b := ag) (off := 0) 1 1 S (wN rfl) rfl rfl rfl rfl rfl (lb rfl) fun a S => ?_
 refine sLoad1 1 (iv p1.H) S (wN rfl) rfl rfl rfl rfl rfl rfl (lb rfl) fun a S => ?_
 refine sMax4 (p := p0.W) (q := p0.H) (r := p1.W) (s := p1.H) S (wN rfl) rfl rfl rfl rfl rfl rfl (lb rfl) fun a S => ?_
 refine sBin _ S (wN rfl) rfl rfl rfl (bGt _ _ _ _ .i64 (max4 p0.W p0.H p1.W p1.H) 16) rfl (lb rfl) fun a S => ?_
 refine lT (br _ _ ?_)
 rcases iS h with ⟨aH, h⟩ | ⟨aH, h⟩
 ·refine sCondT S rfl aH ?_
  refine sSeq (fun cd bt => sRegion (sBuild [] [iv 0, iv 0] S (wN rfl) rfl rfl rfl rfl (lb rfl) fun a S => ?_))
  refine sN S fun a S => ?_
  refine sN S fun a S => ?_
  refine sStore (p := a4) (off := 0) (T := 33) (vs := [iv 0, iv 0]) (v := .agg #[iv 0, iv 0]) 0 [iv 0, iv 0] S (wN rfl) rfl rfl rfl rfl rfl rfl rfl (by simp) rfl fun a w S => ?_
  refine sN S fun a S => ?_
  refine lT (bt _ _ ?_)
  obtain rfl := tS h
  have S := S.learn (fRep r_api_Point (.agg #[iv 0, iv 0]) (api_Point.mk 0 0)) rfl
  exact wp_ret (rThen (sRetM0 (.tuple #[iv 0, iv 0, .agg #[iv 0, iv 0], iv 4]) S (rsl4 rfl (rvT (t := 6) (v := iv 0) S rfl) (rvT (t := 7) (v := iv 0) S rfl) (rvN (c := 8) (t := 33) (T := 33) (p := a4) 0 [iv 0, iv 0] S rfl rfl rfl rfl) (rvT (t := 9) (v := iv 4) S rfl)) ⟨(.agg #[iv 0, iv 0]), rfl, S.mem.sel [] [0] (by decide) rfl rfl⟩))
 refine sCondF S rfl aH ?_
 refine wp_skip (leafT (bq _ _ ?_))
 refine sSeq (fun ce bu => ?_)
 obtain ⟨bO, h, bP⟩ := bS h
 refine sCut (fun a w => ∃ bv, bv = bO ∧ St [] E [] w0 99 a w [(2, iv p2), (3, .pointer (some ⟨ar, 0, none⟩)), (4, .pointer (some ⟨ag, 0, none⟩)), (8, .pointer (some ⟨a4, 0, none⟩)), (70, .bool bv)] [eBox ar 24 [iv p0.W, iv p0.H, .slice ae p0.Bits.length af], eBox ag 24 [iv p1.W, iv p1.H, .slice a7 p1.Bits.length a8], eBox a4 33 [iv 0, iv 0]] [fRep (rL rB) (.slice ae p0.Bits.length af) p0.Bits, fRep (rL rB) (.slice a7 p1.Bits.length a8) p1.Bits]) ?_ (fun a w hI => ?_)
 ·refine sRegion (sM S fun a S => ?_)
  refine sBin _ S (wN rfl) rfl rfl rfl (bLt _ _ _ _ .i64 p2 0) rfl (lb rfl) fun a S => ?_
  refine sM S fun a S => ?_
  rcases iS h with ⟨ap, h⟩ | ⟨ap, h⟩
  ·refine sSkN 2 2 false 42 S rfl rfl ap rfl fun a S => ?_
   refine sPickT (.bool true) S (wN rfl) rfl rfl ap rfl rfl (lb rfl) fun a S => ?_
   refine sM S fun a S => ?_
   refine sSkN 5 6 false 46 S rfl rfl rfl rfl fun a S => ?_
   refine sPickT (.bool true) S (wN rfl) rfl rfl rfl rfl rfl (lb rfl) fun a S => ?_
   refine sM S fun a S => ?_
   refine sSkN 5 13 false 53 S rfl rfl rfl rfl fun a S => ?_
   refine sPickT (.bool true) S (wN rfl) rfl rfl rfl rfl rfl (lb rfl) fun a S => ?_
   refine sM S fun a S => ?_
   refine sSkN 3 20 false 60 S rfl rfl rfl rfl fun a S => ?_
   refine sSkipU 23 true 63 64 S rfl rfl rfl rfl (lb rfl) fun a S => ?_
   refine sSkipU 23 true 63 65 S rfl rfl rfl rfl (lb rfl) fun a S => ?_
   refine sSkipU 23 true 63 66 S rfl rfl rfl rfl (lb rfl) fun a S => ?_
   refine sSkipU 23 true 63 67 S rfl rfl rfl rfl (lb rfl) fun a S => ?_
   refine sSkipU 23 true 63 68 S rfl rfl rfl rfl (lb rfl) fun a S => ?_
   refine sSk S rfl rfl rfl rfl rfl rfl fun a S => ?_
   refine sPickT (.bool true) S (wN rfl) rfl rfl rfl rfl rfl (lb rfl) fun a S => ?_
   exact lT (⟨true, Option.some.inj h, S.fix [2, 1, 0] [1, 0] (by decide) rfl rfl rfl⟩)
  refine sMove (iv p2) S (wG 2 false 42 rfl rfl rfl ap) (.inl rfl) rfl rfl (lb rfl) fun a S => ?_
  refine sBin _ S (wG 2 false 42 rfl rfl rfl ap) rfl rfl rfl (bGt _ _ _ _ .i64 p2 3) rfl (lb rfl) fun a S => ?_
  refine sPickF (.bool (decide (3 < p2))) S (wN rfl) rfl rfl ap rfl rfl (lb rfl) fun a S => ?_
  refine sM S fun a S => ?_
  rcases iS h with ⟨aa, h⟩ | ⟨aa, h⟩
  ·refine sSkN 5 6 false 46 S rfl rfl aa rfl fun a S => ?_
   refine sPickT (.bool true) S (wN rfl) rfl rfl aa rfl rfl (lb rfl) fun a S => ?_
   refine sM S fun a S => ?_
   refine sSkN 5 13 false 53 S rfl rfl rfl rfl fun a S => ?_
   refine sPickT (.bool true) S (wN rfl) rfl rfl rfl rfl rfl (lb rfl) fun a S => ?_
   refine sM S fun a S => ?_
   refine sSkN 3 20 false 60 S rfl rfl rfl rfl fun a S => ?_
   refine sSkipU 23 true 63 64 S rfl rfl rfl rfl (lb rfl) fun a S => ?_
   refine sSkipU 23 true 63 65 S rfl rfl rfl rfl (lb rfl) fun a S => ?_
   refine sSkipU 23 true 63 66 S rfl rfl rfl rfl (lb rfl) fun a S => ?_
   refine sSkipU 23 true 63 67 S rfl rfl rfl rfl (lb rfl) fun a S => ?_
   refine sSkipU 23 true 63 68 S rfl rfl rfl rfl (lb rfl) fun a S => ?_
   refine sSk S rfl rfl rfl rfl rfl rfl fun a S => ?_
   refine sPickT (.bool true) S (wN rfl) rfl rfl rfl rfl rfl (lb rfl) fun a S => ?_
   exact lT (⟨true, Option.some.inj h, S.fix [2, 1, 0] [1, 0] (by decide) rfl rfl rfl⟩)
  refine sField (b := ar) (off := 0) 0 0 S (wG 6 false 46 rfl rfl rfl aa) rfl rfl rfl rfl rfl (lb rfl) fun a S => ?_
  refine sLoad1 2 (iv p0.W) S (wG 6 false 46 rfl rfl rfl aa) rfl rfl rfl rfl rfl rfl (lb rfl) fun a S => ?_
  refine sField (b := ag) (off := 0) 0 0 S (wG 6 false 46 rfl rfl rfl aa) rfl rfl rfl rfl rfl (lb rfl) fun a S => ?_
  refine sLoad1 1 (iv p1.W) S (wG 6 false 46 rfl rfl rfl aa) rfl rfl rfl rfl rfl rfl (lb rfl) fun a S => ?_
  refine sBin _ S (wG 6 false 46 rfl rfl rfl aa) rfl rfl rfl (bNe _ _ _ _ .i64 p0.W p1.W) rfl (lb rfl) fun a S => ?_
  refine sPickF (.bool (p0.W != p1.W)) S (wN rfl) rfl rfl aa rfl rfl (lb rfl) fun a S => ?_
  refine sM S fun a S => ?_
  rcases iS h with ⟨ab, h⟩ | ⟨ab, h⟩
  ·refine sSkN 5 13 false 53 S rfl rfl ab rfl fun a S => ?_
   refine sPickT (.bool true) S (wN rfl) rfl rfl ab rfl rfl (lb rfl) fun a S => ?_
   refine sM S fun a S => ?_
   refine sSkN 3 20 false 60 S rfl rfl rfl rfl fun a S => ?_
   refine sSkipU 23 true 63 64 S rfl rfl rfl rfl (lb rfl) fun a S => ?_
   refine sSkipU 23 true 63 65 S rfl rfl rfl rfl (lb rfl) fun a S => ?_
   refine sSkipU 23 true 63 66 S rfl rfl rfl rfl (lb rfl) fun a S => ?_
   refine sSkipU 23 true 63 67 S rfl rfl rfl rfl (lb rfl) fun a S => ?_
   refine sSkipU 23 true 63 68 S rfl rfl rfl rfl (lb rfl) fun a S => ?_
   refine sSk S rfl rfl rfl rfl rfl rfl fun a S => ?_
   refine sPickT (.bool true) S (wN rfl) rfl rfl rfl rfl rfl (lb rfl) fun a S => ?_
   exact lT (⟨true, Option.some.inj h, S.fix [2, 1, 0] [1, 0] (by decide) rfl rfl rfl⟩)
  refine sField (b := ar) (off := 0) 1 1 S (wG 13 false 53 rfl rfl rfl ab) rfl rfl rfl rfl rfl (lb rfl) fun a S => ?_
  refine sLoad1 2 (iv p0.H) S (wG 13 false 53 rfl rfl rfl ab) rfl rfl rfl rfl rfl rfl (lb rfl) fun a S => ?_
  refine sField (b := ag) (off := 0) 1 1 S (wG 13 false 53 rfl rfl rfl ab) rfl rfl rfl rfl rfl (lb rfl) fun a S => ?_
  refine sLoad1 1 (iv p1.H) S (wG 13 false 53 rfl rfl rfl ab) rfl rfl rfl rfl rfl rfl (lb rfl) fun a S => ?_
  refine sBin _ S (wG 13 false 53 rfl rfl rfl ab) rfl rfl rfl (bNe _ _ _ _ .i64 p0.H p1.H) rfl (lb rfl) fun a S => ?_
  refine sPickF (.bool (p0.H != p1.H)) S (wN rfl) rfl rfl ab rfl rfl (lb rfl) fun a S => ?_
  refine sM S fun a S => ?_
  rcases iS h with ⟨a5, h⟩ | ⟨a5, h⟩
  ·refine sSkN 3 20 false 60 S rfl rfl a5 rfl fun a S => ?_
   refine sSkipU 23 true 63 64 S rfl rfl rfl rfl (lb rfl) fun a S => ?_
   refine sSkipU 23 true 63 65 S rfl rfl rfl rfl (lb rfl) fun a S => ?_
   refine sSkipU 23 true 63 66 S rfl rfl rfl rfl (lb rfl) fun a S => ?_
   refine sSkipU 23 true 63 67 S rfl rfl rfl rfl (lb rfl) fun a S => ?_
   refine sSkipU 23 true 63 68 S rfl rfl rfl rfl (lb rfl) fun a S => ?_
   refine sSk S rfl rfl rfl a5 rfl rfl fun a S => ?_
   refine sPickT (.bool true) S (wN rfl) rfl rfl a5 rfl rfl (lb rfl) fun a S => ?_
   exact lT (⟨true, Option.some.inj h, S.fix [2, 1, 0] [1, 0] (by decide) rfl rfl rfl⟩)
  refine sMove (iv p2) S (wG 20 false 60 rfl rfl rfl a5) (.inl rfl) rfl rfl (lb rfl) fun a S => ?_
  refine sBin _ S (wG 20 false 60 rfl rfl rfl a5) rfl rfl rfl (bGt _ _ _ _ .i64 p2 1) rfl (lb rfl) fun a S => ?_
  refine sMove (.bool (decide (1 < p2))) S (wG 20 false 60 rfl rfl rfl a5) (.inl rfl) rfl rfl (lb rfl) fun a S => ?_
  rcases iS h with ⟨ac, h⟩ | ⟨ac, h⟩
  rotate_left
  ·refine sSkN 5 23 true 63 S rfl rfl ac rfl fun a S => ?_
   refine sPickF (.bool false) S (wG 20 false 60 rfl rfl rfl a5) rfl rfl ac rfl rfl (lb rfl) fun a S => ?_
   refine sPickF (.bool false) S (wN rfl) rfl rfl a5 rfl rfl (lb rfl) fun a S => ?_
   exact lT (⟨false, Option.some.inj h, S.fix [2, 1, 0] [1, 0] (by decide) rfl rfl rfl⟩)
  refine sField (b := ar) (off := 0) 0 0 S (wG 23 true 63 rfl rfl rfl ac) rfl rfl rfl rfl rfl (lb rfl) fun a S => ?_
  refine sLoad1 2 (iv p0.W) S (wG 23 true 63 rfl rfl rfl ac) rfl rfl rfl rfl rfl rfl (lb rfl) fun a S => ?_
  refine sField (b := ar) (off := 0) 1 1 S (wG 23 true 63 rfl rfl rfl ac) rfl rfl rfl rfl rfl (lb rfl) fun a S => ?_
  refine sLoad1 2 (iv p0.H) S (wG 23 true 63 rfl rfl rfl ac) rfl rfl rfl rfl rfl rfl (lb rfl) fun a S => ?_
  refine sBin _ S (wG 23 true 63 rfl rfl rfl ac) rfl rfl rfl (bNe _ _ _ _ .i64 p0.W p0.H) rfl (lb rfl) fun a S => ?_
  refine sPickT (.bool (p0.W != p0.H)) S (wG 20 false 60 rfl rfl rfl a5) rfl rfl ac rfl rfl (lb rfl) fun a S => ?_
  refine sPickF (.bool (p0.W != p0.H)) S (wN rfl) rfl rfl a5 rfl rfl (lb rfl) fun a S => ?_
  exact lT (⟨p0.W != p0.H, Option.some.inj h, S.fix [2, 1, 0] [1, 0] (by decide) rfl rfl rfl⟩)
 obtain ⟨bv, rfl, S⟩ := hI
 have h := bP
 try dsimp only at h
 rcases iS h with ⟨aI, h⟩ | ⟨aI, h⟩
 ·refine sCondT S rfl aI ?_
  refine sSeq (fun cg bw => sRegion (sBuild [] [iv 0, iv 0] S (wN rfl) rfl rfl rfl rfl (lb rfl) fun a S => ?_))
  refine sN S fun a S => ?_
  refine sN S fun a S => ?_
  refine sStore (p := a4) (off := 0) (T := 33) (vs := [iv 0, iv 0]) (v := .agg #[iv 0, iv 0]) 2 [iv 0, iv 0] S (wN rfl) rfl rfl rfl rfl rfl rfl rfl (by simp) rfl fun a w S => ?_
  refine sN S fun a S => ?_
  refine lT (bw _ _ ?_)
  obtain rfl := tS h
  have S := S.learn (fRep r_api_Point (.agg #[iv 0, iv 0]) (api_Point.mk 0 0)) rfl
  exact wp_ret (rThen (sRetM0 (.tuple #[iv 0, iv 0, .agg #[iv 0, iv 0], iv 2]) S (rsl4 rfl (rvT (t := 6) (v := iv 0) S rfl) (rvT (t := 7) (v := iv 0) S rfl) (rvN (c := 8) (t := 33) (T := 33) (p := a4) 0 [iv 0, iv 0] S rfl rfl rfl rfl) (rvT (t := 9) (v := iv 2) S rfl)) ⟨(.agg #[iv 0, iv 0]), rfl, S.mem.sel [] [0] (by decide) rfl rfl⟩))
 refine sCondF S rfl aI ?_
 refine wp_skip (leafT (bu _ _ ?_))
 refine sSeq (fun ci bx => sRegion (sField (b := ar) (off := 0) 2 2 S (wN rfl) rfl rfl rfl rfl rfl (lb rfl) fun a S => ?_))
 refine sLoad1 0 (.slice ae p0.Bits.length af) S (wN rfl) rfl rfl rfl rfl rfl rfl (lb rfl) fun a S => ?_
 refine sLen S (wN rfl) rfl Try.underlying22 rfl rfl (lb rfl) fun a S => ?_
 refine sBin _ S (wN rfl) rfl rfl rfl (bAdd _ _ _ _ (p0.Bits.length : Int) 1) rfl (lb rfl) fun a S => ?_
 refine sBuild [] [iv 0, iv 0, iv 0] S (wN rfl) rfl rfl rfl rfl (lb rfl) fun a S => ?_
 refine sAlloc (iv 0) S (wN rfl) rfl rfl [iv 0] rfl rfl (lb rfl) fun a ah w S => ?_
 refine sAlloc (.agg #[iv 0, iv 0, iv 0]) S (wN rfl) rfl rfl [iv 0, iv 0, iv 0] rfl rfl (lb rfl) fun a a6 w S => ?_
 refine sStore (p := ah) (off := 0) (T := 3) (vs := [iv 0]) (v := iv (w64 ((p0.Bits.length : Int) + 1))) 1 [iv (w64 ((p0.Bits.length : Int) + 1))] S (wN rfl) rfl rfl rfl rfl rfl rfl rfl (by simp) rfl fun a w S => ?_
 refine sStore (p := a6) (off := 0) (T := 93) (vs := [iv 0, iv 0, iv 0]) (v := .agg #[iv 0, iv 0, iv 0]) 1 [iv 0, iv 0, iv 0] S (wN rfl) rfl rfl rfl rfl rfl rfl rfl (by simp) rfl fun a w S => ?_
 refine lT (bx _ _ ?_)
 obtain ⟨bQ, h, bR⟩ := bS h
 refine sCut (fun a w => ∃ ax, ∃ au, ∃ am, ∃ ao, (ax, au, am, ao) = bQ ∧ ∃ aJ, St [mark aJ] E [] w0 99 a w [(8, .pointer (some ⟨a4, 0, none⟩)), (12, .pointer (some ⟨ah, 0, none⟩)), (13, .pointer (some ⟨a6, 0, none⟩))] [eBox a4 33 [iv 0, iv 0], eBox ah 3 [iv ax], eBox a6 93 [iv au, iv am, iv ao], eDef aJ] []) ?_ (fun a w hI => ?_)
 rotate_left
 ·obtain ⟨ax, au, am, ao, rfl, aJ, S⟩ := hI
  have h := bR
  try dsimp only at h
  refine sSeq (fun cj bz => sDraw (nf := [7]) (W := [(0, 94, iv ax), (1, 95, .pointer (some ⟨a6, 0, none⟩)), (2, 96, iv au), (3, 97, .pointer (some ⟨a6, 1, none⟩)), (4, 98, .agg #[iv am, iv ao]), (5, 6, iv ax), (6, 7, iv au)]) rfl S ?_)
  refine node_by (A := anc_compare_Nearest_0) 9 (by kernel_rfl) (by kernel_rfl) (by kernel_rfl) (by kernel_rfl) (by kernel_rfl) [0, 1, 2, 3, 4, 5, 6] (by kernel_rfl) (by decide) (by decide) (fF ?_ (fF ?_ (fF ?_ (fF ?_ (fF ?_ (fF ?_ (fF ?_ (fN ?_ (fE 7 (trivial)))))))))) [] (fun q hq => by cases hq) (fun hY => absurd (hY 7 (by decide)) (by decide))
  ·refine fJ [(12, _)] 0 [none] fun G a w S => ?_
   exact sLoad1 1 (iv ax) S (wN rfl) rfl rfl rfl rfl rfl rfl (lb rfl) fun a S => leafL ⟨rfl, S⟩
  ·refine fJ [(13, _)] 1 [none] fun G a w S => ?_
   exact sField (b := a6) (off := 0) 0 0 S (wN rfl) rfl rfl rfl rfl rfl (lb rfl) fun a S => leafL ⟨rfl, S⟩
  ·refine fJ [(95, _)] 2 [some 1] fun G a w S => ?_
   exact sLoad1 2 (iv au) S (wN rfl) rfl rfl rfl rfl rfl rfl (lb rfl) fun a S => leafL ⟨rfl, S⟩
  ·refine fJ [(13, _)] 3 [none] fun G a w S => ?_
   exact sField (b := a6) (off := 0) 1 1 S (wN rfl) rfl rfl rfl rfl rfl (lb rfl) fun a S => leafL ⟨rfl, S⟩
  ·refine fJ [(97, _)] 4 [some 3] fun G a w S => ?_
   exact sLoadN (p := a6) (off := 1) (T := 93) (vs := [iv au, iv am, iv ao]) 2 [iv am, iv ao] S (wN rfl) rfl rfl rfl rfl rfl rfl rfl (lb rfl) fun a S => leafL ⟨rfl, S⟩
  ·exact fM 5 (some 0) rfl rfl rfl rfl (.inr rfl) rfl rfl rfl
  ·exact fM 6 (some 2) rfl rfl rfl rfl (.inr rfl) rfl rfl rfl
  refine ⟨_, [(8, .pointer (some ⟨a4, 0, none⟩)), (98, .agg #[iv am, iv ao])], rfl, (srcs_of [none, some 4] rfl rfl rfl), fun G a w S => ?_⟩
  refine sStore (p := a4) (off := 0) (T := 33) (vs := [iv 0, iv 0]) (v := .agg #[iv am, iv ao]) 0 [iv am, iv ao] S (wN rfl) rfl rfl rfl rfl rfl rfl rfl (by simp) rfl fun a w S => ?_
  refine leafL ⟨rfl, _, _, .inr ⟨[(8, 9, iv 0)], rfl, S, hz_of rfl, ?_⟩⟩
  refine node_by (A := anc_compare_Nearest_0) 9 (by kernel_rfl) (by kernel_rfl) (by kernel_rfl) (by kernel_rfl) (by kernel_rfl) [8, 0, 1, 2, 3, 4, 5, 6] (by kernel_rfl) (by decide) (by decide) (fD 7 (fD 7 (fD 7 (fD 7 (fD 7 (fD 7 (fD 7 (fY (fF ?_ (trivial)))))))))) [(6, iv ax), (7, iv au), (8, .pointer (some ⟨a4, 0, none⟩)), (9, iv 0)] (fin_of [some 6, some 7, none, some 0] rfl (by kernel_rfl) (by kernel_rfl)) (fun _ a w S => ?_)
  ·refine fJ [] 0 [] fun G a w S => ?_
   exact sN S fun a S => leafL ⟨rfl, S⟩
  refine leafT (bz _ _ ?_)
  refine wp_ret (sRetM1 3 S rfl (fun a w S => ?_))
  obtain rfl := tS h
  have S := S.learn (fRep r_api_Point (.agg #[iv am, iv ao]) (api_Point.mk am ao)) rfl
  exact sFin (.tuple #[iv ax, iv au, .agg #[iv am, iv ao], iv 0]) S (rsl4 rfl (rvT (t := 6) (v := iv ax) S rfl) (rvT (t := 7) (v := iv au) S rfl) (rvN (c := 8) (t := 33) (T := 33) (p := a4) 0 [iv am, iv ao] S rfl rfl rfl rfl) (rvT (t := 9) (v := iv 0) S rfl)) ⟨(.agg #[iv am, iv ao]), rfl, S.mem.sel [] [0] (by decide) rfl rfl⟩
 refine sSeq (fun ck bA => sRegion (sLoadN (p := ar) (off := 0) (T := 24) (vs := [iv p0.W, iv p0.H, .slice ae p0.Bits.length af]) 2 [iv p0.W, iv p0.H, .slice ae p0.Bits.length af] S (wN rfl) rfl rfl rfl rfl rfl rfl rfl (lb rfl) fun a S => ?_))
 refine sM S fun a S => ?_
 obtain ⟨aq, bB, h⟩ := bS h
 have S := S.learn (fRep r_api_Grid (.agg #[iv p0.W, iv p0.H, .slice ae p0.Bits.length af]) p0) ⟨_, rfl, S.mem.know (i := 0) (e := fRep (rL rB) (.slice ae p0.Bits.length af) p0.Bits) rfl⟩
 refine sCall (X := Value × Value) (f := 49) (vs := [.agg #[iv p0.W, iv p0.H, .slice ae p0.Bits.length af], iv p2]) (val := c_compare_ways_val aq) (B' := fun _ => []) (D' := c_compare_ways_D aq) [] [eBox a6 93 [iv 0, iv 0, iv 0], eBox ah 3 [iv (w64 ((p0.Bits.length : Int) + 1))], eBox ar 24 [iv p0.W, iv p0.H, .slice ae p0.Bits.length af], eBox ag 24 [iv p1.W, iv p1.H, .slice a7 p1.Bits.length a8], eBox a4 33 [iv 0, iv 0]] [fRep r_api_Grid (.agg #[iv p0.W, iv p0.H, .slice ae p0.Bits.length af]) p0] [0, 1, 2, 3, 4] [0] S (wN rfl) rfl callee49 rfl (by decide) rfl rfl (fun E1 w1 S1 => c_compare_ways E1 w1 p0 (.agg #[iv p0.W, iv p0.H, .slice ae p0.Bits.length af]) p2 aq bB S1) rfl (lb rfl) fun xx a w S => ?_
 obtain ⟨av, aw⟩ := xx
 refine lT (bA _ _ (wp_block ?_))
 obtain ⟨cl, ay, aK⟩ := bS h
 replace S : St [] E [] w0 99 a w [(4, .pointer (some ⟨ag, 0, none⟩)), (8, .pointer (some ⟨a4, 0, none⟩)), (12, .pointer (some ⟨ah, 0, none⟩)), (13, .pointer (some ⟨a6, 0, none⟩)), (79, .func (.func 81) #[] #[av, aw])] [eBox ag 24 [iv p1.W, iv p1.H, .slice a7 p1.Bits.length a8], eBox a4 33 [iv 0, iv 0], eBox ah 3 [iv (w64 ((p0.Bits.length : Int) + 1))], eBox a6 93 [iv 0, iv 0, iv 0]] [fPtr (rI .i64) (av) aq.1, fPtr r_api_Grid (aw) aq.2, fRep (rL rB) (.slice a7 p1.Bits.length a8) p1.Bits] := S.fix [3, 4, 1, 0] [0, 1, 4] (by decide) rfl rfl rfl
 refine sRange2 (B := compare_Nearest_l2 p1) (fun s0 L D => match s0 with | (az, aL, aM, aO) => L = [eBox ag 24 [iv p1.W, iv p1.H, .slice a7 p1.Bits.length a8], eBox a4 33 [iv 0, iv 0], eBox ah 3 [iv az], eBox a6 93 [iv aL, iv aM, iv aO]] ∧ D = [fPtr (rI .i64) (av) aq.1, fPtr r_api_Grid (aw) aq.2, fRep (rL rB) (.slice a7 p1.Bits.length a8) p1.Bits]) (fun t0 c L D => match t0 with | (aZ, ba, bb, bc) => c = .exit 0 ∧ L = [eBox a4 33 [iv 0, iv 0], eBox ah 3 [iv aZ], eBox a6 93 [iv ba, iv bb, iv bc]] ∧ D = []) [0, 1] S ay rfl callee81 (it_compare_ways_1 aq.1 av aq.2 aw) rfl (by decide) (by decide) ⟨rfl, rfl⟩ ?_ ?_ ?_
 ·intro E l0 s0 a0 a9 bL bU b L D K a w0 hK hIL hB S
  clear ay aK h hK
  obtain ⟨az, aL, aM, aO⟩ := s0
  unfold compare_Nearest_l2 at hB
  dsimp only at hB hIL
  obtain ⟨rfl, rfl⟩ := hIL
  have h := hB
  clear hB
  obtain rfl : bL = .agg #[iv a0.op, iv a0.at_.X, iv a0.at_.Y] := S.mem.know (i := 0) (e := fRep r_compare_way (bL) a0) rfl
  obtain ⟨bV, rfl, aU⟩ := S.mem.know (i := 1) (e := fRep r_api_Grid (bU) a9) rfl
  have S := S.learn (fRep (rL rB) bV a9.Bits) aU
  obtain ⟨ai, aj, _, rfl, _⟩ := aU
  refine sSeqR (fun cm bC => sRegionR (by repeat (first | exact roundU_out | exact it_out | exact lo_false | refine lo_then ?_ | refine lo_block ?_)) rfl ?_)
  refine sAlloc (.agg #[iv 0, iv 0, iv 0]) S (wN rfl) rfl rfl [iv 0, iv 0, iv 0] rfl rfl (lb rfl) fun a bD w S => ?_
  refine sStore (p := bD) (off := 0) (T := 93) (vs := [iv 0, iv 0, iv 0]) (v := .agg #[iv a0.op, iv a0.at_.X, iv a0.at_.Y]) 0 [iv a0.op, iv a0.at_.X, iv a0.at_.Y] S (wN rfl) rfl rfl rfl rfl rfl rfl rfl (by simp) rfl fun a w S => ?_
  refine lT (bC _ _ (sRegionR (by repeat (first | exact roundU_out | exact it_out | exact lo_false | refine lo_then ?_ | refine lo_block ?_)) rfl ?_))
  refine sAlloc (.agg #[iv 0, iv 0, .slice none 0 0]) S (wN rfl) rfl rfl [iv 0, iv 0, .slice none 0 0] rfl rfl (lb rfl) fun a bM w S => ?_
  refine sStore (p := bM) (off := 0) (T := 24) (vs := [iv 0, iv 0, .slice none 0 0]) (v := .agg #[iv a9.W, iv a9.H, .slice ai a9.Bits.length aj]) 0 [iv a9.W, iv a9.H, .slice ai a9.Bits.length aj] S (wN rfl) rfl rfl rfl rfl rfl rfl rfl (by simp) rfl fun a w S => ?_
  refine lT (⟨_, _, _, S, fun K a w0 hK S => ?_⟩)
  refine wpIn_block ?_
  obtain ⟨bW, h, bX⟩ := bS h
  refine sCutR (fun a w => ∃ aP, ∃ aV, ∃ aW, ∃ aX, (aP, aV, aW, aX) = bW ∧ St [] E K w0 99 a w [(4, .pointer (some ⟨ag, 0, none⟩)), (8, .pointer (some ⟨a4, 0, none⟩)), (12, .pointer (some ⟨ah, 0, none⟩)), (13, .pointer (some ⟨a6, 0, none⟩)), (79, .func (.func 81) #[] #[av, aw]), (80, .agg #[iv a0.op, iv a0.at_.X, iv a0.at_.Y]), (81, .agg #[iv a9.W, iv a9.H, .slice ai a9.Bits.length aj])] [eBox ag 24 [iv p1.W, iv p1.H, .slice a7 p1.Bits.length a8], eBox a4 33 [iv 0, iv 0], eBox ah 3 [iv aP], eBox a6 93 [iv aV, iv aW, iv aX]] [fPtr (rI .i64) (av) aq.1, fPtr r_api_Grid (aw) aq.2, fRep (rL rB) (.slice ai a9.Bits.length aj) a9.Bits, fRep (rL rB) (.slice a7 p1.Bits.length a8) p1.Bits]) ?_ (fun a w hI => ?_)
  rotate_left
  ·obtain ⟨aP, aV, aW, aX, rfl, S⟩ := hI
   have h := bX
   try dsimp only at h
   refine sSeqR (fun cn bE => sRegionR (by repeat (first | exact roundU_out | exact it_out | exact lo_false | refine lo_then ?_ | refine lo_block ?_)) rfl ?_)
   refine sLoad1 2 (iv aP) S (wN rfl) rfl rfl rfl rfl rfl rfl (lb rfl) fun a S => ?_
   refine sBin _ S (wN rfl) rfl rfl rfl (bEq _ _ _ _ .i64 aP 0) rfl (lb rfl) fun a S => ?_
   refine lT (bE _ _ ?_)
   rcases iS h with ⟨aQ, h⟩ | ⟨aQ, h⟩
   ·refine sCondTR S rfl aQ ?_
    exact wpIn_exit (xMiss rfl (rnX (aP, aV, aW, aX) _ _ [] (Option.some.inj h) ⟨rfl, rfl, rfl⟩ (S.fix [1, 2, 3] [] (by decide) rfl rfl rfl)))
   refine sCondFR S rfl aQ ?_
   exact wpIn_skip (leafB (rnN (aP, aV, aW, aX) _ _ [] (Option.some.inj h) ⟨rfl, rfl⟩ (S.fix [0, 1, 2, 3] [0, 1, 3] (by decide) rfl rfl rfl)))
  refine sSeqR (fun co bG => sRegionR (by repeat (first | exact roundU_out | exact it_out | exact lo_false | refine lo_then ?_ | refine lo_block ?_)) rfl ?_)
  refine sField (b := bM) (off := 0) 2 2 S (wN rfl) rfl rfl rfl rfl rfl (lb rfl) fun a S => ?_
  refine sLoad1 0 (.slice ai a9.Bits.length aj) S (wN rfl) rfl rfl rfl rfl rfl rfl (lb rfl) fun a S => ?_
  refine sField (b := ag) (off := 0) 2 2 S (wN rfl) rfl rfl rfl rfl rfl (lb rfl) fun a S => ?_
  refine sLoad1 2 (.slice a7 p1.Bits.length a8) S (wN rfl) rfl rfl rfl rfl rfl rfl (lb rfl) fun a S => ?_
  obtain ⟨aA, bH, h⟩ := bS h
  have S1 := S.mem
  refine sCq [.slice ai a9.Bits.length aj, .slice a7 p1.Bits.length a8] (iv aA) S callee46 (S1.quiet [0, 5] rfl) (fun E1 w1 S1 => c_compare_differ E1 w1 a9.Bits (.slice ai a9.Bits.length aj) p1.Bits (.slice a7 p1.Bits.length a8) aA bH S1) fun a w S => ?_
  refine sN S fun a S => ?_
  refine lT (bG _ _ (sSeqR (fun cp bI => sRegionR (by repeat (first | exact roundU_out | exact it_out | exact lo_false | refine lo_then ?_ | refine lo_block ?_)) rfl ?_)))
  refine sM S fun a S => ?_
  refine sLoad1 4 (iv az) S (wN rfl) rfl rfl rfl rfl rfl rfl (lb rfl) fun a S => ?_
  refine sBin _ S (wN rfl) rfl rfl rfl (bLt _ _ _ _ .i64 aA az) rfl (lb rfl) fun a S => ?_
  refine lT (bI _ _ ?_)
  rcases iS h with ⟨aR, h⟩ | ⟨aR, h⟩
  rotate_left
  ·refine sCondFR S rfl aR ?_
   exact wpIn_skip (leafT (⟨az, aL, aM, aO, Option.some.inj h, S.fix [2, 3, 4, 5] [3, 4, 0, 5] (by decide) rfl rfl rfl⟩))
  refine sCondTR S rfl aR ?_
  refine sDrawR (A := []) (nf := [2, 3]) (W := [(0, 90, iv aA), (1, 91, .agg #[iv a0.op, iv a0.at_.X, iv a0.at_.Y])]) (by repeat (first | exact roundU_out | exact it_out | exact lo_false | refine lo_then ?_ | refine lo_block ?_)) rfl rfl S ?_
  refine node_by (A := [[], [], [0], [0, 1, 2]]) (nf := [2, 3]) (Y := []) (W := [(0, 90, iv aA), (1, 91, .agg #[iv a0.op, iv a0.at_.X, iv a0.at_.Y])]) 4 (by kernel_rfl) (by kernel_rfl) (by kernel_rfl) (by kernel_rfl) (by kernel_rfl) [0, 1] (by kernel_rfl) (by decide) (by decide) (fF ?_ (fF ?_ (fN ?_ (aB 3 0 2 (by decide) (trivial))))) [] (fun q hq => by cases hq) (fun hY => absurd (hY 2 (by decide)) (by decide))
  ·exact fM 0 none rfl rfl rfl rfl (.inl rfl) rfl rfl rfl
  ·refine fJ [(14, _)] 1 [none] fun G a w S => ?_
   exact sLoadN (p := bD) (off := 0) (T := 93) (vs := [iv a0.op, iv a0.at_.X, iv a0.at_.Y]) 1 [iv a0.op, iv a0.at_.X, iv a0.at_.Y] S (wN rfl) rfl rfl rfl rfl rfl rfl rfl (lb rfl) fun a S => leafL ⟨rfl, S⟩
  refine ⟨_, [(12, .pointer (some ⟨ah, 0, none⟩)), (90, iv aA)], rfl, (srcs_of [none, some 0] rfl rfl rfl), fun G a w S => ?_⟩
  refine sStore (p := ah) (off := 0) (T := 3) (vs := [iv az]) (v := iv aA) 4 [iv aA] S (wN rfl) rfl rfl rfl rfl rfl rfl rfl (by simp) rfl fun a w S => ?_
  refine leafL ⟨rfl, _, _, .inr ⟨[], rfl, S, hz_of rfl, ?_⟩⟩
  refine node_by (A := [[], [], [0], [0, 1, 2]]) (nf := [2, 3]) (Y := [2]) 4 (by kernel_rfl) (by kernel_rfl) (by kernel_rfl) (by kernel_rfl) (by kernel_rfl) [0, 1] (by kernel_rfl) (by decide) (by decide) (fD 2 (fF ?_ (fY (fN ?_ (trivial))))) [] (fun q hq => by cases hq) (fun hY => absurd (hY 3 (by decide)) (by decide))
  ·refine fJ [(14, _)] 1 [none] fun G a w S => ?_
   exact sLoadN (p := bD) (off := 0) (T := 93) (vs := [iv a0.op, iv a0.at_.X, iv a0.at_.Y]) 2 [iv a0.op, iv a0.at_.X, iv a0.at_.Y] S (wN rfl) rfl rfl rfl rfl rfl rfl rfl (lb rfl) fun a S => leafL ⟨rfl, S⟩
  refine ⟨_, [(13, .pointer (some ⟨a6, 0, none⟩)), (91, .agg #[iv a0.op, iv a0.at_.X, iv a0.at_.Y])], rfl, (srcs_of [none, some 1] rfl rfl rfl), fun G a w S => ?_⟩
  refine sStore (p := a6) (off := 0) (T := 93) (vs := [iv aL, iv aM, iv aO]) (v := .agg #[iv a0.op, iv a0.at_.X, iv a0.at_.Y]) 5 [iv a0.op, iv a0.at_.X, iv a0.at_.Y] S (wN rfl) rfl rfl rfl rfl rfl rfl rfl (by simp) rfl fun a w S => ?_
  refine leafL ⟨rfl, _, _, .inr ⟨[], rfl, S, hz_of rfl, ?_⟩⟩
  refine node_by (A := [[], [], [0], [0, 1, 2]]) (nf := [2, 3]) (Y := [3, 2]) 4 (by kernel_rfl) (by kernel_rfl) (by kernel_rfl) (by kernel_rfl) (by kernel_rfl) [0, 1] (by kernel_rfl) (by decide) (by decide) (fD 3 (fD 3 (fY (fY (trivial))))) [(4, .pointer (some ⟨ag, 0, none⟩)), (8, .pointer (some ⟨a4, 0, none⟩)), (12, .pointer (some ⟨ah, 0, none⟩)), (13, .pointer (some ⟨a6, 0, none⟩)), (79, .func (.func 81) #[] #[av, aw]), (80, .agg #[iv a0.op, iv a0.at_.X, iv a0.at_.Y]), (81, .agg #[iv a9.W, iv a9.H, .slice ai a9.Bits.length aj])] (fin_of [none, none, none, none, none, none, none] rfl (by kernel_rfl) (by kernel_rfl)) (fun _ a w S => ?_)
  exact leafT (⟨aA, a0.op, a0.at_.X, a0.at_.Y, Option.some.inj h, S.fix [4, 5, 1, 0] [3, 4, 0, 5] (by decide) rfl rfl rfl⟩)
 ·intro ak s0 L D a w hr hIL S
  clear h
  obtain ⟨az, aL, aM, aO⟩ := s0
  obtain rfl := hr
  dsimp only at aK hIL
  obtain ⟨rfl, rfl⟩ := hIL
  have h := aK
  clear aK ay
  replace S : St [mark ak] E [] w0 99 a w [(4, .pointer (some ⟨ag, 0, none⟩)), (8, .pointer (some ⟨a4, 0, none⟩)), (12, .pointer (some ⟨ah, 0, none⟩)), (13, .pointer (some ⟨a6, 0, none⟩)), (79, .func (.func 81) #[] #[av, aw])] [eBox ag 24 [iv p1.W, iv p1.H, .slice a7 p1.Bits.length a8], eBox a4 33 [iv 0, iv 0], eBox ah 3 [iv az], eBox a6 93 [iv aL, iv aM, iv aO], eDef ak] [fPtr (rI .i64) (av) aq.1, fPtr r_api_Grid (aw) aq.2, fRep (rL rB) (.slice a7 p1.Bits.length a8) p1.Bits] := S
  exact leafB (leafT (⟨az, aL, aM, aO, Option.some.inj h, ak, S.fix [1, 2, 3, 4] [] (by decide) rfl rfl rfl⟩))
 ·intro ak c0 t0 L D a w hr hIX S
  clear h
  obtain rfl := hr
  obtain ⟨aZ, ba, bb, bc⟩ := t0
  dsimp only at aK hIX
  obtain ⟨rfl, rfl, rfl⟩ := hIX
  have h := aK
  clear aK ay
  replace S : St [mark ak] E [] w0 99 a w [(4, .pointer (some ⟨ag, 0, none⟩)), (8, .pointer (some ⟨a4, 0, none⟩)), (12, .pointer (some ⟨ah, 0, none⟩)), (13, .pointer (some ⟨a6, 0, none⟩)), (79, .func (.func 81) #[] #[av, aw])] [eBox a4 33 [iv 0, iv 0], eBox ah 3 [iv aZ], eBox a6 93 [iv ba, iv bb, iv bc], eDef ak] [] := S
  exact wp_exit (xHit (leafT (⟨aZ, ba, bb, bc, Option.some.inj h, ak, S.fix [0, 1, 2, 3] [] (by decide) rfl rfl rfl⟩)))
noncomputable def F_chart_counted (p0 : api_Chart) : Option api_Chart :=
 some p0
def c_chart_counted_val (r : api_Chart) (x : Value) : Value := .func (.func 99) #[] #[x]
def c_chart_counted_D (r : api_Chart) (x : Value) : List Fact := [fPtr r_api_Chart x r]
theorem c_chart_counted (E : Nat → Prop) (w0 : World) (p0 : api_Chart) (v0 : Value) (r : api_Chart) (h : F_chart_counted p0 = some r) (S : St0 E [] w0 w0 [] [fRep r_api_Chart (v0) p0]) :
 Calls Try.prog 82 #[v0] w0 (Ret (X := Value) E [] w0 (c_chart_counted_val r) (fun _ => []) (c_chart_counted_D r)) := by
 unfold F_chart_counted at h
 obtain ⟨u1, rfl, a5⟩ := S.know (i := 0) (e := fRep r_api_Chart (v0) p0) rfl
 have S := S.learn (fRep (rL r_api_Row) u1 p0.Rows) a5
 obtain ⟨a0, a4, _, rfl, _⟩ := a5
 refine sEnter (args := [.agg #[iv p0.Start, .slice a0 p0.Rows.length a4]]) 4 Try.func82 rfl rfl (by simp) S (fun a S => ?_)
 refine sSeq (fun K5 a6 => sRegion (sBox (v := .agg #[iv p0.Start, .slice a0 p0.Rows.length a4]) S (wN rfl) rfl rfl [iv p0.Start, .slice a0 p0.Rows.length a4] rfl rfl (lb rfl) fun a b6 w S => ?_))
 refine sN S fun a S => ?_
 refine lT (a6 _ _ (sSeq (fun K7 a7 => sRegion (sFunc (g := 99) (vs := [.pointer (some ⟨b6, 0, none⟩)]) S (wN rfl) rfl rfl rfl (lb rfl) fun a S => ?_))))
 refine sN S fun a S => ?_
 refine lT (a7 _ _ ?_)
 have S := S.shutB (r := r_api_Chart) (T := 42) (b := b6) (cs := [iv p0.Start, .slice a0 p0.Rows.length a4]) 0 (.agg #[iv p0.Start, .slice a0 p0.Rows.length a4]) p0 rfl rfl (S.mem.know (i := 1) (e := fRep r_api_Chart (.agg #[iv p0.Start, .slice a0 p0.Rows.length a4]) p0) rfl)
 obtain rfl := tS h
 exact wp_ret (sRet (.func (.func 99) #[] #[.pointer (some ⟨b6, 0, none⟩)]) S (rsl1 rfl (rvT (t := 2) (v := .func (.func 99) #[] #[.pointer (some ⟨b6, 0, none⟩)]) S rfl)) ⟨(.pointer (some ⟨b6, 0, none⟩)), rfl, S.mem.sel [] [0] (by decide) rfl rfl⟩)
noncomputable def chart_counted_1_l1 {σ τ : Type} (p0 : api_Chart) (B : σ → (Int × chart_count) → Option (σ ⊕ τ)) : (Int × Int × σ) → Option ((Int × Int × σ) ⊕ ((σ ⊕ τ) ⊕ (σ))) := fun s0 => match s0 with
 | (a0, a4, gz13) =>
  if decide (a4 < (p0.Rows.length : Int)) then
   (idxO p0.Rows a4).bind fun a8 =>
   (F_stitch_Uses a8.Cells).bind fun a5 =>
   Option.bind (α := (Int × Int)) (
    if a5.2 != 0 then
     some (0, a5.2)
    else
     if a5.1 != a0 then
      some (0, 26)
     else
      (F_stitch_Makes a8.Cells).bind fun a9 =>
      some (a9.1, 0)) fun (a6, a7) =>
   (B gz13 (a4, (chart_count.mk a0 a6 a7))).bind fun aa =>
   match aa with
   | .inl gz53 =>
    if ((chart_count.mk a0 a6 a7).e) != 0 then
     some (.inr (.inl (.inl gz53)))
    else
     some (.inl ((chart_count.mk a0 a6 a7).after, w64 (a4 + 1), gz53))
   | .inr tz54 =>
    some (.inr (.inl (.inr tz54)))
  else
   some (.inr (.inr gz13))
noncomputable def I_chart_counted_1 (p0 : api_Chart) (σ τ : Type) (B : σ → (Int × chart_count) → Option (σ ⊕ τ)) (gz0 : σ) : Option (σ ⊕ τ) :=
 (whileO (chart_counted_1_l1 p0 B) (p0.Start, 0, gz0)).bind fun z0 => match z0 with
  | .inl z =>
   some z
  | .inr gz17 =>
   some (.inl gz17)
theorem it_chart_counted_1 (p0 : api_Chart) (v0 : Value) : SeqF Try.prog 99 #[v0] (fA2 (rI .i64) r_chart_count) (I_chart_counted_1 p0) [fPtr r_api_Chart (v0) p0] := by
 refine seqF_of (lb := [v0]) (fun σ τ B gz0 r h l J Jx E w0 hC S hJ => ?_)
 unfold I_chart_counted_1 at h
 refine sEnterI (args := [.func (.yield l) #[] #[], v0]) 57 Try.func99 rfl rfl (by simp) S (fun a S => ?_)
 refine sSeq (fun K1 aT => sRegion ?_)
 obtain ⟨q2, aU, S⟩ := pFld (P := Try.prog) (r := r_api_Chart) (s2 := (rI .i64)) (g := (·.Start)) (q := v0) (z := p0) 42 0 0 0 S rfl rfl comp_api_Chart_Start
 refine sFldV (q := v0) S (wN rfl) rfl rfl aU rfl (lb rfl) fun a S => ?_
 obtain ⟨u4, S⟩ := pLoad (r := (rI .i64)) (q := q2) (x := p0.Start) 0 S rfl
 obtain rfl : u4 = iv p0.Start := S.mem.know (i := 1) (e := fRep (rI .i64) (u4) p0.Start) rfl
 refine sLoadV1 (vq := q2) 0 (iv p0.Start) S (wN rfl) rfl rfl rfl rfl rfl (lb rfl) fun a S => ?_
 refine sN S fun a S => ?_
 refine lT (aT _ _ (sSeq (fun K5 aV => sRegion ?_)))
 obtain ⟨q6, aW, S⟩ := pFld (P := Try.prog) (r := r_api_Chart) (s2 := (rL r_api_Row)) (g := (·.Rows)) (q := v0) (z := p0) 42 1 3 1 S rfl rfl comp_api_Chart_Rows
 refine sFldV (q := v0) S (wN rfl) rfl rfl aW rfl (lb rfl) fun a S => ?_
 obtain ⟨u8, S⟩ := pLoad (r := (rL r_api_Row)) (q := q6) (x := p0.Rows) 0 S rfl
 obtain ⟨ak, ab, _, rfl, _⟩ := S.mem.know (i := 1) (e := fRep (rL r_api_Row) (u8) p0.Rows) rfl
 refine sLoadV1 (vq := q6) 0 (.slice ak p0.Rows.length ab) S (wN rfl) rfl rfl rfl rfl rfl (lb rfl) fun a S => ?_
 refine sLen S (wN rfl) rfl Try.underlying40 rfl rfl (lb rfl) fun a S => ?_
 refine sM S fun a S => ?_
 refine lT (aV _ _ (wp_block ?_))
 obtain ⟨bc, hl, ap⟩ := bS h
 refine sLoop hl (fun s0 a w => match s0 with | (a0, ae, gz13) => ∃ E w0, J gz13 E w0 ∧ St [] E [] w0 57 a w [(0, .func (.yield l) #[] #[]), (3, iv a0), (12, .slice ak p0.Rows.length ab), (13, iv (p0.Rows.length : Int)), (14, iv ae)] [] [fRep (rL r_api_Row) (.slice ak p0.Rows.length ab) p0.Rows]) ⟨_, _, hJ, S.fix [] [1] (by decide) rfl rfl rfl⟩ ?_
 clear hl h
 intro s0 a w c0 hI h af
 obtain ⟨a0, ae, gz13⟩ := s0
 unfold chart_counted_1_l1 at h
 dsimp only at h hI
 obtain ⟨E, w0, hJ, S⟩ := hI
 refine sSeq (fun bf aq => sRegion (sBin _ S (wN rfl) rfl rfl rfl (bLt _ _ _ _ .i64 ae (p0.Rows.length : Int)) rfl (lb rfl) fun a S => ?_))
 refine lT (aq _ _ (sSeq (fun bg ar => ?_)))
 rcases iS h with ⟨ag, h⟩ | ⟨ag, h⟩
 rotate_left
 ·refine sCondF S rfl ag ?_
  obtain rfl := tS h
  obtain rfl := af _ rfl
  have h := ap
  try dsimp only at h
  exact wp_exit (xThen (xThen (xHit (sEnd (.tuple #[]) S (res0 rfl) (sGoI S hC hJ (Option.some.inj h) _)))))
 refine sCondT S rfl ag ?_
 refine wp_skip (leafT (ar _ _ ?_))
 refine sSeq (fun bh au => wp_block ?_)
 refine sSeq (fun bi av => sRegion (sM S fun a S => ?_))
 obtain ⟨a8, aw, h⟩ := bS h
 obtain ⟨aO, ax, S⟩ := pIdx (P := Try.prog) (r := r_api_Row) (v := .slice ak p0.Rows.length ab) (xs := p0.Rows) (j := ae) 40 87 0 S Try.underlying40 rfl rfl aw
 refine sIdxV S (wN rfl) rfl rfl rfl ax rfl (lb rfl) fun a S => ?_
 obtain ⟨aX, S⟩ := pLoad (r := r_api_Row) (q := aO) (x := a8) 0 S rfl
 obtain ⟨aZ, rfl, am⟩ := S.mem.know (i := 1) (e := fRep r_api_Row (aX) a8) rfl
 have S := S.learn (fRep (rL r_api_Stitch) aZ a8.Cells) am
 obtain ⟨a6, a7, _, rfl, _⟩ := am
 refine sLoadVN (vq := aO) 1 [.bool a8.Back, .slice a6 a8.Cells.length a7] S (wN rfl) rfl rfl rfl rfl rfl rfl (lb rfl) fun a S => ?_
 refine sAlloc (.agg #[.bool false, .slice none 0 0]) S (wN rfl) rfl rfl [.bool false, .slice none 0 0] rfl rfl (lb rfl) fun a ay w S => ?_
 refine sN S fun a S => ?_
 refine sStore (p := ay) (off := 0) (T := 87) (vs := [.bool false, .slice none 0 0]) (v := .agg #[.bool a8.Back, .slice a6 a8.Cells.length a7]) 0 [.bool a8.Back, .slice a6 a8.Cells.length a7] S (wN rfl) rfl rfl rfl rfl rfl rfl rfl (by simp) rfl fun a w S => ?_
 refine lT (av _ _ (sSeq (fun bj az => sRegion (sM S fun a S => ?_))))
 refine sBuild [(0, iv a0)] [iv a0, iv 0, iv 0] S (wN rfl) rfl rfl rfl rfl (lb rfl) fun a S => ?_
 refine sAlloc (.agg #[iv 0, iv 0, iv 0]) S (wN rfl) rfl rfl [iv 0, iv 0, iv 0] rfl rfl (lb rfl) fun a a9 w S => ?_
 refine sStore (p := a9) (off := 0) (T := 134) (vs := [iv 0, iv 0, iv 0]) (v := .agg #[iv a0, iv 0, iv 0]) 0 [iv a0, iv 0, iv 0] S (wN rfl) rfl rfl rfl rfl rfl rfl rfl (by simp) rfl fun a w S => ?_
 refine lT (az _ _ (sSeq (fun bk aA => sRegion (sField (b := ay) (off := 0) 1 1 S (wN rfl) rfl rfl rfl rfl rfl (lb rfl) fun a S => ?_))))
 refine sLoad1 1 (.slice a6 a8.Cells.length a7) S (wN rfl) rfl rfl rfl rfl rfl rfl (lb rfl) fun a S => ?_
 obtain ⟨aa, aC, h⟩ := bS h
 have S1 := S.mem
 refine sCq [.slice a6 a8.Cells.length a7] (.tuple #[iv aa.1, iv aa.2]) S callee100 (S1.quiet [0] rfl) (fun E1 w1 S1 => c_stitch_Uses E1 w1 a8.Cells (.slice a6 a8.Cells.length a7) aa aC S1) fun a w S => ?_
 refine sM S fun a S => ?_
 refine sExtract (vs := [iv aa.1, iv aa.2]) (iv aa.1) S (wN rfl) rfl rfl rfl rfl (lb rfl) fun a S => ?_
 refine sExtract (vs := [iv aa.1, iv aa.2]) (iv aa.2) S (wN rfl) rfl rfl rfl rfl (lb rfl) fun a S => ?_
 refine sN S fun a S => ?_
 refine sN S fun a S => ?_
 refine lT (aA _ _ ?_)
 obtain ⟨ba, h, bb⟩ := bS h
 refine sCut (fun a w => ∃ a4, ∃ a5, (a4, a5) = ba ∧ ∃ E w0, J gz13 E w0 ∧ St [] E [] w0 57 a w [(0, .func (.yield l) #[] #[]), (4, iv ae), (6, .pointer (some ⟨a9, 0, none⟩)), (12, .slice ak p0.Rows.length ab), (13, iv (p0.Rows.length : Int)), (14, iv ae)] [eBox a9 134 [iv a0, iv a4, iv a5]] [fRep (rL r_api_Row) (.slice ak p0.Rows.length ab) p0.Rows]) ?_ (fun a w hI => ?_)
 ·refine wp_block ?_
  refine sSeq (fun bl aG => sRegion (sM S fun a S => ?_))
  refine sBin _ S (wN rfl) rfl rfl rfl (bNe _ _ _ _ .i64 aa.2 0) rfl (lb rfl) fun a S => ?_
  refine sN S fun a S => ?_
  refine lT (aG _ _ ?_)
  rcases iS h with ⟨ah, h⟩ | ⟨ah, h⟩
  ·refine sCondT S rfl ah ?_
   refine sRegion (sM S fun a S => ?_)
   refine sField (b := a9) (off := 0) 2 2 S (wN rfl) rfl rfl rfl rfl rfl (lb rfl) fun a S => ?_
   refine sStore (p := a9) (off := 2) (T := 134) (vs := [iv a0, iv 0, iv 0]) (v := iv aa.2) 0 [iv aa.2] S (wN rfl) rfl rfl rfl rfl rfl rfl rfl (by simp) rfl fun a w S => ?_
   exact leafL (leafB (leafT (⟨0, aa.2, Option.some.inj h, _, _, hJ, S.fix [0] [4] (by decide) rfl rfl rfl⟩)))
  refine sCondF S rfl ah ?_
  refine sSeq (fun bm aH => sRegion (sM S fun a S => ?_))
  refine sM S fun a S => ?_
  refine sBin _ S (wN rfl) rfl rfl rfl (bNe _ _ _ _ .i64 aa.1 a0) rfl (lb rfl) fun a S => ?_
  refine sN S fun a S => ?_
  refine lT (aH _ _ ?_)
  rcases iS h with ⟨ai, h⟩ | ⟨ai, h⟩
  ·refine sCondT S rfl ai ?_
   refine sRegion (sField (b := a9) (off := 0) 2 2 S (wN rfl) rfl rfl rfl rfl rfl (lb rfl) fun a S => ?_)
   refine sStore (p := a9) (off := 2) (T := 134) (vs := [iv a0, iv 0, iv 0]) (v := iv 26) 0 [iv 26] S (wN rfl) rfl rfl rfl rfl rfl rfl rfl (by simp) rfl fun a w S => ?_
   exact leafL (leafB (leafT (⟨0, 26, Option.some.inj h, _, _, hJ, S.fix [0] [4] (by decide) rfl rfl rfl⟩)))
  refine sCondF S rfl ai ?_
  refine sRegion (sField (b := ay) (off := 0) 1 1 S (wN rfl) rfl rfl rfl rfl rfl (lb rfl) fun a S => ?_)
  refine sLoad1 1 (.slice a6 a8.Cells.length a7) S (wN rfl) rfl rfl rfl rfl rfl rfl (lb rfl) fun a S => ?_
  obtain ⟨ac, aI, h⟩ := bS h
  have S1 := S.mem
  refine sCq [.slice a6 a8.Cells.length a7] (.tuple #[iv ac.1, iv ac.2]) S callee101 (S1.quiet [0] rfl) (fun E1 w1 S1 => c_stitch_Makes E1 w1 a8.Cells (.slice a6 a8.Cells.length a7) ac aI S1) fun a w S => ?_
  refine sM S fun a S => ?_
  refine sExtract (vs := [iv ac.1, iv ac.2]) (iv ac.1) S (wN rfl) rfl rfl rfl rfl (lb rfl) fun a S => ?_
  refine sExtract (vs := [iv ac.1, iv ac.2]) (iv ac.2) S (wN rfl) rfl rfl rfl rfl (lb rfl) fun a S => ?_
  refine sField (b := a9) (off := 0) 1 1 S (wN rfl) rfl rfl rfl rfl rfl (lb rfl) fun a S => ?_
  refine sStore (p := a9) (off := 1) (T := 134) (vs := [iv a0, iv 0, iv 0]) (v := iv ac.1) 0 [iv ac.1] S (wN rfl) rfl rfl rfl rfl rfl rfl rfl (by simp) rfl fun a w S => ?_
  exact leafL (leafB (leafT (⟨ac.1, 0, Option.some.inj h, _, _, hJ, S.fix [0] [4] (by decide) rfl rfl rfl⟩)))
 obtain ⟨a4, a5, rfl, E, w0, hJ, S⟩ := hI
 have h := bb
 try dsimp only at h
 refine sSeq (fun bn aJ => sSeq (fun bp ao => sRegionY ?_))
 refine sSplitR (by repeat (first | exact roundU_out | exact it_out | exact lo_false | refine lo_then ?_ | refine lo_block ?_)) 3 rfl (fun bq aK => ?_)
 refine sM S fun a S => ?_
 refine sM S fun a S => ?_
 refine sLoadN (p := a9) (off := 0) (T := 134) (vs := [iv a0, iv a4, iv a5]) 0 [iv a0, iv a4, iv a5] S (wN rfl) rfl rfl rfl rfl rfl rfl rfl (lb rfl) fun a S => ?_
 refine leafL ⟨rfl, aK _ _ ?_⟩
 have S := S.learn (fRep r_chart_count (.agg #[iv a0, iv a4, iv a5]) (chart_count.mk a0 a4 a5)) rfl
 have S := S.shutB (r := r_chart_count) (T := 134) (b := a9) (cs := [iv a0, iv a4, iv a5]) 0 (.agg #[iv a0, iv a4, iv a5]) (chart_count.mk a0 a4 a5) rfl rfl (S.mem.know (i := 0) (e := fRep r_chart_count (.agg #[iv a0, iv a4, iv a5]) (chart_count.mk a0 a4 a5)) rfl)
 obtain ⟨br, hy52, h⟩ := bS h
 refine sYieldI (ae, (chart_count.mk a0 a4 a5)) [iv ae, .agg #[iv a0, iv a4, iv a5]] S hC hJ hy52 (fA2_mk (rfl) (S.mem.know (i := 1) (e := fRep r_chart_count (.agg #[iv a0, iv a4, iv a5]) (chart_count.mk a0 a4 a5)) rfl)) (wN rfl) rfl rfl rfl rfl (by decide) (fun gz53 E a w hb hJ S => ?_) (fun tz54 a w hb hJ S => ?_)
 ·obtain rfl := hb
  dsimp only at h
  refine list_inR (by repeat (first | exact roundU_out | exact it_out | exact lo_false | refine lo_then ?_ | refine lo_block ?_)) _ rfl _ _ ?_
  refine sNot (b := true) S (wN rfl) rfl rfl rfl (lb rfl) fun a S => ?_
  refine sM S fun a S => ?_
  obtain ⟨aP, aL, S⟩ := pFld (P := Try.prog) (r := r_chart_count) (s2 := (rI .i64)) (g := (·.e)) (q := .pointer (some ⟨a9, 0, none⟩)) (z := (chart_count.mk a0 a4 a5)) 134 2 0 2 S rfl rfl comp_chart_count_e
  refine sFldV (q := .pointer (some ⟨a9, 0, none⟩)) S (wG 5 false 49 rfl rfl rfl rfl) rfl rfl aL rfl (lb rfl) fun a S => ?_
  obtain ⟨aQ, S⟩ := pLoad (r := (rI .i64)) (q := aP) (x := (chart_count.mk a0 a4 a5).e) 0 S rfl
  obtain rfl : aQ = iv ((chart_count.mk a0 a4 a5).e) := S.mem.know (i := 1) (e := fRep (rI .i64) (aQ) ((chart_count.mk a0 a4 a5).e)) rfl
  refine sLoadV1 (vq := aP) 0 (iv ((chart_count.mk a0 a4 a5).e)) S (wG 5 false 49 rfl rfl rfl rfl) rfl rfl rfl rfl rfl (lb rfl) fun a S => ?_
  refine sBin _ S (wG 5 false 49 rfl rfl rfl rfl) rfl rfl rfl (bNe _ _ _ _ .i64 ((chart_count.mk a0 a4 a5).e) 0) rfl (lb rfl) fun a S => ?_
  refine sPickF (.bool (((chart_count.mk a0 a4 a5).e) != 0)) S (wN rfl) rfl rfl rfl rfl rfl (lb rfl) fun a S => ?_
  refine lT (ao _ _ ?_)
  rcases iS h with ⟨aj, h⟩ | ⟨aj, h⟩
  ·refine sCondT S rfl aj ?_
   obtain rfl := tS h
   obtain rfl := af _ rfl
   have h := ap
   try dsimp only at h
   exact wp_ret (rThen (rBlock (rThen (rThen (rBlock (sRet (.tuple #[]) S (res0 rfl) (sGoI S hC hJ (Option.some.inj h) _)))))))
  refine sCondF S rfl aj ?_
  refine wp_skip (leafT (aJ _ _ ?_))
  refine sRegion ?_
  obtain ⟨aR, aM, S⟩ := pFld (P := Try.prog) (r := r_chart_count) (s2 := (rI .i64)) (g := (·.after)) (q := .pointer (some ⟨a9, 0, none⟩)) (z := (chart_count.mk a0 a4 a5)) 134 1 3 1 S rfl rfl comp_chart_count_after
  refine sFldV (q := .pointer (some ⟨a9, 0, none⟩)) S (wN rfl) rfl rfl aM rfl (lb rfl) fun a S => ?_
  obtain ⟨aS, S⟩ := pLoad (r := (rI .i64)) (q := aR) (x := (chart_count.mk a0 a4 a5).after) 0 S rfl
  obtain rfl : aS = iv ((chart_count.mk a0 a4 a5).after) := S.mem.know (i := 1) (e := fRep (rI .i64) (aS) ((chart_count.mk a0 a4 a5).after)) rfl
  refine sLoadV1 (vq := aR) 0 (iv ((chart_count.mk a0 a4 a5).after)) S (wN rfl) rfl rfl rfl rfl rfl (lb rfl) fun a S => ?_
  refine sN S fun a S => ?_
  refine leafL (leafB (leafT (au _ _ ?_)))
  refine sRegion (sBin _ S (wN rfl) rfl rfl rfl (bAdd _ _ _ _ ae 1) rfl (lb rfl) fun a S => ?_)
  refine sM S fun a S => ?_
  exact lT (⟨((chart_count.mk a0 a4 a5).after, w64 (ae + 1), gz53), (Option.some.inj h).symm, ⟨_, _, hJ, S.fix [] [8] (by decide) rfl rfl rfl⟩⟩)
 ·obtain rfl := hb
  dsimp only at h
  refine list_inR (by repeat (first | exact roundU_out | exact it_out | exact lo_false | refine lo_then ?_ | refine lo_block ?_)) _ rfl _ _ ?_
  refine sNot (b := false) S (wN rfl) rfl rfl rfl (lb rfl) fun a S => ?_
  refine sM S fun a S => ?_
  refine sSkN 3 5 false 49 S rfl rfl rfl rfl fun a S => ?_
  refine sPickT (.bool true) S (wN rfl) rfl rfl rfl rfl rfl (lb rfl) fun a S => ?_
  refine lT (ao _ _ (sCondT S rfl rfl ?_))
  obtain rfl := tS h
  obtain rfl := af _ rfl
  have h := ap
  try dsimp only at h
  exact wp_ret (rThen (rBlock (rThen (rThen (rBlock (sRet (.tuple #[]) S (res0 rfl) (sStopI S hC hJ (Option.some.inj h) _)))))))
noncomputable def chart_Check_l2  : Unit → (Int × chart_count) → Option (Unit ⊕ Int) := fun s0 x0 => match s0, x0 with
 | _, (a4, a0) =>
  if a0.e != 0 then
   some (.inr a0.e)
  else
   some (.inl ())
noncomputable def F_chart_Check (p0 : api_Chart) : Option Int :=
 if decide (100 < (p0.Rows.length : Int)) then
  some 4
 else
  Option.bind (α := Bool) (
   if decide (p0.Start < 0) then
    some true
   else
    some (decide (200 < p0.Start))) fun a0 =>
  if a0 then
   some 8
  else
   (F_chart_counted p0).bind fun a4 =>
   (I_chart_counted_1 a4 _ _ (chart_Check_l2) ()).bind fun z0 => match z0 with
    | .inl _ =>
     some 0
    | .inr a5 =>
     some a5
theorem c_chart_Check (E : Nat → Prop) (w0 : World) (p0 : api_Chart) (v0 : Value) (r : Int) (h : F_chart_Check p0 = some r) (S : St0 E [] w0 w0 [] [fRep r_api_Chart (v0) p0]) :
 Calls Try.prog 50 #[v0] w0 (Ret (X := Unit) E [] w0 (fun _ => .int .i64 r) (fun _ => []) (fun _ => [])) := by
 unfold F_chart_Check at h
 obtain ⟨u1, rfl, aw⟩ := S.know (i := 0) (e := fRep r_api_Chart (v0) p0) rfl
 have S := S.learn (fRep (rL r_api_Row) u1 p0.Rows) aw
 obtain ⟨a5, a6, _, rfl, _⟩ := aw
 refine sEnterM (args := [.agg #[iv p0.Start, .slice a5 p0.Rows.length a6]]) 26 Try.func50 rfl rfl (by simp) S (fun a S => ?_)
 refine sSeq (fun K5 aA => sRegion (sBox (v := .agg #[iv p0.Start, .slice a5 p0.Rows.length a6]) S (wN rfl) rfl rfl [iv p0.Start, .slice a5 p0.Rows.length a6] rfl rfl (lb rfl) fun a b6 w S => ?_))
 refine sAlloc (iv 0) S (wN rfl) rfl rfl [iv 0] rfl rfl (lb rfl) fun a b7 w S => ?_
 refine lT (aA _ _ (sSeq (fun K8 aC => sSeq (fun K9 aG => sRegion (sField (b := b6) (off := 0) 1 1 S (wN rfl) rfl rfl rfl rfl rfl (lb rfl) fun a S => ?_)))))
 refine sLoad1 1 (.slice a5 p0.Rows.length a6) S (wN rfl) rfl rfl rfl rfl rfl rfl (lb rfl) fun a S => ?_
 refine sLen S (wN rfl) rfl Try.underlying40 rfl rfl (lb rfl) fun a S => ?_
 refine sBin _ S (wN rfl) rfl rfl rfl (bGt _ _ _ _ .i64 (p0.Rows.length : Int) 100) rfl (lb rfl) fun a S => ?_
 refine lT (aG _ _ ?_)
 rcases iS h with ⟨a9, h⟩ | ⟨a9, h⟩
 ·refine sCondT S rfl a9 ?_
  refine sSeq (fun aJ ah => sRegion (sStore (p := b7) (off := 0) (T := 27) (vs := [iv 0]) (v := iv 4) 0 [iv 4] S (wN rfl) rfl rfl rfl rfl rfl rfl rfl (by simp) rfl fun a w S => ?_))
  refine lT (ah _ _ ?_)
  obtain rfl := tS h
  exact wp_ret (rThen (sRetM0 (iv 4) S (rsl1 rfl (rv1 (c := 2) (t := 27) (T := 27) (p := b7) 0 (iv 4) S rfl rfl rfl)) ⟨(), rfl, S.mem.sel [] [] (by decide) rfl rfl⟩))
 refine sCondF S rfl a9 ?_
 refine wp_skip (leafT (aC _ _ ?_))
 refine sSeq (fun aK ai => ?_)
 obtain ⟨aH, h, aI⟩ := bS h
 refine sCut (fun a w => ∃ aj, aj = aH ∧ St [] E [] w0 26 a w [(1, .pointer (some ⟨b6, 0, none⟩)), (2, .pointer (some ⟨b7, 0, none⟩)), (16, .bool aj)] [eBox b6 42 [iv p0.Start, .slice a5 p0.Rows.length a6], eBox b7 27 [iv 0]] [fRep (rL r_api_Row) (.slice a5 p0.Rows.length a6) p0.Rows]) ?_ (fun a w hI => ?_)
 ·refine sRegion (sField (b := b6) (off := 0) 0 0 S (wN rfl) rfl rfl rfl rfl rfl (lb rfl) fun a S => ?_)
  refine sLoad1 1 (iv p0.Start) S (wN rfl) rfl rfl rfl rfl rfl rfl (lb rfl) fun a S => ?_
  refine sBin _ S (wN rfl) rfl rfl rfl (bLt _ _ _ _ .i64 p0.Start 0) rfl (lb rfl) fun a S => ?_
  refine sM S fun a S => ?_
  rcases iS h with ⟨a4, h⟩ | ⟨a4, h⟩
  ·refine sSkN 3 3 false 12 S rfl rfl a4 rfl fun a S => ?_
   refine sPickT (.bool true) S (wN rfl) rfl rfl a4 rfl rfl (lb rfl) fun a S => ?_
   exact lT (⟨true, Option.some.inj h, S.fix [1, 0] [0] (by decide) rfl rfl rfl⟩)
  refine sField (b := b6) (off := 0) 0 0 S (wG 3 false 12 rfl rfl rfl a4) rfl rfl rfl rfl rfl (lb rfl) fun a S => ?_
  refine sLoad1 1 (iv p0.Start) S (wG 3 false 12 rfl rfl rfl a4) rfl rfl rfl rfl rfl rfl (lb rfl) fun a S => ?_
  refine sBin _ S (wG 3 false 12 rfl rfl rfl a4) rfl rfl rfl (bGt _ _ _ _ .i64 p0.Start 200) rfl (lb rfl) fun a S => ?_
  refine sPickF (.bool (decide (200 < p0.Start))) S (wN rfl) rfl rfl a4 rfl rfl (lb rfl) fun a S => ?_
  exact lT (⟨decide (200 < p0.Start), Option.some.inj h, S.fix [1, 0] [0] (by decide) rfl rfl rfl⟩)
 obtain ⟨aj, rfl, S⟩ := hI
 have h := aI
 try dsimp only at h
 rcases iS h with ⟨aa, h⟩ | ⟨aa, h⟩
 ·refine sCondT S rfl aa ?_
  refine sSeq (fun aL ak => sRegion (sStore (p := b7) (off := 0) (T := 27) (vs := [iv 0]) (v := iv 8) 1 [iv 8] S (wN rfl) rfl rfl rfl rfl rfl rfl rfl (by simp) rfl fun a w S => ?_))
  refine lT (ak _ _ ?_)
  obtain rfl := tS h
  exact wp_ret (rThen (sRetM0 (iv 8) S (rsl1 rfl (rv1 (c := 2) (t := 27) (T := 27) (p := b7) 0 (iv 8) S rfl rfl rfl)) ⟨(), rfl, S.mem.sel [] [] (by decide) rfl rfl⟩))
 refine sCondF S rfl aa ?_
 refine wp_skip (leafT (ai _ _ ?_))
 refine sSeq (fun aM am => sSeq (fun aO ao => sRegion (sLoadN (p := b6) (off := 0) (T := 42) (vs := [iv p0.Start, .slice a5 p0.Rows.length a6]) 0 [iv p0.Start, .slice a5 p0.Rows.length a6] S (wN rfl) rfl rfl rfl rfl rfl rfl rfl (lb rfl) fun a S => ?_)))
 obtain ⟨ab, ap, h⟩ := bS h
 have S := S.learn (fRep r_api_Chart (.agg #[iv p0.Start, .slice a5 p0.Rows.length a6]) p0) ⟨_, rfl, S.mem.know (i := 0) (e := fRep (rL r_api_Row) (.slice a5 p0.Rows.length a6) p0.Rows) rfl⟩
 refine sCall (X := Value) (f := 82) (vs := [.agg #[iv p0.Start, .slice a5 p0.Rows.length a6]]) (val := c_chart_counted_val ab) (B' := fun _ => []) (D' := c_chart_counted_D ab) [] [eBox b6 42 [iv p0.Start, .slice a5 p0.Rows.length a6], eBox b7 27 [iv 0]] [fRep r_api_Chart (.agg #[iv p0.Start, .slice a5 p0.Rows.length a6]) p0] [0, 1] [0] S (wN rfl) rfl callee82 rfl (by decide) rfl rfl (fun E1 w1 S1 => c_chart_counted E1 w1 p0 (.agg #[iv p0.Start, .slice a5 p0.Rows.length a6]) ab ap S1) rfl (lb rfl) fun ac a w S => ?_
 refine lT (ao _ _ (wp_block ?_))
 obtain ⟨aP, a8, ae⟩ := bS h
 replace S : St [] E [] w0 26 a w [(2, .pointer (some ⟨b7, 0, none⟩)), (18, .func (.func 99) #[] #[ac])] [eBox b7 27 [iv 0]] [fPtr r_api_Chart (ac) ab] := S.fix [1] [0] (by decide) rfl rfl rfl
 refine sRange2 (B := chart_Check_l2) (fun s0 L D => match s0 with | _ => L = [eBox b7 27 [iv 0]] ∧ D = [fPtr r_api_Chart (ac) ab]) (fun t0 c L D => match t0 with | ag => c = .ret ∧ L = [eBox b7 27 [iv ag]] ∧ D = []) [0] S a8 rfl callee99 (it_chart_counted_1 ab ac) rfl (by decide) (by decide) ⟨rfl, rfl⟩ ?_ ?_ ?_
 ·intro E l0 s0 ax a0 ay az b L D K a w0 hK hIL hB S
  clear a8 ae h hK
  unfold chart_Check_l2 at hB
  dsimp only at hB hIL
  obtain ⟨rfl, rfl⟩ := hIL
  have h := hB
  clear hB
  obtain rfl : ay = iv ax := S.mem.know (i := 0) (e := fRep (rI .i64) (ay) ax) rfl
  obtain rfl : az = .agg #[iv a0.before, iv a0.after, iv a0.e] := S.mem.know (i := 1) (e := fRep r_chart_count (az) a0) rfl
  refine sRegionR (by repeat (first | exact roundU_out | exact it_out | exact lo_false | refine lo_then ?_ | refine lo_block ?_)) rfl ?_
  refine sAlloc (.agg #[iv 0, iv 0, iv 0]) S (wN rfl) rfl rfl [iv 0, iv 0, iv 0] rfl rfl (lb rfl) fun a aq w S => ?_
  refine sStore (p := aq) (off := 0) (T := 134) (vs := [iv 0, iv 0, iv 0]) (v := .agg #[iv a0.before, iv a0.after, iv a0.e]) 0 [iv a0.before, iv a0.after, iv a0.e] S (wN rfl) rfl rfl rfl rfl rfl rfl rfl (by simp) rfl fun a w S => ?_
  refine lT (⟨_, _, _, S, fun K a w0 hK S => ?_⟩)
  refine wpIn_block ?_
  refine sSeqR (fun aQ ar => sRegionR (by repeat (first | exact roundU_out | exact it_out | exact lo_false | refine lo_then ?_ | refine lo_block ?_)) rfl ?_)
  refine sField (b := aq) (off := 0) 2 2 S (wN rfl) rfl rfl rfl rfl rfl (lb rfl) fun a S => ?_
  refine sLoad1 0 (iv a0.e) S (wN rfl) rfl rfl rfl rfl rfl rfl (lb rfl) fun a S => ?_
  refine sBin _ S (wN rfl) rfl rfl rfl (bNe _ _ _ _ .i64 a0.e 0) rfl (lb rfl) fun a S => ?_
  refine lT (ar _ _ ?_)
  rcases iS h with ⟨af, h⟩ | ⟨af, h⟩
  rotate_left
  ·refine sCondFR S rfl af ?_
   exact wpIn_skip (leafB (rnN () _ _ [] (Option.some.inj h) ⟨rfl, rfl⟩ (S.fix [1] [2] (by decide) rfl rfl rfl)))
  refine sCondTR S rfl af ?_
  refine sSeqR (fun aR au => sRegionR (by repeat (first | exact roundU_out | exact it_out | exact lo_false | refine lo_then ?_ | refine lo_block ?_)) rfl ?_)
  refine sField (b := aq) (off := 0) 2 2 S (wN rfl) rfl rfl rfl rfl rfl (lb rfl) fun a S => ?_
  refine sLoad1 0 (iv a0.e) S (wN rfl) rfl rfl rfl rfl rfl rfl (lb rfl) fun a S => ?_
  refine sStore (p := b7) (off := 0) (T := 27) (vs := [iv 0]) (v := iv a0.e) 1 [iv a0.e] S (wN rfl) rfl rfl rfl rfl rfl rfl rfl (by simp) rfl fun a w S => ?_
  refine lT (au _ _ ?_)
  exact wpIn_ret (rBlock (rnR a0.e _ _ [] (Option.some.inj h) ⟨rfl, rfl, rfl⟩ (S.fix [0] [] (by decide) rfl rfl rfl)))
 ·intro a7 s0 L D a w hr hIL S
  clear h
  obtain rfl := hr
  dsimp only at ae hIL
  obtain ⟨rfl, rfl⟩ := hIL
  have h := ae
  clear ae a8
  replace S : St [mark a7] E [] w0 26 a w [(2, .pointer (some ⟨b7, 0, none⟩)), (18, .func (.func 99) #[] #[ac])] [eBox b7 27 [iv 0], eDef a7] [fPtr r_api_Chart (ac) ab] := S
  refine leafB (leafT (am _ _ ?_))
  refine sSeq (fun aS av => sRegion (sStore (p := b7) (off := 0) (T := 27) (vs := [iv 0]) (v := iv 0) 0 [iv 0] S (wN rfl) rfl rfl rfl rfl rfl rfl rfl (by simp) rfl fun a w S => ?_))
  refine lT (av _ _ (wp_ret (sRetM1 1 S rfl (fun a w S => ?_))))
  obtain rfl := tS h
  exact sFin (iv 0) S (rsl1 rfl (rv1 (c := 2) (t := 27) (T := 27) (p := b7) 0 (iv 0) S rfl rfl rfl)) ⟨(), rfl, S.mem.sel [] [] (by decide) rfl rfl⟩
 ·intro a7 c0 ag L D a w hr hIX S
  clear h
  obtain rfl := hr
  dsimp only at ae hIX
  obtain ⟨rfl, rfl, rfl⟩ := hIX
  have h := ae
  clear ae a8
  replace S : St [mark a7] E [] w0 26 a w [(2, .pointer (some ⟨b7, 0, none⟩)), (18, .func (.func 99) #[] #[ac])] [eBox b7 27 [iv ag], eDef a7] [] := S
  refine wp_ret (rBlock (rThen (sRetM1 1 S rfl (fun a w S => ?_))))
  obtain rfl := tS h
  exact sFin (iv ag) S (rsl1 rfl (rv1 (c := 2) (t := 27) (T := 27) (p := b7) 0 (iv ag) S rfl rfl rfl)) ⟨(), rfl, S.mem.sel [] [] (by decide) rfl rfl⟩
theorem set_v {α : Type} (xs : List α) (i : Nat) (y : α) (ad : Option Addr) (c : Nat) : Value.slice ad xs.length c = Value.slice ad (xs.set i y).length c := by rw [List.length_set]
theorem St.closeHN {dq : List Deferred} {E : Nat → Prop} {M : List Nat} {w0 : World} {n : Nat} {a : Act} {w : World} {F : List (Nat × Value)} {L : List Ent} {D : List Fact} {α : Type} {r : R α} {T : TypeId} {xs : List α} {y : α} {v u : Value} {j : Int} (i : Nat) (S : St dq E M w0 n a w F L D) (hL : L[i]? = some (eHole r T v xs (j.toNat * r.sz + 0) u)) (hu0 : (fRep r u y).p (tot E L) w) (hc : u.cells.toList = [u]) (hr : Scal r) :
 St dq E M w0 n a w F (eRow r T v (xs.set j.toNat y) :: L.eraseIdx i) D := by
 have hlt : j.toNat < xs.length := by
  obtain ⟨vs, ha, hm, hp, hl⟩ := S.mem.at hL
  exact Nat.lt_of_mul_lt_mul_right (a := r.sz) (by simpa using hp)
 have h1 : ∀ k : Nat, ∀ hk : k < xs.length, idxO xs (k : Int) = some xs[k] := fun k hk => by simp [idxO, hk]
 have h2 : ∀ k : Nat, k < xs.length → setO xs (k : Int) y = some (xs.set k y) := fun k hk => by simp [setO, hk]
 exact S.closeHE (j := (j.toNat : Int)) (x := xs[j.toNat]) i hL hu0 hc hr (h1 _ hlt) (h2 _ hlt)
noncomputable def F_compare_Charts_1 (p0 : api_Row) : Option Int :=
 some (w64 (1 + (p0.Cells.length : Int)))
theorem c_compare_Charts_1 (E : Nat → Prop) (w0 : World) (p0 : api_Row) (v0 : Value) (r : Int) (h : F_compare_Charts_1 p0 = some r) (S : St0 E [] w0 w0 [] [fRep r_api_Row (v0) p0]) :
 Calls Try.prog 52 #[v0] w0 (Ret (X := Unit) E [] w0 (fun _ => .int .i64 r) (fun _ => []) (fun _ => [])) := by
 unfold F_compare_Charts_1 at h
 obtain ⟨u1, rfl, a5⟩ := S.know (i := 0) (e := fRep r_api_Row (v0) p0) rfl
 have S := S.learn (fRep (rL r_api_Stitch) u1 p0.Cells) a5
 obtain ⟨a0, a4, _, rfl, _⟩ := a5
 refine sEnter (args := [.agg #[.bool p0.Back, .slice a0 p0.Cells.length a4]]) 7 Try.func52 rfl rfl (by simp) S (fun a S => ?_)
 refine sSeq (fun K5 a6 => sRegion (sBox (v := .agg #[.bool p0.Back, .slice a0 p0.Cells.length a4]) S (wN rfl) rfl rfl [.bool p0.Back, .slice a0 p0.Cells.length a4] rfl rfl (lb rfl) fun a b6 w S => ?_))
 refine sN S fun a S => ?_
 refine lT (a6 _ _ (sSeq (fun K7 a7 => sRegion (sField (b := b6) (off := 0) 1 1 S (wN rfl) rfl rfl rfl rfl rfl (lb rfl) fun a S => ?_))))
 refine sLoad1 0 (.slice a0 p0.Cells.length a4) S (wN rfl) rfl rfl rfl rfl rfl rfl (lb rfl) fun a S => ?_
 refine sLen S (wN rfl) rfl Try.underlying47 rfl rfl (lb rfl) fun a S => ?_
 refine sBin _ S (wN rfl) rfl rfl rfl (bAdd _ _ _ _ 1 (p0.Cells.length : Int)) rfl (lb rfl) fun a S => ?_
 refine sN S fun a S => ?_
 refine lT (a7 _ _ ?_)
 obtain rfl := tS h
 exact wp_ret (sRet (iv (w64 (1 + (p0.Cells.length : Int)))) S (rsl1 rfl (rvT (t := 2) (v := iv (w64 (1 + (p0.Cells.length : Int)))) S rfl)) ⟨(), rfl, S.mem.sel [] [] (by decide) rfl rfl⟩)
noncomputable def F_compare_cellTable_1 (p0 : api_Stitch) : Option Int :=
 some 1
theorem c_compare_cellTable_1 (E : Nat → Prop) (w0 : World) (p0 : api_Stitch) (v0 : Value) (r : Int) (h : F_compare_cellTable_1 p0 = some r) (S : St0 E [] w0 w0 [] [fRep r_api_Stitch (v0) p0]) :
 Calls Try.prog 84 #[v0] w0 (Ret (X := Unit) E [] w0 (fun _ => .int .i64 r) (fun _ => []) (fun _ => [])) := by
 unfold F_compare_cellTable_1 at h
 obtain rfl : v0 = .agg #[.int .u8 p0.Kind, .bool p0.Purl, iv p0.A, iv p0.B] := S.know (i := 0) (e := fRep r_api_Stitch (v0) p0) rfl
 refine sEnter (args := [.agg #[.int .u8 p0.Kind, .bool p0.Purl, iv p0.A, iv p0.B]]) 3 Try.func84 rfl rfl (by simp) S (fun a S => ?_)
 refine sSeq (fun K1 a0 => sRegion (sBox (v := .agg #[.int .u8 p0.Kind, .bool p0.Purl, iv p0.A, iv p0.B]) S (wN rfl) rfl rfl [.int .u8 p0.Kind, .bool p0.Purl, iv p0.A, iv p0.B] rfl rfl (lb rfl) fun a b2 w S => ?_))
 refine sN S fun a S => ?_
 refine lT (a0 _ _ (sSeq (fun K3 a4 => sRegion (sN S fun a S => ?_))))
 refine lT (a4 _ _ ?_)
 obtain rfl := tS h
 exact wp_ret (sRet (iv 1) S (rsl1 rfl (rvT (t := 2) (v := iv 1) S rfl)) ⟨(), rfl, S.mem.sel [] [] (by decide) rfl rfl⟩)
noncomputable def F_compare_cellTable_2 (p0 : api_Stitch) (p1 : api_Stitch) : Option Int :=
 if ((p0.Kind == p1.Kind) && ((p0.Purl == p1.Purl) && ((p0.A == p1.A) && ((p0.B == p1.B) && true)))) then
  some 0
 else
  some 1
theorem c_compare_cellTable_2 (E : Nat → Prop) (w0 : World) (p0 : api_Stitch) (v0 : Value) (p1 : api_Stitch) (v1 : Value) (r : Int) (h : F_compare_cellTable_2 p0 p1 = some r) (S : St0 E [] w0 w0 [] [fRep r_api_Stitch (v0) p0, fRep r_api_Stitch (v1) p1]) :
 Calls Try.prog 85 #[v0, v1] w0 (Ret (X := Unit) E [] w0 (fun _ => .int .i64 r) (fun _ => []) (fun _ => [])) := by
 unfold F_compare_cellTable_2 at h
 obtain rfl : v0 = .agg #[.int .u8 p0.Kind, .bool p0.Purl, iv p0.A, iv p0.B] := S.know (i := 0) (e := fRep r_api_Stitch (v0) p0) rfl
 obtain rfl : v1 = .agg #[.int .u8 p1.Kind, .bool p1.Purl, iv p1.A, iv p1.B] := S.know (i := 1) (e := fRep r_api_Stitch (v1) p1) rfl
 refine sEnter (args := [.agg #[.int .u8 p0.Kind, .bool p0.Purl, iv p0.A, iv p0.B], .agg #[.int .u8 p1.Kind, .bool p1.Purl, iv p1.A, iv p1.B]]) 8 Try.func85 rfl rfl (by simp) S (fun a S => ?_)
 refine sSeq (fun K1 a4 => sRegion (sBox (v := .agg #[.int .u8 p0.Kind, .bool p0.Purl, iv p0.A, iv p0.B]) S (wN rfl) rfl rfl [.int .u8 p0.Kind, .bool p0.Purl, iv p0.A, iv p0.B] rfl rfl (lb rfl) fun a b2 w S => ?_))
 refine sBox (v := .agg #[.int .u8 p1.Kind, .bool p1.Purl, iv p1.A, iv p1.B]) S (wN rfl) rfl rfl [.int .u8 p1.Kind, .bool p1.Purl, iv p1.A, iv p1.B] rfl rfl (lb rfl) fun a b3 w S => ?_
 refine sN S fun a S => ?_
 refine lT (a4 _ _ (sSeq (fun K4 a5 => sSeq (fun K5 a6 => sRegion (sLoadN (p := b2) (off := 0) (T := 81) (vs := [.int .u8 p0.Kind, .bool p0.Purl, iv p0.A, iv p0.B]) 1 [.int .u8 p0.Kind, .bool p0.Purl, iv p0.A, iv p0.B] S (wN rfl) rfl rfl rfl rfl rfl rfl rfl (lb rfl) fun a S => ?_)))))
 refine sLoadN (p := b3) (off := 0) (T := 81) (vs := [.int .u8 p1.Kind, .bool p1.Purl, iv p1.A, iv p1.B]) 0 [.int .u8 p1.Kind, .bool p1.Purl, iv p1.A, iv p1.B] S (wN rfl) rfl rfl rfl rfl rfl rfl rfl (lb rfl) fun a S => ?_
 refine sBin _ S (wN rfl) rfl rfl rfl (bEqV _ _ _ _ #[.int .u8 p0.Kind, .bool p0.Purl, iv p0.A, iv p0.B] #[.int .u8 p1.Kind, .bool p1.Purl, iv p1.A, iv p1.B] ((p0.Kind == p1.Kind) && ((p0.Purl == p1.Purl) && ((p0.A == p1.A) && ((p0.B == p1.B) && true)))) (by kernel_rfl) (eqlV_of (by kernel_rfl))) rfl (lb rfl) fun a S => ?_
 refine lT (a6 _ _ ?_)
 rcases iS h with ⟨a0, h⟩ | ⟨a0, h⟩
 ·refine sCondT S rfl a0 ?_
  refine sSeq (fun K7 a7 => sRegion (sN S fun a S => ?_))
  refine lT (a7 _ _ ?_)
  obtain rfl := tS h
  exact wp_ret (rThen (sRet (iv 0) S (rsl1 rfl (rvT (t := 4) (v := iv 0) S rfl)) ⟨(), rfl, S.mem.sel [] [] (by decide) rfl rfl⟩))
 refine sCondF S rfl a0 ?_
 refine wp_skip (leafT (a5 _ _ ?_))
 refine sSeq (fun K8 a8 => sRegion (sN S fun a S => ?_))
 refine lT (a8 _ _ ?_)
 obtain rfl := tS h
 exact wp_ret (sRet (iv 1) S (rsl1 rfl (rvT (t := 4) (v := iv 1) S rfl)) ⟨(), rfl, S.mem.sel [] [] (by decide) rfl rfl⟩)
def anc_compare_table_api_Stitch__s0_0 : List (List Nat) := [[], [], [0, 1], [0, 1, 2], [], [], [], [5, 6], [5, 6, 7], [], [9], [5, 6, 7, 8, 9, 10], [5, 6, 7, 8, 9, 10, 11], [], [], [], [14, 15], [14, 15, 16], [13, 14, 15, 16, 17], [5, 6, 7, 8, 9, 10, 11, 12, 13, 14, 15, 16, 17, 18], [0, 1, 2, 3, 4, 5, 6, 7, 8, 9, 10, 11, 12, 13, 14, 15, 16, 17, 18, 19], [0, 1, 2, 3, 4, 5, 6, 7, 8, 9, 10, 11, 12, 13, 14, 15, 16, 17, 18, 19, 20]]
def anc_compare_table_api_Stitch__s0_1 : List (List Nat) := [[], [], [0, 1], [0, 1, 2], [], [], [], [6], [5, 6, 7], [5, 6, 7, 8], [], [5, 6, 7, 8, 9, 10], [5, 6, 7, 8, 9, 10, 11], [], [], [], [14, 15], [14, 15, 16], [13, 14, 15, 16, 17], [5, 6, 7, 8, 9, 10, 11, 12, 13, 14, 15, 16, 17, 18], [0, 1, 2, 3, 4, 5, 6, 7, 8, 9, 10, 11, 12, 13, 14, 15, 16, 17, 18, 19], [0, 1, 2, 3, 4, 5, 6, 7, 8, 9, 10, 11, 12, 13, 14, 15, 16, 17, 18, 19, 20]]
def anc_compare_table_api_Stitch__s0_2 : List (List Nat) := [[], [], [0, 1], [0, 1, 2], [], [], [], [6], [5, 6, 7], [5, 6, 7, 8], [], [5, 6, 7, 8, 9, 10], [5, 6, 7, 8, 9, 10, 11], [], [], [], [14, 15], [14, 15, 16], [13, 14, 15, 16, 17], [5, 6, 7, 8, 9, 10, 11, 12, 13, 14, 15, 16, 17, 18], [], [], [20, 21], [20, 21, 22], [], [24], [20, 21, 22, 23, 24, 25], [20, 21, 22, 23, 24, 25, 26], [], [], [], [29, 30], [29, 30, 31], [13, 14, 15, 16, 17, 18, 28, 29, 30, 31, 32], [13, 14, 15, 16, 17, 18, 20, 21, 22, 23, 24, 25, 26, 27, 28, 29, 30, 31, 32, 33], [], [], [36], [35, 36, 37], [35, 36, 37, 38], [], [40], [35, 36, 37, 38, 39, 40, 41], [35, 36, 37, 38, 39, 40, 41, 42], [], [], [], [45, 46], [45, 46, 47], [], [], [49, 50], [49, 50, 51], [13, 14, 15, 16, 17, 18, 28, 29, 30, 31, 32, 33, 44, 45, 46, 47, 48, 49, 50, 51, 52], [13, 14, 15, 16, 17, 18, 28, 29, 30, 31, 32, 33, 35, 36, 37, 38, 39, 40, 41, 42, 43, 44, 45, 46, 47, 48, 49, 50, 51, 52, 53], [5, 6, 7, 8, 9, 10, 11, 12, 13, 14, 15, 16, 17, 18, 19, 20, 21, 22, 23, 24, 25, 26, 27, 28, 29, 30, 31, 32, 33, 34, 35, 36, 37, 38, 39, 40, 41, 42, 43, 44, 45, 46, 47, 48, 49, 50, 51, 52, 53, 54], [0, 1, 2, 3, 4, 5, 6, 7, 8, 9, 10, 11, 12, 13, 14, 15, 16, 17, 18, 19, 20, 21, 22, 23, 24, 25, 26, 27, 28, 29, 30, 31, 32, 33, 34, 35, 36, 37, 38, 39, 40, 41, 42, 43, 44, 45, 46, 47, 48, 49, 50, 51, 52, 53, 54, 55], [0, 1, 2, 3, 4, 5, 6, 7, 8, 9, 10, 11, 12, 13, 14, 15, 16, 17, 18, 19, 20, 21, 22, 23, 24, 25, 26, 27, 28, 29, 30, 31, 32, 33, 34, 35, 36, 37, 38, 39, 40, 41, 42, 43, 44, 45, 46, 47, 48, 49, 50, 51, 52, 53, 54, 55, 56]]
noncomputable def compare_table_api_Stitch__s0_l1 (a5 : Int) (p0 : (List api_Stitch)) (p1 : (List api_Stitch)) (ao : List (List Int)) : (Int × List Int) → Option ((Int × List Int) ⊕ List Int) := fun s0 => match s0 with
 | (a0, a4) =>
  if decide (0 ≤ a0) then
   Option.bind (α := List Int) (
    Option.bind (α := Bool) (
     if a5 == (p0.length : Int) then
      some (a0 == (p1.length : Int))
     else
      some false) fun ap =>
    if ap then
     some a4
    else
     if a5 == (p0.length : Int) then
      (idxO a4 (w64 (a0 + 1))).bind fun aq =>
      (idxO p1 a0).bind fun ar =>
      (F_compare_cellTable_1 ar).bind fun au =>
      (idxO a4 a0).bind fun az =>
      (setO a4 a0 (w64 (aq + au))).bind fun av =>
      some av
     else
      if a0 == (p1.length : Int) then
       (idxO ao (w64 (a5 + 1))).bind fun a9 =>
       (idxO a9 a0).bind fun aa =>
       (idxO p0 a5).bind fun ab =>
       (F_compare_cellTable_1 ab).bind fun ac =>
       (idxO a4 a0).bind fun aw =>
       (setO a4 a0 (w64 (aa + ac))).bind fun ae =>
       some ae
      else
       (idxO ao (w64 (a5 + 1))).bind fun a6 =>
       (idxO a6 a0).bind fun af =>
       (idxO p0 a5).bind fun a7 =>
       (F_compare_cellTable_1 a7).bind fun ag =>
       (idxO a4 (w64 (a0 + 1))).bind fun ah =>
       (idxO p1 a0).bind fun a8 =>
       (F_compare_cellTable_1 a8).bind fun ai =>
       (idxO a6 (w64 (a0 + 1))).bind fun aj =>
       (F_compare_cellTable_2 a7 a8).bind fun ak =>
       (idxO a4 a0).bind fun ax =>
       (setO a4 a0 (min3 (w64 (af + ag)) (w64 (ah + ai)) (w64 (aj + ak)))).bind fun am =>
       some am) fun ay =>
   some (.inl (w64 (a0 - 1), ay))
  else
   some (.inr a4)
noncomputable def compare_table_api_Stitch__s0_l2 (p1 : (List api_Stitch)) (p0 : (List api_Stitch)) : (List (List Int) × Int) → Option ((List (List Int) × Int) ⊕ List (List Int)) := fun s0 => match s0 with
 | (a4, a0) =>
  if decide (0 ≤ a0) then
   Option.bind (α := List Int) (
    (makeO (w64 ((p1.length : Int) + 1)) (0 : Int)).bind fun a5 =>
    (idxO a4 a0).bind fun a8 =>
    (whileO (compare_table_api_Stitch__s0_l1 a0 p0 p1 a4) ((p1.length : Int), a5)).bind fun a6 =>
     some a6) fun a7 =>
   some (.inl ((a4.set (a0).toNat a7), w64 (a0 - 1)))
  else
   some (.inr a4)
noncomputable def F_compare_table_api_Stitch__s0 (p0 : (List api_Stitch)) (p1 : (List api_Stitch)) : Option (List (List Int)) :=
 (makeO (w64 ((p0.length : Int) + 1)) ([] : (List Int))).bind fun m9 =>
 Option.bind (α := List (List Int)) (
  (whileO (compare_table_api_Stitch__s0_l2 p1 p0) (m9, (p0.length : Int))).bind fun a0 =>
   some a0) fun a4 =>
 some a4
def c_compare_table_api_Stitch__s0_val (r : (List (List Int))) (x : Value) : Value := x
def c_compare_table_api_Stitch__s0_D (r : (List (List Int))) (x : Value) : List Fact := [fRep (rL (rL (rI .i64))) x r]
theorem c_compare_table_api_Stitch__s0 (E : Nat → Prop) (w0 : World) (p0 : (List api_Stitch)) (v0 : Value) (p1 : (List api_Stitch)) (v1 : Value) (r : (List (List Int))) (h : F_compare_table_api_Stitch__s0 p0 p1 = some r) (S : St0 E [] w0 w0 [] [fRep (rL r_api_Stitch) (v0) p0, fRep (rL r_api_Stitch) (v1) p1]) :
 Calls Try.prog 83 #[v0, v1, .func (.func 84) #[] #[], .func (.func 85) #[] #[]] w0 (Ret (X := Value) E [] w0 (c_compare_table_api_Stitch__s0_val r) (fun _ => []) (c_compare_table_api_Stitch__s0_D r)) := by
 unfold F_compare_table_api_Stitch__s0 at h
 obtain ⟨av, aw, _, rfl, _⟩ := S.know (i := 0) (e := fRep (rL r_api_Stitch) (v0) p0) rfl
 obtain ⟨ar, au, _, rfl, _⟩ := S.know (i := 1) (e := fRep (rL r_api_Stitch) (v1) p1) rfl
 refine sEnter (args := [.slice av p0.length aw, .slice ar p1.length au, .func (.func 84) #[] #[], .func (.func 85) #[] #[]]) 156 Try.func83 rfl rfl (by simp) S (fun a S => ?_)
 refine sSeq (fun K5 dz => sRegion (sN S fun a S => ?_))
 refine lT (dz _ _ (sSeq (fun K6 dA => sRegion (sM S fun a S => ?_))))
 refine sLen S (wN rfl) rfl Try.underlying47 rfl rfl (lb rfl) fun a S => ?_
 refine sBin _ S (wN rfl) rfl rfl rfl (bAdd _ _ _ _ (p0.length : Int) 1) rfl (lb rfl) fun a S => ?_
 obtain ⟨m9, cM, h⟩ := bS h
 refine sMake (r := (rL (rI .i64))) (m := w64 ((p0.length : Int) + 1)) (xs := m9) (.slice none 0 0) ([] : (List Int)) 24 S (wN rfl) rfl Try.underlying98 rfl rfl (by decide) (fun E w => rL_nil _ E w) rfl rfl cM rfl (lb rfl) fun a w ac ae S => ?_
 refine sN S fun a S => ?_
 refine lT (dA _ _ ?_)
 obtain ⟨dB, h, dC⟩ := bS h
 refine sCut (fun a w => ∃ bm, bm = dB ∧ St [] E [] w0 156 a w [(9, .slice ac bm.length ae)] [eRow (rL (rI .i64)) 101 (.slice ac bm.length ae) bm] []) ?_ (fun a w hI => ?_)
 rotate_left
 ·obtain ⟨bm, rfl, S⟩ := hI
  have h := dC
  try dsimp only at h
  refine sSeq (fun dD cj => sRegion (sM S fun a S => ?_))
  refine sN S fun a S => ?_
  refine lT (cj _ _ ?_)
  obtain rfl := tS h
  have S := S.shutR (r := (rL (rI .i64))) (T := 101) (v := .slice ac bm.length ae) (xs := bm) 0 rfl
  exact wp_ret (sRet (.slice ac bm.length ae) S (rsl1 rfl (rvT (t := 8) (v := .slice ac bm.length ae) S rfl)) ⟨(.slice ac bm.length ae), rfl, S.mem.sel [] [0] (by decide) rfl rfl⟩)
 refine sSeq (fun dR cN => sRegion (sM S fun a S => ?_))
 refine sLen S (wN rfl) rfl Try.underlying47 rfl rfl (lb rfl) fun a S => ?_
 refine sN S fun a S => ?_
 refine lT (cN _ _ (wp_block ?_))
 obtain ⟨dS, hl, dE⟩ := bS h
 refine sLoop hl (fun s0 a w => match s0 with | (a7, a8) => St [] E [] w0 156 a w [(0, .slice av p0.length aw), (1, .slice ar p1.length au), (2, .func (.func 84) #[] #[]), (3, .func (.func 85) #[] #[]), (9, .slice ac a7.length ae), (10, iv a8)] [eRow (rL (rI .i64)) 101 (.slice ac a7.length ae) a7] [fRep (rL r_api_Stitch) (.slice av p0.length aw) p0, fRep (rL r_api_Stitch) (.slice ar p1.length au) p1]) (S.fix [0] [0, 1] (by decide) rfl rfl rfl) ?_
 clear hl h
 intro s0 a w c0 hI h cO
 obtain ⟨a7, a8⟩ := s0
 unfold compare_table_api_Stitch__s0_l2 at h
 dsimp only at h hI
 have S := hI
 refine sSeq (fun dU cP => sSeq (fun dV cQ => sRegion (sM S fun a S => ?_)))
 refine sBin _ S (wN rfl) rfl rfl rfl (bGe _ _ _ _ .i64 a8 0) rfl (lb rfl) fun a S => ?_
 refine lT (cQ _ _ ?_)
 rcases iS h with ⟨bZ, h⟩ | ⟨bZ, h⟩
 rotate_left
 ·refine sCondF S rfl bZ ?_
  obtain rfl := tS h
  obtain rfl := cO _ rfl
  have h := dE
  try dsimp only at h
  exact wp_exit (xThen (xThen (xHit (leafT (⟨a7, Option.some.inj h, S.fix [0] [] (by decide) rfl rfl rfl⟩)))))
 refine sCondT S rfl bZ ?_
 refine wp_skip (leafT (cP _ _ ?_))
 obtain ⟨dG, h, dH⟩ := bS h
 refine sCut (fun a w => ∃ aZ, aZ = dG ∧ ∃ ba, ∃ bb, St [] E [] w0 156 a w [(0, .slice av p0.length aw), (1, .slice ar p1.length au), (2, .func (.func 84) #[] #[]), (3, .func (.func 85) #[] #[]), (9, .slice ac a7.length ae), (10, iv a8)] [eHole (rL (rI .i64)) 101 (.slice ac a7.length ae) a7 ((a8).toNat * (rL (rI .i64)).sz + 0) (.slice ba aZ.length bb), eRow (rI .i64) 3 (.slice ba aZ.length bb) aZ] [fRep (rL r_api_Stitch) (.slice av p0.length aw) p0, fRep (rL r_api_Stitch) (.slice ar p1.length au) p1]) ?_ (fun a w hI => ?_)
 rotate_left
 ·obtain ⟨aZ, rfl, ba, bb, S⟩ := hI
  have h := dH
  try dsimp only at h
  refine sRegion (sM S fun a S => ?_)
  refine sBin _ S (wN rfl) rfl rfl rfl (bSub _ _ _ _ a8 1) rfl (lb rfl) fun a S => ?_
  refine sN S fun a S => ?_
  have S := S.shutR (r := (rI .i64)) (T := 3) (v := .slice ba aZ.length bb) (xs := aZ) 1 rfl
  have S := S.closeHN (r := (rL (rI .i64))) (T := 101) (xs := a7) (y := aZ) (v := .slice ac a7.length ae) (u := .slice ba aZ.length bb) (j := a8) 0 rfl (S.mem.know (i := 0) (e := fRep (rL (rI .i64)) (.slice ba aZ.length bb) aZ) rfl) rfl (scal_L _)
  rw [set_v a7 (a8).toNat aZ ac ae] at S
  exact lT (⟨((a7.set (a8).toNat aZ), w64 (a8 - 1)), (Option.some.inj h).symm, (S.fix [0] [1, 2] (by decide) rfl rfl rfl)⟩)
 refine wp_block ?_
 refine sSeq (fun dW cR => sRegion (sM S fun a S => ?_))
 refine sM S fun a S => ?_
 refine sM S fun a S => ?_
 refine sLen S (wN rfl) rfl Try.underlying47 rfl rfl (lb rfl) fun a S => ?_
 refine sBin _ S (wN rfl) rfl rfl rfl (bAdd _ _ _ _ (p1.length : Int) 1) rfl (lb rfl) fun a S => ?_
 obtain ⟨dt, cS, h⟩ := bS h
 refine sMake (r := (rI .i64)) (m := w64 ((p1.length : Int) + 1)) (xs := dt) (iv 0) (0 : Int) 8 S (wN rfl) rfl Try.underlying101 rfl rfl (by decide) (fun _ _ => rfl) rfl rfl cS rfl (lb rfl) fun a w a5 a6 S => ?_
 obtain ⟨dI, ap, h⟩ := bS h
 obtain ⟨dJ, cT, cU⟩ := pIdxR (P := Try.prog) (r := (rL (rI .i64))) (T := 101) (v := .slice ac a7.length ae) (xs := a7) (j := a8) 98 101 1 S Try.underlying98 rfl rfl ap
 refine sIdxV S (wN rfl) rfl rfl rfl cT rfl (lb rfl) fun a S => ?_
 refine sStoreHE (r := (rL (rI .i64))) (T := 101) (xs := a7) (x := dI) (v := .slice ac a7.length ae) (vq := dJ) (u := .slice a5 dt.length a6) (j := a8) 1 S cU (wN rfl) rfl rfl rfl rfl ap rfl rfl rfl rfl fun a w S => ?_
 refine lT (cR _ _ (sSeq (fun dX cV => sRegion (sM S fun a S => ?_))))
 refine sLen S (wN rfl) rfl Try.underlying47 rfl rfl (lb rfl) fun a S => ?_
 refine sN S fun a S => ?_
 refine lT (cV _ _ (wp_block ?_))
 obtain ⟨dY, hl, dK⟩ := bS h
 refine sLoop hl (fun s0 a w => match s0 with | (aa, ab) => St [] E [] w0 156 a w [(0, .slice av p0.length aw), (1, .slice ar p1.length au), (2, .func (.func 84) #[] #[]), (3, .func (.func 85) #[] #[]), (9, .slice ac a7.length ae), (10, iv a8), (11, iv aa)] [eHole (rL (rI .i64)) 101 (.slice ac a7.length ae) a7 ((a8).toNat * (rL (rI .i64)).sz + 0) (.slice a5 ab.length a6), eRow (rI .i64) 3 (.slice a5 ab.length a6) ab] [fRep (rL r_api_Stitch) (.slice av p0.length aw) p0, fRep (rL r_api_Stitch) (.slice ar p1.length au) p1]) (S.fix [0, 1] [0, 1] (by decide) rfl rfl rfl) ?_
 clear hl h
 intro s0 a w c0 hI h cW
 obtain ⟨aa, ab⟩ := s0
 unfold compare_table_api_Stitch__s0_l1 at h
 dsimp only at h hI
 have S := hI
 refine sSeq (fun dZ cX => sSeq (fun e5 cY => sRegion (sM S fun a S => ?_)))
 refine sBin _ S (wN rfl) rfl rfl rfl (bGe _ _ _ _ .i64 aa 0) rfl (lb rfl) fun a S => ?_
 refine lT (cY _ _ ?_)
 rcases iS h with ⟨c5, h⟩ | ⟨c5, h⟩
 rotate_left
 ·refine sCondF S rfl c5 ?_
  obtain rfl := tS h
  obtain rfl := cW _ rfl
  have h := dK
  try dsimp only at h
  exact wp_exit (xThen (xThen (xHit (leafB (leafT (⟨ab, Option.some.inj h, a5, a6, S.fix [0, 1] [0, 1] (by decide) rfl rfl rfl⟩))))))
 refine sCondT S rfl c5 ?_
 refine wp_skip (leafT (cX _ _ ?_))
 obtain ⟨dL, h, dM⟩ := bS h
 refine sCut (fun a w => ∃ ci, ci = dL ∧ St [] E [] w0 156 a w [(0, .slice av p0.length aw), (1, .slice ar p1.length au), (2, .func (.func 84) #[] #[]), (3, .func (.func 85) #[] #[]), (9, .slice ac a7.length ae), (10, iv a8), (11, iv aa)] [eHole (rL (rI .i64)) 101 (.slice ac a7.length ae) a7 ((a8).toNat * (rL (rI .i64)).sz + 0) (.slice a5 ci.length a6), eRow (rI .i64) 3 (.slice a5 ci.length a6) ci] [fRep (rL r_api_Stitch) (.slice av p0.length aw) p0, fRep (rL r_api_Stitch) (.slice ar p1.length au) p1]) ?_ (fun a w hI => ?_)
 rotate_left
 ·obtain ⟨ci, rfl, S⟩ := hI
  have h := dM
  try dsimp only at h
  refine sRegion (sM S fun a S => ?_)
  refine sBin _ S (wN rfl) rfl rfl rfl (bSub _ _ _ _ aa 1) rfl (lb rfl) fun a S => ?_
  refine sN S fun a S => ?_
  exact lT (⟨(w64 (aa - 1), ci), (Option.some.inj h).symm, (S.fix [0, 1] [0, 1] (by decide) rfl rfl rfl)⟩)
 refine wp_block ?_
 refine wp_block ?_
 obtain ⟨dN, h, dO⟩ := bS h
 refine sCut (fun a w => ∃ cZ, cZ = dN ∧ St [] E [] w0 156 a w [(0, .slice av p0.length aw), (1, .slice ar p1.length au), (2, .func (.func 84) #[] #[]), (3, .func (.func 85) #[] #[]), (9, .slice ac a7.length ae), (10, iv a8), (11, iv aa), (92, .bool cZ)] [eHole (rL (rI .i64)) 101 (.slice ac a7.length ae) a7 ((a8).toNat * (rL (rI .i64)).sz + 0) (.slice a5 ab.length a6), eRow (rI .i64) 3 (.slice a5 ab.length a6) ab] [fRep (rL r_api_Stitch) (.slice av p0.length aw) p0, fRep (rL r_api_Stitch) (.slice ar p1.length au) p1]) ?_ (fun a w hI => ?_)
 ·refine sRegion (sM S fun a S => ?_)
  refine sM S fun a S => ?_
  refine sLen S (wN rfl) rfl Try.underlying47 rfl rfl (lb rfl) fun a S => ?_
  refine sBin _ S (wN rfl) rfl rfl rfl (bEq _ _ _ _ .i64 a8 (p0.length : Int)) rfl (lb rfl) fun a S => ?_
  refine sM S fun a S => ?_
  rcases iS h with ⟨aA, h⟩ | ⟨aA, h⟩
  rotate_left
  ·refine sSkN 4 4 true 97 S rfl rfl aA rfl fun a S => ?_
   refine sPickF (.bool false) S (wN rfl) rfl rfl aA rfl rfl (lb rfl) fun a S => ?_
   refine sN S fun a S => ?_
   exact lT (⟨false, Option.some.inj h, S.fix [0, 1] [0, 1] (by decide) rfl rfl rfl⟩)
  refine sMove (iv aa) S (wG 4 true 97 rfl rfl rfl aA) (.inl rfl) rfl rfl (lb rfl) fun a S => ?_
  refine sMove (.slice ar p1.length au) S (wG 4 true 97 rfl rfl rfl aA) (.inl rfl) rfl rfl (lb rfl) fun a S => ?_
  refine sLen S (wG 4 true 97 rfl rfl rfl aA) rfl Try.underlying47 rfl rfl (lb rfl) fun a S => ?_
  refine sBin _ S (wG 4 true 97 rfl rfl rfl aA) rfl rfl rfl (bEq _ _ _ _ .i64 aa (p1.length : Int)) rfl (lb rfl) fun a S => ?_
  refine sPickT (.bool (aa == (p1.length : Int))) S (wN rfl) rfl rfl aA rfl rfl (lb rfl) fun a S => ?_
  refine sN S fun a S => ?_
  exact lT (⟨aa == (p1.length : Int), Option.some.inj h, S.fix [0, 1] [0, 1] (by decide) rfl rfl rfl⟩)
 obtain ⟨cZ, rfl, S⟩ := hI
 have h := dO
 try dsimp only at h
 rcases iS h with ⟨c6, h⟩ | ⟨c6, h⟩
 ·refine sCondT S rfl c6 ?_
  exact wp_skip (leafB (leafB (leafT (⟨ab, Option.some.inj h, S.fix [0, 1] [0, 1] (by decide) rfl rfl rfl⟩))))
 refine sCondF S rfl c6 ?_
 refine sSeq (fun e6 d4 => sRegion (sM S fun a S => ?_))
 refine sM S fun a S => ?_
 refine sLen S (wN rfl) rfl Try.underlying47 rfl rfl (lb rfl) fun a S => ?_
 refine sBin _ S (wN rfl) rfl rfl rfl (bEq _ _ _ _ .i64 a8 (p0.length : Int)) rfl (lb rfl) fun a S => ?_
 refine sN S fun a S => ?_
 refine lT (d4 _ _ ?_)
 rcases iS h with ⟨c7, h⟩ | ⟨c7, h⟩
 ·refine sCondT S rfl c7 ?_
  obtain ⟨bt, ck, h⟩ := bS h
  obtain ⟨aq, d5, h⟩ := bS h
  obtain ⟨bu, d6, h⟩ := bS h
  obtain ⟨e7, d7, h⟩ := bS h
  obtain ⟨du, cl, h⟩ := bS h
  obtain ⟨dv, d8, d9⟩ := pIdxH (P := Try.prog) (r := (rL (rI .i64))) (T := 101) (v := .slice ac a7.length ae) (xs := a7) (j := a8) 98 101 0 S Try.underlying98 rfl rfl ap
  obtain ⟨dw, da, db⟩ := pIdxH (P := Try.prog) (r := (rL (rI .i64))) (T := 101) (v := .slice ac a7.length ae) (xs := a7) (j := a8) 98 101 0 S Try.underlying98 rfl rfl ap
  obtain ⟨dx, dc, de⟩ := pIdxR (P := Try.prog) (r := (rI .i64)) (T := 3) (v := .slice a5 ab.length a6) (xs := ab) (j := w64 (aa + 1)) 101 3 1 S Try.underlying101 rfl rfl ck
  obtain ⟨df, dg, S⟩ := pIdx (P := Try.prog) (r := r_api_Stitch) (v := .slice ar p1.length au) (xs := p1) (j := aa) 47 81 1 S Try.underlying47 rfl rfl d5
  obtain ⟨dy, S⟩ := pLoad (r := r_api_Stitch) (q := df) (x := aq) 0 S rfl
  obtain rfl : dy = .agg #[.int .u8 aq.Kind, .bool aq.Purl, iv aq.A, iv aq.B] := S.mem.know (i := 1) (e := fRep r_api_Stitch (dy) aq) rfl
  obtain ⟨dh, di, dj⟩ := pIdxR (P := Try.prog) (r := (rI .i64)) (T := 3) (v := .slice a5 ab.length a6) (xs := ab) (j := aa) 101 3 1 S Try.underlying101 rfl rfl d7
  refine sDraw (nf := [21]) (W := [(0, 108, .slice ac a7.length ae), (1, 109, iv a8), (2, 110, dv), (3, 111, .slice a5 ab.length a6), (4, 112, iv aa), (5, 113, .slice ac a7.length ae), (6, 114, iv a8), (7, 115, dw), (8, 116, .slice a5 ab.length a6), (9, 117, iv aa), (10, 118, iv (w64 (aa + 1))), (11, 119, dx), (12, 120, iv bt), (13, 121, .func (.func 84) #[] #[]), (14, 122, .slice ar p1.length au), (15, 123, iv aa), (16, 124, df), (17, 125, .agg #[.int .u8 aq.Kind, .bool aq.Purl, iv aq.A, iv aq.B]), (18, 126, iv bu), (19, 127, iv (w64 (bt + bu))), (20, 128, dh)]) rfl S ?_
  refine node_by (A := anc_compare_table_api_Stitch__s0_0) 22 (by kernel_rfl) (by kernel_rfl) (by kernel_rfl) (by kernel_rfl) (by kernel_rfl) [0, 1, 2, 3, 4, 5, 6, 7, 8, 9, 10, 11, 12, 13, 14, 15, 16, 17, 18, 19, 20] (by kernel_rfl) (by decide) (by decide) (fF ?_ (fF ?_ (fF ?_ (fF ?_ (fF ?_ (fF ?_ (fF ?_ (fF ?_ (fF ?_ (fF ?_ (fF ?_ (fF ?_ (fF ?_ (fF ?_ (fF ?_ (fF ?_ (fF ?_ (fF ?_ (fF ?_ (fF ?_ (fF ?_ (fN ?_ (trivial))))))))))))))))))))))) [] (fun q hq => by cases hq) (fun hY => absurd (hY 21 (by decide)) (by decide))
  ·exact fM 0 none rfl rfl rfl rfl (.inl rfl) rfl rfl rfl
  ·exact fM 1 none rfl rfl rfl rfl (.inl rfl) rfl rfl rfl
  ·refine fJ [(108, _), (109, _)] 2 [some 0, some 1] fun G a w S => ?_
   exact sIdxV S (wN rfl) rfl rfl rfl d8 rfl (lb rfl) fun a S => leafL ⟨rfl, S⟩
  ·refine fJ [(110, _)] 3 [some 2] fun G a w S => ?_
   exact sLoadHE (r := (rL (rI .i64))) (T := 101) (xs := a7) (u := .slice a5 ab.length a6) (v := .slice ac a7.length ae) (vq := dv) (j := a8) 0 S d9 (wN rfl) rfl rfl rfl rfl rfl (lb rfl) fun a S => leafL ⟨rfl, S⟩
  ·exact fM 4 none rfl rfl rfl rfl (.inl rfl) rfl rfl rfl
  ·exact fM 5 none rfl rfl rfl rfl (.inl rfl) rfl rfl rfl
  ·exact fM 6 none rfl rfl rfl rfl (.inl rfl) rfl rfl rfl
  ·refine fJ [(113, _), (114, _)] 7 [some 5, some 6] fun G a w S => ?_
   exact sIdxV S (wN rfl) rfl rfl rfl da rfl (lb rfl) fun a S => leafL ⟨rfl, S⟩
  ·refine fJ [(115, _)] 8 [some 7] fun G a w S => ?_
   exact sLoadHE (r := (rL (rI .i64))) (T := 101) (xs := a7) (u := .slice a5 ab.length a6) (v := .slice ac a7.length ae) (vq := dw) (j := a8) 0 S db (wN rfl) rfl rfl rfl rfl rfl (lb rfl) fun a S => leafL ⟨rfl, S⟩
  ·exact fM 9 none rfl rfl rfl rfl (.inl rfl) rfl rfl rfl
  ·refine fJ [(117, _)] 10 [some 9] fun G a w S => ?_
   exact sBin _ S (wN rfl) rfl rfl rfl (bAdd _ _ _ _ aa 1) rfl (lb rfl) fun a S => leafL ⟨rfl, S⟩
  ·refine fJ [(116, _), (118, _)] 11 [some 8, some 10] fun G a w S => ?_
   exact sIdxV S (wN rfl) rfl rfl rfl dc rfl (lb rfl) fun a S => leafL ⟨rfl, S⟩
  ·refine fJ [(119, _)] 12 [some 11] fun G a w S => ?_
   exact sLoadR (r := (rI .i64)) (T := 3) (xs := ab) (x := bt) (v := .slice a5 ab.length a6) (vq := dx) (j := w64 (aa + 1)) 1 (iv bt) S de (wN rfl) rfl rfl rfl ck (fun _ _ _ h => h) (scal_I _) rfl rfl (lb rfl) fun a S => leafL ⟨rfl, S⟩
  ·exact fM 13 none rfl rfl rfl rfl (.inl rfl) rfl rfl rfl
  ·exact fM 14 none rfl rfl rfl rfl (.inl rfl) rfl rfl rfl
  ·exact fM 15 none rfl rfl rfl rfl (.inl rfl) rfl rfl rfl
  ·refine fJ [(122, _), (123, _)] 16 [some 14, some 15] fun G a w S => ?_
   exact sIdxV S (wN rfl) rfl rfl rfl dg rfl (lb rfl) fun a S => leafL ⟨rfl, S⟩
  ·refine fJ [(124, _)] 17 [some 16] fun G a w S => ?_
   exact sLoadVN (vq := df) 0 [.int .u8 aq.Kind, .bool aq.Purl, iv aq.A, iv aq.B] S (wN rfl) rfl rfl rfl rfl rfl rfl (lb rfl) fun a S => leafL ⟨rfl, S⟩
  ·refine fJ [(121, _), (125, _)] 18 [some 13, some 17] fun G a w S => ?_
   have S1 := S.mem
   refine sCallVQ (X := Unit) (g := 84) (vs := [.agg #[.int .u8 aq.Kind, .bool aq.Purl, iv aq.A, iv aq.B]]) (caps := []) (val := fun _ => iv bu) S (wN rfl) rfl rfl callee84 rfl (S1.quiet [1] rfl) (fun E1 w1 S1 => c_compare_cellTable_1 E1 w1 aq (.agg #[.int .u8 aq.Kind, .bool aq.Purl, iv aq.A, iv aq.B]) bu d6 S1) rfl (lb rfl) fun _ a w S => ?_
   exact leafL ⟨rfl, S⟩
  ·refine fJ [(120, _), (126, _)] 19 [some 12, some 18] fun G a w S => ?_
   exact sBin _ S (wN rfl) rfl rfl rfl (bAdd _ _ _ _ bt bu) rfl (lb rfl) fun a S => leafL ⟨rfl, S⟩
  ·refine fJ [(111, _), (112, _)] 20 [some 3, some 4] fun G a w S => ?_
   exact sIdxV S (wN rfl) rfl rfl rfl di rfl (lb rfl) fun a S => leafL ⟨rfl, S⟩
  refine ⟨_, [(127, iv (w64 (bt + bu))), (128, dh)], rfl, (srcs_of [some 19, some 20] rfl rfl rfl), fun G a w S => ?_⟩
  refine sStoreR (r := (rI .i64)) (T := 3) (xs := ab) (ys := du) (y := (w64 (bt + bu))) (v := .slice a5 ab.length a6) (vq := dh) (u := iv (w64 (bt + bu))) (j := aa) 1 S dj (wN rfl) rfl rfl rfl rfl rfl cl rfl rfl fun a w S => ?_
  refine leafL ⟨rfl, _, _, .inr ⟨[], rfl, S, hz_of rfl, ?_⟩⟩
  refine node_by (A := anc_compare_table_api_Stitch__s0_0) 22 (by kernel_rfl) (by kernel_rfl) (by kernel_rfl) (by kernel_rfl) (by kernel_rfl) [0, 1, 2, 3, 4, 5, 6, 7, 8, 9, 10, 11, 12, 13, 14, 15, 16, 17, 18, 19, 20] (by kernel_rfl) (by decide) (by decide) (fD 21 (fD 21 (fD 21 (fD 21 (fD 21 (fD 21 (fD 21 (fD 21 (fD 21 (fD 21 (fD 21 (fD 21 (fD 21 (fD 21 (fD 21 (fD 21 (fD 21 (fD 21 (fD 21 (fD 21 (fD 21 (fY (trivial))))))))))))))))))))))) [(0, .slice av p0.length aw), (1, .slice ar p1.length au), (2, .func (.func 84) #[] #[]), (3, .func (.func 85) #[] #[]), (9, .slice ac a7.length ae), (10, iv a8), (11, iv aa)] (fin_of [none, none, none, none, none, none, none] rfl (by kernel_rfl) (by kernel_rfl)) (fun _ a w S => ?_)
  rw [setO_v cl a5 a6] at S
  exact leafB (leafB (leafT (⟨du, Option.some.inj h, S.fix [1, 0] [3, 4] (by decide) rfl rfl rfl⟩)))
 refine sCondF S rfl c7 ?_
 refine sSeq (fun e8 dk => sRegion (sM S fun a S => ?_))
 refine sM S fun a S => ?_
 refine sLen S (wN rfl) rfl Try.underlying47 rfl rfl (lb rfl) fun a S => ?_
 refine sBin _ S (wN rfl) rfl rfl rfl (bEq _ _ _ _ .i64 aa (p1.length : Int)) rfl (lb rfl) fun a S => ?_
 refine sN S fun a S => ?_
 refine lT (dk _ _ ?_)
 rcases iS h with ⟨bh, h⟩ | ⟨bh, h⟩
 ·refine sCondT S rfl bh ?_
  obtain ⟨bi, bj, h⟩ := bS h
  obtain ⟨ax, cm, h⟩ := bS h
  obtain ⟨a9, cn, h⟩ := bS h
  obtain ⟨ay, bv, h⟩ := bS h
  obtain ⟨dP, co, h⟩ := bS h
  obtain ⟨cp, bw, h⟩ := bS h
  obtain ⟨c8, bx, bz⟩ := pIdxH (P := Try.prog) (r := (rL (rI .i64))) (T := 101) (v := .slice ac a7.length ae) (xs := a7) (j := a8) 98 101 0 S Try.underlying98 rfl rfl ap
  obtain ⟨c9, cq, cr⟩ := pIdxH (P := Try.prog) (r := (rL (rI .i64))) (T := 101) (v := .slice ac a7.length ae) (xs := a7) (j := w64 (a8 + 1)) 98 101 0 S Try.underlying98 rfl rfl bj
  obtain ⟨bn, bA, S⟩ := pIdx (P := Try.prog) (r := r_api_Stitch) (v := .slice av p0.length aw) (xs := p0) (j := a8) 47 81 0 S Try.underlying47 rfl rfl cn
  obtain ⟨ct, S⟩ := pLoad (r := r_api_Stitch) (q := bn) (x := a9) 0 S rfl
  obtain rfl : ct = .agg #[.int .u8 a9.Kind, .bool a9.Purl, iv a9.A, iv a9.B] := S.mem.know (i := 1) (e := fRep r_api_Stitch (ct) a9) rfl
  refine sDraw (nf := [9, 21]) (W := [(0, 134, .slice ac a7.length ae), (1, 135, iv a8), (2, 136, c8), (3, 137, .slice a5 ab.length a6), (4, 138, iv aa), (5, 139, .slice ac a7.length ae), (6, 140, iv a8), (7, 141, iv (w64 (a8 + 1))), (8, 142, c9), (10, 144, iv aa), (13, 147, .func (.func 84) #[] #[]), (14, 148, .slice av p0.length aw), (15, 149, iv a8), (16, 150, bn), (17, 151, .agg #[.int .u8 a9.Kind, .bool a9.Purl, iv a9.A, iv a9.B]), (18, 152, iv ay)]) rfl S ?_
  refine node_by (A := anc_compare_table_api_Stitch__s0_1) 22 (by kernel_rfl) (by kernel_rfl) (by kernel_rfl) (by kernel_rfl) (by kernel_rfl) [0, 1, 2, 3, 4, 5, 6, 7, 8, 10, 13, 14, 15, 16, 17, 18] (by kernel_rfl) (by decide) (by decide) (fF ?_ (fF ?_ (fF ?_ (fF ?_ (fF ?_ (fF ?_ (fF ?_ (fF ?_ (fF ?_ (fN ?_ (fF ?_ (fE 9 (fE 9 (fF ?_ (fF ?_ (fF ?_ (fF ?_ (fF ?_ (fF ?_ (fE 9 (fE 9 (aB 21 0 9 (by decide) (trivial))))))))))))))))))))))) [] (fun q hq => by cases hq) (fun hY => absurd (hY 9 (by decide)) (by decide))
  ·exact fM 0 none rfl rfl rfl rfl (.inl rfl) rfl rfl rfl
  ·exact fM 1 none rfl rfl rfl rfl (.inl rfl) rfl rfl rfl
  ·refine fJ [(134, _), (135, _)] 2 [some 0, some 1] fun G a w S => ?_
   exact sIdxV S (wN rfl) rfl rfl rfl bx rfl (lb rfl) fun a S => leafL ⟨rfl, S⟩
  ·refine fJ [(136, _)] 3 [some 2] fun G a w S => ?_
   exact sLoadHE (r := (rL (rI .i64))) (T := 101) (xs := a7) (u := .slice a5 ab.length a6) (v := .slice ac a7.length ae) (vq := c8) (j := a8) 0 S bz (wN rfl) rfl rfl rfl rfl rfl (lb rfl) fun a S => leafL ⟨rfl, S⟩
  ·exact fM 4 none rfl rfl rfl rfl (.inl rfl) rfl rfl rfl
  ·exact fM 5 none rfl rfl rfl rfl (.inl rfl) rfl rfl rfl
  ·exact fM 6 none rfl rfl rfl rfl (.inl rfl) rfl rfl rfl
  ·refine fJ [(140, _)] 7 [some 6] fun G a w S => ?_
   exact sBin _ S (wN rfl) rfl rfl rfl (bAdd _ _ _ _ a8 1) rfl (lb rfl) fun a S => leafL ⟨rfl, S⟩
  ·refine fJ [(139, _), (141, _)] 8 [some 5, some 7] fun G a w S => ?_
   exact sIdxV S (wN rfl) rfl rfl rfl cq rfl (lb rfl) fun a S => leafL ⟨rfl, S⟩
  ·refine ⟨_, [(142, c9)], rfl, (srcs_of [some 8] rfl rfl rfl), fun G a w S => ?_⟩
   refine sLoadHo (r := (rL (rI .i64))) (T := 101) (xs := a7) (x := bi) (p := (a8).toNat * (rL (rI .i64)).sz + 0) (u := .slice a5 ab.length a6) (v := .slice ac a7.length ae) (vq := c9) (j := w64 (a8 + 1)) 0 S cr (wN rfl) rfl rfl rfl bj (idx_next (by decide) (hole_lim 0 S.mem rfl) ap bj) (scal_L _) rfl rfl (lb rfl) fun a dl S => ?_
   obtain ⟨bB, bC, _, rfl, _⟩ := S.mem.know (i := 0) (e := fRep (rL (rI .i64)) (dl) bi) rfl
   obtain ⟨ca, cu, S⟩ := pIdx (P := Try.prog) (r := (rI .i64)) (v := .slice bB bi.length bC) (xs := bi) (j := aa) 101 3 0 S Try.underlying101 rfl rfl cm
   obtain ⟨cv, S⟩ := pLoad (r := (rI .i64)) (q := ca) (x := ax) 0 S rfl
   obtain rfl : cv = iv ax := S.mem.know (i := 1) (e := fRep (rI .i64) (cv) ax) rfl
   obtain ⟨cb, cw, cx⟩ := pIdxR (P := Try.prog) (r := (rI .i64)) (T := 3) (v := .slice a5 ab.length a6) (xs := ab) (j := aa) 101 3 1 S Try.underlying101 rfl rfl co
   refine leafL ⟨rfl, _, _, .inl ⟨143, (.slice bB bi.length bC), [(11, 145, ca), (12, 146, iv ax), (19, 153, iv (w64 (ax + ay))), (20, 154, cb)], rfl, S, hz_of rfl, ?_⟩⟩
   refine node_by (A := anc_compare_table_api_Stitch__s0_1) 22 (by kernel_rfl) (by kernel_rfl) (by kernel_rfl) (by kernel_rfl) (by kernel_rfl) [11, 12, 19, 20, 9, 0, 1, 2, 3, 4, 5, 6, 7, 8, 10, 13, 14, 15, 16, 17, 18] (by kernel_rfl) (by decide) (by decide) (fF ?_ (fF ?_ (fF ?_ (fF ?_ (fF ?_ (fD 9 (fD 9 (fD 9 (fD 9 (fY (fF ?_ (fF ?_ (fF ?_ (fF ?_ (fF ?_ (fF ?_ (fF ?_ (fF ?_ (fF ?_ (fF ?_ (fF ?_ (fN ?_ (trivial))))))))))))))))))))))) [] (fun q hq => by cases hq) (fun hY => absurd (hY 21 (by decide)) (by decide))
   ·exact fM 5 none rfl rfl rfl rfl (.inl rfl) rfl rfl rfl
   ·exact fM 6 none rfl rfl rfl rfl (.inl rfl) rfl rfl rfl
   ·refine fJ [(134, _), (135, _)] 7 [some 5, some 6] fun G a w S => ?_
    exact sIdxV S (wN rfl) rfl rfl rfl bx rfl (lb rfl) fun a S => leafL ⟨rfl, S⟩
   ·refine fJ [(136, _)] 8 [some 7] fun G a w S => ?_
    exact sLoadHE (r := (rL (rI .i64))) (T := 101) (xs := a7) (u := .slice a5 ab.length a6) (v := .slice ac a7.length ae) (vq := c8) (j := a8) 0 S bz (wN rfl) rfl rfl rfl rfl rfl (lb rfl) fun a S => leafL ⟨rfl, S⟩
   ·exact fM 9 none rfl rfl rfl rfl (.inl rfl) rfl rfl rfl
   ·exact fM 14 none rfl rfl rfl rfl (.inl rfl) rfl rfl rfl
   ·refine fJ [(143, _), (144, _)] 0 [some 4, some 14] fun G a w S => ?_
    exact sIdxV S (wN rfl) rfl rfl rfl cu rfl (lb rfl) fun a S => leafL ⟨rfl, S⟩
   ·refine fJ [(145, _)] 1 [some 0] fun G a w S => ?_
    exact sLoadV1 (vq := ca) 0 (iv ax) S (wN rfl) rfl rfl rfl rfl rfl (lb rfl) fun a S => leafL ⟨rfl, S⟩
   ·exact fM 15 none rfl rfl rfl rfl (.inl rfl) rfl rfl rfl
   ·exact fM 16 none rfl rfl rfl rfl (.inl rfl) rfl rfl rfl
   ·exact fM 17 none rfl rfl rfl rfl (.inl rfl) rfl rfl rfl
   ·refine fJ [(148, _), (149, _)] 18 [some 16, some 17] fun G a w S => ?_
    exact sIdxV S (wN rfl) rfl rfl rfl bA rfl (lb rfl) fun a S => leafL ⟨rfl, S⟩
   ·refine fJ [(150, _)] 19 [some 18] fun G a w S => ?_
    exact sLoadVN (vq := bn) 4 [.int .u8 a9.Kind, .bool a9.Purl, iv a9.A, iv a9.B] S (wN rfl) rfl rfl rfl rfl rfl rfl (lb rfl) fun a S => leafL ⟨rfl, S⟩
   ·refine fJ [(147, _), (151, _)] 20 [some 15, some 19] fun G a w S => ?_
    have S1 := S.mem
    refine sCallVQ (X := Unit) (g := 84) (vs := [.agg #[.int .u8 a9.Kind, .bool a9.Purl, iv a9.A, iv a9.B]]) (caps := []) (val := fun _ => iv ay) S (wN rfl) rfl rfl callee84 rfl (S1.quiet [5] rfl) (fun E1 w1 S1 => c_compare_cellTable_1 E1 w1 a9 (.agg #[.int .u8 a9.Kind, .bool a9.Purl, iv a9.A, iv a9.B]) ay bv S1) rfl (lb rfl) fun _ a w S => ?_
    exact leafL ⟨rfl, S⟩
   ·refine fJ [(146, _), (152, _)] 2 [some 1, some 20] fun G a w S => ?_
    exact sBin _ S (wN rfl) rfl rfl rfl (bAdd _ _ _ _ ax ay) rfl (lb rfl) fun a S => leafL ⟨rfl, S⟩
   ·refine fJ [(137, _), (138, _)] 3 [some 8, some 9] fun G a w S => ?_
    exact sIdxV S (wN rfl) rfl rfl rfl cw rfl (lb rfl) fun a S => leafL ⟨rfl, S⟩
   refine ⟨_, [(153, iv (w64 (ax + ay))), (154, cb)], rfl, (srcs_of [some 2, some 3] rfl rfl rfl), fun G a w S => ?_⟩
   refine sStoreR (r := (rI .i64)) (T := 3) (xs := ab) (ys := cp) (y := (w64 (ax + ay))) (v := .slice a5 ab.length a6) (vq := cb) (u := iv (w64 (ax + ay))) (j := aa) 1 S cx (wN rfl) rfl rfl rfl rfl rfl bw rfl rfl fun a w S => ?_
   refine leafL ⟨rfl, _, _, .inr ⟨[], rfl, S, hz_of rfl, ?_⟩⟩
   refine node_by (A := anc_compare_table_api_Stitch__s0_1) 22 (by kernel_rfl) (by kernel_rfl) (by kernel_rfl) (by kernel_rfl) (by kernel_rfl) [11, 12, 19, 20, 9, 0, 1, 2, 3, 4, 5, 6, 7, 8, 10, 13, 14, 15, 16, 17, 18] (by kernel_rfl) (by decide) (by decide) (fD 21 (fD 21 (fD 21 (fD 21 (fD 21 (fD 21 (fD 21 (fD 21 (fD 21 (fY (fD 21 (fD 21 (fD 21 (fD 21 (fD 21 (fD 21 (fD 21 (fD 21 (fD 21 (fD 21 (fD 21 (fY (trivial))))))))))))))))))))))) [(0, .slice av p0.length aw), (1, .slice ar p1.length au), (2, .func (.func 84) #[] #[]), (3, .func (.func 85) #[] #[]), (9, .slice ac a7.length ae), (10, iv a8), (11, iv aa)] (fin_of [none, none, none, none, none, none, none] rfl (by kernel_rfl) (by kernel_rfl)) (fun _ a w S => ?_)
   rw [setO_v bw a5 a6] at S
   exact leafB (leafB (leafT (⟨cp, Option.some.inj h, S.fix [1, 0] [7, 8] (by decide) rfl rfl rfl⟩)))
  ·exact fM 9 none rfl rfl rfl rfl (.inl rfl) rfl rfl rfl
  ·exact fM 10 none rfl rfl rfl rfl (.inl rfl) rfl rfl rfl
  ·exact fM 11 none rfl rfl rfl rfl (.inl rfl) rfl rfl rfl
  ·exact fM 12 none rfl rfl rfl rfl (.inl rfl) rfl rfl rfl
  ·refine fJ [(148, _), (149, _)] 13 [some 11, some 12] fun G a w S => ?_
   exact sIdxV S (wN rfl) rfl rfl rfl bA rfl (lb rfl) fun a S => leafL ⟨rfl, S⟩
  ·refine fJ [(150, _)] 14 [some 13] fun G a w S => ?_
   exact sLoadVN (vq := bn) 0 [.int .u8 a9.Kind, .bool a9.Purl, iv a9.A, iv a9.B] S (wN rfl) rfl rfl rfl rfl rfl rfl (lb rfl) fun a S => leafL ⟨rfl, S⟩
  refine fJ [(147, _), (151, _)] 15 [some 10, some 14] fun G a w S => ?_
  have S1 := S.mem
  refine sCallVQ (X := Unit) (g := 84) (vs := [.agg #[.int .u8 a9.Kind, .bool a9.Purl, iv a9.A, iv a9.B]]) (caps := []) (val := fun _ => iv ay) S (wN rfl) rfl rfl callee84 rfl (S1.quiet [1] rfl) (fun E1 w1 S1 => c_compare_cellTable_1 E1 w1 a9 (.agg #[.int .u8 a9.Kind, .bool a9.Purl, iv a9.A, iv a9.B]) ay bv S1) rfl (lb rfl) fun _ a w S => ?_
  exact leafL ⟨rfl, S⟩
 refine sCondF S rfl bh ?_
 obtain ⟨am, ao, h⟩ := bS h
 obtain ⟨ah, bD, h⟩ := bS h
 obtain ⟨a0, bE, h⟩ := bS h
 obtain ⟨ai, aC, h⟩ := bS h
 obtain ⟨af, az, h⟩ := bS h
 obtain ⟨a4, bG, h⟩ := bS h
 obtain ⟨ag, aG, h⟩ := bS h
 obtain ⟨aj, bH, h⟩ := bS h
 obtain ⟨ak, aH, h⟩ := bS h
 obtain ⟨dQ, bI, h⟩ := bS h
 obtain ⟨bp, aX, h⟩ := bS h
 obtain ⟨bc, aI, aJ⟩ := pIdxH (P := Try.prog) (r := (rL (rI .i64))) (T := 101) (v := .slice ac a7.length ae) (xs := a7) (j := a8) 98 101 0 S Try.underlying98 rfl rfl ap
 obtain ⟨bk, bJ, bK⟩ := pIdxH (P := Try.prog) (r := (rL (rI .i64))) (T := 101) (v := .slice ac a7.length ae) (xs := a7) (j := w64 (a8 + 1)) 98 101 0 S Try.underlying98 rfl rfl ao
 obtain ⟨aT, aK, S⟩ := pIdx (P := Try.prog) (r := r_api_Stitch) (v := .slice av p0.length aw) (xs := p0) (j := a8) 47 81 0 S Try.underlying47 rfl rfl bE
 obtain ⟨cy, S⟩ := pLoad (r := r_api_Stitch) (q := aT) (x := a0) 0 S rfl
 obtain rfl : cy = .agg #[.int .u8 a0.Kind, .bool a0.Purl, iv a0.A, iv a0.B] := S.mem.know (i := 1) (e := fRep r_api_Stitch (cy) a0) rfl
 obtain ⟨bf, aL, aM⟩ := pIdxH (P := Try.prog) (r := (rL (rI .i64))) (T := 101) (v := .slice ac a7.length ae) (xs := a7) (j := a8) 98 101 0 S Try.underlying98 rfl rfl ap
 obtain ⟨bg, aO, aP⟩ := pIdxR (P := Try.prog) (r := (rI .i64)) (T := 3) (v := .slice a5 ab.length a6) (xs := ab) (j := w64 (aa + 1)) 101 3 1 S Try.underlying101 rfl rfl az
 obtain ⟨aU, aQ, S⟩ := pIdx (P := Try.prog) (r := r_api_Stitch) (v := .slice ar p1.length au) (xs := p1) (j := aa) 47 81 4 S Try.underlying47 rfl rfl bG
 obtain ⟨cz, S⟩ := pLoad (r := r_api_Stitch) (q := aU) (x := a4) 0 S rfl
 obtain rfl : cz = .agg #[.int .u8 a4.Kind, .bool a4.Purl, iv a4.A, iv a4.B] := S.mem.know (i := 1) (e := fRep r_api_Stitch (cz) a4) rfl
 obtain ⟨bl, bL, bM⟩ := pIdxH (P := Try.prog) (r := (rL (rI .i64))) (T := 101) (v := .slice ac a7.length ae) (xs := a7) (j := w64 (a8 + 1)) 98 101 0 S Try.underlying98 rfl rfl ao
 obtain ⟨aV, aR, S⟩ := pIdx (P := Try.prog) (r := r_api_Stitch) (v := .slice av p0.length aw) (xs := p0) (j := a8) 47 81 6 S Try.underlying47 rfl rfl bE
 obtain ⟨cA, S⟩ := pLoad (r := r_api_Stitch) (q := aV) (x := a0) 0 S rfl
 obtain rfl : cA = .agg #[.int .u8 a0.Kind, .bool a0.Purl, iv a0.A, iv a0.B] := S.mem.know (i := 1) (e := fRep r_api_Stitch (cA) a0) rfl
 obtain ⟨aW, aS, S⟩ := pIdx (P := Try.prog) (r := r_api_Stitch) (v := .slice ar p1.length au) (xs := p1) (j := aa) 47 81 10 S Try.underlying47 rfl rfl bG
 obtain ⟨cB, S⟩ := pLoad (r := r_api_Stitch) (q := aW) (x := a4) 0 S rfl
 obtain rfl : cB = .agg #[.int .u8 a4.Kind, .bool a4.Purl, iv a4.A, iv a4.B] := S.mem.know (i := 1) (e := fRep r_api_Stitch (cB) a4) rfl
 refine sDraw (nf := [9, 39, 57]) (W := [(0, 35, .slice ac a7.length ae), (1, 36, iv a8), (2, 37, bc), (3, 38, .slice a5 ab.length a6), (4, 39, iv aa), (5, 40, .slice ac a7.length ae), (6, 41, iv a8), (7, 42, iv (w64 (a8 + 1))), (8, 43, bk), (10, 45, iv aa), (13, 48, .func (.func 84) #[] #[]), (14, 49, .slice av p0.length aw), (15, 50, iv a8), (16, 51, aT), (17, 52, .agg #[.int .u8 a0.Kind, .bool a0.Purl, iv a0.A, iv a0.B]), (18, 53, iv ai), (20, 55, .slice ac a7.length ae), (21, 56, iv a8), (22, 57, bf), (23, 58, .slice a5 ab.length a6), (24, 59, iv aa), (25, 60, iv (w64 (aa + 1))), (26, 61, bg), (27, 62, iv af), (28, 63, .func (.func 84) #[] #[]), (29, 64, .slice ar p1.length au), (30, 65, iv aa), (31, 66, aU), (32, 67, .agg #[.int .u8 a4.Kind, .bool a4.Purl, iv a4.A, iv a4.B]), (33, 68, iv ag), (34, 69, iv (w64 (af + ag))), (35, 70, .slice ac a7.length ae), (36, 71, iv a8), (37, 72, iv (w64 (a8 + 1))), (38, 73, bl), (40, 75, iv aa), (41, 76, iv (w64 (aa + 1))), (44, 79, .func (.func 85) #[] #[]), (45, 80, .slice av p0.length aw), (46, 81, iv a8), (47, 82, aV), (48, 83, .agg #[.int .u8 a0.Kind, .bool a0.Purl, iv a0.A, iv a0.B]), (49, 84, .slice ar p1.length au), (50, 85, iv aa), (51, 86, aW), (52, 87, .agg #[.int .u8 a4.Kind, .bool a4.Purl, iv a4.A, iv a4.B]), (53, 88, iv ak)]) rfl S ?_
 refine node_by (A := anc_compare_table_api_Stitch__s0_2) 58 (by kernel_rfl) (by kernel_rfl) (by kernel_rfl) (by kernel_rfl) (by kernel_rfl) [0, 1, 2, 3, 4, 5, 6, 7, 8, 10, 13, 14, 15, 16, 17, 18, 20, 21, 22, 23, 24, 25, 26, 27, 28, 29, 30, 31, 32, 33, 34, 35, 36, 37, 38, 40, 41, 44, 45, 46, 47, 48, 49, 50, 51, 52, 53] (by kernel_rfl) (by decide) (by decide) (fF ?_ (fF ?_ (fF ?_ (fF ?_ (fF ?_ (fF ?_ (fF ?_ (fF ?_ (fF ?_ (fN ?_ (fF ?_ (fE 9 (fE 9 (fF ?_ (fF ?_ (fF ?_ (fF ?_ (fF ?_ (fF ?_ (fE 9 (fF ?_ (fF ?_ (fF ?_ (fF ?_ (fF ?_ (fF ?_ (fF ?_ (fF ?_ (fF ?_ (fF ?_ (fF ?_ (fF ?_ (fF ?_ (fF ?_ (fF ?_ (fF ?_ (fF ?_ (fF ?_ (fF ?_ (fN ?_ (fF ?_ (fF ?_ (fE 39 (fE 39 (fF ?_ (fF ?_ (fF ?_ (fF ?_ (fF ?_ (fF ?_ (fF ?_ (fF ?_ (fF ?_ (fF ?_ (fE 39 (fE 9 (fE 9 (aB 57 0 9 (by decide) (trivial))))))))))))))))))))))))))))))))))))))))))))))))))))))))))) [] (fun q hq => by cases hq) (fun hY => absurd (hY 9 (by decide)) (by decide))
 ·exact fM 0 none rfl rfl rfl rfl (.inl rfl) rfl rfl rfl
 ·exact fM 1 none rfl rfl rfl rfl (.inl rfl) rfl rfl rfl
 ·refine fJ [(35, _), (36, _)] 2 [some 0, some 1] fun G a w S => ?_
  exact sIdxV S (wN rfl) rfl rfl rfl aI rfl (lb rfl) fun a S => leafL ⟨rfl, S⟩
 ·refine fJ [(37, _)] 3 [some 2] fun G a w S => ?_
  exact sLoadHE (r := (rL (rI .i64))) (T := 101) (xs := a7) (u := .slice a5 ab.length a6) (v := .slice ac a7.length ae) (vq := bc) (j := a8) 0 S aJ (wN rfl) rfl rfl rfl rfl rfl (lb rfl) fun a S => leafL ⟨rfl, S⟩
 ·exact fM 4 none rfl rfl rfl rfl (.inl rfl) rfl rfl rfl
 ·exact fM 5 none rfl rfl rfl rfl (.inl rfl) rfl rfl rfl
 ·exact fM 6 none rfl rfl rfl rfl (.inl rfl) rfl rfl rfl
 ·refine fJ [(41, _)] 7 [some 6] fun G a w S => ?_
  exact sBin _ S (wN rfl) rfl rfl rfl (bAdd _ _ _ _ a8 1) rfl (lb rfl) fun a S => leafL ⟨rfl, S⟩
 ·refine fJ [(40, _), (42, _)] 8 [some 5, some 7] fun G a w S => ?_
  exact sIdxV S (wN rfl) rfl rfl rfl bJ rfl (lb rfl) fun a S => leafL ⟨rfl, S⟩
 ·refine ⟨_, [(43, bk)], rfl, (srcs_of [some 8] rfl rfl rfl), fun G a w S => ?_⟩
  refine sLoadHo (r := (rL (rI .i64))) (T := 101) (xs := a7) (x := am) (p := (a8).toNat * (rL (rI .i64)).sz + 0) (u := .slice a5 ab.length a6) (v := .slice ac a7.length ae) (vq := bk) (j := w64 (a8 + 1)) 0 S bK (wN rfl) rfl rfl rfl ao (idx_next (by decide) (hole_lim 0 S.mem rfl) ap ao) (scal_L _) rfl rfl (lb rfl) fun a dm S => ?_
  obtain ⟨bN, bO, _, rfl, _⟩ := S.mem.know (i := 0) (e := fRep (rL (rI .i64)) (dm) am) rfl
  obtain ⟨bq, bP, S⟩ := pIdx (P := Try.prog) (r := (rI .i64)) (v := .slice bN am.length bO) (xs := am) (j := aa) 101 3 0 S Try.underlying101 rfl rfl bD
  obtain ⟨cC, S⟩ := pLoad (r := (rI .i64)) (q := bq) (x := ah) 0 S rfl
  obtain rfl : cC = iv ah := S.mem.know (i := 1) (e := fRep (rI .i64) (cC) ah) rfl
  refine leafL ⟨rfl, _, _, .inl ⟨44, (.slice bN am.length bO), [(11, 46, bq), (12, 47, iv ah), (19, 54, iv (w64 (ah + ai)))], rfl, S, hz_of rfl, ?_⟩⟩
  refine node_by (A := anc_compare_table_api_Stitch__s0_2) 58 (by kernel_rfl) (by kernel_rfl) (by kernel_rfl) (by kernel_rfl) (by kernel_rfl) [11, 12, 19, 9, 0, 1, 2, 3, 4, 5, 6, 7, 8, 10, 13, 14, 15, 16, 17, 18, 20, 21, 22, 23, 24, 25, 26, 27, 28, 29, 30, 31, 32, 33, 34, 35, 36, 37, 38, 40, 41, 44, 45, 46, 47, 48, 49, 50, 51, 52, 53] (by kernel_rfl) (by decide) (by decide) (fF ?_ (fF ?_ (fF ?_ (fF ?_ (fF ?_ (fD 9 (fD 9 (fD 9 (fD 9 (fY (fF ?_ (fF ?_ (fF ?_ (fF ?_ (fF ?_ (fF ?_ (fF ?_ (fF ?_ (fF ?_ (fF ?_ (fF ?_ (fF ?_ (fF ?_ (fF ?_ (fF ?_ (fF ?_ (fF ?_ (fF ?_ (fF ?_ (fF ?_ (fF ?_ (fF ?_ (fF ?_ (fF ?_ (fF ?_ (fF ?_ (fF ?_ (fF ?_ (fF ?_ (fN ?_ (fF ?_ (fF ?_ (fE 39 (fE 39 (fF ?_ (fF ?_ (fF ?_ (fF ?_ (fF ?_ (fF ?_ (fF ?_ (fF ?_ (fF ?_ (fF ?_ (fE 39 (fE 39 (fE 39 (aB 57 0 39 (by decide) (trivial))))))))))))))))))))))))))))))))))))))))))))))))))))))))))) [] (fun q hq => by cases hq) (fun hY => absurd (hY 39 (by decide)) (by decide))
  ·exact fM 4 none rfl rfl rfl rfl (.inl rfl) rfl rfl rfl
  ·exact fM 5 none rfl rfl rfl rfl (.inl rfl) rfl rfl rfl
  ·refine fJ [(35, _), (36, _)] 6 [some 4, some 5] fun G a w S => ?_
   exact sIdxV S (wN rfl) rfl rfl rfl aI rfl (lb rfl) fun a S => leafL ⟨rfl, S⟩
  ·refine fJ [(37, _)] 7 [some 6] fun G a w S => ?_
   exact sLoadHE (r := (rL (rI .i64))) (T := 101) (xs := a7) (u := .slice a5 ab.length a6) (v := .slice ac a7.length ae) (vq := bc) (j := a8) 0 S aJ (wN rfl) rfl rfl rfl rfl rfl (lb rfl) fun a S => leafL ⟨rfl, S⟩
  ·exact fM 8 none rfl rfl rfl rfl (.inl rfl) rfl rfl rfl
  ·exact fM 13 none rfl rfl rfl rfl (.inl rfl) rfl rfl rfl
  ·refine fJ [(44, _), (45, _)] 0 [some 3, some 13] fun G a w S => ?_
   exact sIdxV S (wN rfl) rfl rfl rfl bP rfl (lb rfl) fun a S => leafL ⟨rfl, S⟩
  ·refine fJ [(46, _)] 1 [some 0] fun G a w S => ?_
   exact sLoadV1 (vq := bq) 0 (iv ah) S (wN rfl) rfl rfl rfl rfl rfl (lb rfl) fun a S => leafL ⟨rfl, S⟩
  ·exact fM 14 none rfl rfl rfl rfl (.inl rfl) rfl rfl rfl
  ·exact fM 15 none rfl rfl rfl rfl (.inl rfl) rfl rfl rfl
  ·exact fM 16 none rfl rfl rfl rfl (.inl rfl) rfl rfl rfl
  ·refine fJ [(49, _), (50, _)] 17 [some 15, some 16] fun G a w S => ?_
   exact sIdxV S (wN rfl) rfl rfl rfl aK rfl (lb rfl) fun a S => leafL ⟨rfl, S⟩
  ·refine fJ [(51, _)] 18 [some 17] fun G a w S => ?_
   exact sLoadVN (vq := aT) 13 [.int .u8 a0.Kind, .bool a0.Purl, iv a0.A, iv a0.B] S (wN rfl) rfl rfl rfl rfl rfl rfl (lb rfl) fun a S => leafL ⟨rfl, S⟩
  ·refine fJ [(48, _), (52, _)] 19 [some 14, some 18] fun G a w S => ?_
   have S1 := S.mem
   refine sCallVQ (X := Unit) (g := 84) (vs := [.agg #[.int .u8 a0.Kind, .bool a0.Purl, iv a0.A, iv a0.B]]) (caps := []) (val := fun _ => iv ai) S (wN rfl) rfl rfl callee84 rfl (S1.quiet [8] rfl) (fun E1 w1 S1 => c_compare_cellTable_1 E1 w1 a0 (.agg #[.int .u8 a0.Kind, .bool a0.Purl, iv a0.A, iv a0.B]) ai aC S1) rfl (lb rfl) fun _ a w S => ?_
   exact leafL ⟨rfl, S⟩
  ·refine fJ [(47, _), (53, _)] 2 [some 1, some 19] fun G a w S => ?_
   exact sBin _ S (wN rfl) rfl rfl rfl (bAdd _ _ _ _ ah ai) rfl (lb rfl) fun a S => leafL ⟨rfl, S⟩
  ·exact fM 20 none rfl rfl rfl rfl (.inl rfl) rfl rfl rfl
  ·exact fM 21 none rfl rfl rfl rfl (.inl rfl) rfl rfl rfl
  ·refine fJ [(55, _), (56, _)] 22 [some 20, some 21] fun G a w S => ?_
   exact sIdxV S (wN rfl) rfl rfl rfl aL rfl (lb rfl) fun a S => leafL ⟨rfl, S⟩
  ·refine fJ [(57, _)] 23 [some 22] fun G a w S => ?_
   exact sLoadHE (r := (rL (rI .i64))) (T := 101) (xs := a7) (u := .slice a5 ab.length a6) (v := .slice ac a7.length ae) (vq := bf) (j := a8) 0 S aM (wN rfl) rfl rfl rfl rfl rfl (lb rfl) fun a S => leafL ⟨rfl, S⟩
  ·exact fM 24 none rfl rfl rfl rfl (.inl rfl) rfl rfl rfl
  ·refine fJ [(59, _)] 25 [some 24] fun G a w S => ?_
   exact sBin _ S (wN rfl) rfl rfl rfl (bAdd _ _ _ _ aa 1) rfl (lb rfl) fun a S => leafL ⟨rfl, S⟩
  ·refine fJ [(58, _), (60, _)] 26 [some 23, some 25] fun G a w S => ?_
   exact sIdxV S (wN rfl) rfl rfl rfl aO rfl (lb rfl) fun a S => leafL ⟨rfl, S⟩
  ·refine fJ [(61, _)] 27 [some 26] fun G a w S => ?_
   exact sLoadR (r := (rI .i64)) (T := 3) (xs := ab) (x := af) (v := .slice a5 ab.length a6) (vq := bg) (j := w64 (aa + 1)) 1 (iv af) S aP (wN rfl) rfl rfl rfl az (fun _ _ _ h => h) (scal_I _) rfl rfl (lb rfl) fun a S => leafL ⟨rfl, S⟩
  ·exact fM 28 none rfl rfl rfl rfl (.inl rfl) rfl rfl rfl
  ·exact fM 29 none rfl rfl rfl rfl (.inl rfl) rfl rfl rfl
  ·exact fM 30 none rfl rfl rfl rfl (.inl rfl) rfl rfl rfl
  ·refine fJ [(64, _), (65, _)] 31 [some 29, some 30] fun G a w S => ?_
   exact sIdxV S (wN rfl) rfl rfl rfl aQ rfl (lb rfl) fun a S => leafL ⟨rfl, S⟩
  ·refine fJ [(66, _)] 32 [some 31] fun G a w S => ?_
   exact sLoadVN (vq := aU) 10 [.int .u8 a4.Kind, .bool a4.Purl, iv a4.A, iv a4.B] S (wN rfl) rfl rfl rfl rfl rfl rfl (lb rfl) fun a S => leafL ⟨rfl, S⟩
  ·refine fJ [(63, _), (67, _)] 33 [some 28, some 32] fun G a w S => ?_
   have S1 := S.mem
   refine sCallVQ (X := Unit) (g := 84) (vs := [.agg #[.int .u8 a4.Kind, .bool a4.Purl, iv a4.A, iv a4.B]]) (caps := []) (val := fun _ => iv ag) S (wN rfl) rfl rfl callee84 rfl (S1.quiet [5] rfl) (fun E1 w1 S1 => c_compare_cellTable_1 E1 w1 a4 (.agg #[.int .u8 a4.Kind, .bool a4.Purl, iv a4.A, iv a4.B]) ag aG S1) rfl (lb rfl) fun _ a w S => ?_
   exact leafL ⟨rfl, S⟩
  ·refine fJ [(62, _), (68, _)] 34 [some 27, some 33] fun G a w S => ?_
   exact sBin _ S (wN rfl) rfl rfl rfl (bAdd _ _ _ _ af ag) rfl (lb rfl) fun a S => leafL ⟨rfl, S⟩
  ·exact fM 35 none rfl rfl rfl rfl (.inl rfl) rfl rfl rfl
  ·exact fM 36 none rfl rfl rfl rfl (.inl rfl) rfl rfl rfl
  ·refine fJ [(71, _)] 37 [some 36] fun G a w S => ?_
   exact sBin _ S (wN rfl) rfl rfl rfl (bAdd _ _ _ _ a8 1) rfl (lb rfl) fun a S => leafL ⟨rfl, S⟩
  ·refine fJ [(70, _), (72, _)] 38 [some 35, some 37] fun G a w S => ?_
   exact sIdxV S (wN rfl) rfl rfl rfl bL rfl (lb rfl) fun a S => leafL ⟨rfl, S⟩
  ·refine ⟨_, [(73, bl)], rfl, (srcs_of [some 38] rfl rfl rfl), fun G a w S => ?_⟩
   refine sLoadHo (r := (rL (rI .i64))) (T := 101) (xs := a7) (x := am) (p := (a8).toNat * (rL (rI .i64)).sz + 0) (u := .slice a5 ab.length a6) (v := .slice ac a7.length ae) (vq := bl) (j := w64 (a8 + 1)) 0 S bM (wN rfl) rfl rfl rfl ao (idx_next (by decide) (hole_lim 0 S.mem rfl) ap ao) (scal_L _) rfl rfl (lb rfl) fun a dn S => ?_
   obtain ⟨bQ, bR, _, rfl, _⟩ := S.mem.know (i := 0) (e := fRep (rL (rI .i64)) (dn) am) rfl
   obtain ⟨cc, cD, S⟩ := pIdx (P := Try.prog) (r := (rI .i64)) (v := .slice bQ am.length bR) (xs := am) (j := w64 (aa + 1)) 101 3 0 S Try.underlying101 rfl rfl bH
   obtain ⟨cE, S⟩ := pLoad (r := (rI .i64)) (q := cc) (x := aj) 0 S rfl
   obtain rfl : cE = iv aj := S.mem.know (i := 1) (e := fRep (rI .i64) (cE) aj) rfl
   obtain ⟨cd, cF, cG⟩ := pIdxR (P := Try.prog) (r := (rI .i64)) (T := 3) (v := .slice a5 ab.length a6) (xs := ab) (j := aa) 101 3 1 S Try.underlying101 rfl rfl bI
   refine leafL ⟨rfl, _, _, .inl ⟨74, (.slice bQ am.length bR), [(42, 77, cc), (43, 78, iv aj), (54, 89, iv (w64 (aj + ak))), (55, 90, iv (min3 (w64 (ah + ai)) (w64 (af + ag)) (w64 (aj + ak)))), (56, 91, cd)], rfl, S, hz_of rfl, ?_⟩⟩
   refine node_by (A := anc_compare_table_api_Stitch__s0_2) 58 (by kernel_rfl) (by kernel_rfl) (by kernel_rfl) (by kernel_rfl) (by kernel_rfl) [42, 43, 54, 55, 56, 39, 11, 12, 19, 9, 0, 1, 2, 3, 4, 5, 6, 7, 8, 10, 13, 14, 15, 16, 17, 18, 20, 21, 22, 23, 24, 25, 26, 27, 28, 29, 30, 31, 32, 33, 34, 35, 36, 37, 38, 40, 41, 44, 45, 46, 47, 48, 49, 50, 51, 52, 53] (by kernel_rfl) (by decide) (by decide) (fF ?_ (fF ?_ (fF ?_ (fF ?_ (fF ?_ (fD 9 (fD 9 (fD 9 (fD 9 (fY (fF ?_ (fF ?_ (fF ?_ (fF ?_ (fF ?_ (fF ?_ (fF ?_ (fF ?_ (fF ?_ (fF ?_ (fF ?_ (fF ?_ (fF ?_ (fF ?_ (fF ?_ (fF ?_ (fF ?_ (fF ?_ (fF ?_ (fF ?_ (fF ?_ (fF ?_ (fF ?_ (fF ?_ (fF ?_ (fD 39 (fD 39 (fD 39 (fD 39 (fY (fF ?_ (fF ?_ (fF ?_ (fF ?_ (fF ?_ (fF ?_ (fF ?_ (fF ?_ (fF ?_ (fF ?_ (fF ?_ (fF ?_ (fF ?_ (fF ?_ (fF ?_ (fF ?_ (fF ?_ (fN ?_ (trivial))))))))))))))))))))))))))))))))))))))))))))))))))))))))))) [] (fun q hq => by cases hq) (fun hY => absurd (hY 57 (by decide)) (by decide))
   ·exact fM 10 none rfl rfl rfl rfl (.inl rfl) rfl rfl rfl
   ·exact fM 11 none rfl rfl rfl rfl (.inl rfl) rfl rfl rfl
   ·refine fJ [(35, _), (36, _)] 12 [some 10, some 11] fun G a w S => ?_
    exact sIdxV S (wN rfl) rfl rfl rfl aI rfl (lb rfl) fun a S => leafL ⟨rfl, S⟩
   ·refine fJ [(37, _)] 13 [some 12] fun G a w S => ?_
    exact sLoadHE (r := (rL (rI .i64))) (T := 101) (xs := a7) (u := .slice a5 ab.length a6) (v := .slice ac a7.length ae) (vq := bc) (j := a8) 0 S aJ (wN rfl) rfl rfl rfl rfl rfl (lb rfl) fun a S => leafL ⟨rfl, S⟩
   ·exact fM 14 none rfl rfl rfl rfl (.inl rfl) rfl rfl rfl
   ·exact fM 19 none rfl rfl rfl rfl (.inl rfl) rfl rfl rfl
   ·refine fJ [(44, _), (45, _)] 6 [some 9, some 19] fun G a w S => ?_
    exact sIdxV S (wN rfl) rfl rfl rfl bP rfl (lb rfl) fun a S => leafL ⟨rfl, S⟩
   ·refine fJ [(46, _)] 7 [some 6] fun G a w S => ?_
    exact sLoadV1 (vq := bq) 4 (iv ah) S (wN rfl) rfl rfl rfl rfl rfl (lb rfl) fun a S => leafL ⟨rfl, S⟩
   ·exact fM 20 none rfl rfl rfl rfl (.inl rfl) rfl rfl rfl
   ·exact fM 21 none rfl rfl rfl rfl (.inl rfl) rfl rfl rfl
   ·exact fM 22 none rfl rfl rfl rfl (.inl rfl) rfl rfl rfl
   ·refine fJ [(49, _), (50, _)] 23 [some 21, some 22] fun G a w S => ?_
    exact sIdxV S (wN rfl) rfl rfl rfl aK rfl (lb rfl) fun a S => leafL ⟨rfl, S⟩
   ·refine fJ [(51, _)] 24 [some 23] fun G a w S => ?_
    exact sLoadVN (vq := aT) 17 [.int .u8 a0.Kind, .bool a0.Purl, iv a0.A, iv a0.B] S (wN rfl) rfl rfl rfl rfl rfl rfl (lb rfl) fun a S => leafL ⟨rfl, S⟩
   ·refine fJ [(48, _), (52, _)] 25 [some 20, some 24] fun G a w S => ?_
    have S1 := S.mem
    refine sCallVQ (X := Unit) (g := 84) (vs := [.agg #[.int .u8 a0.Kind, .bool a0.Purl, iv a0.A, iv a0.B]]) (caps := []) (val := fun _ => iv ai) S (wN rfl) rfl rfl callee84 rfl (S1.quiet [12] rfl) (fun E1 w1 S1 => c_compare_cellTable_1 E1 w1 a0 (.agg #[.int .u8 a0.Kind, .bool a0.Purl, iv a0.A, iv a0.B]) ai aC S1) rfl (lb rfl) fun _ a w S => ?_
    exact leafL ⟨rfl, S⟩
   ·refine fJ [(47, _), (53, _)] 8 [some 7, some 25] fun G a w S => ?_
    exact sBin _ S (wN rfl) rfl rfl rfl (bAdd _ _ _ _ ah ai) rfl (lb rfl) fun a S => leafL ⟨rfl, S⟩
   ·exact fM 26 none rfl rfl rfl rfl (.inl rfl) rfl rfl rfl
   ·exact fM 27 none rfl rfl rfl rfl (.inl rfl) rfl rfl rfl
   ·refine fJ [(55, _), (56, _)] 28 [some 26, some 27] fun G a w S => ?_
    exact sIdxV S (wN rfl) rfl rfl rfl aL rfl (lb rfl) fun a S => leafL ⟨rfl, S⟩
   ·refine fJ [(57, _)] 29 [some 28] fun G a w S => ?_
    exact sLoadHE (r := (rL (rI .i64))) (T := 101) (xs := a7) (u := .slice a5 ab.length a6) (v := .slice ac a7.length ae) (vq := bf) (j := a8) 0 S aM (wN rfl) rfl rfl rfl rfl rfl (lb rfl) fun a S => leafL ⟨rfl, S⟩
   ·exact fM 30 none rfl rfl rfl rfl (.inl rfl) rfl rfl rfl
   ·refine fJ [(59, _)] 31 [some 30] fun G a w S => ?_
    exact sBin _ S (wN rfl) rfl rfl rfl (bAdd _ _ _ _ aa 1) rfl (lb rfl) fun a S => leafL ⟨rfl, S⟩
   ·refine fJ [(58, _), (60, _)] 32 [some 29, some 31] fun G a w S => ?_
    exact sIdxV S (wN rfl) rfl rfl rfl aO rfl (lb rfl) fun a S => leafL ⟨rfl, S⟩
   ·refine fJ [(61, _)] 33 [some 32] fun G a w S => ?_
    exact sLoadR (r := (rI .i64)) (T := 3) (xs := ab) (x := af) (v := .slice a5 ab.length a6) (vq := bg) (j := w64 (aa + 1)) 1 (iv af) S aP (wN rfl) rfl rfl rfl az (fun _ _ _ h => h) (scal_I _) rfl rfl (lb rfl) fun a S => leafL ⟨rfl, S⟩
   ·exact fM 34 none rfl rfl rfl rfl (.inl rfl) rfl rfl rfl
   ·exact fM 35 none rfl rfl rfl rfl (.inl rfl) rfl rfl rfl
   ·exact fM 36 none rfl rfl rfl rfl (.inl rfl) rfl rfl rfl
   ·refine fJ [(64, _), (65, _)] 37 [some 35, some 36] fun G a w S => ?_
    exact sIdxV S (wN rfl) rfl rfl rfl aQ rfl (lb rfl) fun a S => leafL ⟨rfl, S⟩
   ·refine fJ [(66, _)] 38 [some 37] fun G a w S => ?_
    exact sLoadVN (vq := aU) 14 [.int .u8 a4.Kind, .bool a4.Purl, iv a4.A, iv a4.B] S (wN rfl) rfl rfl rfl rfl rfl rfl (lb rfl) fun a S => leafL ⟨rfl, S⟩
   ·refine fJ [(63, _), (67, _)] 39 [some 34, some 38] fun G a w S => ?_
    have S1 := S.mem
    refine sCallVQ (X := Unit) (g := 84) (vs := [.agg #[.int .u8 a4.Kind, .bool a4.Purl, iv a4.A, iv a4.B]]) (caps := []) (val := fun _ => iv ag) S (wN rfl) rfl rfl callee84 rfl (S1.quiet [9] rfl) (fun E1 w1 S1 => c_compare_cellTable_1 E1 w1 a4 (.agg #[.int .u8 a4.Kind, .bool a4.Purl, iv a4.A, iv a4.B]) ag aG S1) rfl (lb rfl) fun _ a w S => ?_
    exact leafL ⟨rfl, S⟩
   ·refine fJ [(62, _), (68, _)] 40 [some 33, some 39] fun G a w S => ?_
    exact sBin _ S (wN rfl) rfl rfl rfl (bAdd _ _ _ _ af ag) rfl (lb rfl) fun a S => leafL ⟨rfl, S⟩
   ·exact fM 45 none rfl rfl rfl rfl (.inl rfl) rfl rfl rfl
   ·refine fJ [(75, _)] 46 [some 45] fun G a w S => ?_
    exact sBin _ S (wN rfl) rfl rfl rfl (bAdd _ _ _ _ aa 1) rfl (lb rfl) fun a S => leafL ⟨rfl, S⟩
   ·refine fJ [(74, _), (76, _)] 0 [some 5, some 46] fun G a w S => ?_
    exact sIdxV S (wN rfl) rfl rfl rfl cD rfl (lb rfl) fun a S => leafL ⟨rfl, S⟩
   ·refine fJ [(77, _)] 1 [some 0] fun G a w S => ?_
    exact sLoadV1 (vq := cc) 0 (iv aj) S (wN rfl) rfl rfl rfl rfl rfl (lb rfl) fun a S => leafL ⟨rfl, S⟩
   ·exact fM 47 none rfl rfl rfl rfl (.inl rfl) rfl rfl rfl
   ·exact fM 48 none rfl rfl rfl rfl (.inl rfl) rfl rfl rfl
   ·exact fM 49 none rfl rfl rfl rfl (.inl rfl) rfl rfl rfl
   ·refine fJ [(80, _), (81, _)] 50 [some 48, some 49] fun G a w S => ?_
    exact sIdxV S (wN rfl) rfl rfl rfl aR rfl (lb rfl) fun a S => leafL ⟨rfl, S⟩
   ·refine fJ [(82, _)] 51 [some 50] fun G a w S => ?_
    exact sLoadVN (vq := aV) 11 [.int .u8 a0.Kind, .bool a0.Purl, iv a0.A, iv a0.B] S (wN rfl) rfl rfl rfl rfl rfl rfl (lb rfl) fun a S => leafL ⟨rfl, S⟩
   ·exact fM 52 none rfl rfl rfl rfl (.inl rfl) rfl rfl rfl
   ·exact fM 53 none rfl rfl rfl rfl (.inl rfl) rfl rfl rfl
   ·refine fJ [(84, _), (85, _)] 54 [some 52, some 53] fun G a w S => ?_
    exact sIdxV S (wN rfl) rfl rfl rfl aS rfl (lb rfl) fun a S => leafL ⟨rfl, S⟩
   ·refine fJ [(86, _)] 55 [some 54] fun G a w S => ?_
    exact sLoadVN (vq := aW) 8 [.int .u8 a4.Kind, .bool a4.Purl, iv a4.A, iv a4.B] S (wN rfl) rfl rfl rfl rfl rfl rfl (lb rfl) fun a S => leafL ⟨rfl, S⟩
   ·refine fJ [(79, _), (83, _), (87, _)] 56 [some 47, some 51, some 55] fun G a w S => ?_
    have S1 := S.mem
    refine sCallVQ (X := Unit) (g := 85) (vs := [.agg #[.int .u8 a0.Kind, .bool a0.Purl, iv a0.A, iv a0.B], .agg #[.int .u8 a4.Kind, .bool a4.Purl, iv a4.A, iv a4.B]]) (caps := []) (val := fun _ => iv ak) S (wN rfl) rfl rfl callee85 rfl (S1.quiet [12, 9] rfl) (fun E1 w1 S1 => c_compare_cellTable_2 E1 w1 a0 (.agg #[.int .u8 a0.Kind, .bool a0.Purl, iv a0.A, iv a0.B]) a4 (.agg #[.int .u8 a4.Kind, .bool a4.Purl, iv a4.A, iv a4.B]) ak aH S1) rfl (lb rfl) fun _ a w S => ?_
    exact leafL ⟨rfl, S⟩
   ·refine fJ [(78, _), (88, _)] 2 [some 1, some 56] fun G a w S => ?_
    exact sBin _ S (wN rfl) rfl rfl rfl (bAdd _ _ _ _ aj ak) rfl (lb rfl) fun a S => leafL ⟨rfl, S⟩
   ·refine fJ [(54, _), (69, _), (89, _)] 3 [some 8, some 40, some 2] fun G a w S => ?_
    exact sMin3 (p := w64 (ah + ai)) (q := w64 (af + ag)) (r := w64 (aj + ak)) S (wN rfl) rfl rfl rfl rfl rfl (lb rfl) fun a S => leafL ⟨rfl, S⟩
   ·refine fJ [(38, _), (39, _)] 4 [some 13, some 14] fun G a w S => ?_
    exact sIdxV S (wN rfl) rfl rfl rfl cF rfl (lb rfl) fun a S => leafL ⟨rfl, S⟩
   refine ⟨_, [(90, iv (min3 (w64 (ah + ai)) (w64 (af + ag)) (w64 (aj + ak)))), (91, cd)], rfl, (srcs_of [some 3, some 4] rfl rfl rfl), fun G a w S => ?_⟩
   refine sStoreR (r := (rI .i64)) (T := 3) (xs := ab) (ys := bp) (y := (min3 (w64 (ah + ai)) (w64 (af + ag)) (w64 (aj + ak)))) (v := .slice a5 ab.length a6) (vq := cd) (u := iv (min3 (w64 (ah + ai)) (w64 (af + ag)) (w64 (aj + ak)))) (j := aa) 1 S cG (wN rfl) rfl rfl rfl rfl rfl aX rfl rfl fun a w S => ?_
   refine leafL ⟨rfl, _, _, .inr ⟨[], rfl, S, hz_of rfl, ?_⟩⟩
   refine node_by (A := anc_compare_table_api_Stitch__s0_2) 58 (by kernel_rfl) (by kernel_rfl) (by kernel_rfl) (by kernel_rfl) (by kernel_rfl) [42, 43, 54, 55, 56, 39, 11, 12, 19, 9, 0, 1, 2, 3, 4, 5, 6, 7, 8, 10, 13, 14, 15, 16, 17, 18, 20, 21, 22, 23, 24, 25, 26, 27, 28, 29, 30, 31, 32, 33, 34, 35, 36, 37, 38, 40, 41, 44, 45, 46, 47, 48, 49, 50, 51, 52, 53] (by kernel_rfl) (by decide) (by decide) (fD 57 (fD 57 (fD 57 (fD 57 (fD 57 (fD 57 (fD 57 (fD 57 (fD 57 (fY (fD 57 (fD 57 (fD 57 (fD 57 (fD 57 (fD 57 (fD 57 (fD 57 (fD 57 (fD 57 (fD 57 (fD 57 (fD 57 (fD 57 (fD 57 (fD 57 (fD 57 (fD 57 (fD 57 (fD 57 (fD 57 (fD 57 (fD 57 (fD 57 (fD 57 (fD 57 (fD 57 (fD 57 (fD 57 (fY (fD 57 (fD 57 (fD 57 (fD 57 (fD 57 (fD 57 (fD 57 (fD 57 (fD 57 (fD 57 (fD 57 (fD 57 (fD 57 (fD 57 (fD 57 (fD 57 (fD 57 (fY (trivial))))))))))))))))))))))))))))))))))))))))))))))))))))))))))) [(0, .slice av p0.length aw), (1, .slice ar p1.length au), (2, .func (.func 84) #[] #[]), (3, .func (.func 85) #[] #[]), (9, .slice ac a7.length ae), (10, iv a8), (11, iv aa)] (fin_of [none, none, none, none, none, none, none] rfl (by kernel_rfl) (by kernel_rfl)) (fun _ a w S => ?_)
   rw [setO_v aX a5 a6] at S
   exact leafB (leafB (leafT (⟨bp, Option.some.inj h, S.fix [1, 0] [20, 21] (by decide) rfl rfl rfl⟩)))
  ·exact fM 39 none rfl rfl rfl rfl (.inl rfl) rfl rfl rfl
  ·refine fJ [(75, _)] 40 [some 39] fun G a w S => ?_
   exact sBin _ S (wN rfl) rfl rfl rfl (bAdd _ _ _ _ aa 1) rfl (lb rfl) fun a S => leafL ⟨rfl, S⟩
  ·exact fM 41 none rfl rfl rfl rfl (.inl rfl) rfl rfl rfl
  ·exact fM 42 none rfl rfl rfl rfl (.inl rfl) rfl rfl rfl
  ·exact fM 43 none rfl rfl rfl rfl (.inl rfl) rfl rfl rfl
  ·refine fJ [(80, _), (81, _)] 44 [some 42, some 43] fun G a w S => ?_
   exact sIdxV S (wN rfl) rfl rfl rfl aR rfl (lb rfl) fun a S => leafL ⟨rfl, S⟩
  ·refine fJ [(82, _)] 45 [some 44] fun G a w S => ?_
   exact sLoadVN (vq := aV) 7 [.int .u8 a0.Kind, .bool a0.Purl, iv a0.A, iv a0.B] S (wN rfl) rfl rfl rfl rfl rfl rfl (lb rfl) fun a S => leafL ⟨rfl, S⟩
  ·exact fM 46 none rfl rfl rfl rfl (.inl rfl) rfl rfl rfl
  ·exact fM 47 none rfl rfl rfl rfl (.inl rfl) rfl rfl rfl
  ·refine fJ [(84, _), (85, _)] 48 [some 46, some 47] fun G a w S => ?_
   exact sIdxV S (wN rfl) rfl rfl rfl aS rfl (lb rfl) fun a S => leafL ⟨rfl, S⟩
  ·refine fJ [(86, _)] 49 [some 48] fun G a w S => ?_
   exact sLoadVN (vq := aW) 4 [.int .u8 a4.Kind, .bool a4.Purl, iv a4.A, iv a4.B] S (wN rfl) rfl rfl rfl rfl rfl rfl (lb rfl) fun a S => leafL ⟨rfl, S⟩
  refine fJ [(79, _), (83, _), (87, _)] 50 [some 41, some 45, some 49] fun G a w S => ?_
  have S1 := S.mem
  refine sCallVQ (X := Unit) (g := 85) (vs := [.agg #[.int .u8 a0.Kind, .bool a0.Purl, iv a0.A, iv a0.B], .agg #[.int .u8 a4.Kind, .bool a4.Purl, iv a4.A, iv a4.B]]) (caps := []) (val := fun _ => iv ak) S (wN rfl) rfl rfl callee85 rfl (S1.quiet [8, 5] rfl) (fun E1 w1 S1 => c_compare_cellTable_2 E1 w1 a0 (.agg #[.int .u8 a0.Kind, .bool a0.Purl, iv a0.A, iv a0.B]) a4 (.agg #[.int .u8 a4.Kind, .bool a4.Purl, iv a4.A, iv a4.B]) ak aH S1) rfl (lb rfl) fun _ a w S => ?_
  exact leafL ⟨rfl, S⟩
 ·exact fM 9 none rfl rfl rfl rfl (.inl rfl) rfl rfl rfl
 ·exact fM 10 none rfl rfl rfl rfl (.inl rfl) rfl rfl rfl
 ·exact fM 11 none rfl rfl rfl rfl (.inl rfl) rfl rfl rfl
 ·exact fM 12 none rfl rfl rfl rfl (.inl rfl) rfl rfl rfl
 ·refine fJ [(49, _), (50, _)] 13 [some 11, some 12] fun G a w S => ?_
  exact sIdxV S (wN rfl) rfl rfl rfl aK rfl (lb rfl) fun a S => leafL ⟨rfl, S⟩
 ·refine fJ [(51, _)] 14 [some 13] fun G a w S => ?_
  exact sLoadVN (vq := aT) 9 [.int .u8 a0.Kind, .bool a0.Purl, iv a0.A, iv a0.B] S (wN rfl) rfl rfl rfl rfl rfl rfl (lb rfl) fun a S => leafL ⟨rfl, S⟩
 ·refine fJ [(48, _), (52, _)] 15 [some 10, some 14] fun G a w S => ?_
  have S1 := S.mem
  refine sCallVQ (X := Unit) (g := 84) (vs := [.agg #[.int .u8 a0.Kind, .bool a0.Purl, iv a0.A, iv a0.B]]) (caps := []) (val := fun _ => iv ai) S (wN rfl) rfl rfl callee84 rfl (S1.quiet [4] rfl) (fun E1 w1 S1 => c_compare_cellTable_1 E1 w1 a0 (.agg #[.int .u8 a0.Kind, .bool a0.Purl, iv a0.A, iv a0.B]) ai aC S1) rfl (lb rfl) fun _ a w S => ?_
  exact leafL ⟨rfl, S⟩
 ·exact fM 16 none rfl rfl rfl rfl (.inl rfl) rfl rfl rfl
 ·exact fM 17 none rfl rfl rfl rfl (.inl rfl) rfl rfl rfl
 ·refine fJ [(55, _), (56, _)] 18 [some 16, some 17] fun G a w S => ?_
  exact sIdxV S (wN rfl) rfl rfl rfl aL rfl (lb rfl) fun a S => leafL ⟨rfl, S⟩
 ·refine fJ [(57, _)] 19 [some 18] fun G a w S => ?_
  exact sLoadHE (r := (rL (rI .i64))) (T := 101) (xs := a7) (u := .slice a5 ab.length a6) (v := .slice ac a7.length ae) (vq := bf) (j := a8) 0 S aM (wN rfl) rfl rfl rfl rfl rfl (lb rfl) fun a S => leafL ⟨rfl, S⟩
 ·exact fM 20 none rfl rfl rfl rfl (.inl rfl) rfl rfl rfl
 ·refine fJ [(59, _)] 21 [some 20] fun G a w S => ?_
  exact sBin _ S (wN rfl) rfl rfl rfl (bAdd _ _ _ _ aa 1) rfl (lb rfl) fun a S => leafL ⟨rfl, S⟩
 ·refine fJ [(58, _), (60, _)] 22 [some 19, some 21] fun G a w S => ?_
  exact sIdxV S (wN rfl) rfl rfl rfl aO rfl (lb rfl) fun a S => leafL ⟨rfl, S⟩
 ·refine fJ [(61, _)] 23 [some 22] fun G a w S => ?_
  exact sLoadR (r := (rI .i64)) (T := 3) (xs := ab) (x := af) (v := .slice a5 ab.length a6) (vq := bg) (j := w64 (aa + 1)) 1 (iv af) S aP (wN rfl) rfl rfl rfl az (fun _ _ _ h => h) (scal_I _) rfl rfl (lb rfl) fun a S => leafL ⟨rfl, S⟩
 ·exact fM 24 none rfl rfl rfl rfl (.inl rfl) rfl rfl rfl
 ·exact fM 25 none rfl rfl rfl rfl (.inl rfl) rfl rfl rfl
 ·exact fM 26 none rfl rfl rfl rfl (.inl rfl) rfl rfl rfl
 ·refine fJ [(64, _), (65, _)] 27 [some 25, some 26] fun G a w S => ?_
  exact sIdxV S (wN rfl) rfl rfl rfl aQ rfl (lb rfl) fun a S => leafL ⟨rfl, S⟩
 ·refine fJ [(66, _)] 28 [some 27] fun G a w S => ?_
  exact sLoadVN (vq := aU) 6 [.int .u8 a4.Kind, .bool a4.Purl, iv a4.A, iv a4.B] S (wN rfl) rfl rfl rfl rfl rfl rfl (lb rfl) fun a S => leafL ⟨rfl, S⟩
 ·refine fJ [(63, _), (67, _)] 29 [some 24, some 28] fun G a w S => ?_
  have S1 := S.mem
  refine sCallVQ (X := Unit) (g := 84) (vs := [.agg #[.int .u8 a4.Kind, .bool a4.Purl, iv a4.A, iv a4.B]]) (caps := []) (val := fun _ => iv ag) S (wN rfl) rfl rfl callee84 rfl (S1.quiet [1] rfl) (fun E1 w1 S1 => c_compare_cellTable_1 E1 w1 a4 (.agg #[.int .u8 a4.Kind, .bool a4.Purl, iv a4.A, iv a4.B]) ag aG S1) rfl (lb rfl) fun _ a w S => ?_
  exact leafL ⟨rfl, S⟩
 ·refine fJ [(62, _), (68, _)] 30 [some 23, some 29] fun G a w S => ?_
  exact sBin _ S (wN rfl) rfl rfl rfl (bAdd _ _ _ _ af ag) rfl (lb rfl) fun a S => leafL ⟨rfl, S⟩
 ·exact fM 31 none rfl rfl rfl rfl (.inl rfl) rfl rfl rfl
 ·exact fM 32 none rfl rfl rfl rfl (.inl rfl) rfl rfl rfl
 ·refine fJ [(71, _)] 33 [some 32] fun G a w S => ?_
  exact sBin _ S (wN rfl) rfl rfl rfl (bAdd _ _ _ _ a8 1) rfl (lb rfl) fun a S => leafL ⟨rfl, S⟩
 ·refine fJ [(70, _), (72, _)] 34 [some 31, some 33] fun G a w S => ?_
  exact sIdxV S (wN rfl) rfl rfl rfl bL rfl (lb rfl) fun a S => leafL ⟨rfl, S⟩
 ·refine ⟨_, [(73, bl)], rfl, (srcs_of [some 34] rfl rfl rfl), fun G a w S => ?_⟩
  refine sLoadHo (r := (rL (rI .i64))) (T := 101) (xs := a7) (x := am) (p := (a8).toNat * (rL (rI .i64)).sz + 0) (u := .slice a5 ab.length a6) (v := .slice ac a7.length ae) (vq := bl) (j := w64 (a8 + 1)) 0 S bM (wN rfl) rfl rfl rfl ao (idx_next (by decide) (hole_lim 0 S.mem rfl) ap ao) (scal_L _) rfl rfl (lb rfl) fun a dp S => ?_
  obtain ⟨bU, bV, _, rfl, _⟩ := S.mem.know (i := 0) (e := fRep (rL (rI .i64)) (dp) am) rfl
  obtain ⟨br, bW, S⟩ := pIdx (P := Try.prog) (r := (rI .i64)) (v := .slice bU am.length bV) (xs := am) (j := w64 (aa + 1)) 101 3 0 S Try.underlying101 rfl rfl bH
  obtain ⟨cH, S⟩ := pLoad (r := (rI .i64)) (q := br) (x := aj) 0 S rfl
  obtain rfl : cH = iv aj := S.mem.know (i := 1) (e := fRep (rI .i64) (cH) aj) rfl
  refine leafL ⟨rfl, _, _, .inl ⟨74, (.slice bU am.length bV), [(42, 77, br), (43, 78, iv aj), (54, 89, iv (w64 (aj + ak)))], rfl, S, hz_of rfl, ?_⟩⟩
  refine node_by (A := anc_compare_table_api_Stitch__s0_2) 58 (by kernel_rfl) (by kernel_rfl) (by kernel_rfl) (by kernel_rfl) (by kernel_rfl) [42, 43, 54, 39, 0, 1, 2, 3, 4, 5, 6, 7, 8, 10, 13, 14, 15, 16, 17, 18, 20, 21, 22, 23, 24, 25, 26, 27, 28, 29, 30, 31, 32, 33, 34, 35, 36, 37, 38, 40, 41, 44, 45, 46, 47, 48, 49, 50, 51, 52, 53] (by kernel_rfl) (by decide) (by decide) (fF ?_ (fF ?_ (fF ?_ (fF ?_ (fF ?_ (fF ?_ (fF ?_ (fF ?_ (fF ?_ (fN ?_ (fF ?_ (fE 9 (fE 9 (fF ?_ (fF ?_ (fF ?_ (fF ?_ (fF ?_ (fF ?_ (fE 9 (fF ?_ (fF ?_ (fF ?_ (fF ?_ (fF ?_ (fF ?_ (fF ?_ (fF ?_ (fF ?_ (fF ?_ (fF ?_ (fF ?_ (fF ?_ (fF ?_ (fF ?_ (fD 39 (fD 39 (fD 39 (fD 39 (fY (fF ?_ (fF ?_ (fF ?_ (fF ?_ (fF ?_ (fF ?_ (fF ?_ (fF ?_ (fF ?_ (fF ?_ (fF ?_ (fF ?_ (fF ?_ (fF ?_ (fF ?_ (fE 9 (fE 9 (aB 57 0 9 (by decide) (trivial))))))))))))))))))))))))))))))))))))))))))))))))))))))))))) [] (fun q hq => by cases hq) (fun hY => absurd (hY 9 (by decide)) (by decide))
  ·exact fM 4 none rfl rfl rfl rfl (.inl rfl) rfl rfl rfl
  ·exact fM 5 none rfl rfl rfl rfl (.inl rfl) rfl rfl rfl
  ·refine fJ [(35, _), (36, _)] 6 [some 4, some 5] fun G a w S => ?_
   exact sIdxV S (wN rfl) rfl rfl rfl aI rfl (lb rfl) fun a S => leafL ⟨rfl, S⟩
  ·refine fJ [(37, _)] 7 [some 6] fun G a w S => ?_
   exact sLoadHE (r := (rL (rI .i64))) (T := 101) (xs := a7) (u := .slice a5 ab.length a6) (v := .slice ac a7.length ae) (vq := bc) (j := a8) 0 S aJ (wN rfl) rfl rfl rfl rfl rfl (lb rfl) fun a S => leafL ⟨rfl, S⟩
  ·exact fM 8 none rfl rfl rfl rfl (.inl rfl) rfl rfl rfl
  ·exact fM 9 none rfl rfl rfl rfl (.inl rfl) rfl rfl rfl
  ·exact fM 10 none rfl rfl rfl rfl (.inl rfl) rfl rfl rfl
  ·refine fJ [(41, _)] 11 [some 10] fun G a w S => ?_
   exact sBin _ S (wN rfl) rfl rfl rfl (bAdd _ _ _ _ a8 1) rfl (lb rfl) fun a S => leafL ⟨rfl, S⟩
  ·refine fJ [(40, _), (42, _)] 12 [some 9, some 11] fun G a w S => ?_
   exact sIdxV S (wN rfl) rfl rfl rfl bJ rfl (lb rfl) fun a S => leafL ⟨rfl, S⟩
  ·refine ⟨_, [(43, bk)], rfl, (srcs_of [some 12] rfl rfl rfl), fun G a w S => ?_⟩
   refine sLoadHo (r := (rL (rI .i64))) (T := 101) (xs := a7) (x := am) (p := (a8).toNat * (rL (rI .i64)).sz + 0) (u := .slice a5 ab.length a6) (v := .slice ac a7.length ae) (vq := bk) (j := w64 (a8 + 1)) 0 S bK (wN rfl) rfl rfl rfl ao (idx_next (by decide) (hole_lim 0 S.mem rfl) ap ao) (scal_L _) rfl rfl (lb rfl) fun a dr S => ?_
   obtain ⟨bX, bY, _, rfl, _⟩ := S.mem.know (i := 0) (e := fRep (rL (rI .i64)) (dr) am) rfl
   obtain ⟨ce, cI, S⟩ := pIdx (P := Try.prog) (r := (rI .i64)) (v := .slice bX am.length bY) (xs := am) (j := aa) 101 3 0 S Try.underlying101 rfl rfl bD
   obtain ⟨cJ, S⟩ := pLoad (r := (rI .i64)) (q := ce) (x := ah) 0 S rfl
   obtain rfl : cJ = iv ah := S.mem.know (i := 1) (e := fRep (rI .i64) (cJ) ah) rfl
   obtain ⟨cg, cK, cL⟩ := pIdxR (P := Try.prog) (r := (rI .i64)) (T := 3) (v := .slice a5 ab.length a6) (xs := ab) (j := aa) 101 3 1 S Try.underlying101 rfl rfl bI
   refine leafL ⟨rfl, _, _, .inl ⟨44, (.slice bX am.length bY), [(11, 46, ce), (12, 47, iv ah), (19, 54, iv (w64 (ah + ai))), (55, 90, iv (min3 (w64 (ah + ai)) (w64 (af + ag)) (w64 (aj + ak)))), (56, 91, cg)], rfl, S, hz_of rfl, ?_⟩⟩
   refine node_by (A := anc_compare_table_api_Stitch__s0_2) 58 (by kernel_rfl) (by kernel_rfl) (by kernel_rfl) (by kernel_rfl) (by kernel_rfl) [11, 12, 19, 55, 56, 9, 42, 43, 54, 39, 0, 1, 2, 3, 4, 5, 6, 7, 8, 10, 13, 14, 15, 16, 17, 18, 20, 21, 22, 23, 24, 25, 26, 27, 28, 29, 30, 31, 32, 33, 34, 35, 36, 37, 38, 40, 41, 44, 45, 46, 47, 48, 49, 50, 51, 52, 53] (by kernel_rfl) (by decide) (by decide) (fF ?_ (fF ?_ (fF ?_ (fF ?_ (fF ?_ (fD 9 (fD 9 (fD 9 (fD 9 (fY (fF ?_ (fF ?_ (fF ?_ (fF ?_ (fF ?_ (fF ?_ (fF ?_ (fF ?_ (fF ?_ (fF ?_ (fF ?_ (fF ?_ (fF ?_ (fF ?_ (fF ?_ (fF ?_ (fF ?_ (fF ?_ (fF ?_ (fF ?_ (fF ?_ (fF ?_ (fF ?_ (fF ?_ (fF ?_ (fD 39 (fD 39 (fD 39 (fD 39 (fY (fF ?_ (fF ?_ (fF ?_ (fF ?_ (fF ?_ (fF ?_ (fF ?_ (fF ?_ (fF ?_ (fF ?_ (fF ?_ (fF ?_ (fF ?_ (fF ?_ (fF ?_ (fF ?_ (fF ?_ (fN ?_ (trivial))))))))))))))))))))))))))))))))))))))))))))))))))))))))))) [] (fun q hq => by cases hq) (fun hY => absurd (hY 57 (by decide)) (by decide))
   ·exact fM 10 none rfl rfl rfl rfl (.inl rfl) rfl rfl rfl
   ·exact fM 11 none rfl rfl rfl rfl (.inl rfl) rfl rfl rfl
   ·refine fJ [(35, _), (36, _)] 12 [some 10, some 11] fun G a w S => ?_
    exact sIdxV S (wN rfl) rfl rfl rfl aI rfl (lb rfl) fun a S => leafL ⟨rfl, S⟩
   ·refine fJ [(37, _)] 13 [some 12] fun G a w S => ?_
    exact sLoadHE (r := (rL (rI .i64))) (T := 101) (xs := a7) (u := .slice a5 ab.length a6) (v := .slice ac a7.length ae) (vq := bc) (j := a8) 0 S aJ (wN rfl) rfl rfl rfl rfl rfl (lb rfl) fun a S => leafL ⟨rfl, S⟩
   ·exact fM 14 none rfl rfl rfl rfl (.inl rfl) rfl rfl rfl
   ·exact fM 19 none rfl rfl rfl rfl (.inl rfl) rfl rfl rfl
   ·refine fJ [(44, _), (45, _)] 0 [some 5, some 19] fun G a w S => ?_
    exact sIdxV S (wN rfl) rfl rfl rfl cI rfl (lb rfl) fun a S => leafL ⟨rfl, S⟩
   ·refine fJ [(46, _)] 1 [some 0] fun G a w S => ?_
    exact sLoadV1 (vq := ce) 0 (iv ah) S (wN rfl) rfl rfl rfl rfl rfl (lb rfl) fun a S => leafL ⟨rfl, S⟩
   ·exact fM 20 none rfl rfl rfl rfl (.inl rfl) rfl rfl rfl
   ·exact fM 21 none rfl rfl rfl rfl (.inl rfl) rfl rfl rfl
   ·exact fM 22 none rfl rfl rfl rfl (.inl rfl) rfl rfl rfl
   ·refine fJ [(49, _), (50, _)] 23 [some 21, some 22] fun G a w S => ?_
    exact sIdxV S (wN rfl) rfl rfl rfl aK rfl (lb rfl) fun a S => leafL ⟨rfl, S⟩
   ·refine fJ [(51, _)] 24 [some 23] fun G a w S => ?_
    exact sLoadVN (vq := aT) 17 [.int .u8 a0.Kind, .bool a0.Purl, iv a0.A, iv a0.B] S (wN rfl) rfl rfl rfl rfl rfl rfl (lb rfl) fun a S => leafL ⟨rfl, S⟩
   ·refine fJ [(48, _), (52, _)] 25 [some 20, some 24] fun G a w S => ?_
    have S1 := S.mem
    refine sCallVQ (X := Unit) (g := 84) (vs := [.agg #[.int .u8 a0.Kind, .bool a0.Purl, iv a0.A, iv a0.B]]) (caps := []) (val := fun _ => iv ai) S (wN rfl) rfl rfl callee84 rfl (S1.quiet [12] rfl) (fun E1 w1 S1 => c_compare_cellTable_1 E1 w1 a0 (.agg #[.int .u8 a0.Kind, .bool a0.Purl, iv a0.A, iv a0.B]) ai aC S1) rfl (lb rfl) fun _ a w S => ?_
    exact leafL ⟨rfl, S⟩
   ·refine fJ [(47, _), (53, _)] 2 [some 1, some 25] fun G a w S => ?_
    exact sBin _ S (wN rfl) rfl rfl rfl (bAdd _ _ _ _ ah ai) rfl (lb rfl) fun a S => leafL ⟨rfl, S⟩
   ·exact fM 26 none rfl rfl rfl rfl (.inl rfl) rfl rfl rfl
   ·exact fM 27 none rfl rfl rfl rfl (.inl rfl) rfl rfl rfl
   ·refine fJ [(55, _), (56, _)] 28 [some 26, some 27] fun G a w S => ?_
    exact sIdxV S (wN rfl) rfl rfl rfl aL rfl (lb rfl) fun a S => leafL ⟨rfl, S⟩
   ·refine fJ [(57, _)] 29 [some 28] fun G a w S => ?_
    exact sLoadHE (r := (rL (rI .i64))) (T := 101) (xs := a7) (u := .slice a5 ab.length a6) (v := .slice ac a7.length ae) (vq := bf) (j := a8) 0 S aM (wN rfl) rfl rfl rfl rfl rfl (lb rfl) fun a S => leafL ⟨rfl, S⟩
   ·exact fM 30 none rfl rfl rfl rfl (.inl rfl) rfl rfl rfl
   ·refine fJ [(59, _)] 31 [some 30] fun G a w S => ?_
    exact sBin _ S (wN rfl) rfl rfl rfl (bAdd _ _ _ _ aa 1) rfl (lb rfl) fun a S => leafL ⟨rfl, S⟩
   ·refine fJ [(58, _), (60, _)] 32 [some 29, some 31] fun G a w S => ?_
    exact sIdxV S (wN rfl) rfl rfl rfl aO rfl (lb rfl) fun a S => leafL ⟨rfl, S⟩
   ·refine fJ [(61, _)] 33 [some 32] fun G a w S => ?_
    exact sLoadR (r := (rI .i64)) (T := 3) (xs := ab) (x := af) (v := .slice a5 ab.length a6) (vq := bg) (j := w64 (aa + 1)) 1 (iv af) S aP (wN rfl) rfl rfl rfl az (fun _ _ _ h => h) (scal_I _) rfl rfl (lb rfl) fun a S => leafL ⟨rfl, S⟩
   ·exact fM 34 none rfl rfl rfl rfl (.inl rfl) rfl rfl rfl
   ·exact fM 35 none rfl rfl rfl rfl (.inl rfl) rfl rfl rfl
   ·exact fM 36 none rfl rfl rfl rfl (.inl rfl) rfl rfl rfl
   ·refine fJ [(64, _), (65, _)] 37 [some 35, some 36] fun G a w S => ?_
    exact sIdxV S (wN rfl) rfl rfl rfl aQ rfl (lb rfl) fun a S => leafL ⟨rfl, S⟩
   ·refine fJ [(66, _)] 38 [some 37] fun G a w S => ?_
    exact sLoadVN (vq := aU) 14 [.int .u8 a4.Kind, .bool a4.Purl, iv a4.A, iv a4.B] S (wN rfl) rfl rfl rfl rfl rfl rfl (lb rfl) fun a S => leafL ⟨rfl, S⟩
   ·refine fJ [(63, _), (67, _)] 39 [some 34, some 38] fun G a w S => ?_
    have S1 := S.mem
    refine sCallVQ (X := Unit) (g := 84) (vs := [.agg #[.int .u8 a4.Kind, .bool a4.Purl, iv a4.A, iv a4.B]]) (caps := []) (val := fun _ => iv ag) S (wN rfl) rfl rfl callee84 rfl (S1.quiet [9] rfl) (fun E1 w1 S1 => c_compare_cellTable_1 E1 w1 a4 (.agg #[.int .u8 a4.Kind, .bool a4.Purl, iv a4.A, iv a4.B]) ag aG S1) rfl (lb rfl) fun _ a w S => ?_
    exact leafL ⟨rfl, S⟩
   ·refine fJ [(62, _), (68, _)] 40 [some 33, some 39] fun G a w S => ?_
    exact sBin _ S (wN rfl) rfl rfl rfl (bAdd _ _ _ _ af ag) rfl (lb rfl) fun a S => leafL ⟨rfl, S⟩
   ·exact fM 45 none rfl rfl rfl rfl (.inl rfl) rfl rfl rfl
   ·refine fJ [(75, _)] 46 [some 45] fun G a w S => ?_
    exact sBin _ S (wN rfl) rfl rfl rfl (bAdd _ _ _ _ aa 1) rfl (lb rfl) fun a S => leafL ⟨rfl, S⟩
   ·refine fJ [(74, _), (76, _)] 6 [some 9, some 46] fun G a w S => ?_
    exact sIdxV S (wN rfl) rfl rfl rfl bW rfl (lb rfl) fun a S => leafL ⟨rfl, S⟩
   ·refine fJ [(77, _)] 7 [some 6] fun G a w S => ?_
    exact sLoadV1 (vq := br) 4 (iv aj) S (wN rfl) rfl rfl rfl rfl rfl (lb rfl) fun a S => leafL ⟨rfl, S⟩
   ·exact fM 47 none rfl rfl rfl rfl (.inl rfl) rfl rfl rfl
   ·exact fM 48 none rfl rfl rfl rfl (.inl rfl) rfl rfl rfl
   ·exact fM 49 none rfl rfl rfl rfl (.inl rfl) rfl rfl rfl
   ·refine fJ [(80, _), (81, _)] 50 [some 48, some 49] fun G a w S => ?_
    exact sIdxV S (wN rfl) rfl rfl rfl aR rfl (lb rfl) fun a S => leafL ⟨rfl, S⟩
   ·refine fJ [(82, _)] 51 [some 50] fun G a w S => ?_
    exact sLoadVN (vq := aV) 11 [.int .u8 a0.Kind, .bool a0.Purl, iv a0.A, iv a0.B] S (wN rfl) rfl rfl rfl rfl rfl rfl (lb rfl) fun a S => leafL ⟨rfl, S⟩
   ·exact fM 52 none rfl rfl rfl rfl (.inl rfl) rfl rfl rfl
   ·exact fM 53 none rfl rfl rfl rfl (.inl rfl) rfl rfl rfl
   ·refine fJ [(84, _), (85, _)] 54 [some 52, some 53] fun G a w S => ?_
    exact sIdxV S (wN rfl) rfl rfl rfl aS rfl (lb rfl) fun a S => leafL ⟨rfl, S⟩
   ·refine fJ [(86, _)] 55 [some 54] fun G a w S => ?_
    exact sLoadVN (vq := aW) 8 [.int .u8 a4.Kind, .bool a4.Purl, iv a4.A, iv a4.B] S (wN rfl) rfl rfl rfl rfl rfl rfl (lb rfl) fun a S => leafL ⟨rfl, S⟩
   ·refine fJ [(79, _), (83, _), (87, _)] 56 [some 47, some 51, some 55] fun G a w S => ?_
    have S1 := S.mem
    refine sCallVQ (X := Unit) (g := 85) (vs := [.agg #[.int .u8 a0.Kind, .bool a0.Purl, iv a0.A, iv a0.B], .agg #[.int .u8 a4.Kind, .bool a4.Purl, iv a4.A, iv a4.B]]) (caps := []) (val := fun _ => iv ak) S (wN rfl) rfl rfl callee85 rfl (S1.quiet [12, 9] rfl) (fun E1 w1 S1 => c_compare_cellTable_2 E1 w1 a0 (.agg #[.int .u8 a0.Kind, .bool a0.Purl, iv a0.A, iv a0.B]) a4 (.agg #[.int .u8 a4.Kind, .bool a4.Purl, iv a4.A, iv a4.B]) ak aH S1) rfl (lb rfl) fun _ a w S => ?_
    exact leafL ⟨rfl, S⟩
   ·refine fJ [(78, _), (88, _)] 8 [some 7, some 56] fun G a w S => ?_
    exact sBin _ S (wN rfl) rfl rfl rfl (bAdd _ _ _ _ aj ak) rfl (lb rfl) fun a S => leafL ⟨rfl, S⟩
   ·refine fJ [(54, _), (69, _), (89, _)] 3 [some 2, some 40, some 8] fun G a w S => ?_
    exact sMin3 (p := w64 (ah + ai)) (q := w64 (af + ag)) (r := w64 (aj + ak)) S (wN rfl) rfl rfl rfl rfl rfl (lb rfl) fun a S => leafL ⟨rfl, S⟩
   ·refine fJ [(38, _), (39, _)] 4 [some 13, some 14] fun G a w S => ?_
    exact sIdxV S (wN rfl) rfl rfl rfl cK rfl (lb rfl) fun a S => leafL ⟨rfl, S⟩
   refine ⟨_, [(90, iv (min3 (w64 (ah + ai)) (w64 (af + ag)) (w64 (aj + ak)))), (91, cg)], rfl, (srcs_of [some 3, some 4] rfl rfl rfl), fun G a w S => ?_⟩
   refine sStoreR (r := (rI .i64)) (T := 3) (xs := ab) (ys := bp) (y := (min3 (w64 (ah + ai)) (w64 (af + ag)) (w64 (aj + ak)))) (v := .slice a5 ab.length a6) (vq := cg) (u := iv (min3 (w64 (ah + ai)) (w64 (af + ag)) (w64 (aj + ak)))) (j := aa) 1 S cL (wN rfl) rfl rfl rfl rfl rfl aX rfl rfl fun a w S => ?_
   refine leafL ⟨rfl, _, _, .inr ⟨[], rfl, S, hz_of rfl, ?_⟩⟩
   refine node_by (A := anc_compare_table_api_Stitch__s0_2) 58 (by kernel_rfl) (by kernel_rfl) (by kernel_rfl) (by kernel_rfl) (by kernel_rfl) [11, 12, 19, 55, 56, 9, 42, 43, 54, 39, 0, 1, 2, 3, 4, 5, 6, 7, 8, 10, 13, 14, 15, 16, 17, 18, 20, 21, 22, 23, 24, 25, 26, 27, 28, 29, 30, 31, 32, 33, 34, 35, 36, 37, 38, 40, 41, 44, 45, 46, 47, 48, 49, 50, 51, 52, 53] (by kernel_rfl) (by decide) (by decide) (fD 57 (fD 57 (fD 57 (fD 57 (fD 57 (fD 57 (fD 57 (fD 57 (fD 57 (fY (fD 57 (fD 57 (fD 57 (fD 57 (fD 57 (fD 57 (fD 57 (fD 57 (fD 57 (fD 57 (fD 57 (fD 57 (fD 57 (fD 57 (fD 57 (fD 57 (fD 57 (fD 57 (fD 57 (fD 57 (fD 57 (fD 57 (fD 57 (fD 57 (fD 57 (fD 57 (fD 57 (fD 57 (fD 57 (fY (fD 57 (fD 57 (fD 57 (fD 57 (fD 57 (fD 57 (fD 57 (fD 57 (fD 57 (fD 57 (fD 57 (fD 57 (fD 57 (fD 57 (fD 57 (fD 57 (fD 57 (fY (trivial))))))))))))))))))))))))))))))))))))))))))))))))))))))))))) [(0, .slice av p0.length aw), (1, .slice ar p1.length au), (2, .func (.func 84) #[] #[]), (3, .func (.func 85) #[] #[]), (9, .slice ac a7.length ae), (10, iv a8), (11, iv aa)] (fin_of [none, none, none, none, none, none, none] rfl (by kernel_rfl) (by kernel_rfl)) (fun _ a w S => ?_)
   rw [setO_v aX a5 a6] at S
   exact leafB (leafB (leafT (⟨bp, Option.some.inj h, S.fix [1, 0] [20, 21] (by decide) rfl rfl rfl⟩)))
  ·exact fM 13 none rfl rfl rfl rfl (.inl rfl) rfl rfl rfl
  ·exact fM 14 none rfl rfl rfl rfl (.inl rfl) rfl rfl rfl
  ·exact fM 15 none rfl rfl rfl rfl (.inl rfl) rfl rfl rfl
  ·exact fM 16 none rfl rfl rfl rfl (.inl rfl) rfl rfl rfl
  ·refine fJ [(49, _), (50, _)] 17 [some 15, some 16] fun G a w S => ?_
   exact sIdxV S (wN rfl) rfl rfl rfl aK rfl (lb rfl) fun a S => leafL ⟨rfl, S⟩
  ·refine fJ [(51, _)] 18 [some 17] fun G a w S => ?_
   exact sLoadVN (vq := aT) 13 [.int .u8 a0.Kind, .bool a0.Purl, iv a0.A, iv a0.B] S (wN rfl) rfl rfl rfl rfl rfl rfl (lb rfl) fun a S => leafL ⟨rfl, S⟩
  ·refine fJ [(48, _), (52, _)] 19 [some 14, some 18] fun G a w S => ?_
   have S1 := S.mem
   refine sCallVQ (X := Unit) (g := 84) (vs := [.agg #[.int .u8 a0.Kind, .bool a0.Purl, iv a0.A, iv a0.B]]) (caps := []) (val := fun _ => iv ai) S (wN rfl) rfl rfl callee84 rfl (S1.quiet [8] rfl) (fun E1 w1 S1 => c_compare_cellTable_1 E1 w1 a0 (.agg #[.int .u8 a0.Kind, .bool a0.Purl, iv a0.A, iv a0.B]) ai aC S1) rfl (lb rfl) fun _ a w S => ?_
   exact leafL ⟨rfl, S⟩
  ·exact fM 20 none rfl rfl rfl rfl (.inl rfl) rfl rfl rfl
  ·exact fM 21 none rfl rfl rfl rfl (.inl rfl) rfl rfl rfl
  ·refine fJ [(55, _), (56, _)] 22 [some 20, some 21] fun G a w S => ?_
   exact sIdxV S (wN rfl) rfl rfl rfl aL rfl (lb rfl) fun a S => leafL ⟨rfl, S⟩
  ·refine fJ [(57, _)] 23 [some 22] fun G a w S => ?_
   exact sLoadHE (r := (rL (rI .i64))) (T := 101) (xs := a7) (u := .slice a5 ab.length a6) (v := .slice ac a7.length ae) (vq := bf) (j := a8) 0 S aM (wN rfl) rfl rfl rfl rfl rfl (lb rfl) fun a S => leafL ⟨rfl, S⟩
  ·exact fM 24 none rfl rfl rfl rfl (.inl rfl) rfl rfl rfl
  ·refine fJ [(59, _)] 25 [some 24] fun G a w S => ?_
   exact sBin _ S (wN rfl) rfl rfl rfl (bAdd _ _ _ _ aa 1) rfl (lb rfl) fun a S => leafL ⟨rfl, S⟩
  ·refine fJ [(58, _), (60, _)] 26 [some 23, some 25] fun G a w S => ?_
   exact sIdxV S (wN rfl) rfl rfl rfl aO rfl (lb rfl) fun a S => leafL ⟨rfl, S⟩
  ·refine fJ [(61, _)] 27 [some 26] fun G a w S => ?_
   exact sLoadR (r := (rI .i64)) (T := 3) (xs := ab) (x := af) (v := .slice a5 ab.length a6) (vq := bg) (j := w64 (aa + 1)) 1 (iv af) S aP (wN rfl) rfl rfl rfl az (fun _ _ _ h => h) (scal_I _) rfl rfl (lb rfl) fun a S => leafL ⟨rfl, S⟩
  ·exact fM 28 none rfl rfl rfl rfl (.inl rfl) rfl rfl rfl
  ·exact fM 29 none rfl rfl rfl rfl (.inl rfl) rfl rfl rfl
  ·exact fM 30 none rfl rfl rfl rfl (.inl rfl) rfl rfl rfl
  ·refine fJ [(64, _), (65, _)] 31 [some 29, some 30] fun G a w S => ?_
   exact sIdxV S (wN rfl) rfl rfl rfl aQ rfl (lb rfl) fun a S => leafL ⟨rfl, S⟩
  ·refine fJ [(66, _)] 32 [some 31] fun G a w S => ?_
   exact sLoadVN (vq := aU) 10 [.int .u8 a4.Kind, .bool a4.Purl, iv a4.A, iv a4.B] S (wN rfl) rfl rfl rfl rfl rfl rfl (lb rfl) fun a S => leafL ⟨rfl, S⟩
  ·refine fJ [(63, _), (67, _)] 33 [some 28, some 32] fun G a w S => ?_
   have S1 := S.mem
   refine sCallVQ (X := Unit) (g := 84) (vs := [.agg #[.int .u8 a4.Kind, .bool a4.Purl, iv a4.A, iv a4.B]]) (caps := []) (val := fun _ => iv ag) S (wN rfl) rfl rfl callee84 rfl (S1.quiet [5] rfl) (fun E1 w1 S1 => c_compare_cellTable_1 E1 w1 a4 (.agg #[.int .u8 a4.Kind, .bool a4.Purl, iv a4.A, iv a4.B]) ag aG S1) rfl (lb rfl) fun _ a w S => ?_
   exact leafL ⟨rfl, S⟩
  ·refine fJ [(62, _), (68, _)] 34 [some 27, some 33] fun G a w S => ?_
   exact sBin _ S (wN rfl) rfl rfl rfl (bAdd _ _ _ _ af ag) rfl (lb rfl) fun a S => leafL ⟨rfl, S⟩
  ·exact fM 39 none rfl rfl rfl rfl (.inl rfl) rfl rfl rfl
  ·refine fJ [(75, _)] 40 [some 39] fun G a w S => ?_
   exact sBin _ S (wN rfl) rfl rfl rfl (bAdd _ _ _ _ aa 1) rfl (lb rfl) fun a S => leafL ⟨rfl, S⟩
  ·refine fJ [(74, _), (76, _)] 0 [some 3, some 40] fun G a w S => ?_
   exact sIdxV S (wN rfl) rfl rfl rfl bW rfl (lb rfl) fun a S => leafL ⟨rfl, S⟩
  ·refine fJ [(77, _)] 1 [some 0] fun G a w S => ?_
   exact sLoadV1 (vq := br) 0 (iv aj) S (wN rfl) rfl rfl rfl rfl rfl (lb rfl) fun a S => leafL ⟨rfl, S⟩
  ·exact fM 41 none rfl rfl rfl rfl (.inl rfl) rfl rfl rfl
  ·exact fM 42 none rfl rfl rfl rfl (.inl rfl) rfl rfl rfl
  ·exact fM 43 none rfl rfl rfl rfl (.inl rfl) rfl rfl rfl
  ·refine fJ [(80, _), (81, _)] 44 [some 42, some 43] fun G a w S => ?_
   exact sIdxV S (wN rfl) rfl rfl rfl aR rfl (lb rfl) fun a S => leafL ⟨rfl, S⟩
  ·refine fJ [(82, _)] 45 [some 44] fun G a w S => ?_
   exact sLoadVN (vq := aV) 7 [.int .u8 a0.Kind, .bool a0.Purl, iv a0.A, iv a0.B] S (wN rfl) rfl rfl rfl rfl rfl rfl (lb rfl) fun a S => leafL ⟨rfl, S⟩
  ·exact fM 46 none rfl rfl rfl rfl (.inl rfl) rfl rfl rfl
  ·exact fM 47 none rfl rfl rfl rfl (.inl rfl) rfl rfl rfl
  ·refine fJ [(84, _), (85, _)] 48 [some 46, some 47] fun G a w S => ?_
   exact sIdxV S (wN rfl) rfl rfl rfl aS rfl (lb rfl) fun a S => leafL ⟨rfl, S⟩
  ·refine fJ [(86, _)] 49 [some 48] fun G a w S => ?_
   exact sLoadVN (vq := aW) 4 [.int .u8 a4.Kind, .bool a4.Purl, iv a4.A, iv a4.B] S (wN rfl) rfl rfl rfl rfl rfl rfl (lb rfl) fun a S => leafL ⟨rfl, S⟩
  ·refine fJ [(79, _), (83, _), (87, _)] 50 [some 41, some 45, some 49] fun G a w S => ?_
   have S1 := S.mem
   refine sCallVQ (X := Unit) (g := 85) (vs := [.agg #[.int .u8 a0.Kind, .bool a0.Purl, iv a0.A, iv a0.B], .agg #[.int .u8 a4.Kind, .bool a4.Purl, iv a4.A, iv a4.B]]) (caps := []) (val := fun _ => iv ak) S (wN rfl) rfl rfl callee85 rfl (S1.quiet [8, 5] rfl) (fun E1 w1 S1 => c_compare_cellTable_2 E1 w1 a0 (.agg #[.int .u8 a0.Kind, .bool a0.Purl, iv a0.A, iv a0.B]) a4 (.agg #[.int .u8 a4.Kind, .bool a4.Purl, iv a4.A, iv a4.B]) ak aH S1) rfl (lb rfl) fun _ a w S => ?_
   exact leafL ⟨rfl, S⟩
  refine fJ [(78, _), (88, _)] 2 [some 1, some 50] fun G a w S => ?_
  exact sBin _ S (wN rfl) rfl rfl rfl (bAdd _ _ _ _ aj ak) rfl (lb rfl) fun a S => leafL ⟨rfl, S⟩
 ·exact fM 35 none rfl rfl rfl rfl (.inl rfl) rfl rfl rfl
 ·refine fJ [(75, _)] 36 [some 35] fun G a w S => ?_
  exact sBin _ S (wN rfl) rfl rfl rfl (bAdd _ _ _ _ aa 1) rfl (lb rfl) fun a S => leafL ⟨rfl, S⟩
 ·exact fM 37 none rfl rfl rfl rfl (.inl rfl) rfl rfl rfl
 ·exact fM 38 none rfl rfl rfl rfl (.inl rfl) rfl rfl rfl
 ·exact fM 39 none rfl rfl rfl rfl (.inl rfl) rfl rfl rfl
 ·refine fJ [(80, _), (81, _)] 40 [some 38, some 39] fun G a w S => ?_
  exact sIdxV S (wN rfl) rfl rfl rfl aR rfl (lb rfl) fun a S => leafL ⟨rfl, S⟩
 ·refine fJ [(82, _)] 41 [some 40] fun G a w S => ?_
  exact sLoadVN (vq := aV) 3 [.int .u8 a0.Kind, .bool a0.Purl, iv a0.A, iv a0.B] S (wN rfl) rfl rfl rfl rfl rfl rfl (lb rfl) fun a S => leafL ⟨rfl, S⟩
 ·exact fM 42 none rfl rfl rfl rfl (.inl rfl) rfl rfl rfl
 ·exact fM 43 none rfl rfl rfl rfl (.inl rfl) rfl rfl rfl
 ·refine fJ [(84, _), (85, _)] 44 [some 42, some 43] fun G a w S => ?_
  exact sIdxV S (wN rfl) rfl rfl rfl aS rfl (lb rfl) fun a S => leafL ⟨rfl, S⟩
 ·refine fJ [(86, _)] 45 [some 44] fun G a w S => ?_
  exact sLoadVN (vq := aW) 0 [.int .u8 a4.Kind, .bool a4.Purl, iv a4.A, iv a4.B] S (wN rfl) rfl rfl rfl rfl rfl rfl (lb rfl) fun a S => leafL ⟨rfl, S⟩
 refine fJ [(79, _), (83, _), (87, _)] 46 [some 37, some 41, some 45] fun G a w S => ?_
 have S1 := S.mem
 refine sCallVQ (X := Unit) (g := 85) (vs := [.agg #[.int .u8 a0.Kind, .bool a0.Purl, iv a0.A, iv a0.B], .agg #[.int .u8 a4.Kind, .bool a4.Purl, iv a4.A, iv a4.B]]) (caps := []) (val := fun _ => iv ak) S (wN rfl) rfl rfl callee85 rfl (S1.quiet [4, 1] rfl) (fun E1 w1 S1 => c_compare_cellTable_2 E1 w1 a0 (.agg #[.int .u8 a0.Kind, .bool a0.Purl, iv a0.A, iv a0.B]) a4 (.agg #[.int .u8 a4.Kind, .bool a4.Purl, iv a4.A, iv a4.B]) ak aH S1) rfl (lb rfl) fun _ a w S => ?_
 exact leafL ⟨rfl, S⟩
noncomputable def F_compare_cellTable (p0 : (List api_Stitch)) (p1 : (List api_Stitch)) : Option (List (List Int)) :=
 (F_compare_table_api_Stitch__s0 p0 p1).bind fun r7 =>
 some r7
def c_compare_cellTable_val (r : (List (List Int))) (x : Value) : Value := x
def c_compare_cellTable_D (r : (List (List Int))) (x : Value) : List Fact := [fRep (rL (rL (rI .i64))) x r]
theorem c_compare_cellTable (E : Nat → Prop) (w0 : World) (p0 : (List api_Stitch)) (v0 : Value) (p1 : (List api_Stitch)) (v1 : Value) (r : (List (List Int))) (h : F_compare_cellTable p0 p1 = some r) (S : St0 E [] w0 w0 [] [fRep (rL r_api_Stitch) (v0) p0, fRep (rL r_api_Stitch) (v1) p1]) :
 Calls Try.prog 54 #[v0, v1] w0 (Ret (X := Value) E [] w0 (c_compare_cellTable_val r) (fun _ => []) (c_compare_cellTable_D r)) := by
 unfold F_compare_cellTable at h
 obtain ⟨a5, a6, _, rfl, _⟩ := S.know (i := 0) (e := fRep (rL r_api_Stitch) (v0) p0) rfl
 obtain ⟨a7, a8, _, rfl, _⟩ := S.know (i := 1) (e := fRep (rL r_api_Stitch) (v1) p1) rfl
 refine sEnter (args := [.slice a5 p0.length a6, .slice a7 p1.length a8]) 8 Try.func54 rfl rfl (by simp) S (fun a S => ?_)
 refine sSeq (fun K5 a9 => sRegion (sN S fun a S => ?_))
 refine lT (a9 _ _ (sSeq (fun K6 aa => sRegion (sM S fun a S => ?_))))
 refine sM S fun a S => ?_
 obtain ⟨r7, ab, h⟩ := bS h
 refine sCall (X := Value) (f := 83) (vs := [.slice a5 p0.length a6, .slice a7 p1.length a8, .func (.func 84) #[] #[], .func (.func 85) #[] #[]]) (val := c_compare_table_api_Stitch__s0_val r7) (B' := fun _ => []) (D' := c_compare_table_api_Stitch__s0_D r7) [] [] [fRep (rL r_api_Stitch) (.slice a5 p0.length a6) p0, fRep (rL r_api_Stitch) (.slice a7 p1.length a8) p1] [] [0, 1] S (wN rfl) rfl callee83 rfl (by decide) rfl rfl (fun E1 w1 S1 => c_compare_table_api_Stitch__s0 E1 w1 p0 (.slice a5 p0.length a6) p1 (.slice a7 p1.length a8) r7 ab S1) rfl (lb rfl) fun u9 a w S => ?_
 obtain ⟨a0, a4, _, rfl, _⟩ := S.mem.know (i := 0) (e := fRep (rL (rL (rI .i64))) (u9) r7) rfl
 refine sN S fun a S => ?_
 refine lT (aa _ _ ?_)
 obtain rfl := tS h
 exact wp_ret (sRet (.slice a0 r7.length a4) S (rsl1 rfl (rvT (t := 4) (v := .slice a0 r7.length a4) S rfl)) ⟨(.slice a0 r7.length a4), rfl, S.mem.sel [] [0] (by decide) rfl rfl⟩)
noncomputable def F_compare_Charts_2 (p0 : api_Row) (p1 : api_Row) : Option Int :=
 (F_compare_cellTable p0.Cells p1.Cells).bind fun a4 =>
 (idxO a4 0).bind fun a5 =>
 (idxO a5 0).bind fun a0 =>
 Option.bind (α := Int) (
  if p0.Back != p1.Back then
   some (w64 (a0 + 1))
  else
   some a0) fun a6 =>
 some a6
theorem c_compare_Charts_2 (E : Nat → Prop) (w0 : World) (p0 : api_Row) (v0 : Value) (p1 : api_Row) (v1 : Value) (r : Int) (h : F_compare_Charts_2 p0 p1 = some r) (S : St0 E [] w0 w0 [] [fRep r_api_Row (v0) p0, fRep r_api_Row (v1) p1]) :
 Calls Try.prog 53 #[v0, v1] w0 (Ret (X := Unit) E [] w0 (fun _ => .int .i64 r) (fun _ => []) (fun _ => [])) := by
 unfold F_compare_Charts_2 at h
 obtain ⟨u1, rfl, av⟩ := S.know (i := 0) (e := fRep r_api_Row (v0) p0) rfl
 have S := S.learn (fRep (rL r_api_Stitch) u1 p0.Cells) av
 obtain ⟨a0, a4, _, rfl, _⟩ := av
 obtain ⟨u5, rfl, aw⟩ := S.know (i := 2) (e := fRep r_api_Row (v1) p1) rfl
 have S := S.learn (fRep (rL r_api_Stitch) u5 p1.Cells) aw
 obtain ⟨a5, a6, _, rfl, _⟩ := aw
 refine sEnter (args := [.agg #[.bool p0.Back, .slice a0 p0.Cells.length a4], .agg #[.bool p1.Back, .slice a5 p1.Cells.length a6]]) 23 Try.func53 rfl rfl (by simp) S (fun a S => ?_)
 refine sSeq (fun K9 aA => sRegion (sBox (v := .agg #[.bool p0.Back, .slice a0 p0.Cells.length a4]) S (wN rfl) rfl rfl [.bool p0.Back, .slice a0 p0.Cells.length a4] rfl rfl (lb rfl) fun a af w S => ?_))
 refine sBox (v := .agg #[.bool p1.Back, .slice a5 p1.Cells.length a6]) S (wN rfl) rfl rfl [.bool p1.Back, .slice a5 p1.Cells.length a6] rfl rfl (lb rfl) fun a ag w S => ?_
 refine sN S fun a S => ?_
 refine lT (aA _ _ (sSeq (fun aJ ah => sRegion (sField (b := af) (off := 0) 1 1 S (wN rfl) rfl rfl rfl rfl rfl (lb rfl) fun a S => ?_))))
 refine sLoad1 1 (.slice a0 p0.Cells.length a4) S (wN rfl) rfl rfl rfl rfl rfl rfl (lb rfl) fun a S => ?_
 refine sField (b := ag) (off := 0) 1 1 S (wN rfl) rfl rfl rfl rfl rfl (lb rfl) fun a S => ?_
 refine sLoad1 0 (.slice a5 p1.Cells.length a6) S (wN rfl) rfl rfl rfl rfl rfl rfl (lb rfl) fun a S => ?_
 obtain ⟨a9, ai, h⟩ := bS h
 refine sCall (X := Value) (f := 54) (vs := [.slice a0 p0.Cells.length a4, .slice a5 p1.Cells.length a6]) (val := c_compare_cellTable_val a9) (B' := fun _ => []) (D' := c_compare_cellTable_D a9) [] [eBox ag 87 [.bool p1.Back, .slice a5 p1.Cells.length a6], eBox af 87 [.bool p0.Back, .slice a0 p0.Cells.length a4]] [fRep (rL r_api_Stitch) (.slice a0 p0.Cells.length a4) p0.Cells, fRep (rL r_api_Stitch) (.slice a5 p1.Cells.length a6) p1.Cells] [0, 1] [1, 0] S (wN rfl) rfl callee54 rfl (by decide) rfl rfl (fun E1 w1 S1 => c_compare_cellTable E1 w1 p0.Cells (.slice a0 p0.Cells.length a4) p1.Cells (.slice a5 p1.Cells.length a6) a9 ai S1) rfl (lb rfl) fun aC a w S => ?_
 obtain ⟨aj, ak, _, rfl, _⟩ := S.mem.know (i := 0) (e := fRep (rL (rL (rI .i64))) (aC) a9) rfl
 obtain ⟨aa, am, h⟩ := bS h
 obtain ⟨ax, ao, S⟩ := pIdx (P := Try.prog) (r := (rL (rI .i64))) (v := .slice aj a9.length ak) (xs := a9) (j := 0) 98 101 0 S Try.underlying98 rfl rfl am
 refine sIdxV S (wN rfl) rfl rfl rfl ao rfl (lb rfl) fun a S => ?_
 obtain ⟨aG, S⟩ := pLoad (r := (rL (rI .i64))) (q := ax) (x := aa) 0 S rfl
 obtain ⟨ab, ac, _, rfl, _⟩ := S.mem.know (i := 1) (e := fRep (rL (rI .i64)) (aG) aa) rfl
 refine sLoadV1 (vq := ax) 0 (.slice ab aa.length ac) S (wN rfl) rfl rfl rfl rfl rfl (lb rfl) fun a S => ?_
 obtain ⟨a7, ap, h⟩ := bS h
 obtain ⟨ay, aq, S⟩ := pIdx (P := Try.prog) (r := (rI .i64)) (v := .slice ab aa.length ac) (xs := aa) (j := 0) 101 3 1 S Try.underlying101 rfl rfl ap
 refine sIdxV S (wN rfl) rfl rfl rfl aq rfl (lb rfl) fun a S => ?_
 obtain ⟨az, S⟩ := pLoad (r := (rI .i64)) (q := ay) (x := a7) 0 S rfl
 obtain rfl : az = iv a7 := S.mem.know (i := 1) (e := fRep (rI .i64) (az) a7) rfl
 refine sLoadV1 (vq := ay) 0 (iv a7) S (wN rfl) rfl rfl rfl rfl rfl (lb rfl) fun a S => ?_
 refine sN S fun a S => ?_
 refine lT (ah _ _ ?_)
 obtain ⟨aH, h, aI⟩ := bS h
 refine sCut (fun a w => ∃ ae, ae = aH ∧ St [] E [] w0 23 a w [(5, iv ae)] [] []) ?_ (fun a w hI => ?_)
 rotate_left
 ·obtain ⟨ae, rfl, S⟩ := hI
  have h := aI
  try dsimp only at h
  refine sSeq (fun aK ar => sRegion (sM S fun a S => ?_))
  refine sN S fun a S => ?_
  refine lT (ar _ _ ?_)
  obtain rfl := tS h
  exact wp_ret (sRet (iv ae) S (rsl1 rfl (rvT (t := 4) (v := iv ae) S rfl)) ⟨(), rfl, S.mem.sel [] [] (by decide) rfl rfl⟩)
 refine sSeq (fun aL au => sRegion (sField (b := af) (off := 0) 0 0 S (wN rfl) rfl rfl rfl rfl rfl (lb rfl) fun a S => ?_))
 refine sLoad1 1 (.bool p0.Back) S (wN rfl) rfl rfl rfl rfl rfl rfl (lb rfl) fun a S => ?_
 refine sField (b := ag) (off := 0) 0 0 S (wN rfl) rfl rfl rfl rfl rfl (lb rfl) fun a S => ?_
 refine sLoad1 0 (.bool p1.Back) S (wN rfl) rfl rfl rfl rfl rfl rfl (lb rfl) fun a S => ?_
 refine sBin _ S (wN rfl) rfl rfl rfl (bNeB _ _ _ _ Try.underlying4 p0.Back p1.Back) rfl (lb rfl) fun a S => ?_
 refine lT (au _ _ ?_)
 rcases iS h with ⟨a8, h⟩ | ⟨a8, h⟩
 rotate_left
 ·refine sCondF S rfl a8 ?_
  exact wp_skip (leafT (⟨a7, Option.some.inj h, S.fix [] [] (by decide) rfl rfl rfl⟩))
 refine sCondT S rfl a8 ?_
 refine sRegion (sM S fun a S => ?_)
 refine sBin _ S (wN rfl) rfl rfl rfl (bAdd _ _ _ _ a7 1) rfl (lb rfl) fun a S => ?_
 refine sN S fun a S => ?_
 exact lT (⟨w64 (a7 + 1), Option.some.inj h, S.fix [] [] (by decide) rfl rfl rfl⟩)
end Go.Proofs.Ytffikfajljbmnaa
