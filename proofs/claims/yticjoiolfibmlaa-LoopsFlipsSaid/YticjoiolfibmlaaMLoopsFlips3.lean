/- LoopsFlips: walks, tables, laws. -/
import Derived.Test.YticjoiolfibmlaaProg
import Derived.Test.YticjoiolfibmlaaRows
import Derived.Test.YticjoiolfibmlaaMLoopsFlips2
set_option linter.unusedVariables false
set_option linter.unusedSimpArgs false
set_option maxHeartbeats 4000000
set_option maxRecDepth 100000
namespace Go.Proofs.Yticjoiolfibmlaa
open Go.RowKit
noncomputable def F_slices_Clone___int_int__s0 (p0 : (List Int)) : Option (List Int) :=
 (appO ([] : List Int) p0).bind fun a0 =>
 some a0
theorem c_slices_Clone___int_int__s0 (E : Nat → Prop) (w0 : World) (p0 : (List Int)) (v0 : Value) (r : (List Int)) (h : F_slices_Clone___int_int__s0 p0 = some r) (S : St0 E [] w0 w0 [] [fRep (rL (rI .i64)) (v0) p0]) :
 Calls Try.prog 60 #[v0] w0 (Ret (X := Option Addr × Nat) E [] w0 (fun x => .slice x.1 r.length x.2) (fun x => [eRow (rI .i64) 3 (.slice x.1 r.length x.2) r]) (fun _ => [])) := by
 unfold F_slices_Clone___int_int__s0 at h
 obtain ⟨a9, aa, _, rfl, _⟩ := S.know (i := 0) (e := fRep (rL (rI .i64)) (v0) p0) rfl
 refine sEnter (args := [.slice a9 p0.length aa]) 8 Try.func60 rfl rfl (by simp) S (fun a S => ?_)
 refine sSeq (fun K3 ah => sRegion (sN S fun a S => ?_))
 refine lT (ah _ _ (sSeq (fun K4 ai => sSeq (fun K5 aj => sRegion (sM S fun a S => ?_)))))
 refine sBin _ S (wN rfl) rfl rfl rfl (bEqNil _ _ _ _ Try.underlying32 a9 (p0.length) (aa)) rfl (lb rfl) fun a S => ?_
 refine lT (aj _ _ ?_)
 rcases nil_cases a9 with ab | ab
 ·have ak := rL_isNil (S.mem.know (i := 0) (e := fRep (rL (rI .i64)) (.slice a9 p0.length aa) p0) rfl) ab
  rw [ak] at h
  have h : some ([] : (List Int)) = some r := h
  refine sCondT S rfl ab ?_
  refine sSeq (fun K8 al => sRegion (sN S fun a S => ?_))
  refine lT (al _ _ ?_)
  obtain rfl := tS h
  have S := S.nilRow (rI .i64) 3 (α := Int)
  exact wp_ret (rThen (sRet (.slice none 0 0) S (rsl1 rfl (rvT (t := 2) (v := .slice none 0 0) S rfl)) ⟨(none, 0), rfl, S.mem.sel [0] [] (by decide) rfl rfl⟩))
 refine sCondF S rfl ab ?_
 refine wp_skip (leafT (ai _ _ ?_))
 refine sSeq (fun K9 am => sRegion (sLit0 (α := Int) (rI .i64) (T := 3) S (wN rfl) rfl Try.underlying32 rfl rfl (lb rfl) fun a w ac ae S => ?_))
 refine sM S fun a S => ?_
 obtain ⟨ag, af, h⟩ := bS h
 refine sApp (r := (rI .i64)) (T := 3) (xs := ([] : List Int)) (ys := p0) (v := .slice ac ([] : List Int).length ae) (u := .slice a9 p0.length aa) 0 (iv 0) 8 S (wN rfl) rfl Try.underlying32 rfl rfl (by decide) rfl rfl rfl (src_D 0 S.mem rfl) af rfl (lb rfl) fun a w a0 a8 S => ?_
 refine sN S fun a S => ?_
 refine lT (am _ _ ?_)
 obtain rfl := tS h
 exact wp_ret (sRet (.slice a0 ag.length a8) S (rsl1 rfl (rvT (t := 2) (v := .slice a0 ag.length a8) S rfl)) ⟨(a0, a8), rfl, S.mem.sel [0] [] (by decide) rfl rfl⟩)
def anc_slices_Reverse___int_int__s1_0 : List (List Nat) := [[], [], [], [], [], [], [4, 5], [4, 5, 6], [], [], [8, 9], [8, 9, 10], [0, 1, 4, 5, 6, 7, 8, 9, 10, 11], [0, 1, 4, 5, 6, 7, 8, 9, 10, 11, 12], [0, 1, 2, 3, 4, 5, 6, 7, 8, 9, 10, 11, 12, 13], [0, 1, 2, 3, 4, 5, 6, 7, 8, 9, 10, 11, 12, 13, 14]]
noncomputable def slices_Reverse___int_int__s1_l1  : (Int × Int × Int × Int) → Option ((Int × Int × Int × Int) ⊕ (Int × Int)) := fun s0 => match s0 with
 | (s2, s3, s4, s5) =>
  if decide (s2 < s3) then
   (idxO ([s4, s5] : List Int) s3).bind fun a0 =>
   (idxO ([s4, s5] : List Int) s2).bind fun a8 =>
   (idxO ([(if s2 = 0 then a0 else s4), (if s2 = 1 then a0 else s5)] : List Int) s3).bind fun a9 =>
   some (.inl (w64 (s2 + 1), w64 (s3 - 1), (if s3 = 0 then a8 else (if s2 = 0 then a0 else s4)), (if s3 = 1 then a8 else (if s2 = 1 then a0 else s5))))
  else
   some (.inr (s4, s5))
noncomputable def F_slices_Reverse___int_int__s1 (p0 : (Int × Int)) : Option (Int × Int) :=
 (whileO (slices_Reverse___int_int__s1_l1) (0, w64 (((2 : Nat) : Int) - 1), p0.1, p0.2)).bind fun (e9, a0) =>
  some (e9, a0)
theorem c_slices_Reverse___int_int__s1 (E : Nat → Prop) (w0 : World) (p0 : (Int × Int)) (bb0 : Nat) (r : (Int × Int)) (h : F_slices_Reverse___int_int__s1 p0 = some r) (S : St0 E (keysL [eBox bb0 49 [iv p0.1, iv p0.2]]) w0 w0 [eBox bb0 49 [iv p0.1, iv p0.2]] []) :
 Calls Try.prog 59 #[.slice (some ⟨bb0, 0, none⟩) 2 2] w0 (Ret (X := Unit) E (keysL [eBox bb0 49 [iv p0.1, iv p0.2]]) w0 (fun _ => .tuple #[]) (fun _ => [eBox bb0 49 [iv r.1, iv r.2]]) (fun _ => [])) := by
 unfold F_slices_Reverse___int_int__s1 at h
 refine sEnter (args := [.slice (some ⟨bb0, 0, none⟩) 2 2]) 28 Try.func59 rfl rfl (by simp) S (fun a S => ?_)
 refine sSeq (fun K1 aj => sRegion (sM S fun a S => ?_))
 refine sLen S (wN rfl) rfl Try.underlying32 rfl rfl (lb rfl) fun a S => ?_
 refine sBin _ S (wN rfl) rfl rfl rfl (bSub _ _ _ _ ((2 : Nat) : Int) 1) rfl (lb rfl) fun a S => ?_
 refine sN S fun a S => ?_
 refine sN S fun a S => ?_
 refine lT (aj _ _ (wp_block ?_))
 obtain ⟨t8, hl, g7⟩ := bS h
 refine sLoop hl (fun s0 a w => match s0 with | (s2, s3, s4, s5) => St [] E (keysL [eBox bb0 49 [iv p0.1, iv p0.2]]) w0 28 a w [(0, .slice (some ⟨bb0, 0, none⟩) 2 2), (2, iv s2), (3, iv s3)] [eBox bb0 49 [iv s4, iv s5]] []) (S.fix [0] [] (by decide) rfl rfl rfl) ?_
 clear hl h
 intro s0 a w c0 hI h ak
 obtain ⟨s2, s3, s4, s5⟩ := s0
 unfold slices_Reverse___int_int__s1_l1 at h
 dsimp only at h hI
 have S := hI
 refine sSeq (fun al ae => sSeq (fun am af => sRegion (sM S fun a S => ?_)))
 refine sM S fun a S => ?_
 refine sBin _ S (wN rfl) rfl rfl rfl (bLt _ _ _ _ .i64 s2 s3) rfl (lb rfl) fun a S => ?_
 refine lT (af _ _ ?_)
 rcases iS h with ⟨ab, h⟩ | ⟨ab, h⟩
 rotate_left
 ·refine sCondF S rfl ab ?_
  obtain rfl := tS h
  obtain rfl := ak _ rfl
  have h := g7
  try dsimp only at h
  obtain rfl := tS h
  exact wp_exit (xThen (xThen (xHit (sEnd (.tuple #[]) S (rsl0 rfl ) ⟨(), rfl, S.mem.sel [0] [] (by decide) rfl rfl⟩))))
 refine sCondT S rfl ab ?_
 refine wp_skip (leafT (ae _ _ ?_))
 refine sSeq (fun ao ag => wp_block ?_)
 obtain ⟨a0, ac, h⟩ := bS h
 obtain ⟨a9, a8, h⟩ := bS h
 obtain ⟨ap, aa, h⟩ := bS h
 refine sDraw (nf := [13, 15]) (W := [(0, 14, .slice (some ⟨bb0, 0, none⟩) 2 2), (1, 15, iv s2), (2, 16, .slice (some ⟨bb0, 0, none⟩) 2 2), (3, 17, iv s3), (4, 18, .slice (some ⟨bb0, 0, none⟩) 2 2), (5, 19, iv s3), (6, 20, .pointer (some ⟨bb0, 0 + (s3).toNat * 1, none⟩)), (7, 21, iv a0), (8, 22, .slice (some ⟨bb0, 0, none⟩) 2 2), (9, 23, iv s2), (10, 24, .pointer (some ⟨bb0, 0 + (s2).toNat * 1, none⟩)), (11, 25, iv a9), (12, 26, .pointer (some ⟨bb0, 0 + (s2).toNat * 1, none⟩))]) rfl S ?_
 refine node_by (A := anc_slices_Reverse___int_int__s1_0) 16 (by kernel_rfl) (by kernel_rfl) (by kernel_rfl) (by kernel_rfl) (by kernel_rfl) [0, 1, 2, 3, 4, 5, 6, 7, 8, 9, 10, 11, 12] (by kernel_rfl) (by decide) (by decide) (fF ?_ (fF ?_ (fF ?_ (fF ?_ (fF ?_ (fF ?_ (fF ?_ (fF ?_ (fF ?_ (fF ?_ (fF ?_ (fF ?_ (fF ?_ (fN ?_ (fE 13 (aB 15 0 13 (by decide) (trivial))))))))))))))))) [] (fun q hq => by cases hq) (fun hY => absurd (hY 13 (by decide)) (by decide))
 ·exact fM 0 none rfl rfl rfl rfl (.inl rfl) rfl rfl rfl
 ·exact fM 1 none rfl rfl rfl rfl (.inl rfl) rfl rfl rfl
 ·exact fM 2 none rfl rfl rfl rfl (.inl rfl) rfl rfl rfl
 ·exact fM 3 none rfl rfl rfl rfl (.inl rfl) rfl rfl rfl
 ·exact fM 4 none rfl rfl rfl rfl (.inl rfl) rfl rfl rfl
 ·exact fM 5 none rfl rfl rfl rfl (.inl rfl) rfl rfl rfl
 ·refine fJ [(18, _), (19, _)] 6 [some 4, some 5] fun G a w S => ?_
  exact sIdxV S (wN rfl) rfl rfl rfl (idxV_bsl (m := 2) (c := 2) (sz := 1) Try.underlying32 rfl (idxO_rng (m := 2) ac rfl).1 (idxO_rng (m := 2) ac rfl).2 0) rfl (lb rfl) fun a S => leafL ⟨rfl, S⟩
 ·refine fJ [(20, _)] 7 [some 6] fun G a w S => ?_
  exact sLoad1 0 (iv a0) S (wN rfl) rfl rfl rfl rfl (box_at (g := (fun z => .int .i64 z)) [] [] 0 ac rfl rfl) rfl (lb rfl) fun a S => leafL ⟨rfl, S⟩
 ·exact fM 8 none rfl rfl rfl rfl (.inl rfl) rfl rfl rfl
 ·exact fM 9 none rfl rfl rfl rfl (.inl rfl) rfl rfl rfl
 ·refine fJ [(22, _), (23, _)] 10 [some 8, some 9] fun G a w S => ?_
  exact sIdxV S (wN rfl) rfl rfl rfl (idxV_bsl (m := 2) (c := 2) (sz := 1) Try.underlying32 rfl (idxO_rng (m := 2) a8 rfl).1 (idxO_rng (m := 2) a8 rfl).2 0) rfl (lb rfl) fun a S => leafL ⟨rfl, S⟩
 ·refine fJ [(24, _)] 11 [some 10] fun G a w S => ?_
  exact sLoad1 0 (iv a9) S (wN rfl) rfl rfl rfl rfl (box_at (g := (fun z => .int .i64 z)) [] [] 0 a8 rfl rfl) rfl (lb rfl) fun a S => leafL ⟨rfl, S⟩
 ·refine fJ [(14, _), (15, _)] 12 [some 0, some 1] fun G a w S => ?_
  exact sIdxV S (wN rfl) rfl rfl rfl (idxV_bsl (m := 2) (c := 2) (sz := 1) Try.underlying32 rfl (idxO_rng (m := 2) a8 rfl).1 (idxO_rng (m := 2) a8 rfl).2 0) rfl (lb rfl) fun a S => leafL ⟨rfl, S⟩
 refine ⟨_, [(21, iv a0), (26, .pointer (some ⟨bb0, 0 + (s2).toNat * 1, none⟩))], rfl, (srcs_of [some 7, some 12] rfl rfl rfl), fun G a w S => ?_⟩
 refine sStore (p := bb0) (off := 0 + (s2).toNat * 1) (T := 49) (vs := [iv s4, iv s5]) (v := iv a0) 0 [iv a0] S (wN rfl) rfl rfl rfl rfl rfl rfl rfl (by have hq := idxO_rng (m := 2) a8 rfl; simp; omega) rfl fun a w S => ?_
 have ah : over [iv s4, iv s5] (0 + (s2).toNat * 1) [iv a0] = [iv (if s2 = 0 then a0 else s4), iv (if s2 = 1 then a0 else s5)] := over_at (g := (fun z => .int .i64 z)) (xs := ([s4, s5] : List Int)) (y := a0) [] [] 0 a8 rfl rfl rfl rfl
 rw [ah] at S
 refine leafL ⟨rfl, _, _, .inr ⟨[(14, 27, .pointer (some ⟨bb0, 0 + (s3).toNat * 1, none⟩))], rfl, S, hz_of rfl, ?_⟩⟩
 refine node_by (A := anc_slices_Reverse___int_int__s1_0) 16 (by kernel_rfl) (by kernel_rfl) (by kernel_rfl) (by kernel_rfl) (by kernel_rfl) [14, 0, 1, 2, 3, 4, 5, 6, 7, 8, 9, 10, 11, 12] (by kernel_rfl) (by decide) (by decide) (fD 13 (fD 13 (fF ?_ (fF ?_ (fD 13 (fD 13 (fD 13 (fD 13 (fD 13 (fD 13 (fD 13 (fD 13 (fD 13 (fY (fF ?_ (fN ?_ (trivial))))))))))))))))) [] (fun q hq => by cases hq) (fun hY => absurd (hY 15 (by decide)) (by decide))
 ·exact fM 3 none rfl rfl rfl rfl (.inl rfl) rfl rfl rfl
 ·exact fM 4 none rfl rfl rfl rfl (.inl rfl) rfl rfl rfl
 ·refine fJ [(16, _), (17, _)] 0 [some 3, some 4] fun G a w S => ?_
  exact sIdxV S (wN rfl) rfl rfl rfl (idxV_bsl (m := 2) (c := 2) (sz := 1) Try.underlying32 rfl (idxO_rng (m := 2) aa rfl).1 (idxO_rng (m := 2) aa rfl).2 0) rfl (lb rfl) fun a S => leafL ⟨rfl, S⟩
 refine ⟨_, [(25, iv a9), (27, .pointer (some ⟨bb0, 0 + (s3).toNat * 1, none⟩))], rfl, (srcs_of [some 12, some 0] rfl rfl rfl), fun G a w S => ?_⟩
 refine sStore (p := bb0) (off := 0 + (s3).toNat * 1) (T := 49) (vs := [iv (if s2 = 0 then a0 else s4), iv (if s2 = 1 then a0 else s5)]) (v := iv a9) 0 [iv a9] S (wN rfl) rfl rfl rfl rfl rfl rfl rfl (by have hq := idxO_rng (m := 2) aa rfl; simp; omega) rfl fun a w S => ?_
 have ai : over [iv (if s2 = 0 then a0 else s4), iv (if s2 = 1 then a0 else s5)] (0 + (s3).toNat * 1) [iv a9] = [iv (if s3 = 0 then a9 else (if s2 = 0 then a0 else s4)), iv (if s3 = 1 then a9 else (if s2 = 1 then a0 else s5))] := over_at (g := (fun z => .int .i64 z)) (xs := ([(if s2 = 0 then a0 else s4), (if s2 = 1 then a0 else s5)] : List Int)) (y := a9) [] [] 0 aa rfl rfl rfl rfl
 rw [ai] at S
 refine leafL ⟨rfl, _, _, .inr ⟨[], rfl, S, hz_of rfl, ?_⟩⟩
 refine node_by (A := anc_slices_Reverse___int_int__s1_0) 16 (by kernel_rfl) (by kernel_rfl) (by kernel_rfl) (by kernel_rfl) (by kernel_rfl) [14, 0, 1, 2, 3, 4, 5, 6, 7, 8, 9, 10, 11, 12] (by kernel_rfl) (by decide) (by decide) (fD 15 (fD 15 (fD 15 (fD 15 (fD 15 (fD 15 (fD 15 (fD 15 (fD 15 (fD 15 (fD 15 (fD 15 (fD 15 (fY (fD 15 (fY (trivial))))))))))))))))) [(0, .slice (some ⟨bb0, 0, none⟩) 2 2), (2, iv s2), (3, iv s3)] (fin_of [none, none, none] rfl (by kernel_rfl) (by kernel_rfl)) (fun _ a w S => ?_)
 refine leafB (leafT (ag _ _ ?_))
 refine sRegion (sM S fun a S => ?_)
 refine sBin _ S (wN rfl) rfl rfl rfl (bAdd _ _ _ _ s2 1) rfl (lb rfl) fun a S => ?_
 refine sM S fun a S => ?_
 refine sBin _ S (wN rfl) rfl rfl rfl (bSub _ _ _ _ s3 1) rfl (lb rfl) fun a S => ?_
 refine sN S fun a S => ?_
 refine sN S fun a S => ?_
 exact lT (⟨(w64 (s2 + 1), w64 (s3 - 1), (if s3 = 0 then a9 else (if s2 = 0 then a0 else s4)), (if s3 = 1 then a9 else (if s2 = 1 then a0 else s5))), (Option.some.inj h).symm, (S.fix [0] [] (by decide) rfl rfl rfl)⟩)
noncomputable def F_slices_Grow___int_int__s1 (p0 : Int) : Option (List Int) :=
 if decide (p0 < 0) then
  none
 else
  Option.bind (α := List Int) (
   if decide (0 < (w64 (p0 - (w64 ((0 : Int) - 0))))) then
    (appZ (w64 (p0 - (w64 ((0 : Int) - 0)))) (0 : Int)).bind fun a0 =>
    (sliceO a0 0 0).bind fun a8 =>
    some a8
   else
    some ([] : List Int)) fun o5 =>
  some o5
theorem c_slices_Grow___int_int__s1 (E : Nat → Prop) (w0 : World) (p0 : Int) (r : (List Int)) (h : F_slices_Grow___int_int__s1 p0 = some r) (S : St0 E [] w0 w0 [] []) :
 Calls Try.prog 74 #[.slice none 0 0, iv p0] w0 (Ret (X := Option Addr × Nat) E [] w0 (fun x => .slice x.1 r.length x.2) (fun x => [eRow (rI .i64) 3 (.slice x.1 r.length x.2) r]) (fun _ => [])) := by
 unfold F_slices_Grow___int_int__s1 at h
 refine sEnter (args := [.slice none 0 0, iv p0]) 27 Try.func74 rfl rfl (by simp) S (fun a S => ?_)
 refine sSeq (fun K1 ak => sRegion (sN S fun a S => ?_))
 refine lT (ak _ _ (sSeq (fun K2 al => sSeq (fun K3 am => sRegion (sM S fun a S => ?_)))))
 refine sBin _ S (wN rfl) rfl rfl rfl (bLt _ _ _ _ .i64 p0 0) rfl (lb rfl) fun a S => ?_
 refine lT (am _ _ ?_)
 rcases iS h with ⟨ac, h⟩ | ⟨ac, h⟩
 ·refine sCondT S rfl ac ?_
  refine sRegion ?_
  cases h
 refine sCondF S rfl ac ?_
 refine wp_skip (leafT (al _ _ ?_))
 obtain ⟨t8, h, g9⟩ := bS h
 refine sCut (fun a w => ∃ o5, o5 = t8 ∧ ∃ a8, ∃ a9, St [] E [] w0 27 a w [(0, .slice a8 o5.length a9)] [eRow (rI .i64) 3 (.slice a8 o5.length a9) o5] []) ?_ (fun a w hI => ?_)
 rotate_left
 ·obtain ⟨o5, rfl, a8, a9, S⟩ := hI
  have h := g9
  try dsimp only at h
  refine sSeq (fun ap ae => sRegion (sM S fun a S => ?_))
  refine sN S fun a S => ?_
  refine lT (ae _ _ ?_)
  obtain rfl := tS h
  exact wp_ret (sRet (.slice a8 o5.length a9) S (rsl1 rfl (rvT (t := 4) (v := .slice a8 o5.length a9) S rfl)) ⟨(a8, a9), rfl, S.mem.sel [0] [] (by decide) rfl rfl⟩)
 refine sSeq (fun aq af => sRegion (sM S fun a S => ?_))
 refine sM S fun a S => ?_
 refine sCapNil S (wN rfl) rfl Try.underlying32 rfl rfl (lb rfl) fun a S => ?_
 refine sM S fun a S => ?_
 refine sLen S (wN rfl) rfl Try.underlying32 rfl rfl (lb rfl) fun a S => ?_
 refine sBin _ S (wN rfl) rfl rfl rfl (bSub _ _ _ _ 0 0) rfl (lb rfl) fun a S => ?_
 refine sBin _ S (wN rfl) rfl rfl rfl (bSub _ _ _ _ p0 (w64 ((0 : Int) - 0))) rfl (lb rfl) fun a S => ?_
 refine sN S fun a S => ?_
 refine lT (af _ _ (sSeq (fun ar ag => sRegion (sM S fun a S => ?_))))
 refine sBin _ S (wN rfl) rfl rfl rfl (bGt _ _ _ _ .i64 (w64 (p0 - (w64 ((0 : Int) - 0)))) 0) rfl (lb rfl) fun a S => ?_
 refine lT (ag _ _ ?_)
 rcases iS h with ⟨a0, h⟩ | ⟨a0, h⟩
 rotate_left
 ·refine sCondF S rfl a0 ?_
  have S := S.nilRow (rI .i64) 3 (α := Int)
  exact wp_skip (leafT (⟨([] : List Int), Option.some.inj h, none, 0, S.fix [0] [] (by decide) rfl rfl rfl⟩))
 refine sCondT S rfl a0 ?_
 refine sRegion (sM S fun a S => ?_)
 refine sM S fun a S => ?_
 refine sCapNil S (wN rfl) rfl Try.underlying32 rfl rfl (lb rfl) fun a S => ?_
 refine sSliceNil S (wN rfl) rfl Try.underlying32 rfl rfl rfl rfl (lb rfl) fun a S => ?_
 refine sM S fun a S => ?_
 obtain ⟨aj, ah, h⟩ := bS h
 refine sAppZ (r := (rI .i64)) (T := 3) (m := w64 (p0 - (w64 ((0 : Int) - 0)))) (xs := aj) (iv 0) (0 : Int) 8 S (wN rfl) rfl Try.underlying32 Try.underlying3 rfl (by decide) (fun _ _ => rfl) rfl rfl ah rfl (lb rfl) rfl fun a w aa ab S => ?_
 refine sM S fun a S => ?_
 refine sLen S (wN rfl) rfl Try.underlying32 rfl rfl (lb rfl) fun a S => ?_
 obtain ⟨ao, ai, h⟩ := bS h
 refine sSliceT (r := (rI .i64)) (T := 3) (ad := aa) (c := ab) (xs := aj) (vlo := none) (vhi := (some (.int .i64 0))) (hi' := 0) 0 S (wN rfl) rfl Try.underlying32 rfl rfl rfl rfl rfl (.inr rfl) (.inl rfl) ai rfl (lb rfl) fun a S => ?_
 refine sN S fun a S => ?_
 exact lT (⟨ao, Option.some.inj h, aa, ab, S.fix [0] [] (by decide) rfl rfl rfl⟩)
noncomputable def slices_Concat___int_int__l1 (p0 : (List (List Int))) : (Int × Int) → Option ((Int × Int) ⊕ Int) := fun s0 => match s0 with
 | (s9, a0) =>
  if decide (a0 < (p0.length : Int)) then
   (idxO p0 a0).bind fun a8 =>
   if decide ((w64 (s9 + (a8.length : Int))) < 0) then
    none
   else
    some (.inl (w64 (s9 + (a8.length : Int)), w64 (a0 + 1)))
  else
   some (.inr s9)
noncomputable def slices_Concat___int_int__l2 (p0 : (List (List Int))) : (List Int × Int) → Option ((List Int × Int) ⊕ List Int) := fun s0 => match s0 with
 | (a8, a0) =>
  if decide (a0 < (p0.length : Int)) then
   (idxO p0 a0).bind fun a9 =>
   (appO a8 a9).bind fun aa =>
   some (.inl (aa, w64 (a0 + 1)))
  else
   some (.inr a8)
noncomputable def F_slices_Concat___int_int_ (p0 : (List (List Int))) : Option (List Int) :=
 Option.bind (α := Int) (
  (whileO (slices_Concat___int_int__l1 p0) (0, 0)).bind fun a0 =>
   some a0) fun o5 =>
 (F_slices_Grow___int_int__s1 o5).bind fun a8 =>
 Option.bind (α := List Int) (
  (whileO (slices_Concat___int_int__l2 p0) (a8, 0)).bind fun a9 =>
   some a9) fun aa =>
 some aa
def c_slices_Concat___int_int__val (r : (List Int)) (x : Value) : Value := x
def c_slices_Concat___int_int__D (r : (List Int)) (x : Value) : List Fact := [fRep (rL (rI .i64)) x r]
theorem c_slices_Concat___int_int_ (E : Nat → Prop) (w0 : World) (p0 : (List (List Int))) (v0 : Value) (r : (List Int)) (h : F_slices_Concat___int_int_ p0 = some r) (S : St0 E [] w0 w0 [] [fRep (rL (rL (rI .i64))) (v0) p0]) :
 Calls Try.prog 68 #[v0] w0 (Ret (X := Value) E [] w0 (c_slices_Concat___int_int__val r) (fun _ => []) (c_slices_Concat___int_int__D r)) := by
 unfold F_slices_Concat___int_int_ at h
 obtain ⟨ab, ac, _, rfl, _⟩ := S.know (i := 0) (e := fRep (rL (rL (rI .i64))) (v0) p0) rfl
 refine sEnter (args := [.slice ab p0.length ac]) 36 Try.func68 rfl rfl (by simp) S (fun a S => ?_)
 refine sSeq (fun K3 bc => sRegion (sN S fun a S => ?_))
 refine lT (bc _ _ (sSeq (fun K4 bf => sRegion (sN S fun a S => ?_))))
 refine lT (bf _ _ ?_)
 obtain ⟨t6, h, g7⟩ := bS h
 refine sCut (fun a w => ∃ o5, o5 = t6 ∧ St [] E [] w0 36 a w [(0, .slice ab p0.length ac), (3, iv o5)] [] [fRep (rL (rL (rI .i64))) (.slice ab p0.length ac) p0]) ?_ (fun a w hI => ?_)
 ·refine sSeq (fun K8 bg => sRegion (sM S fun a S => ?_))
  refine sLen S (wN rfl) rfl Try.underlying69 rfl rfl (lb rfl) fun a S => ?_
  refine sM S fun a S => ?_
  refine lT (bg _ _ (wp_block ?_))
  obtain ⟨bo, hl, bh⟩ := bS h
  refine sLoop hl (fun s0 a w => match s0 with | (s9, aj) => St [] E [] w0 36 a w [(0, .slice ab p0.length ac), (3, iv s9), (9, .slice ab p0.length ac), (10, iv (p0.length : Int)), (11, iv aj)] [] [fRep (rL (rL (rI .i64))) (.slice ab p0.length ac) p0]) (S.fix [] [0] (by decide) rfl rfl rfl) ?_
  clear hl h
  intro s0 a w c0 hI h ar
  obtain ⟨s9, aj⟩ := s0
  unfold slices_Concat___int_int__l1 at h
  dsimp only at h hI
  have S := hI
  refine sSeq (fun bp au => sRegion (sBin _ S (wN rfl) rfl rfl rfl (bLt _ _ _ _ .i64 aj (p0.length : Int)) rfl (lb rfl) fun a S => ?_))
  refine lT (au _ _ (sSeq (fun bq av => ?_)))
  rcases iS h with ⟨af, h⟩ | ⟨af, h⟩
  rotate_left
  ·refine sCondF S rfl af ?_
   obtain rfl := tS h
   obtain rfl := ar _ rfl
   have h := bh
   try dsimp only at h
   exact wp_exit (xThen (xThen (xHit (leafT (⟨s9, Option.some.inj h, S.fix [] [0] (by decide) rfl rfl rfl⟩)))))
  refine sCondT S rfl af ?_
  refine wp_skip (leafT (av _ _ ?_))
  refine sSeq (fun br aw => wp_block ?_)
  refine sSeq (fun bt ax => sRegion ?_)
  obtain ⟨ak, ay, h⟩ := bS h
  obtain ⟨ba, az, S⟩ := pIdx (P := Try.prog) (r := (rL (rI .i64))) (v := .slice ab p0.length ac) (xs := p0) (j := aj) 69 32 0 S Try.underlying69 rfl rfl ay
  refine sIdxV S (wN rfl) rfl rfl rfl az rfl (lb rfl) fun a S => ?_
  obtain ⟨bi, S⟩ := pLoad (r := (rL (rI .i64))) (q := ba) (x := ak) 0 S rfl
  obtain ⟨aA, aC, _, rfl, _⟩ := S.mem.know (i := 1) (e := fRep (rL (rI .i64)) (bi) ak) rfl
  refine sLoadV1 (vq := ba) 0 (.slice aA ak.length aC) S (wN rfl) rfl rfl rfl rfl rfl (lb rfl) fun a S => ?_
  refine sN S fun a S => ?_
  refine lT (ax _ _ (sSeq (fun bu aG => sRegion (sM S fun a S => ?_))))
  refine sM S fun a S => ?_
  refine sLen S (wN rfl) rfl Try.underlying32 rfl rfl (lb rfl) fun a S => ?_
  refine sBin _ S (wN rfl) rfl rfl rfl (bAdd _ _ _ _ s9 (ak.length : Int)) rfl (lb rfl) fun a S => ?_
  refine sN S fun a S => ?_
  refine lT (aG _ _ (sSeq (fun bv aH => sRegion (sM S fun a S => ?_))))
  refine sBin _ S (wN rfl) rfl rfl rfl (bLt _ _ _ _ .i64 (w64 (s9 + (ak.length : Int))) 0) rfl (lb rfl) fun a S => ?_
  refine lT (aH _ _ ?_)
  rcases iS h with ⟨ag, h⟩ | ⟨ag, h⟩
  ·refine sCondT S rfl ag ?_
   refine sRegion ?_
   cases h
  refine sCondF S rfl ag ?_
  refine wp_skip (leafB (leafT (aw _ _ ?_)))
  refine sRegion (sBin _ S (wN rfl) rfl rfl rfl (bAdd _ _ _ _ aj 1) rfl (lb rfl) fun a S => ?_)
  refine sM S fun a S => ?_
  exact lT (⟨(w64 (s9 + (ak.length : Int)), w64 (aj + 1)), (Option.some.inj h).symm, (S.fix [] [3] (by decide) rfl rfl rfl)⟩)
 obtain ⟨o5, rfl, S⟩ := hI
 have h := g7
 try dsimp only at h
 refine sSeq (fun bw aI => sRegion (sM S fun a S => ?_))
 obtain ⟨aq, aJ, h⟩ := bS h
 refine sCall (X := Option Addr × Nat) (f := 74) (vs := [.slice none 0 0, iv o5]) (val := fun x => .slice x.1 aq.length x.2) (B' := fun x => [eRow (rI .i64) 3 (.slice x.1 aq.length x.2) aq]) (D' := fun _ => []) [] [] [] [] [] S (wN rfl) rfl callee74 rfl (by decide) rfl rfl (fun E1 w1 S1 => c_slices_Grow___int_int__s1 E1 w1 o5 aq aJ S1) rfl (lb rfl) fun xx a w S => ?_
 obtain ⟨aK, aL⟩ := xx
 dsimp only at S
 refine sN S fun a S => ?_
 refine lT (aI _ _ ?_)
 obtain ⟨bj, h, bk⟩ := bS h
 refine sCut (fun a w => ∃ ae, ae = bj ∧ ∃ a0, ∃ a8, St [] E [] w0 36 a w [(6, .slice a0 ae.length a8)] [eRow (rI .i64) 3 (.slice a0 ae.length a8) ae] []) ?_ (fun a w hI => ?_)
 rotate_left
 ·obtain ⟨ae, rfl, a0, a8, S⟩ := hI
  have h := bk
  try dsimp only at h
  refine sSeq (fun bx aM => sRegion (sM S fun a S => ?_))
  refine sN S fun a S => ?_
  refine lT (aM _ _ ?_)
  obtain rfl := tS h
  have S := S.shutR (r := (rI .i64)) (T := 3) (v := .slice a0 ae.length a8) (xs := ae) 0 rfl
  exact wp_ret (sRet (.slice a0 ae.length a8) S (rsl1 rfl (rvT (t := 2) (v := .slice a0 ae.length a8) S rfl)) ⟨(.slice a0 ae.length a8), rfl, S.mem.sel [] [0] (by decide) rfl rfl⟩)
 refine sSeq (fun bz aO => sRegion (sM S fun a S => ?_))
 refine sLen S (wN rfl) rfl Try.underlying69 rfl rfl (lb rfl) fun a S => ?_
 refine sM S fun a S => ?_
 refine lT (aO _ _ (wp_block ?_))
 obtain ⟨bA, hl, bl⟩ := bS h
 refine sLoop hl (fun s0 a w => match s0 with | (ah, al) => ∃ a9, ∃ aa, St [] E [] w0 36 a w [(6, .slice a9 ah.length aa), (25, .slice ab p0.length ac), (26, iv (p0.length : Int)), (27, iv al)] [eRow (rI .i64) 3 (.slice a9 ah.length aa) ah] [fRep (rL (rL (rI .i64))) (.slice ab p0.length ac) p0]) ⟨aK, aL, S.fix [0] [0] (by decide) rfl rfl rfl⟩ ?_
 clear hl h
 intro s0 a w c0 hI h aP
 obtain ⟨ah, al⟩ := s0
 unfold slices_Concat___int_int__l2 at h
 dsimp only at h hI
 obtain ⟨a9, aa, S⟩ := hI
 refine sSeq (fun bB aQ => sRegion (sBin _ S (wN rfl) rfl rfl rfl (bLt _ _ _ _ .i64 al (p0.length : Int)) rfl (lb rfl) fun a S => ?_))
 refine lT (aQ _ _ (sSeq (fun bC aR => ?_)))
 rcases iS h with ⟨ai, h⟩ | ⟨ai, h⟩
 rotate_left
 ·refine sCondF S rfl ai ?_
  obtain rfl := tS h
  obtain rfl := aP _ rfl
  have h := bl
  try dsimp only at h
  exact wp_exit (xThen (xThen (xHit (leafT (⟨ah, Option.some.inj h, a9, aa, S.fix [0] [] (by decide) rfl rfl rfl⟩)))))
 refine sCondT S rfl ai ?_
 refine wp_skip (leafT (aR _ _ ?_))
 refine sSeq (fun bD aS => wp_block ?_)
 refine sSeq (fun bE aT => sRegion ?_)
 obtain ⟨am, aU, h⟩ := bS h
 obtain ⟨bb, aV, S⟩ := pIdx (P := Try.prog) (r := (rL (rI .i64))) (v := .slice ab p0.length ac) (xs := p0) (j := al) 69 32 0 S Try.underlying69 rfl rfl aU
 refine sIdxV S (wN rfl) rfl rfl rfl aV rfl (lb rfl) fun a S => ?_
 obtain ⟨bm, S⟩ := pLoad (r := (rL (rI .i64))) (q := bb) (x := am) 0 S rfl
 obtain ⟨ao, ap, _, rfl, _⟩ := S.mem.know (i := 1) (e := fRep (rL (rI .i64)) (bm) am) rfl
 refine sLoadV1 (vq := bb) 0 (.slice ao am.length ap) S (wN rfl) rfl rfl rfl rfl rfl (lb rfl) fun a S => ?_
 refine sN S fun a S => ?_
 refine lT (aT _ _ (sRegion (sM S fun a S => ?_)))
 refine sM S fun a S => ?_
 obtain ⟨bn, aW, h⟩ := bS h
 refine sApp (r := (rI .i64)) (T := 3) (xs := ah) (ys := am) (v := .slice a9 ah.length aa) (u := .slice ao am.length ap) 0 (iv 0) 8 S (wN rfl) rfl Try.underlying32 rfl rfl (by decide) rfl rfl rfl (src_D 1 S.mem rfl) aW rfl (lb rfl) fun a w aX aZ S => ?_
 refine sN S fun a S => ?_
 refine leafL (leafB (leafT (aS _ _ ?_)))
 refine sRegion (sBin _ S (wN rfl) rfl rfl rfl (bAdd _ _ _ _ al 1) rfl (lb rfl) fun a S => ?_)
 refine sM S fun a S => ?_
 exact lT (⟨(bn, w64 (al + 1)), (Option.some.inj h).symm, ⟨aX, aZ, S.fix [0] [3] (by decide) rfl rfl rfl⟩⟩)
def anc_loops_piece_cable_s1_0 : List (List Nat) := [[], [], [1], [0, 1, 2], [], [], [5], [4, 5, 6], [0, 1, 2, 3, 4, 5, 6, 7], [0, 1, 2, 3, 4, 5, 6, 7, 8], [0, 1, 2, 3, 4, 5, 6, 7, 8, 9], []]
def anc_loops_piece_cable_s1_1 : List (List Nat) := [[], [], [1], [1, 2], [1, 2, 3], [], [5], [1, 2, 3, 4, 5, 6], [0, 1, 2, 3, 4, 5, 6, 7], [0, 1, 2, 3, 4, 5, 6, 7, 8], [0, 1, 2, 3, 4, 5, 6, 7, 8, 9]]
noncomputable def loops_piece_cable_s1_l1 (a9 : (List Int)) (p1 : api_Loop) : (Int × List api_Loop × List Int × List Int × List (Int × Int) × Int) → Option ((Int × List api_Loop × List Int × List Int × List (Int × Int) × Int) ⊕ (List api_Loop × List Int × List Int × List (Int × Int) × Int)) := fun s0 => match s0 with
 | (a8, aa, ab, ac, ae, af) =>
  if decide (a8 < (a9.length : Int)) then
   (idxO a9 a8).bind fun ag =>
   (F_loops_piece_add_s1 (loops_piece.mk aa ab ac ae af) p1 [([ag] : List Int)]).bind fun a0 =>
   some (.inl (w64 (a8 + 1), a0.loops, a0.rows, a0.bound, a0.cross, a0.next))
  else
   some (.inr (aa, ab, ac, ae, af))
noncomputable def loops_piece_cable_s1_l2 (p2 : api_Stitch) (p0 : loops_piece) (a8 : Int) : (Int × List (Int × Int)) → Option ((Int × List (Int × Int)) ⊕ List (Int × Int)) := fun s0 => match s0 with
 | (a0, a9) =>
  if decide (a0 < p2.B) then
   Option.bind (α := (Int × Int)) (
    if p2.Kind == 7 then
     (F_slices_Reverse___int_int__s1 (w64 ((w64 ((p0.loops.length : Int) + p2.B)) + a8), w64 ((p0.loops.length : Int) + a0))).bind fun aa =>
     some (aa.1, aa.2)
    else
     some (w64 ((w64 ((p0.loops.length : Int) + p2.B)) + a8), w64 ((p0.loops.length : Int) + a0))) fun (ab, ac) =>
   (appO a9 [(ab, ac)]).bind fun ae =>
   some (.inl (w64 (a0 + 1), ae))
  else
   some (.inr a9)
noncomputable def loops_piece_cable_s1_l3 (p2 : api_Stitch) (p0 : loops_piece) : (Int × List (Int × Int)) → Option ((Int × List (Int × Int)) ⊕ List (Int × Int)) := fun s0 => match s0 with
 | (a0, a8) =>
  if decide (a0 < p2.A) then
   Option.bind (α := List (Int × Int)) (
    (whileO (loops_piece_cable_s1_l2 p2 p0 a0) (0, a8)).bind fun a9 =>
     some a9) fun aa =>
   some (.inl (w64 (a0 + 1), aa))
  else
   some (.inr a8)
noncomputable def F_loops_piece_cable_s1 (p0 : loops_piece) (p1 : api_Loop) (p2 : api_Stitch) (p3 : (List Int)) : Option loops_piece :=
 Option.bind (α := (List api_Loop × List Int × List Int × List (Int × Int) × Int)) (
  (sliceO p3 p2.A (p3.length : Int)).bind fun a8 =>
  (sliceO p3 0 p2.A).bind fun a9 =>
  (F_slices_Concat___int_int_ [a8, a9]).bind fun aa =>
  (whileO (loops_piece_cable_s1_l1 aa p1) (0, p0.loops, p0.rows, p0.bound, p0.cross, p0.next)).bind fun (ab, ac, ae, af, ag) =>
   some (ab, ac, ae, af, ag)) fun (ah, ai, aj, ak, al) =>
 (whileO (loops_piece_cable_s1_l3 p2 p0) (0, ak)).bind fun a0 =>
  some (loops_piece.mk ah ai aj a0 al)
theorem c_loops_piece_cable_s1 (E : Nat → Prop) (w0 : World) (p0 : loops_piece) (bb0 : Nat) (ad_0_0 : Option Addr) (cp_0_0 : Nat) (ad_0_1 : Option Addr) (cp_0_1 : Nat) (ad_0_2 : Option Addr) (cp_0_2 : Nat) (ad_0_3 : Option Addr) (cp_0_3 : Nat) (p1 : api_Loop) (v1 : Value) (p2 : api_Stitch) (v2 : Value) (p3 : (List Int)) (v3 : Value) (r : loops_piece) (h : F_loops_piece_cable_s1 p0 p1 p2 p3 = some r) (S : St0 E (keysL [eBox bb0 73 [.slice ad_0_0 p0.loops.length cp_0_0, .slice ad_0_1 p0.rows.length cp_0_1, .slice ad_0_2 p0.bound.length cp_0_2, .slice ad_0_3 p0.cross.length cp_0_3, iv p0.next], eRow r_api_Loop 48 (.slice ad_0_0 p0.loops.length cp_0_0) p0.loops, eRow (rI .i64) 3 (.slice ad_0_1 p0.rows.length cp_0_1) p0.rows, eRow (rI .i64) 3 (.slice ad_0_2 p0.bound.length cp_0_2) p0.bound, eRow r_A2_Int 49 (.slice ad_0_3 p0.cross.length cp_0_3) p0.cross]) w0 w0 [eBox bb0 73 [.slice ad_0_0 p0.loops.length cp_0_0, .slice ad_0_1 p0.rows.length cp_0_1, .slice ad_0_2 p0.bound.length cp_0_2, .slice ad_0_3 p0.cross.length cp_0_3, iv p0.next], eRow r_api_Loop 48 (.slice ad_0_0 p0.loops.length cp_0_0) p0.loops, eRow (rI .i64) 3 (.slice ad_0_1 p0.rows.length cp_0_1) p0.rows, eRow (rI .i64) 3 (.slice ad_0_2 p0.bound.length cp_0_2) p0.bound, eRow r_A2_Int 49 (.slice ad_0_3 p0.cross.length cp_0_3) p0.cross] [fRep r_api_Loop (v1) p1, fRep r_api_Stitch (v2) p2, fRep (rL (rI .i64)) (v3) p3]) :
 Calls Try.prog 61 #[.pointer (some ⟨bb0, 0, none⟩), v1, v2, v3] w0 (Ret (X := Option Addr × Nat × Option Addr × Nat × Option Addr × Nat × Option Addr × Nat) E (keysL [eBox bb0 73 [.slice ad_0_0 p0.loops.length cp_0_0, .slice ad_0_1 p0.rows.length cp_0_1, .slice ad_0_2 p0.bound.length cp_0_2, .slice ad_0_3 p0.cross.length cp_0_3, iv p0.next], eRow r_api_Loop 48 (.slice ad_0_0 p0.loops.length cp_0_0) p0.loops, eRow (rI .i64) 3 (.slice ad_0_1 p0.rows.length cp_0_1) p0.rows, eRow (rI .i64) 3 (.slice ad_0_2 p0.bound.length cp_0_2) p0.bound, eRow r_A2_Int 49 (.slice ad_0_3 p0.cross.length cp_0_3) p0.cross]) w0 (fun _ => .tuple #[]) (fun x => [eBox bb0 73 [.slice x.1 r.loops.length x.2.1, .slice x.2.2.1 r.rows.length x.2.2.2.1, .slice x.2.2.2.2.1 r.bound.length x.2.2.2.2.2.1, .slice x.2.2.2.2.2.2.1 r.cross.length x.2.2.2.2.2.2.2, iv r.next], eRow r_api_Loop 48 (.slice x.1 r.loops.length x.2.1) r.loops, eRow (rI .i64) 3 (.slice x.2.2.1 r.rows.length x.2.2.2.1) r.rows, eRow (rI .i64) 3 (.slice x.2.2.2.2.1 r.bound.length x.2.2.2.2.2.1) r.bound, eRow r_A2_Int 49 (.slice x.2.2.2.2.2.2.1 r.cross.length x.2.2.2.2.2.2.2) r.cross]) (fun _ => [])) := by
 unfold F_loops_piece_cable_s1 at h
 obtain ⟨u1, rfl, cz⟩ := S.know (i := 0) (e := fRep r_api_Loop (v1) p1) rfl
 have S := S.learn (fRep (rL (rI .i64)) u1 p1.Parents) cz
 obtain ⟨aS, aT, _, rfl, _⟩ := cz
 obtain rfl : v2 = .agg #[.int .u8 p2.Kind, .bool p2.Purl, iv p2.A, iv p2.B] := S.know (i := 2) (e := fRep r_api_Stitch (v2) p2) rfl
 obtain ⟨ba, bb, _, rfl, _⟩ := S.know (i := 3) (e := fRep (rL (rI .i64)) (v3) p3) rfl
 refine sEnter (args := [.pointer (some ⟨bb0, 0, none⟩), .agg #[iv p1.Row, iv p1.Cell, .slice aS p1.Parents.length aT, .bool p1.Purl], .agg #[.int .u8 p2.Kind, .bool p2.Purl, iv p2.A, iv p2.B], .slice ba p3.length bb]) 78 Try.func61 rfl rfl (by simp) S (fun a S => ?_)
 refine sSeq (fun K7 cC => sRegion (sBox (v := .agg #[iv p1.Row, iv p1.Cell, .slice aS p1.Parents.length aT, .bool p1.Purl]) S (wN rfl) rfl rfl [iv p1.Row, iv p1.Cell, .slice aS p1.Parents.length aT, .bool p1.Purl] rfl rfl (lb rfl) fun a b8 w S => ?_))
 refine sBox (v := .agg #[.int .u8 p2.Kind, .bool p2.Purl, iv p2.A, iv p2.B]) S (wN rfl) rfl rfl [.int .u8 p2.Kind, .bool p2.Purl, iv p2.A, iv p2.B] rfl rfl (lb rfl) fun a b9 w S => ?_
 refine lT (cC _ _ (sSeq (fun cV cd => sRegion (sM S fun a S => ?_))))
 refine nilCheck_ok (q := ⟨bb0, 0, none⟩) S (wN rfl) rfl rfl rfl (lb rfl) fun a S => ?_
 refine sField (b := bb0) (off := 0) 0 0 S (wN rfl) rfl rfl rfl rfl rfl (lb rfl) fun a S => ?_
 refine sLoad1 2 (.slice ad_0_0 p0.loops.length cp_0_0) S (wN rfl) rfl rfl rfl rfl rfl rfl (lb rfl) fun a S => ?_
 refine sLen S (wN rfl) rfl Try.underlying26 rfl rfl (lb rfl) fun a S => ?_
 refine sN S fun a S => ?_
 refine lT (cd _ _ ?_)
 obtain ⟨cD, h, cE⟩ := bS h
 refine sCut (fun a w => ∃ ar, ∃ au, ∃ av, ∃ bI, ∃ bp, (ar, au, av, bI, bp) = cD ∧ ∃ ae, ∃ af, ∃ ag, ∃ ah, ∃ ai, ∃ aj, ∃ bq, ∃ br, St [] E (keysL [eBox bb0 73 [.slice ad_0_0 p0.loops.length cp_0_0, .slice ad_0_1 p0.rows.length cp_0_1, .slice ad_0_2 p0.bound.length cp_0_2, .slice ad_0_3 p0.cross.length cp_0_3, iv p0.next], eRow r_api_Loop 48 (.slice ad_0_0 p0.loops.length cp_0_0) p0.loops, eRow (rI .i64) 3 (.slice ad_0_1 p0.rows.length cp_0_1) p0.rows, eRow (rI .i64) 3 (.slice ad_0_2 p0.bound.length cp_0_2) p0.bound, eRow r_A2_Int 49 (.slice ad_0_3 p0.cross.length cp_0_3) p0.cross]) w0 78 a w [(0, .pointer (some ⟨bb0, 0, none⟩)), (6, .pointer (some ⟨b9, 0, none⟩)), (8, iv (p0.loops.length : Int))] [eBox bb0 73 [.slice ae ar.length af, .slice ag au.length ah, .slice ai av.length aj, .slice bq bI.length br, iv bp], eBox b9 61 [.int .u8 p2.Kind, .bool p2.Purl, iv p2.A, iv p2.B], eRow r_api_Loop 48 (.slice ae ar.length af) ar, eRow (rI .i64) 3 (.slice ag au.length ah) au, eRow (rI .i64) 3 (.slice ai av.length aj) av, eRow r_A2_Int 49 (.slice bq bI.length br) bI] []) ?_ (fun a w hI => ?_)
 ·refine sSeq (fun cW ce => ?_)
  obtain ⟨aw, bJ, h⟩ := bS h
  obtain ⟨ax, bK, h⟩ := bS h
  obtain ⟨aI, cf, h⟩ := bS h
  refine sDraw (nf := [3, 7, 8, 9]) (W := [(0, 19, .slice ba p3.length bb), (1, 20, .pointer (some ⟨b9, 2, none⟩)), (2, 21, iv p2.A), (4, 23, .slice ba p3.length bb), (5, 24, .pointer (some ⟨b9, 2, none⟩)), (6, 25, iv p2.A), (11, 30, iv 0)]) rfl S ?_
  refine nodeCut (fun N W L D => ∀ al am ao ap, N [7, 3] ((7, 26, .slice al ax.length am) :: (3, 22, .slice ao aw.length ap) :: W) (L) ((fRep (rL (rI .i64)) (.slice al ax.length am) ax) :: (fRep (rL (rI .i64)) (.slice ao aw.length ap) aw) :: D)) (fun al am ao ap => ?_) fun nd1 => ?_
  ·refine node_by (A := anc_loops_piece_cable_s1_0) 12 (by kernel_rfl) (by kernel_rfl) (by kernel_rfl) (by kernel_rfl) (by kernel_rfl) [7, 3, 0, 1, 2, 4, 5, 6, 11] (by kernel_rfl) (by decide) (by decide) (fD 3 (fD 3 (fD 3 (fY (fD 7 (fD 7 (fD 7 (fY (fN ?_ (aB 9 2 8 (by decide) (fE 8 (fF ?_ (trivial))))))))))))) [] (fun q hq => by cases hq) (fun hY => absurd (hY 8 (by decide)) (by decide))
   ·refine ⟨_, [(22, .slice ao aw.length ap), (26, .slice al ax.length am)], rfl, (srcs_of [some 1, some 0] rfl rfl rfl), fun G a w S => ?_⟩
    refine sLit (r := (rL (rI .i64))) (T := 32) (xs := [aw, ax]) [(0, .slice ao aw.length ap), (1, .slice al ax.length am)] 2 [.slice ao aw.length ap, .slice al ax.length am] [.slice ao aw.length ap, .slice al ax.length am] (.slice none 0 0) 24 S (wN rfl) rfl rfl Try.underlying69 rfl (by decide) (by decide) (by kernel_rfl) rfl (fun E1 w1 hE => All.cons ((rL (rI .i64)).mono hE (S.mem.know (i := 1) (e := fRep (rL (rI .i64)) (.slice ao aw.length ap) aw) rfl)) (All.cons ((rL (rI .i64)).mono hE (S.mem.know (i := 0) (e := fRep (rL (rI .i64)) (.slice al ax.length am) ax) rfl)) (All.nil _ _ _))) rfl rfl (lb rfl) fun a w aW aX S => ?_
    refine leafL ⟨rfl, _, _, .inl ⟨27, (.slice aW [aw, ax].length aX), [], rfl, S, hz_of rfl, ?_⟩⟩
    refine node_by (A := anc_loops_piece_cable_s1_0) 12 (by kernel_rfl) (by kernel_rfl) (by kernel_rfl) (by kernel_rfl) (by kernel_rfl) [8, 7, 3, 0, 1, 2, 4, 5, 6, 11] (by kernel_rfl) (by decide) (by decide) (fD 8 (fD 8 (fD 8 (fY (fD 8 (fD 8 (fD 8 (fY (fY (fN ?_ (fE 9 (fF ?_ (trivial))))))))))))) [] (fun q hq => by cases hq) (fun hY => absurd (hY 9 (by decide)) (by decide))
    ·refine ⟨_, [(27, .slice aW [aw, ax].length aX)], rfl, (srcs_of [some 0] rfl rfl rfl), fun G a w S => ?_⟩
     have S := S.shutR (r := (rL (rI .i64))) (T := 32) (v := .slice aW [aw, ax].length aX) (xs := [aw, ax]) 0 rfl
     refine sCall (X := Value) (f := 68) (vs := [.slice aW [aw, ax].length aX]) (val := c_slices_Concat___int_int__val aI) (B' := fun _ => []) (D' := c_slices_Concat___int_int__D aI) [] [eBox b9 61 [.int .u8 p2.Kind, .bool p2.Purl, iv p2.A, iv p2.B], eBox b8 48 [iv p1.Row, iv p1.Cell, .slice aS p1.Parents.length aT, .bool p1.Purl], eBox bb0 73 [.slice ad_0_0 p0.loops.length cp_0_0, .slice ad_0_1 p0.rows.length cp_0_1, .slice ad_0_2 p0.bound.length cp_0_2, .slice ad_0_3 p0.cross.length cp_0_3, iv p0.next], eRow r_api_Loop 48 (.slice ad_0_0 p0.loops.length cp_0_0) p0.loops, eRow (rI .i64) 3 (.slice ad_0_1 p0.rows.length cp_0_1) p0.rows, eRow (rI .i64) 3 (.slice ad_0_2 p0.bound.length cp_0_2) p0.bound, eRow r_A2_Int 49 (.slice ad_0_3 p0.cross.length cp_0_3) p0.cross] [fRep (rL (rL (rI .i64))) (.slice aW [aw, ax].length aX) [aw, ax]] [0, 1, 2, 3, 4, 5, 6] [0] S (wN rfl) rfl callee68 rfl (by decide) rfl rfl (fun E1 w1 S1 => c_slices_Concat___int_int_ E1 w1 [aw, ax] (.slice aW [aw, ax].length aX) aI cf S1) rfl (lb rfl) fun cF a w S => ?_
     obtain ⟨bc, bf, _, rfl, _⟩ := S.mem.know (i := 0) (e := fRep (rL (rI .i64)) (cF) aI) rfl
     refine leafL ⟨rfl, _, _, .inl ⟨28, (.slice bc aI.length bf), [(10, 29, iv (aI.length : Int))], rfl, S, hz_of rfl, ?_⟩⟩
     refine node_by (A := anc_loops_piece_cable_s1_0) 12 (by kernel_rfl) (by kernel_rfl) (by kernel_rfl) (by kernel_rfl) (by kernel_rfl) [10, 9, 8, 7, 3, 0, 1, 2, 4, 5, 6, 11] (by kernel_rfl) (by decide) (by decide) (fD 9 (fD 9 (fD 9 (fY (fD 9 (fD 9 (fD 9 (fY (fY (fY (fF ?_ (fF ?_ (trivial))))))))))))) [(0, .pointer (some ⟨bb0, 0, none⟩)), (5, .pointer (some ⟨b8, 0, none⟩)), (6, .pointer (some ⟨b9, 0, none⟩)), (8, iv (p0.loops.length : Int)), (28, .slice bc aI.length bf), (29, iv (aI.length : Int)), (30, iv 0)] (fin_of [none, none, none, none, some 1, some 0, some 11] rfl (by kernel_rfl) (by kernel_rfl)) (fun _ a w S => ?_)
     ·refine fJ [(28, _)] 0 [some 1] fun G a w S => ?_
      exact sLen S (wN rfl) rfl Try.underlying32 rfl rfl (lb rfl) fun a S => leafL ⟨rfl, S⟩
     ·refine fJ [] 11 [] fun G a w S => ?_
      exact sM S fun a S => leafL ⟨rfl, S⟩
     refine leafT (ce _ _ ?_)
     refine wp_block ?_
     obtain ⟨cX, hl, cG⟩ := bS h
     refine sLoop hl (fun s0 a w => match s0 with | (bH, bt, bu, bv, bw, bL) => ∃ aJ, ∃ aK, ∃ aL, ∃ aM, ∃ aO, ∃ aP, ∃ aQ, ∃ aR, St [] E (keysL [eBox bb0 73 [.slice ad_0_0 p0.loops.length cp_0_0, .slice ad_0_1 p0.rows.length cp_0_1, .slice ad_0_2 p0.bound.length cp_0_2, .slice ad_0_3 p0.cross.length cp_0_3, iv p0.next], eRow r_api_Loop 48 (.slice ad_0_0 p0.loops.length cp_0_0) p0.loops, eRow (rI .i64) 3 (.slice ad_0_1 p0.rows.length cp_0_1) p0.rows, eRow (rI .i64) 3 (.slice ad_0_2 p0.bound.length cp_0_2) p0.bound, eRow r_A2_Int 49 (.slice ad_0_3 p0.cross.length cp_0_3) p0.cross]) w0 78 a w [(0, .pointer (some ⟨bb0, 0, none⟩)), (5, .pointer (some ⟨b8, 0, none⟩)), (6, .pointer (some ⟨b9, 0, none⟩)), (8, iv (p0.loops.length : Int)), (28, .slice bc aI.length bf), (29, iv (aI.length : Int)), (30, iv bH)] [eBox bb0 73 [.slice aJ bt.length aK, .slice aL bu.length aM, .slice aO bv.length aP, .slice aQ bw.length aR, iv bL], eBox b8 48 [iv p1.Row, iv p1.Cell, .slice aS p1.Parents.length aT, .bool p1.Purl], eBox b9 61 [.int .u8 p2.Kind, .bool p2.Purl, iv p2.A, iv p2.B], eRow r_api_Loop 48 (.slice aJ bt.length aK) bt, eRow (rI .i64) 3 (.slice aL bu.length aM) bu, eRow (rI .i64) 3 (.slice aO bv.length aP) bv, eRow r_A2_Int 49 (.slice aQ bw.length aR) bw] [fRep (rL (rI .i64)) (.slice bc aI.length bf) aI, fRep (rL (rI .i64)) (.slice aS p1.Parents.length aT) p1.Parents]) ⟨ad_0_0, cp_0_0, ad_0_1, cp_0_1, ad_0_2, cp_0_2, ad_0_3, cp_0_3, S.fix [2, 1, 0, 3, 4, 5, 6] [0, 4] (by decide) rfl rfl rfl⟩ ?_
     clear hl h
     intro s0 a w c0 hI h cg
     obtain ⟨bH, bt, bu, bv, bw, bL⟩ := s0
     unfold loops_piece_cable_s1_l1 at h
     dsimp only at h hI
     obtain ⟨aJ, aK, aL, aM, aO, aP, aQ, aR, S⟩ := hI
     refine sSeq (fun cY ci => sRegion (sBin _ S (wN rfl) rfl rfl rfl (bLt _ _ _ _ .i64 bH (aI.length : Int)) rfl (lb rfl) fun a S => ?_))
     refine lT (ci _ _ (sSeq (fun cZ cj => ?_)))
     rcases iS h with ⟨bG, h⟩ | ⟨bG, h⟩
     rotate_left
     ·refine sCondF S rfl bG ?_
      obtain rfl := tS h
      obtain rfl := cg _ rfl
      have h := cG
      try dsimp only at h
      exact wp_exit (xThen (xThen (xHit (leafT (⟨bt, bu, bv, bw, bL, Option.some.inj h, aJ, aK, aL, aM, aO, aP, aQ, aR, S.fix [0, 2, 3, 4, 5, 6] [] (by decide) rfl rfl rfl⟩)))))
     refine sCondT S rfl bG ?_
     refine wp_skip (leafT (cj _ _ ?_))
     refine sSeq (fun d1 ck => wp_block ?_)
     refine sSeq (fun d3 cl => sRegion ?_)
     obtain ⟨aq, cm, h⟩ := bS h
     obtain ⟨cA, cn, S⟩ := pIdx (P := Try.prog) (r := (rI .i64)) (v := .slice bc aI.length bf) (xs := aI) (j := bH) 32 3 0 S Try.underlying32 rfl rfl cm
     refine sIdxV S (wN rfl) rfl rfl rfl cn rfl (lb rfl) fun a S => ?_
     obtain ⟨cB, S⟩ := pLoad (r := (rI .i64)) (q := cA) (x := aq) 0 S rfl
     obtain rfl : cB = iv aq := S.mem.know (i := 1) (e := fRep (rI .i64) (cB) aq) rfl
     refine sLoadV1 (vq := cA) 0 (iv aq) S (wN rfl) rfl rfl rfl rfl rfl (lb rfl) fun a S => ?_
     refine sN S fun a S => ?_
     refine lT (cl _ _ (sRegion (sM S fun a S => ?_)))
     refine sLoadN (p := b8) (off := 0) (T := 48) (vs := [iv p1.Row, iv p1.Cell, .slice aS p1.Parents.length aT, .bool p1.Purl]) 1 [iv p1.Row, iv p1.Cell, .slice aS p1.Parents.length aT, .bool p1.Purl] S (wN rfl) rfl rfl rfl rfl rfl rfl rfl (lb rfl) fun a S => ?_
     refine sM S fun a S => ?_
     refine sLit (r := (rI .i64)) (T := 3) (xs := ([aq] : List Int)) [(0, iv aq)] 1 [iv aq] [iv aq] (iv 0) 8 S (wN rfl) rfl rfl Try.underlying32 rfl (by decide) (by decide) (by kernel_rfl) rfl (fun E1 w1 hE => All.cons rfl (All.nil _ _ _)) rfl rfl (lb rfl) fun a w bg bh S => ?_
     have S := S.shutR (r := (rI .i64)) (T := 3) (v := .slice bg ([aq] : List Int).length bh) (xs := ([aq] : List Int)) 0 rfl
     refine sLit (r := (rL (rI .i64))) (T := 32) (xs := [([aq] : List Int)]) [(0, .slice bg ([aq] : List Int).length bh)] 1 [.slice bg ([aq] : List Int).length bh] [.slice bg ([aq] : List Int).length bh] (.slice none 0 0) 24 S (wN rfl) rfl rfl Try.underlying69 rfl (by decide) (by decide) (by kernel_rfl) rfl (fun E1 w1 hE => All.cons ((rL (rI .i64)).mono hE (S.mem.know (i := 0) (e := fRep (rL (rI .i64)) (.slice bg ([aq] : List Int).length bh) ([aq] : List Int)) rfl)) (All.nil _ _ _)) rfl rfl (lb rfl) fun a w bx bz S => ?_
     obtain ⟨ay, co, h⟩ := bS h
     have S := S.learn (fRep r_api_Loop (.agg #[iv p1.Row, iv p1.Cell, .slice aS p1.Parents.length aT, .bool p1.Purl]) p1) ⟨_, rfl, S.mem.know (i := 5) (e := fRep (rL (rI .i64)) (.slice aS p1.Parents.length aT) p1.Parents) rfl⟩
     have S := S.shutR (r := (rL (rI .i64))) (T := 32) (v := .slice bx [([aq] : List Int)].length bz) (xs := [([aq] : List Int)]) 0 rfl
     refine sCall (X := Option Addr × Nat × Option Addr × Nat × Option Addr × Nat × Option Addr × Nat) (f := 58) (vs := [.pointer (some ⟨bb0, 0, none⟩), .agg #[iv p1.Row, iv p1.Cell, .slice aS p1.Parents.length aT, .bool p1.Purl], .slice bx [([aq] : List Int)].length bz]) (val := fun _ => .tuple #[]) (B' := fun x => [eBox bb0 73 [.slice x.1 ay.loops.length x.2.1, .slice x.2.2.1 ay.rows.length x.2.2.2.1, .slice x.2.2.2.2.1 ay.bound.length x.2.2.2.2.2.1, .slice x.2.2.2.2.2.2.1 ay.cross.length x.2.2.2.2.2.2.2, iv ay.next], eRow r_api_Loop 48 (.slice x.1 ay.loops.length x.2.1) ay.loops, eRow (rI .i64) 3 (.slice x.2.2.1 ay.rows.length x.2.2.2.1) ay.rows, eRow (rI .i64) 3 (.slice x.2.2.2.2.1 ay.bound.length x.2.2.2.2.2.1) ay.bound, eRow r_A2_Int 49 (.slice x.2.2.2.2.2.2.1 ay.cross.length x.2.2.2.2.2.2.2) ay.cross]) (D' := fun _ => []) [eBox bb0 73 [.slice aJ bt.length aK, .slice aL bu.length aM, .slice aO bv.length aP, .slice aQ bw.length aR, iv bL], eRow r_api_Loop 48 (.slice aJ bt.length aK) bt, eRow (rI .i64) 3 (.slice aL bu.length aM) bu, eRow (rI .i64) 3 (.slice aO bv.length aP) bv, eRow r_A2_Int 49 (.slice aQ bw.length aR) bw] [eBox b8 48 [iv p1.Row, iv p1.Cell, .slice aS p1.Parents.length aT, .bool p1.Purl], eBox b9 61 [.int .u8 p2.Kind, .bool p2.Purl, iv p2.A, iv p2.B]] [fRep r_api_Loop (.agg #[iv p1.Row, iv p1.Cell, .slice aS p1.Parents.length aT, .bool p1.Purl]) p1, fRep (rL (rL (rI .i64))) (.slice bx [([aq] : List Int)].length bz) [([aq] : List Int)]] [0, 3, 4, 5, 6, 1, 2] [1, 0] S (wN rfl) rfl callee58 rfl (by decide) rfl rfl (fun E1 w1 S1 => c_loops_piece_add_s1 E1 w1 (loops_piece.mk bt bu bv bw bL) bb0 aJ aK aL aM aO aP aQ aR p1 (.agg #[iv p1.Row, iv p1.Cell, .slice aS p1.Parents.length aT, .bool p1.Purl]) [([aq] : List Int)] (.slice bx [([aq] : List Int)].length bz) ay co S1) rfl (lb rfl) fun xx a w S => ?_
     obtain ⟨cp, cq, cr, bM, bN, bO, bP, bQ⟩ := xx
     dsimp only at S
     refine leafL (leafB (leafT (ck _ _ ?_)))
     refine sRegion (sBin _ S (wN rfl) rfl rfl rfl (bAdd _ _ _ _ bH 1) rfl (lb rfl) fun a S => ?_)
     refine sM S fun a S => ?_
     exact lT (⟨(w64 (bH + 1), ay.loops, ay.rows, ay.bound, ay.cross, ay.next), (Option.some.inj h).symm, ⟨cp, cq, cr, bM, bN, bO, bP, bQ, S.fix [0, 5, 6, 1, 2, 3, 4] [6, 7] (by decide) rfl rfl rfl⟩⟩)
    refine fJ [] 9 [] fun G a w S => ?_
    exact sM S fun a S => leafL ⟨rfl, S⟩
   refine fJ [] 8 [] fun G a w S => ?_
   exact sM S fun a S => leafL ⟨rfl, S⟩
  refine node_by (A := anc_loops_piece_cable_s1_0) 12 (by kernel_rfl) (by kernel_rfl) (by kernel_rfl) (by kernel_rfl) (by kernel_rfl) [0, 1, 2, 4, 5, 6, 11] (by kernel_rfl) (by decide) (by decide) (fF ?_ (fF ?_ (fF ?_ (fN ?_ (fF ?_ (fF ?_ (fF ?_ (fN ?_ (aB 8 3 3 (by decide) (aB 9 2 3 (by decide) (fE 3 (fF ?_ (trivial))))))))))))) [] (fun q hq => by cases hq) (fun hY => absurd (hY 3 (by decide)) (by decide))
  ·exact fM 0 none rfl rfl rfl rfl (.inl rfl) rfl rfl rfl
  ·refine fJ [(6, _)] 1 [none] fun G a w S => ?_
   exact sField (b := b9) (off := 0) 2 2 S (wN rfl) rfl rfl rfl rfl rfl (lb rfl) fun a S => leafL ⟨rfl, S⟩
  ·refine fJ [(20, _)] 2 [some 1] fun G a w S => ?_
   exact sLoad1 0 (iv p2.A) S (wN rfl) rfl rfl rfl rfl rfl rfl (lb rfl) fun a S => leafL ⟨rfl, S⟩
  ·refine ⟨_, [(19, .slice ba p3.length bb), (21, iv p2.A)], rfl, (srcs_of [some 0, some 2] rfl rfl rfl), fun G a w S => ?_⟩
   refine sSlice (r := (rI .i64)) (v := .slice ba p3.length bb) (xs := p3) (vlo := (some (.int .i64 p2.A))) (vhi := none) (lo' := p2.A) (hi' := (p3.length : Int)) 3 S (wN rfl) rfl Try.underlying32 rfl rfl rfl rfl rfl (.inl rfl) (.inr ⟨rfl, rfl⟩) bJ rfl (lb rfl) fun a ao ap S => ?_
   refine leafL ⟨rfl, _, _, .inl ⟨22, (.slice ao aw.length ap), [], rfl, S, hz_of rfl, ?_⟩⟩
   refine node_by (A := anc_loops_piece_cable_s1_0) 12 (by kernel_rfl) (by kernel_rfl) (by kernel_rfl) (by kernel_rfl) (by kernel_rfl) [3, 0, 1, 2, 4, 5, 6, 11] (by kernel_rfl) (by decide) (by decide) (fD 3 (fD 3 (fD 3 (fY (fF ?_ (fF ?_ (fF ?_ (fN ?_ (aB 8 3 7 (by decide) (aB 9 2 7 (by decide) (fE 7 (fF ?_ (trivial))))))))))))) [] (fun q hq => by cases hq) (fun hY => absurd (hY 7 (by decide)) (by decide))
   ·exact fM 4 none rfl rfl rfl rfl (.inl rfl) rfl rfl rfl
   ·refine fJ [(6, _)] 5 [none] fun G a w S => ?_
    exact sField (b := b9) (off := 0) 2 2 S (wN rfl) rfl rfl rfl rfl rfl (lb rfl) fun a S => leafL ⟨rfl, S⟩
   ·refine fJ [(24, _)] 6 [some 5] fun G a w S => ?_
    exact sLoad1 0 (iv p2.A) S (wN rfl) rfl rfl rfl rfl rfl rfl (lb rfl) fun a S => leafL ⟨rfl, S⟩
   ·refine ⟨_, [(23, .slice ba p3.length bb), (25, iv p2.A)], rfl, (srcs_of [some 4, some 6] rfl rfl rfl), fun G a w S => ?_⟩
    refine sSlice (r := (rI .i64)) (v := .slice ba p3.length bb) (xs := p3) (vlo := none) (vhi := (some (.int .i64 p2.A))) (lo' := 0) (hi' := p2.A) 4 S (wN rfl) rfl Try.underlying32 rfl rfl rfl rfl rfl (.inr ⟨rfl, rfl⟩) (.inl rfl) bK rfl (lb rfl) fun a al am S => ?_
    refine leafL ⟨rfl, _, _, .inl ⟨26, (.slice al ax.length am), [], rfl, S, hz_of rfl, ?_⟩⟩
    exact nd1 al am ao ap
   refine fJ [] 7 [] fun G a w S => ?_
   exact sM S fun a S => leafL ⟨rfl, S⟩
  ·exact fM 3 none rfl rfl rfl rfl (.inl rfl) rfl rfl rfl
  ·refine fJ [(6, _)] 4 [none] fun G a w S => ?_
   exact sField (b := b9) (off := 0) 2 2 S (wN rfl) rfl rfl rfl rfl rfl (lb rfl) fun a S => leafL ⟨rfl, S⟩
  ·refine fJ [(24, _)] 5 [some 4] fun G a w S => ?_
   exact sLoad1 0 (iv p2.A) S (wN rfl) rfl rfl rfl rfl rfl rfl (lb rfl) fun a S => leafL ⟨rfl, S⟩
  ·refine ⟨_, [(23, .slice ba p3.length bb), (25, iv p2.A)], rfl, (srcs_of [some 3, some 5] rfl rfl rfl), fun G a w S => ?_⟩
   refine sSlice (r := (rI .i64)) (v := .slice ba p3.length bb) (xs := p3) (vlo := none) (vhi := (some (.int .i64 p2.A))) (lo' := 0) (hi' := p2.A) 3 S (wN rfl) rfl Try.underlying32 rfl rfl rfl rfl rfl (.inr ⟨rfl, rfl⟩) (.inl rfl) bK rfl (lb rfl) fun a bB bC S => ?_
   refine leafL ⟨rfl, _, _, .inl ⟨26, (.slice bB ax.length bC), [], rfl, S, hz_of rfl, ?_⟩⟩
   refine node_by (A := anc_loops_piece_cable_s1_0) 12 (by kernel_rfl) (by kernel_rfl) (by kernel_rfl) (by kernel_rfl) (by kernel_rfl) [7, 0, 1, 2, 4, 5, 6, 11] (by kernel_rfl) (by decide) (by decide) (fF ?_ (fF ?_ (fF ?_ (fN ?_ (fD 7 (fD 7 (fD 7 (fY (aB 8 3 3 (by decide) (aB 9 2 3 (by decide) (fE 3 (fF ?_ (trivial))))))))))))) [] (fun q hq => by cases hq) (fun hY => absurd (hY 3 (by decide)) (by decide))
   ·exact fM 1 none rfl rfl rfl rfl (.inl rfl) rfl rfl rfl
   ·refine fJ [(6, _)] 2 [none] fun G a w S => ?_
    exact sField (b := b9) (off := 0) 2 2 S (wN rfl) rfl rfl rfl rfl rfl (lb rfl) fun a S => leafL ⟨rfl, S⟩
   ·refine fJ [(20, _)] 3 [some 2] fun G a w S => ?_
    exact sLoad1 0 (iv p2.A) S (wN rfl) rfl rfl rfl rfl rfl rfl (lb rfl) fun a S => leafL ⟨rfl, S⟩
   ·refine ⟨_, [(19, .slice ba p3.length bb), (21, iv p2.A)], rfl, (srcs_of [some 1, some 3] rfl rfl rfl), fun G a w S => ?_⟩
    refine sSlice (r := (rI .i64)) (v := .slice ba p3.length bb) (xs := p3) (vlo := (some (.int .i64 p2.A))) (vhi := none) (lo' := p2.A) (hi' := (p3.length : Int)) 4 S (wN rfl) rfl Try.underlying32 rfl rfl rfl rfl rfl (.inl rfl) (.inr ⟨rfl, rfl⟩) bJ rfl (lb rfl) fun a bD bE S => ?_
    refine leafL ⟨rfl, _, _, .inl ⟨22, (.slice bD aw.length bE), [], rfl, S, hz_of rfl, ?_⟩⟩
    exact nodePerm (nd1 bB bC bD bE) [1, 0, 2, 3, 4, 5, 6, 7, 8] [0, 1, 2, 3, 4, 5, 6] [1, 0, 2, 3, 4, 5] (by decide) (by decide) rfl rfl rfl
   refine fJ [] 7 [] fun G a w S => ?_
   exact sM S fun a S => leafL ⟨rfl, S⟩
  refine fJ [] 6 [] fun G a w S => ?_
  exact sM S fun a S => leafL ⟨rfl, S⟩
 obtain ⟨ar, au, av, bI, bp, rfl, ae, af, ag, ah, ai, aj, bq, br, S⟩ := hI
 have h := cE
 try dsimp only at h
 refine sSeq (fun cH bR => sRegion (sField (b := b9) (off := 0) 2 2 S (wN rfl) rfl rfl rfl rfl rfl (lb rfl) fun a S => ?_))
 refine sLoad1 1 (iv p2.A) S (wN rfl) rfl rfl rfl rfl rfl rfl (lb rfl) fun a S => ?_
 refine sM S fun a S => ?_
 refine lT (bR _ _ (wp_block ?_))
 obtain ⟨cI, hl, ct⟩ := bS h
 refine sLoop hl (fun s0 a w => match s0 with | (a9, bA) => ∃ aA, ∃ aC, St [] E (keysL [eBox bb0 73 [.slice ad_0_0 p0.loops.length cp_0_0, .slice ad_0_1 p0.rows.length cp_0_1, .slice ad_0_2 p0.bound.length cp_0_2, .slice ad_0_3 p0.cross.length cp_0_3, iv p0.next], eRow r_api_Loop 48 (.slice ad_0_0 p0.loops.length cp_0_0) p0.loops, eRow (rI .i64) 3 (.slice ad_0_1 p0.rows.length cp_0_1) p0.rows, eRow (rI .i64) 3 (.slice ad_0_2 p0.bound.length cp_0_2) p0.bound, eRow r_A2_Int 49 (.slice ad_0_3 p0.cross.length cp_0_3) p0.cross]) w0 78 a w [(0, .pointer (some ⟨bb0, 0, none⟩)), (6, .pointer (some ⟨b9, 0, none⟩)), (8, iv (p0.loops.length : Int)), (42, iv p2.A), (43, iv a9)] [eBox bb0 73 [.slice ae ar.length af, .slice ag au.length ah, .slice ai av.length aj, .slice aA bA.length aC, iv bp], eBox b9 61 [.int .u8 p2.Kind, .bool p2.Purl, iv p2.A, iv p2.B], eRow r_api_Loop 48 (.slice ae ar.length af) ar, eRow (rI .i64) 3 (.slice ag au.length ah) au, eRow (rI .i64) 3 (.slice ai av.length aj) av, eRow r_A2_Int 49 (.slice aA bA.length aC) bA] []) ⟨bq, br, S.fix [0, 1, 2, 3, 4, 5] [] (by decide) rfl rfl rfl⟩ ?_
 clear hl h
 intro s0 a w c0 hI h bU
 obtain ⟨a9, bA⟩ := s0
 unfold loops_piece_cable_s1_l3 at h
 dsimp only at h hI
 obtain ⟨aA, aC, S⟩ := hI
 refine sSeq (fun cJ bV => sRegion (sBin _ S (wN rfl) rfl rfl rfl (bLt _ _ _ _ .i64 a9 p2.A) rfl (lb rfl) fun a S => ?_))
 refine lT (bV _ _ (sSeq (fun cK bW => ?_)))
 rcases iS h with ⟨bi, h⟩ | ⟨bi, h⟩
 rotate_left
 ·refine sCondF S rfl bi ?_
  obtain rfl := tS h
  obtain rfl := bU _ rfl
  have h := ct
  try dsimp only at h
  obtain rfl := tS h
  exact wp_exit (xThen (xThen (xHit (sEnd (.tuple #[]) S (rsl0 rfl ) ⟨(ae, af, ag, ah, ai, aj, aA, aC), rfl, S.mem.sel [0, 2, 3, 4, 5] [] (by decide) rfl rfl⟩))))
 refine sCondT S rfl bi ?_
 refine wp_skip (leafT (bW _ _ ?_))
 obtain ⟨cu, h, cv⟩ := bS h
 refine sCut (fun a w => ∃ aZ, aZ = cu ∧ ∃ aU, ∃ aV, St [] E (keysL [eBox bb0 73 [.slice ad_0_0 p0.loops.length cp_0_0, .slice ad_0_1 p0.rows.length cp_0_1, .slice ad_0_2 p0.bound.length cp_0_2, .slice ad_0_3 p0.cross.length cp_0_3, iv p0.next], eRow r_api_Loop 48 (.slice ad_0_0 p0.loops.length cp_0_0) p0.loops, eRow (rI .i64) 3 (.slice ad_0_1 p0.rows.length cp_0_1) p0.rows, eRow (rI .i64) 3 (.slice ad_0_2 p0.bound.length cp_0_2) p0.bound, eRow r_A2_Int 49 (.slice ad_0_3 p0.cross.length cp_0_3) p0.cross]) w0 78 a w [(0, .pointer (some ⟨bb0, 0, none⟩)), (6, .pointer (some ⟨b9, 0, none⟩)), (8, iv (p0.loops.length : Int)), (42, iv p2.A), (43, iv a9)] [eBox bb0 73 [.slice ae ar.length af, .slice ag au.length ah, .slice ai av.length aj, .slice aU aZ.length aV, iv bp], eBox b9 61 [.int .u8 p2.Kind, .bool p2.Purl, iv p2.A, iv p2.B], eRow r_api_Loop 48 (.slice ae ar.length af) ar, eRow (rI .i64) 3 (.slice ag au.length ah) au, eRow (rI .i64) 3 (.slice ai av.length aj) av, eRow r_A2_Int 49 (.slice aU aZ.length aV) aZ] []) ?_ (fun a w hI => ?_)
 rotate_left
 ·obtain ⟨aZ, rfl, aU, aV, S⟩ := hI
  have h := cv
  try dsimp only at h
  refine sRegion (sBin _ S (wN rfl) rfl rfl rfl (bAdd _ _ _ _ a9 1) rfl (lb rfl) fun a S => ?_)
  refine sM S fun a S => ?_
  exact lT (⟨(w64 (a9 + 1), aZ), (Option.some.inj h).symm, ⟨aU, aV, S.fix [0, 1, 2, 3, 4, 5] [] (by decide) rfl rfl rfl⟩⟩)
 refine wp_block ?_
 refine sSeq (fun cL bX => sRegion (sM S fun a S => ?_))
 refine sN S fun a S => ?_
 refine lT (bX _ _ (sSeq (fun cM bY => sRegion (sField (b := b9) (off := 0) 3 3 S (wN rfl) rfl rfl rfl rfl rfl (lb rfl) fun a S => ?_))))
 refine sLoad1 1 (iv p2.B) S (wN rfl) rfl rfl rfl rfl rfl rfl (lb rfl) fun a S => ?_
 refine sM S fun a S => ?_
 refine lT (bY _ _ (wp_block ?_))
 obtain ⟨cN, hl, cw⟩ := bS h
 refine sLoop hl (fun s0 a w => match s0 with | (ak, ac) => ∃ a0, ∃ a8, St [] E (keysL [eBox bb0 73 [.slice ad_0_0 p0.loops.length cp_0_0, .slice ad_0_1 p0.rows.length cp_0_1, .slice ad_0_2 p0.bound.length cp_0_2, .slice ad_0_3 p0.cross.length cp_0_3, iv p0.next], eRow r_api_Loop 48 (.slice ad_0_0 p0.loops.length cp_0_0) p0.loops, eRow (rI .i64) 3 (.slice ad_0_1 p0.rows.length cp_0_1) p0.rows, eRow (rI .i64) 3 (.slice ad_0_2 p0.bound.length cp_0_2) p0.bound, eRow r_A2_Int 49 (.slice ad_0_3 p0.cross.length cp_0_3) p0.cross]) w0 78 a w [(0, .pointer (some ⟨bb0, 0, none⟩)), (6, .pointer (some ⟨b9, 0, none⟩)), (8, iv (p0.loops.length : Int)), (11, iv a9), (42, iv p2.A), (43, iv a9), (47, iv p2.B), (48, iv ak)] [eBox bb0 73 [.slice ae ar.length af, .slice ag au.length ah, .slice ai av.length aj, .slice a0 ac.length a8, iv bp], eBox b9 61 [.int .u8 p2.Kind, .bool p2.Purl, iv p2.A, iv p2.B], eRow r_api_Loop 48 (.slice ae ar.length af) ar, eRow (rI .i64) 3 (.slice ag au.length ah) au, eRow (rI .i64) 3 (.slice ai av.length aj) av, eRow r_A2_Int 49 (.slice a0 ac.length a8) ac] []) ⟨aA, aC, S.fix [0, 1, 2, 3, 4, 5] [] (by decide) rfl rfl rfl⟩ ?_
 clear hl h
 intro s0 a w c0 hI h bZ
 obtain ⟨ak, ac⟩ := s0
 unfold loops_piece_cable_s1_l2 at h
 dsimp only at h hI
 obtain ⟨a0, a8, S⟩ := hI
 refine sSeq (fun cO c5 => sRegion (sBin _ S (wN rfl) rfl rfl rfl (bLt _ _ _ _ .i64 ak p2.B) rfl (lb rfl) fun a S => ?_))
 refine lT (c5 _ _ (sSeq (fun cP c6 => ?_)))
 rcases iS h with ⟨bj, h⟩ | ⟨bj, h⟩
 rotate_left
 ·refine sCondF S rfl bj ?_
  obtain rfl := tS h
  obtain rfl := bZ _ rfl
  have h := cw
  try dsimp only at h
  exact wp_exit (xThen (xThen (xHit (leafB (leafT (⟨ac, Option.some.inj h, a0, a8, S.fix [0, 1, 2, 3, 4, 5] [] (by decide) rfl rfl rfl⟩))))))
 refine sCondT S rfl bj ?_
 refine wp_skip (leafT (c6 _ _ ?_))
 refine sSeq (fun cQ c7 => wp_block ?_)
 refine sSeq (fun cR c8 => sRegion (sM S fun a S => ?_))
 refine sN S fun a S => ?_
 refine lT (c8 _ _ (sSeq (fun cT c9 => sRegion (sM S fun a S => ?_))))
 refine sField (b := b9) (off := 0) 3 3 S (wN rfl) rfl rfl rfl rfl rfl (lb rfl) fun a S => ?_
 refine sLoad1 1 (iv p2.B) S (wN rfl) rfl rfl rfl rfl rfl rfl (lb rfl) fun a S => ?_
 refine sBin _ S (wN rfl) rfl rfl rfl (bAdd _ _ _ _ (p0.loops.length : Int) p2.B) rfl (lb rfl) fun a S => ?_
 refine sM S fun a S => ?_
 refine sBin _ S (wN rfl) rfl rfl rfl (bAdd _ _ _ _ (w64 ((p0.loops.length : Int) + p2.B)) a9) rfl (lb rfl) fun a S => ?_
 refine sM S fun a S => ?_
 refine sM S fun a S => ?_
 refine sBin _ S (wN rfl) rfl rfl rfl (bAdd _ _ _ _ (p0.loops.length : Int) ak) rfl (lb rfl) fun a S => ?_
 refine sBuild [(0, iv (w64 ((w64 ((p0.loops.length : Int) + p2.B)) + a9))), (1, iv (w64 ((p0.loops.length : Int) + ak)))] [iv (w64 ((w64 ((p0.loops.length : Int) + p2.B)) + a9)), iv (w64 ((p0.loops.length : Int) + ak))] S (wN rfl) rfl rfl rfl rfl (lb rfl) fun a S => ?_
 refine sAlloc (.agg #[iv 0, iv 0]) S (wN rfl) rfl rfl [iv 0, iv 0] rfl rfl (lb rfl) fun a az w S => ?_
 refine sStore (p := az) (off := 0) (T := 49) (vs := [iv 0, iv 0]) (v := .agg #[iv (w64 ((w64 ((p0.loops.length : Int) + p2.B)) + a9)), iv (w64 ((p0.loops.length : Int) + ak))]) 0 [iv (w64 ((w64 ((p0.loops.length : Int) + p2.B)) + a9)), iv (w64 ((p0.loops.length : Int) + ak))] S (wN rfl) rfl rfl rfl rfl rfl rfl rfl (by simp) rfl fun a w S => ?_
 refine lT (c9 _ _ ?_)
 obtain ⟨cx, h, cy⟩ := bS h
 refine sCut (fun a w => ∃ aa, ∃ ab, (aa, ab) = cx ∧ St [] E (keysL [eBox bb0 73 [.slice ad_0_0 p0.loops.length cp_0_0, .slice ad_0_1 p0.rows.length cp_0_1, .slice ad_0_2 p0.bound.length cp_0_2, .slice ad_0_3 p0.cross.length cp_0_3, iv p0.next], eRow r_api_Loop 48 (.slice ad_0_0 p0.loops.length cp_0_0) p0.loops, eRow (rI .i64) 3 (.slice ad_0_1 p0.rows.length cp_0_1) p0.rows, eRow (rI .i64) 3 (.slice ad_0_2 p0.bound.length cp_0_2) p0.bound, eRow r_A2_Int 49 (.slice ad_0_3 p0.cross.length cp_0_3) p0.cross]) w0 78 a w [(0, .pointer (some ⟨bb0, 0, none⟩)), (6, .pointer (some ⟨b9, 0, none⟩)), (8, iv (p0.loops.length : Int)), (11, iv a9), (13, .pointer (some ⟨az, 0, none⟩)), (42, iv p2.A), (43, iv a9), (47, iv p2.B), (48, iv ak)] [eBox bb0 73 [.slice ae ar.length af, .slice ag au.length ah, .slice ai av.length aj, .slice a0 ac.length a8, iv bp], eBox b9 61 [.int .u8 p2.Kind, .bool p2.Purl, iv p2.A, iv p2.B], eBox az 49 [iv aa, iv ab], eRow r_api_Loop 48 (.slice ae ar.length af) ar, eRow (rI .i64) 3 (.slice ag au.length ah) au, eRow (rI .i64) 3 (.slice ai av.length aj) av, eRow r_A2_Int 49 (.slice a0 ac.length a8) ac] []) ?_ (fun a w hI => ?_)
 ·refine sSeq (fun cU ca => sRegion (sField (b := b9) (off := 0) 0 0 S (wN rfl) rfl rfl rfl rfl rfl (lb rfl) fun a S => ?_))
  refine sLoad1 2 (.int .u8 p2.Kind) S (wN rfl) rfl rfl rfl rfl rfl rfl (lb rfl) fun a S => ?_
  refine sBin _ S (wN rfl) rfl rfl rfl (bEq _ _ _ _ .u8 p2.Kind 7) rfl (lb rfl) fun a S => ?_
  refine lT (ca _ _ ?_)
  rcases iS h with ⟨bk, h⟩ | ⟨bk, h⟩
  rotate_left
  ·refine sCondF S rfl bk ?_
   exact wp_skip (leafT (⟨w64 ((w64 ((p0.loops.length : Int) + p2.B)) + a9), w64 ((p0.loops.length : Int) + ak), Option.some.inj h, S.fix [1, 2, 0, 3, 4, 5, 6] [] (by decide) rfl rfl rfl⟩))
  refine sCondT S rfl bk ?_
  refine sRegion (sSliceA (m := 2) (sz := 1) (b := az) S (wN rfl) rfl Try.underlying49 rfl rfl (by decide) rfl (lb rfl) fun a S => ?_)
  obtain ⟨bl, cb, h⟩ := bS h
  refine sCall (X := Unit) (f := 59) (vs := [.slice (some ⟨az, 0, none⟩) 2 2]) (val := fun _ => .tuple #[]) (B' := fun _ => [eBox az 49 [iv bl.1, iv bl.2]]) (D' := fun _ => []) [eBox az 49 [iv (w64 ((w64 ((p0.loops.length : Int) + p2.B)) + a9)), iv (w64 ((p0.loops.length : Int) + ak))]] [eBox bb0 73 [.slice ae ar.length af, .slice ag au.length ah, .slice ai av.length aj, .slice a0 ac.length a8, iv bp], eBox b9 61 [.int .u8 p2.Kind, .bool p2.Purl, iv p2.A, iv p2.B], eRow r_api_Loop 48 (.slice ae ar.length af) ar, eRow (rI .i64) 3 (.slice ag au.length ah) au, eRow (rI .i64) 3 (.slice ai av.length aj) av, eRow r_A2_Int 49 (.slice a0 ac.length a8) ac] [] [0, 1, 2, 3, 4, 5, 6] [] S (wN rfl) rfl callee59 rfl (by decide) rfl rfl (fun E1 w1 S1 => c_slices_Reverse___int_int__s1 E1 w1 (w64 ((w64 ((p0.loops.length : Int) + p2.B)) + a9), w64 ((p0.loops.length : Int) + ak)) az bl cb S1) rfl (lb rfl) fun _ a w S => ?_
  exact lT (⟨bl.1, bl.2, Option.some.inj h, S.fix [1, 2, 0, 3, 4, 5, 6] [] (by decide) rfl rfl rfl⟩)
 obtain ⟨aa, ab, rfl, S⟩ := hI
 have h := cy
 try dsimp only at h
 obtain ⟨bm, cc, h⟩ := bS h
 refine sDraw (nf := [6, 7, 10]) (W := [(0, 66, .pointer (some ⟨bb0, 0, none⟩)), (1, 67, .pointer (some ⟨bb0, 0, none⟩)), (2, 68, .pointer (some ⟨bb0, 0, none⟩)), (3, 69, .pointer (some ⟨bb0, 3, none⟩)), (4, 70, .slice a0 ac.length a8), (5, 71, .agg #[iv aa, iv ab])]) rfl S ?_
 refine node_by (A := anc_loops_piece_cable_s1_1) 11 (by kernel_rfl) (by kernel_rfl) (by kernel_rfl) (by kernel_rfl) (by kernel_rfl) [0, 1, 2, 3, 4, 5] (by kernel_rfl) (by decide) (by decide) (fF ?_ (fF ?_ (fF ?_ (fF ?_ (fF ?_ (fF ?_ (fN ?_ (aB 7 3 6 (by decide) (fE 6 (fE 6 (aB 10 0 6 (by decide) (trivial)))))))))))) [] (fun q hq => by cases hq) (fun hY => absurd (hY 6 (by decide)) (by decide))
 ·exact fM 0 none rfl rfl rfl rfl (.inl rfl) rfl rfl rfl
 ·exact fM 1 none rfl rfl rfl rfl (.inl rfl) rfl rfl rfl
 ·refine fJ [(67, _)] 2 [some 1] fun G a w S => ?_
  exact nilCheck_ok (q := ⟨bb0, 0, none⟩) S (wN rfl) rfl rfl rfl (lb rfl) fun a S => leafL ⟨rfl, S⟩
 ·refine fJ [(68, _)] 3 [some 2] fun G a w S => ?_
  exact sField (b := bb0) (off := 0) 3 3 S (wN rfl) rfl rfl rfl rfl rfl (lb rfl) fun a S => leafL ⟨rfl, S⟩
 ·refine fJ [(69, _)] 4 [some 3] fun G a w S => ?_
  exact sLoad1 0 (.slice a0 ac.length a8) S (wN rfl) rfl rfl rfl rfl rfl rfl (lb rfl) fun a S => leafL ⟨rfl, S⟩
 ·refine fJ [(13, _)] 5 [none] fun G a w S => ?_
  exact sLoadN (p := az) (off := 0) (T := 49) (vs := [iv aa, iv ab]) 2 [iv aa, iv ab] S (wN rfl) rfl rfl rfl rfl rfl rfl rfl (lb rfl) fun a S => leafL ⟨rfl, S⟩
 refine ⟨_, [(71, .agg #[iv aa, iv ab])], rfl, (srcs_of [some 5] rfl rfl rfl), fun G a w S => ?_⟩
 have S := S.learn (fRep r_A2_Int (.agg #[iv aa, iv ab]) (aa, ab)) rfl
 refine sLit (r := r_A2_Int) (T := 49) (xs := [(aa, ab)]) [(0, .agg #[iv aa, iv ab])] 1 [.agg #[iv aa, iv ab]] [iv aa, iv ab] (.agg #[iv 0, iv 0]) 16 S (wN rfl) rfl rfl Try.underlying37 rfl (by decide) (by decide) (by kernel_rfl) rfl (fun E1 w1 hE => All.cons (r_A2_Int.mono hE (S.mem.know (i := 0) (e := fRep r_A2_Int (.agg #[iv aa, iv ab]) (aa, ab)) rfl)) (All.nil _ _ _)) rfl rfl (lb rfl) fun a w bn bo S => ?_
 refine leafL ⟨rfl, _, _, .inl ⟨72, (.slice bn [(aa, ab)].length bo), [], rfl, S, hz_of rfl, ?_⟩⟩
 refine node_by (A := anc_loops_piece_cable_s1_1) 11 (by kernel_rfl) (by kernel_rfl) (by kernel_rfl) (by kernel_rfl) (by kernel_rfl) [6, 0, 1, 2, 3, 4, 5] (by kernel_rfl) (by decide) (by decide) (fF ?_ (fF ?_ (fF ?_ (fF ?_ (fF ?_ (fD 6 (fY (fN ?_ (fE 7 (fE 7 (aB 10 0 7 (by decide) (trivial)))))))))))) [] (fun q hq => by cases hq) (fun hY => absurd (hY 7 (by decide)) (by decide))
 ·exact fM 1 none rfl rfl rfl rfl (.inl rfl) rfl rfl rfl
 ·exact fM 2 none rfl rfl rfl rfl (.inl rfl) rfl rfl rfl
 ·refine fJ [(67, _)] 3 [some 2] fun G a w S => ?_
  exact nilCheck_ok (q := ⟨bb0, 0, none⟩) S (wN rfl) rfl rfl rfl (lb rfl) fun a S => leafL ⟨rfl, S⟩
 ·refine fJ [(68, _)] 4 [some 3] fun G a w S => ?_
  exact sField (b := bb0) (off := 0) 3 3 S (wN rfl) rfl rfl rfl rfl rfl (lb rfl) fun a S => leafL ⟨rfl, S⟩
 ·refine fJ [(69, _)] 5 [some 4] fun G a w S => ?_
  exact sLoad1 1 (.slice a0 ac.length a8) S (wN rfl) rfl rfl rfl rfl rfl rfl (lb rfl) fun a S => leafL ⟨rfl, S⟩
 refine ⟨_, [(70, .slice a0 ac.length a8), (72, .slice bn [(aa, ab)].length bo)], rfl, (srcs_of [some 5, some 0] rfl rfl rfl), fun G a w S => ?_⟩
 refine sApp (r := r_A2_Int) (T := 49) (xs := ac) (ys := [(aa, ab)]) (v := .slice a0 ac.length a8) (u := .slice bn [(aa, ab)].length bo) 7 (.agg #[iv 0, iv 0]) 16 S (wN rfl) rfl Try.underlying37 rfl rfl (by decide) rfl rfl rfl (src_R (T := 49) 0 S.mem rfl) cc rfl (lb rfl) fun a w aG aH S => ?_
 refine leafL ⟨rfl, _, _, .inl ⟨73, (.slice aG bm.length aH), [(8, 74, .pointer (some ⟨bb0, 0, none⟩)), (9, 75, .pointer (some ⟨bb0, 3, none⟩))], rfl, S, hz_of rfl, ?_⟩⟩
 refine node_by (A := anc_loops_piece_cable_s1_1) 11 (by kernel_rfl) (by kernel_rfl) (by kernel_rfl) (by kernel_rfl) (by kernel_rfl) [8, 9, 7, 6, 0, 1, 2, 3, 4, 5] (by kernel_rfl) (by decide) (by decide) (fF ?_ (fD 7 (fD 7 (fD 7 (fD 7 (fD 7 (fY (fY (fF ?_ (fF ?_ (fN ?_ (trivial)))))))))))) [] (fun q hq => by cases hq) (fun hY => absurd (hY 10 (by decide)) (by decide))
 ·exact fM 4 none rfl rfl rfl rfl (.inl rfl) rfl rfl rfl
 ·refine fJ [(66, _)] 0 [some 4] fun G a w S => ?_
  exact nilCheck_ok (q := ⟨bb0, 0, none⟩) S (wN rfl) rfl rfl rfl (lb rfl) fun a S => leafL ⟨rfl, S⟩
 ·refine fJ [(74, _)] 1 [some 0] fun G a w S => ?_
  exact sField (b := bb0) (off := 0) 3 3 S (wN rfl) rfl rfl rfl rfl rfl (lb rfl) fun a S => leafL ⟨rfl, S⟩
 refine ⟨_, [(73, .slice aG bm.length aH), (75, .pointer (some ⟨bb0, 3, none⟩))], rfl, (srcs_of [some 2, some 1] rfl rfl rfl), fun G a w S => ?_⟩
 refine sStore (p := bb0) (off := 3) (T := 73) (vs := [.slice ae ar.length af, .slice ag au.length ah, .slice ai av.length aj, .slice a0 ac.length a8, iv bp]) (v := .slice aG bm.length aH) 2 [.slice aG bm.length aH] S (wN rfl) rfl rfl rfl rfl rfl rfl rfl (by simp) rfl fun a w S => ?_
 refine leafL ⟨rfl, _, _, .inr ⟨[], rfl, S, hz_of rfl, ?_⟩⟩
 refine node_by (A := anc_loops_piece_cable_s1_1) 11 (by kernel_rfl) (by kernel_rfl) (by kernel_rfl) (by kernel_rfl) (by kernel_rfl) [8, 9, 7, 6, 0, 1, 2, 3, 4, 5] (by kernel_rfl) (by decide) (by decide) (fD 10 (fD 10 (fD 10 (fD 10 (fD 10 (fD 10 (fY (fY (fD 10 (fD 10 (fY (trivial)))))))))))) [(0, .pointer (some ⟨bb0, 0, none⟩)), (6, .pointer (some ⟨b9, 0, none⟩)), (8, iv (p0.loops.length : Int)), (11, iv a9), (42, iv p2.A), (43, iv a9), (47, iv p2.B), (48, iv ak)] (fin_of [none, none, none, none, none, none, none, none] rfl (by kernel_rfl) (by kernel_rfl)) (fun _ a w S => ?_)
 refine leafB (leafT (c7 _ _ ?_))
 refine sRegion (sBin _ S (wN rfl) rfl rfl rfl (bAdd _ _ _ _ ak 1) rfl (lb rfl) fun a S => ?_)
 refine sM S fun a S => ?_
 exact lT (⟨(w64 (ak + 1), bm), (Option.some.inj h).symm, ⟨aG, aH, S.fix [0, 3, 5, 6, 7, 1] [] (by decide) rfl rfl rfl⟩⟩)
def anc_loops_piece_work_s1_0 : List (List Nat) := [[], [0], [0, 1], [0, 1, 2], [], [4], [4, 5], [0, 1, 2, 3, 4, 5, 6], [0, 1, 2, 3, 4, 5, 6, 7], [0, 1, 2, 3, 4, 5, 6, 7, 8], [0, 1, 2, 3, 4, 5, 6, 7, 8, 9], [0, 1, 2, 3, 4, 5, 6, 7, 8, 9, 10]]
noncomputable def loops_piece_work_s1_l1 (p3 : api_Stitch) (r9 : ((List Int) × loops_piece)) (p1 : Int) (p2 : Int) : (Int × List api_Loop × List Int × List Int × List (Int × Int) × Int) → Option ((Int × List api_Loop × List Int × List Int × List (Int × Int) × Int) ⊕ (List api_Loop × List Int × List Int × List (Int × Int) × Int)) := fun s0 => match s0 with
 | (a8, a9, aa, ab, ac, ae) =>
  if decide (a8 < p3.A) then
   (F_slices_Clone___int_int__s0 r9.1).bind fun af =>
   (F_loops_piece_add_s1 (loops_piece.mk a9 aa ab ac ae) (api_Loop.mk p1 p2 ([] : (List Int)) p3.Purl) [af]).bind fun a0 =>
   some (.inl (w64 (a8 + 1), a0.loops, a0.rows, a0.bound, a0.cross, a0.next))
  else
   some (.inr (a9, aa, ab, ac, ae))
noncomputable def F_loops_piece_work_s1 (p0 : loops_piece) (p1 : Int) (p2 : Int) (p3 : api_Stitch) : Option loops_piece :=
 (F_stitch_Uses [p3]).bind fun r6 =>
 (F_loops_piece_take_s3 p0 r6.1).bind fun r9 =>
 Option.bind (α := Bool) (
  if p3.Kind == 2 then
   some (p3.Kind == 2)
  else
   some (p3.Kind == 9)) fun ai =>
 if ai then
  (makeO (if (1 : Int) < p3.A then p3.A else 1) ([] : (List Int))).bind fun aj =>
  (F_loops_piece_add_s1 r9.2 (api_Loop.mk p1 p2 ([] : (List Int)) p3.Purl) aj).bind fun ak =>
  some ak
 else
  if p3.Kind == 1 then
   (F_loops_piece_add_s1 r9.2 (api_Loop.mk p1 p2 ([] : (List Int)) p3.Purl) [r9.1]).bind fun al =>
   some al
  else
   if p3.Kind == 8 then
    (idxO r9.1 0).bind fun am =>
    (idxO r9.2.loops am).bind fun ao =>
    (F_loops_piece_add_s1 r9.2 (api_Loop.mk p1 p2 ([] : (List Int)) ao.Purl) [r9.1]).bind fun ap =>
    some ap
   else
    if p3.Kind == 4 then
     (F_slices_Reverse___int_int__s0 r9.1).bind fun a0 =>
     (F_loops_piece_add_s1 r9.2 (api_Loop.mk p1 p2 ([] : (List Int)) p3.Purl) [a0]).bind fun a8 =>
     some a8
    else
     if p3.Kind == 3 then
      (F_loops_piece_add_s1 r9.2 (api_Loop.mk p1 p2 ([] : (List Int)) p3.Purl) [r9.1]).bind fun a9 =>
      some a9
     else
      if p3.Kind == 5 then
       (whileO (loops_piece_work_s1_l1 p3 r9 p1 p2) (0, r9.2.loops, r9.2.rows, r9.2.bound, r9.2.cross, r9.2.next)).bind fun (aa, ab, ac, ae, af) =>
        some (loops_piece.mk aa ab ac ae af)
      else
       if p3.Kind == 10 then
        (appO r9.2.bound r9.1).bind fun ag =>
        some (loops_piece.mk r9.2.loops r9.2.rows ag r9.2.cross r9.2.next)
       else
        (F_loops_piece_cable_s1 r9.2 (api_Loop.mk p1 p2 ([] : (List Int)) p3.Purl) p3 r9.1).bind fun ah =>
        some ah
theorem c_loops_piece_work_s1 (E : Nat → Prop) (w0 : World) (p0 : loops_piece) (bb0 : Nat) (ad_0_0 : Option Addr) (cp_0_0 : Nat) (ad_0_1 : Option Addr) (cp_0_1 : Nat) (ad_0_2 : Option Addr) (cp_0_2 : Nat) (ad_0_3 : Option Addr) (cp_0_3 : Nat) (p1 : Int) (p2 : Int) (p3 : api_Stitch) (v3 : Value) (r : loops_piece) (h : F_loops_piece_work_s1 p0 p1 p2 p3 = some r) (S : St0 E (keysL [eBox bb0 73 [.slice ad_0_0 p0.loops.length cp_0_0, .slice ad_0_1 p0.rows.length cp_0_1, .slice ad_0_2 p0.bound.length cp_0_2, .slice ad_0_3 p0.cross.length cp_0_3, iv p0.next], eRow r_api_Loop 48 (.slice ad_0_0 p0.loops.length cp_0_0) p0.loops, eRow (rI .i64) 3 (.slice ad_0_1 p0.rows.length cp_0_1) p0.rows, eRow (rI .i64) 3 (.slice ad_0_2 p0.bound.length cp_0_2) p0.bound, eRow r_A2_Int 49 (.slice ad_0_3 p0.cross.length cp_0_3) p0.cross]) w0 w0 [eBox bb0 73 [.slice ad_0_0 p0.loops.length cp_0_0, .slice ad_0_1 p0.rows.length cp_0_1, .slice ad_0_2 p0.bound.length cp_0_2, .slice ad_0_3 p0.cross.length cp_0_3, iv p0.next], eRow r_api_Loop 48 (.slice ad_0_0 p0.loops.length cp_0_0) p0.loops, eRow (rI .i64) 3 (.slice ad_0_1 p0.rows.length cp_0_1) p0.rows, eRow (rI .i64) 3 (.slice ad_0_2 p0.bound.length cp_0_2) p0.bound, eRow r_A2_Int 49 (.slice ad_0_3 p0.cross.length cp_0_3) p0.cross] [fRep r_api_Stitch (v3) p3]) :
 Calls Try.prog 44 #[.pointer (some ⟨bb0, 0, none⟩), iv p1, iv p2, v3] w0 (Ret (X := Option Addr × Nat × Option Addr × Nat × Option Addr × Nat × Option Addr × Nat) E (keysL [eBox bb0 73 [.slice ad_0_0 p0.loops.length cp_0_0, .slice ad_0_1 p0.rows.length cp_0_1, .slice ad_0_2 p0.bound.length cp_0_2, .slice ad_0_3 p0.cross.length cp_0_3, iv p0.next], eRow r_api_Loop 48 (.slice ad_0_0 p0.loops.length cp_0_0) p0.loops, eRow (rI .i64) 3 (.slice ad_0_1 p0.rows.length cp_0_1) p0.rows, eRow (rI .i64) 3 (.slice ad_0_2 p0.bound.length cp_0_2) p0.bound, eRow r_A2_Int 49 (.slice ad_0_3 p0.cross.length cp_0_3) p0.cross]) w0 (fun _ => .tuple #[]) (fun x => [eBox bb0 73 [.slice x.1 r.loops.length x.2.1, .slice x.2.2.1 r.rows.length x.2.2.2.1, .slice x.2.2.2.2.1 r.bound.length x.2.2.2.2.2.1, .slice x.2.2.2.2.2.2.1 r.cross.length x.2.2.2.2.2.2.2, iv r.next], eRow r_api_Loop 48 (.slice x.1 r.loops.length x.2.1) r.loops, eRow (rI .i64) 3 (.slice x.2.2.1 r.rows.length x.2.2.2.1) r.rows, eRow (rI .i64) 3 (.slice x.2.2.2.2.1 r.bound.length x.2.2.2.2.2.1) r.bound, eRow r_A2_Int 49 (.slice x.2.2.2.2.2.2.1 r.cross.length x.2.2.2.2.2.2.2) r.cross]) (fun _ => [])) := by
 unfold F_loops_piece_work_s1 at h
 obtain rfl : v3 = .agg #[.int .u8 p3.Kind, .bool p3.Purl, iv p3.A, iv p3.B] := S.know (i := 0) (e := fRep r_api_Stitch (v3) p3) rfl
 refine sEnter (args := [.pointer (some ⟨bb0, 0, none⟩), iv p1, iv p2, .agg #[.int .u8 p3.Kind, .bool p3.Purl, iv p3.A, iv p3.B]]) 108 Try.func44 rfl rfl (by simp) S (fun a S => ?_)
 refine sSeq (fun K1 dm => sRegion (sBox (v := .agg #[.int .u8 p3.Kind, .bool p3.Purl, iv p3.A, iv p3.B]) S (wN rfl) rfl rfl [.int .u8 p3.Kind, .bool p3.Purl, iv p3.A, iv p3.B] rfl rfl (lb rfl) fun a b2 w S => ?_))
 refine lT (dm _ _ (sSeq (fun K3 dn => sRegion (sLoadN (p := b2) (off := 0) (T := 61) (vs := [.int .u8 p3.Kind, .bool p3.Purl, iv p3.A, iv p3.B]) 0 [.int .u8 p3.Kind, .bool p3.Purl, iv p3.A, iv p3.B] S (wN rfl) rfl rfl rfl rfl rfl rfl rfl (lb rfl) fun a S => ?_))))
 refine sLit (r := r_api_Stitch) (T := 61) (xs := [p3]) [(0, .agg #[.int .u8 p3.Kind, .bool p3.Purl, iv p3.A, iv p3.B])] 1 [.agg #[.int .u8 p3.Kind, .bool p3.Purl, iv p3.A, iv p3.B]] [.int .u8 p3.Kind, .bool p3.Purl, iv p3.A, iv p3.B] (.agg #[.int .u8 0, .bool false, iv 0, iv 0]) 24 S (wN rfl) rfl rfl Try.underlying62 rfl (by decide) (by decide) (by kernel_rfl) rfl (fun E1 w1 hE => All.cons (r_api_Stitch.mono hE (S.mem.know (i := 0) (e := fRep r_api_Stitch (.agg #[.int .u8 p3.Kind, .bool p3.Purl, iv p3.A, iv p3.B]) p3) rfl)) (All.nil _ _ _)) rfl rfl (lb rfl) fun a w cB cC S => ?_
 obtain ⟨r6, dp, h⟩ := bS h
 have S1 := S.mem
 have S1 := S1.shutR (r := r_api_Stitch) (T := 61) (v := .slice cB [p3].length cC) (xs := [p3]) 0 rfl
 refine sCq [.slice cB [p3].length cC] (.tuple #[iv r6.1, iv r6.2]) S callee53 (S1.quiet [0] rfl) (fun E1 w1 S1 => c_stitch_Uses E1 w1 [p3] (.slice cB [p3].length cC) r6 dp S1) fun a w S => ?_
 refine sM S fun a S => ?_
 refine sExtract (vs := [iv r6.1, iv r6.2]) (iv r6.1) S (wN rfl) rfl rfl rfl rfl (lb rfl) fun a S => ?_
 refine sExtract (vs := [iv r6.1, iv r6.2]) (iv r6.2) S (wN rfl) rfl rfl rfl rfl (lb rfl) fun a S => ?_
 refine sN S fun a S => ?_
 refine sN S fun a S => ?_
 refine lT (dn _ _ (sSeq (fun K8 dr => sRegion (sM S fun a S => ?_))))
 refine sM S fun a S => ?_
 obtain ⟨r9, cD, h⟩ := bS h
 refine sCall (X := Option Addr × Nat × Option Addr × Nat × Option Addr × Nat × Option Addr × Nat × Option Addr × Nat) (f := 57) (vs := [.pointer (some ⟨bb0, 0, none⟩), iv r6.1]) (val := fun x => .slice x.1 r9.1.length x.2.1) (B' := fun x => [eRow (rI .i64) 3 (.slice x.1 r9.1.length x.2.1) r9.1, eBox bb0 73 [.slice x.2.2.1 r9.2.loops.length x.2.2.2.1, .slice x.2.2.2.2.1 r9.2.rows.length x.2.2.2.2.2.1, .slice x.2.2.2.2.2.2.1 r9.2.bound.length x.2.2.2.2.2.2.2.1, .slice x.2.2.2.2.2.2.2.2.1 r9.2.cross.length x.2.2.2.2.2.2.2.2.2, iv r9.2.next], eRow r_api_Loop 48 (.slice x.2.2.1 r9.2.loops.length x.2.2.2.1) r9.2.loops, eRow (rI .i64) 3 (.slice x.2.2.2.2.1 r9.2.rows.length x.2.2.2.2.2.1) r9.2.rows, eRow (rI .i64) 3 (.slice x.2.2.2.2.2.2.1 r9.2.bound.length x.2.2.2.2.2.2.2.1) r9.2.bound, eRow r_A2_Int 49 (.slice x.2.2.2.2.2.2.2.2.1 r9.2.cross.length x.2.2.2.2.2.2.2.2.2) r9.2.cross]) (D' := fun _ => []) [eBox bb0 73 [.slice ad_0_0 p0.loops.length cp_0_0, .slice ad_0_1 p0.rows.length cp_0_1, .slice ad_0_2 p0.bound.length cp_0_2, .slice ad_0_3 p0.cross.length cp_0_3, iv p0.next], eRow r_api_Loop 48 (.slice ad_0_0 p0.loops.length cp_0_0) p0.loops, eRow (rI .i64) 3 (.slice ad_0_1 p0.rows.length cp_0_1) p0.rows, eRow (rI .i64) 3 (.slice ad_0_2 p0.bound.length cp_0_2) p0.bound, eRow r_A2_Int 49 (.slice ad_0_3 p0.cross.length cp_0_3) p0.cross] [eRow r_api_Stitch 61 (.slice cB [p3].length cC) [p3], eBox b2 61 [.int .u8 p3.Kind, .bool p3.Purl, iv p3.A, iv p3.B]] [] [2, 3, 4, 5, 6, 0, 1] [] S (wN rfl) rfl callee57 rfl (by decide) rfl rfl (fun E1 w1 S1 => c_loops_piece_take_s3 E1 w1 p0 bb0 ad_0_0 cp_0_0 ad_0_1 cp_0_1 ad_0_2 cp_0_2 ad_0_3 cp_0_3 r6.1 r9 cD S1) rfl (lb rfl) fun xx a w S => ?_
 obtain ⟨a0, a8, a9, aa, ae, af, ab, ac, ag, ah⟩ := xx
 dsimp only at S
 refine sN S fun a S => ?_
 refine lT (dr _ _ (sSeq (fun dG cE => sRegion (sM S fun a S => ?_))))
 refine sM S fun a S => ?_
 refine sField (b := b2) (off := 0) 1 1 S (wN rfl) rfl rfl rfl rfl rfl (lb rfl) fun a S => ?_
 refine sLoad1 7 (.bool p3.Purl) S (wN rfl) rfl rfl rfl rfl rfl rfl (lb rfl) fun a S => ?_
 refine sBuild [(0, iv p1), (1, iv p2), (3, .bool p3.Purl)] [iv p1, iv p2, .slice none 0 0, .bool p3.Purl] S (wN rfl) rfl rfl rfl rfl (lb rfl) fun a S => ?_
 refine sAlloc (.agg #[iv 0, iv 0, .slice none 0 0, .bool false]) S (wN rfl) rfl rfl [iv 0, iv 0, .slice none 0 0, .bool false] rfl rfl (lb rfl) fun a al w S => ?_
 refine sStore (p := al) (off := 0) (T := 48) (vs := [iv 0, iv 0, .slice none 0 0, .bool false]) (v := .agg #[iv p1, iv p2, .slice none 0 0, .bool p3.Purl]) 0 [iv p1, iv p2, .slice none 0 0, .bool p3.Purl] S (wN rfl) rfl rfl rfl rfl rfl rfl rfl (by simp) rfl fun a w S => ?_
 refine lT (cE _ _ (sSeq (fun dH cF => sRegion (sField (b := b2) (off := 0) 0 0 S (wN rfl) rfl rfl rfl rfl rfl (lb rfl) fun a S => ?_))))
 refine sLoad1 8 (.int .u8 p3.Kind) S (wN rfl) rfl rfl rfl rfl rfl rfl (lb rfl) fun a S => ?_
 refine lT (cF _ _ (wp_block ?_))
 obtain ⟨dt, h, du⟩ := bS h
 refine sCut (fun a w => ∃ cG, cG = dt ∧ St [] E (keysL [eBox bb0 73 [.slice ad_0_0 p0.loops.length cp_0_0, .slice ad_0_1 p0.rows.length cp_0_1, .slice ad_0_2 p0.bound.length cp_0_2, .slice ad_0_3 p0.cross.length cp_0_3, iv p0.next], eRow r_api_Loop 48 (.slice ad_0_0 p0.loops.length cp_0_0) p0.loops, eRow (rI .i64) 3 (.slice ad_0_1 p0.rows.length cp_0_1) p0.rows, eRow (rI .i64) 3 (.slice ad_0_2 p0.bound.length cp_0_2) p0.bound, eRow r_A2_Int 49 (.slice ad_0_3 p0.cross.length cp_0_3) p0.cross]) w0 108 a w [(0, .pointer (some ⟨bb0, 0, none⟩)), (7, .pointer (some ⟨b2, 0, none⟩)), (10, .slice a0 r9.1.length a8), (11, .pointer (some ⟨al, 0, none⟩)), (27, .int .u8 p3.Kind), (33, .bool cG)] [eBox bb0 73 [.slice a9 r9.2.loops.length aa, .slice ae r9.2.rows.length af, .slice ab r9.2.bound.length ac, .slice ag r9.2.cross.length ah, iv r9.2.next], eBox b2 61 [.int .u8 p3.Kind, .bool p3.Purl, iv p3.A, iv p3.B], eBox al 48 [iv p1, iv p2, .slice none 0 0, .bool p3.Purl], eRow (rI .i64) 3 (.slice a0 r9.1.length a8) r9.1, eRow r_api_Loop 48 (.slice a9 r9.2.loops.length aa) r9.2.loops, eRow (rI .i64) 3 (.slice ae r9.2.rows.length af) r9.2.rows, eRow (rI .i64) 3 (.slice ab r9.2.bound.length ac) r9.2.bound, eRow r_A2_Int 49 (.slice ag r9.2.cross.length ah) r9.2.cross] []) ?_ (fun a w hI => ?_)
 ·refine sSeq (fun dI cH => sRegion (sBin _ S (wN rfl) rfl rfl rfl (bEq _ _ _ _ .u8 p3.Kind 2) rfl (lb rfl) fun a S => ?_))
  refine sN S fun a S => ?_
  refine lT (cH _ _ ?_)
  rcases iS h with ⟨bo, h⟩ | ⟨bo, h⟩
  ·refine sCondT S rfl bo ?_
   exact wp_skip (leafT (⟨p3.Kind == 2, Option.some.inj h, S.fix [2, 8, 0, 1, 3, 4, 5, 6] [] (by decide) rfl rfl rfl⟩))
  refine sCondF S rfl bo ?_
  refine sRegion (sBin _ S (wN rfl) rfl rfl rfl (bEq _ _ _ _ .u8 p3.Kind 9) rfl (lb rfl) fun a S => ?_)
  refine sN S fun a S => ?_
  exact lT (⟨p3.Kind == 9, Option.some.inj h, S.fix [2, 8, 0, 1, 3, 4, 5, 6] [] (by decide) rfl rfl rfl⟩)
 obtain ⟨cG, rfl, S⟩ := hI
 have h := du
 try dsimp only at h
 rcases iS h with ⟨bp, h⟩ | ⟨bp, h⟩
 ·refine sCondT S rfl bp ?_
  obtain ⟨bj, cI, h⟩ := bS h
  obtain ⟨aO, cJ, h⟩ := bS h
  refine sDraw (nf := [5, 6]) (W := [(0, 36, .pointer (some ⟨bb0, 0, none⟩)), (1, 37, .agg #[iv p1, iv p2, .slice none 0 0, .bool p3.Purl]), (2, 38, .pointer (some ⟨b2, 2, none⟩)), (3, 39, iv p3.A), (4, 40, iv (if (1 : Int) < p3.A then p3.A else 1))]) rfl S ?_
  refine node_by (A := [[], [], [], [2], [2, 3], [2, 3, 4], [0, 1, 2, 3, 4, 5]]) (nf := [5, 6]) (Y := []) (W := [(0, 36, .pointer (some ⟨bb0, 0, none⟩)), (1, 37, .agg #[iv p1, iv p2, .slice none 0 0, .bool p3.Purl]), (2, 38, .pointer (some ⟨b2, 2, none⟩)), (3, 39, iv p3.A), (4, 40, iv (if (1 : Int) < p3.A then p3.A else 1))]) 7 (by kernel_rfl) (by kernel_rfl) (by kernel_rfl) (by kernel_rfl) (by kernel_rfl) [0, 1, 2, 3, 4] (by kernel_rfl) (by decide) (by decide) (fF ?_ (fF ?_ (fF ?_ (fF ?_ (fF ?_ (fN ?_ (aB 6 0 5 (by decide) (trivial)))))))) [] (fun q hq => by cases hq) (fun hY => absurd (hY 5 (by decide)) (by decide))
  ·exact fM 0 none rfl rfl rfl rfl (.inl rfl) rfl rfl rfl
  ·refine fJ [(11, _)] 1 [none] fun G a w S => ?_
   exact sLoadN (p := al) (off := 0) (T := 48) (vs := [iv p1, iv p2, .slice none 0 0, .bool p3.Purl]) 2 [iv p1, iv p2, .slice none 0 0, .bool p3.Purl] S (wN rfl) rfl rfl rfl rfl rfl rfl rfl (lb rfl) fun a S => leafL ⟨rfl, S⟩
  ·refine fJ [(7, _)] 2 [none] fun G a w S => ?_
   exact sField (b := b2) (off := 0) 2 2 S (wN rfl) rfl rfl rfl rfl rfl (lb rfl) fun a S => leafL ⟨rfl, S⟩
  ·refine fJ [(38, _)] 3 [some 2] fun G a w S => ?_
   exact sLoad1 1 (iv p3.A) S (wN rfl) rfl rfl rfl rfl rfl rfl (lb rfl) fun a S => leafL ⟨rfl, S⟩
  ·refine fJ [(39, _)] 4 [some 3] fun G a w S => ?_
   exact sMax2 (p := 1) (q := p3.A) S (wN rfl) rfl rfl rfl rfl (lb rfl) fun a S => leafL ⟨rfl, S⟩
  refine ⟨_, [(40, iv (if (1 : Int) < p3.A then p3.A else 1))], rfl, (srcs_of [some 4] rfl rfl rfl), fun G a w S => ?_⟩
  refine sMake (r := (rL (rI .i64))) (m := if (1 : Int) < p3.A then p3.A else 1) (xs := bj) (.slice none 0 0) ([] : (List Int)) 24 S (wN rfl) rfl Try.underlying69 rfl rfl (by decide) (fun E w => rL_nil _ E w) rfl rfl cI rfl (lb rfl) fun a w aV aW S => ?_
  refine leafL ⟨rfl, _, _, .inl ⟨41, (.slice aV bj.length aW), [], rfl, S, hz_of rfl, ?_⟩⟩
  refine node_by (A := [[], [], [], [2], [2, 3], [2, 3, 4], [0, 1, 2, 3, 4, 5]]) (nf := [5, 6]) (Y := [5]) 7 (by kernel_rfl) (by kernel_rfl) (by kernel_rfl) (by kernel_rfl) (by kernel_rfl) [5, 0, 1, 2, 3, 4] (by kernel_rfl) (by decide) (by decide) (fF ?_ (fF ?_ (fD 5 (fD 5 (fD 5 (fY (fN ?_ (trivial)))))))) [] (fun q hq => by cases hq) (fun hY => absurd (hY 6 (by decide)) (by decide))
  ·exact fM 1 none rfl rfl rfl rfl (.inl rfl) rfl rfl rfl
  ·refine fJ [(11, _)] 2 [none] fun G a w S => ?_
   exact sLoadN (p := al) (off := 0) (T := 48) (vs := [iv p1, iv p2, .slice none 0 0, .bool p3.Purl]) 3 [iv p1, iv p2, .slice none 0 0, .bool p3.Purl] S (wN rfl) rfl rfl rfl rfl rfl rfl rfl (lb rfl) fun a S => leafL ⟨rfl, S⟩
  refine ⟨_, [(36, .pointer (some ⟨bb0, 0, none⟩)), (37, .agg #[iv p1, iv p2, .slice none 0 0, .bool p3.Purl]), (41, .slice aV bj.length aW)], rfl, (srcs_of [some 1, some 2, some 0] rfl rfl rfl), fun G a w S => ?_⟩
  have S := S.learn (fRep (rL (rI .i64)) (.slice none 0 0) ([] : (List Int))) (rL_nil _ _ _)
  have S := S.learn (fRep r_api_Loop (.agg #[iv p1, iv p2, .slice none 0 0, .bool p3.Purl]) (api_Loop.mk p1 p2 ([] : (List Int)) p3.Purl)) ⟨_, rfl, S.mem.know (i := 0) (e := fRep (rL (rI .i64)) (.slice none 0 0) ([] : (List Int))) rfl⟩
  have S := S.shutR (r := (rL (rI .i64))) (T := 32) (v := .slice aV bj.length aW) (xs := bj) 0 rfl
  refine sCall (X := Option Addr × Nat × Option Addr × Nat × Option Addr × Nat × Option Addr × Nat) (f := 58) (vs := [.pointer (some ⟨bb0, 0, none⟩), .agg #[iv p1, iv p2, .slice none 0 0, .bool p3.Purl], .slice aV bj.length aW]) (val := fun _ => .tuple #[]) (B' := fun x => [eBox bb0 73 [.slice x.1 aO.loops.length x.2.1, .slice x.2.2.1 aO.rows.length x.2.2.2.1, .slice x.2.2.2.2.1 aO.bound.length x.2.2.2.2.2.1, .slice x.2.2.2.2.2.2.1 aO.cross.length x.2.2.2.2.2.2.2, iv aO.next], eRow r_api_Loop 48 (.slice x.1 aO.loops.length x.2.1) aO.loops, eRow (rI .i64) 3 (.slice x.2.2.1 aO.rows.length x.2.2.2.1) aO.rows, eRow (rI .i64) 3 (.slice x.2.2.2.2.1 aO.bound.length x.2.2.2.2.2.1) aO.bound, eRow r_A2_Int 49 (.slice x.2.2.2.2.2.2.1 aO.cross.length x.2.2.2.2.2.2.2) aO.cross]) (D' := fun _ => []) [eBox bb0 73 [.slice a9 r9.2.loops.length aa, .slice ae r9.2.rows.length af, .slice ab r9.2.bound.length ac, .slice ag r9.2.cross.length ah, iv r9.2.next], eRow r_api_Loop 48 (.slice a9 r9.2.loops.length aa) r9.2.loops, eRow (rI .i64) 3 (.slice ae r9.2.rows.length af) r9.2.rows, eRow (rI .i64) 3 (.slice ab r9.2.bound.length ac) r9.2.bound, eRow r_A2_Int 49 (.slice ag r9.2.cross.length ah) r9.2.cross] [eBox b2 61 [.int .u8 p3.Kind, .bool p3.Purl, iv p3.A, iv p3.B], eBox al 48 [iv p1, iv p2, .slice none 0 0, .bool p3.Purl], eRow (rI .i64) 3 (.slice a0 r9.1.length a8) r9.1] [fRep r_api_Loop (.agg #[iv p1, iv p2, .slice none 0 0, .bool p3.Purl]) (api_Loop.mk p1 p2 ([] : (List Int)) p3.Purl), fRep (rL (rL (rI .i64))) (.slice aV bj.length aW) bj] [0, 4, 5, 6, 7, 1, 2, 3] [1, 0] S (wN rfl) rfl callee58 rfl (by decide) rfl rfl (fun E1 w1 S1 => c_loops_piece_add_s1 E1 w1 r9.2 bb0 a9 aa ae af ab ac ag ah (api_Loop.mk p1 p2 ([] : (List Int)) p3.Purl) (.agg #[iv p1, iv p2, .slice none 0 0, .bool p3.Purl]) bj (.slice aV bj.length aW) aO cJ S1) rfl (lb rfl) fun xx a w S => ?_
  obtain ⟨cK, cL, cM, cN, cO, cP, cQ, cR⟩ := xx
  dsimp only at S
  refine leafL ⟨rfl, _, _, .inl ⟨42, (.tuple #[]), [], rfl, S, hz_of rfl, ?_⟩⟩
  refine node_by (A := [[], [], [], [2], [2, 3], [2, 3, 4], [0, 1, 2, 3, 4, 5]]) (nf := [5, 6]) (Y := [6, 5]) 7 (by kernel_rfl) (by kernel_rfl) (by kernel_rfl) (by kernel_rfl) (by kernel_rfl) [6, 5, 0, 1, 2, 3, 4] (by kernel_rfl) (by decide) (by decide) (fD 6 (fD 6 (fD 6 (fD 6 (fD 6 (fY (fY (trivial)))))))) [] (fin_of [] rfl (by kernel_rfl) (by kernel_rfl)) (fun _ a w S => ?_)
  obtain rfl := tS h
  exact leafB (sEnd (.tuple #[]) S (rsl0 rfl ) ⟨(cK, cL, cM, cN, cO, cP, cQ, cR), rfl, S.mem.sel [0, 1, 2, 3, 4] [] (by decide) rfl rfl⟩)
 refine sCondF S rfl bp ?_
 refine sSeq (fun dJ cT => sRegion (sBin _ S (wN rfl) rfl rfl rfl (bEq _ _ _ _ .u8 p3.Kind 1) rfl (lb rfl) fun a S => ?_))
 refine sN S fun a S => ?_
 refine lT (cT _ _ ?_)
 rcases iS h with ⟨bq, h⟩ | ⟨bq, h⟩
 ·refine sCondT S rfl bq ?_
  refine sRegion (sM S fun a S => ?_)
  refine sLoadN (p := al) (off := 0) (T := 48) (vs := [iv p1, iv p2, .slice none 0 0, .bool p3.Purl]) 2 [iv p1, iv p2, .slice none 0 0, .bool p3.Purl] S (wN rfl) rfl rfl rfl rfl rfl rfl rfl (lb rfl) fun a S => ?_
  refine sM S fun a S => ?_
  have S := S.shutR (r := (rI .i64)) (T := 3) (v := .slice a0 r9.1.length a8) (xs := r9.1) 3 rfl
  refine sLit (r := (rL (rI .i64))) (T := 32) (xs := [r9.1]) [(0, .slice a0 r9.1.length a8)] 1 [.slice a0 r9.1.length a8] [.slice a0 r9.1.length a8] (.slice none 0 0) 24 S (wN rfl) rfl rfl Try.underlying69 rfl (by decide) (by decide) (by kernel_rfl) rfl (fun E1 w1 hE => All.cons ((rL (rI .i64)).mono hE (S.mem.know (i := 0) (e := fRep (rL (rI .i64)) (.slice a0 r9.1.length a8) r9.1) rfl)) (All.nil _ _ _)) rfl rfl (lb rfl) fun a w bk bl S => ?_
  obtain ⟨aP, cU, h⟩ := bS h
  have S := S.learn (fRep (rL (rI .i64)) (.slice none 0 0) ([] : (List Int))) (rL_nil _ _ _)
  have S := S.learn (fRep r_api_Loop (.agg #[iv p1, iv p2, .slice none 0 0, .bool p3.Purl]) (api_Loop.mk p1 p2 ([] : (List Int)) p3.Purl)) ⟨_, rfl, S.mem.know (i := 0) (e := fRep (rL (rI .i64)) (.slice none 0 0) ([] : (List Int))) rfl⟩
  have S := S.shutR (r := (rL (rI .i64))) (T := 32) (v := .slice bk [r9.1].length bl) (xs := [r9.1]) 0 rfl
  refine sCall (X := Option Addr × Nat × Option Addr × Nat × Option Addr × Nat × Option Addr × Nat) (f := 58) (vs := [.pointer (some ⟨bb0, 0, none⟩), .agg #[iv p1, iv p2, .slice none 0 0, .bool p3.Purl], .slice bk [r9.1].length bl]) (val := fun _ => .tuple #[]) (B' := fun x => [eBox bb0 73 [.slice x.1 aP.loops.length x.2.1, .slice x.2.2.1 aP.rows.length x.2.2.2.1, .slice x.2.2.2.2.1 aP.bound.length x.2.2.2.2.2.1, .slice x.2.2.2.2.2.2.1 aP.cross.length x.2.2.2.2.2.2.2, iv aP.next], eRow r_api_Loop 48 (.slice x.1 aP.loops.length x.2.1) aP.loops, eRow (rI .i64) 3 (.slice x.2.2.1 aP.rows.length x.2.2.2.1) aP.rows, eRow (rI .i64) 3 (.slice x.2.2.2.2.1 aP.bound.length x.2.2.2.2.2.1) aP.bound, eRow r_A2_Int 49 (.slice x.2.2.2.2.2.2.1 aP.cross.length x.2.2.2.2.2.2.2) aP.cross]) (D' := fun _ => []) [eBox bb0 73 [.slice a9 r9.2.loops.length aa, .slice ae r9.2.rows.length af, .slice ab r9.2.bound.length ac, .slice ag r9.2.cross.length ah, iv r9.2.next], eRow r_api_Loop 48 (.slice a9 r9.2.loops.length aa) r9.2.loops, eRow (rI .i64) 3 (.slice ae r9.2.rows.length af) r9.2.rows, eRow (rI .i64) 3 (.slice ab r9.2.bound.length ac) r9.2.bound, eRow r_A2_Int 49 (.slice ag r9.2.cross.length ah) r9.2.cross] [eBox b2 61 [.int .u8 p3.Kind, .bool p3.Purl, iv p3.A, iv p3.B], eBox al 48 [iv p1, iv p2, .slice none 0 0, .bool p3.Purl]] [fRep r_api_Loop (.agg #[iv p1, iv p2, .slice none 0 0, .bool p3.Purl]) (api_Loop.mk p1 p2 ([] : (List Int)) p3.Purl), fRep (rL (rL (rI .i64))) (.slice bk [r9.1].length bl) [r9.1]] [0, 3, 4, 5, 6, 1, 2] [1, 0] S (wN rfl) rfl callee58 rfl (by decide) rfl rfl (fun E1 w1 S1 => c_loops_piece_add_s1 E1 w1 r9.2 bb0 a9 aa ae af ab ac ag ah (api_Loop.mk p1 p2 ([] : (List Int)) p3.Purl) (.agg #[iv p1, iv p2, .slice none 0 0, .bool p3.Purl]) [r9.1] (.slice bk [r9.1].length bl) aP cU S1) rfl (lb rfl) fun xx a w S => ?_
  obtain ⟨cV, cW, cX, cY, cZ, d1, d3, d4⟩ := xx
  dsimp only at S
  obtain rfl := tS h
  exact leafL (leafB (sEnd (.tuple #[]) S (rsl0 rfl ) ⟨(cV, cW, cX, cY, cZ, d1, d3, d4), rfl, S.mem.sel [0, 1, 2, 3, 4] [] (by decide) rfl rfl⟩))
 refine sCondF S rfl bq ?_
 refine sSeq (fun dK d5 => sRegion (sBin _ S (wN rfl) rfl rfl rfl (bEq _ _ _ _ .u8 p3.Kind 8) rfl (lb rfl) fun a S => ?_))
 refine sN S fun a S => ?_
 refine lT (d5 _ _ ?_)
 rcases iS h with ⟨br, h⟩ | ⟨br, h⟩
 ·refine sCondT S rfl br ?_
  refine sSeq (fun dL d6 => ?_)
  obtain ⟨bt, bu, h⟩ := bS h
  obtain ⟨aM, bv, h⟩ := bS h
  obtain ⟨dj, d7, d8⟩ := pIdxR (P := Try.prog) (r := (rI .i64)) (T := 3) (v := .slice a0 r9.1.length a8) (xs := r9.1) (j := 0) 32 3 3 S Try.underlying32 rfl rfl bu
  obtain ⟨dk, d9, da⟩ := pIdxR (P := Try.prog) (r := r_api_Loop) (T := 48) (v := .slice a9 r9.2.loops.length aa) (xs := r9.2.loops) (j := bt) 26 48 4 S Try.underlying26 rfl rfl bv
  obtain ⟨dl, db, dc⟩ := pFldR (P := Try.prog) 48 3 3 da rfl
  refine sDraw (nf := [11]) (W := [(0, 52, .pointer (some ⟨bb0, 0, none⟩)), (1, 53, .pointer (some ⟨bb0, 0, none⟩)), (2, 54, .pointer (some ⟨bb0, 0, none⟩)), (3, 55, .slice a9 r9.2.loops.length aa), (4, 56, .slice a0 r9.1.length a8), (5, 57, dj), (6, 58, iv bt), (7, 59, dk), (8, 60, dl), (9, 61, .bool aM.Purl), (10, 62, .pointer (some ⟨al, 3, none⟩))]) rfl S ?_
  refine node_by (A := anc_loops_piece_work_s1_0) 12 (by kernel_rfl) (by kernel_rfl) (by kernel_rfl) (by kernel_rfl) (by kernel_rfl) [0, 1, 2, 3, 4, 5, 6, 7, 8, 9, 10] (by kernel_rfl) (by decide) (by decide) (fF ?_ (fF ?_ (fF ?_ (fF ?_ (fF ?_ (fF ?_ (fF ?_ (fF ?_ (fF ?_ (fF ?_ (fF ?_ (fN ?_ (trivial))))))))))))) [] (fun q hq => by cases hq) (fun hY => absurd (hY 11 (by decide)) (by decide))
  ·exact fM 0 none rfl rfl rfl rfl (.inl rfl) rfl rfl rfl
  ·refine fJ [(52, _)] 1 [some 0] fun G a w S => ?_
   exact nilCheck_ok (q := ⟨bb0, 0, none⟩) S (wN rfl) rfl rfl rfl (lb rfl) fun a S => leafL ⟨rfl, S⟩
  ·refine fJ [(53, _)] 2 [some 1] fun G a w S => ?_
   exact sField (b := bb0) (off := 0) 0 0 S (wN rfl) rfl rfl rfl rfl rfl (lb rfl) fun a S => leafL ⟨rfl, S⟩
  ·refine fJ [(54, _)] 3 [some 2] fun G a w S => ?_
   exact sLoad1 0 (.slice a9 r9.2.loops.length aa) S (wN rfl) rfl rfl rfl rfl rfl rfl (lb rfl) fun a S => leafL ⟨rfl, S⟩
  ·exact fM 4 none rfl rfl rfl rfl (.inl rfl) rfl rfl rfl
  ·refine fJ [(56, _)] 5 [some 4] fun G a w S => ?_
   exact sIdxV S (wN rfl) rfl rfl rfl d7 rfl (lb rfl) fun a S => leafL ⟨rfl, S⟩
  ·refine fJ [(57, _)] 6 [some 5] fun G a w S => ?_
   exact sLoadR (r := (rI .i64)) (T := 3) (xs := r9.1) (x := bt) (v := .slice a0 r9.1.length a8) (vq := dj) (j := 0) 3 (iv bt) S d8 (wN rfl) rfl rfl rfl bu (fun _ _ _ h => h) (scal_I _) rfl rfl (lb rfl) fun a S => leafL ⟨rfl, S⟩
  ·refine fJ [(55, _), (58, _)] 7 [some 3, some 6] fun G a w S => ?_
   exact sIdxV S (wN rfl) rfl rfl rfl d9 rfl (lb rfl) fun a S => leafL ⟨rfl, S⟩
  ·refine fJ [(59, _)] 8 [some 7] fun G a w S => ?_
   exact sFldV (q := dk) S (wN rfl) rfl rfl db rfl (lb rfl) fun a S => leafL ⟨rfl, S⟩
  ·refine fJ [(60, _)] 9 [some 8] fun G a w S => ?_
   exact sLoadF (r := r_api_Loop) (s := rB) (g := (·.Purl)) (T := 48) (xs := r9.2.loops) (x := aM) (v := .slice a9 r9.2.loops.length aa) (vq := dl) (j := bt) 4 3 (.bool aM.Purl) S dc (wN rfl) rfl rfl rfl bv comp_api_Loop_Purl (fun _ _ _ h => h) scal_B rfl rfl (lb rfl) fun a S => leafL ⟨rfl, S⟩
  ·refine fJ [(11, _)] 10 [none] fun G a w S => ?_
   exact sField (b := al) (off := 0) 3 3 S (wN rfl) rfl rfl rfl rfl rfl (lb rfl) fun a S => leafL ⟨rfl, S⟩
  refine ⟨_, [(61, .bool aM.Purl), (62, .pointer (some ⟨al, 3, none⟩))], rfl, (srcs_of [some 9, some 10] rfl rfl rfl), fun G a w S => ?_⟩
  refine sStore (p := al) (off := 3) (T := 48) (vs := [iv p1, iv p2, .slice none 0 0, .bool p3.Purl]) (v := .bool aM.Purl) 2 [.bool aM.Purl] S (wN rfl) rfl rfl rfl rfl rfl rfl rfl (by simp) rfl fun a w S => ?_
  refine leafL ⟨rfl, _, _, .inr ⟨[], rfl, S, hz_of rfl, ?_⟩⟩
  refine node_by (A := anc_loops_piece_work_s1_0) 12 (by kernel_rfl) (by kernel_rfl) (by kernel_rfl) (by kernel_rfl) (by kernel_rfl) [0, 1, 2, 3, 4, 5, 6, 7, 8, 9, 10] (by kernel_rfl) (by decide) (by decide) (fD 11 (fD 11 (fD 11 (fD 11 (fD 11 (fD 11 (fD 11 (fD 11 (fD 11 (fD 11 (fD 11 (fY (trivial))))))))))))) [(0, .pointer (some ⟨bb0, 0, none⟩)), (10, .slice a0 r9.1.length a8), (11, .pointer (some ⟨al, 0, none⟩))] (fin_of [none, none, none] rfl (by kernel_rfl) (by kernel_rfl)) (fun _ a w S => ?_)
  refine leafT (d6 _ _ ?_)
  refine sRegion (sM S fun a S => ?_)
  refine sLoadN (p := al) (off := 0) (T := 48) (vs := [iv p1, iv p2, .slice none 0 0, .bool aM.Purl]) 0 [iv p1, iv p2, .slice none 0 0, .bool aM.Purl] S (wN rfl) rfl rfl rfl rfl rfl rfl rfl (lb rfl) fun a S => ?_
  refine sM S fun a S => ?_
  have S := S.shutR (r := (rI .i64)) (T := 3) (v := .slice a0 r9.1.length a8) (xs := r9.1) 3 rfl
  refine sLit (r := (rL (rI .i64))) (T := 32) (xs := [r9.1]) [(0, .slice a0 r9.1.length a8)] 1 [.slice a0 r9.1.length a8] [.slice a0 r9.1.length a8] (.slice none 0 0) 24 S (wN rfl) rfl rfl Try.underlying69 rfl (by decide) (by decide) (by kernel_rfl) rfl (fun E1 w1 hE => All.cons ((rL (rI .i64)).mono hE (S.mem.know (i := 0) (e := fRep (rL (rI .i64)) (.slice a0 r9.1.length a8) r9.1) rfl)) (All.nil _ _ _)) rfl rfl (lb rfl) fun a w bm bn S => ?_
  obtain ⟨aQ, de, h⟩ := bS h
  have S := S.learn (fRep (rL (rI .i64)) (.slice none 0 0) ([] : (List Int))) (rL_nil _ _ _)
  have S := S.learn (fRep r_api_Loop (.agg #[iv p1, iv p2, .slice none 0 0, .bool aM.Purl]) (api_Loop.mk p1 p2 ([] : (List Int)) aM.Purl)) ⟨_, rfl, S.mem.know (i := 0) (e := fRep (rL (rI .i64)) (.slice none 0 0) ([] : (List Int))) rfl⟩
  have S := S.shutR (r := (rL (rI .i64))) (T := 32) (v := .slice bm [r9.1].length bn) (xs := [r9.1]) 0 rfl
  refine sCall (X := Option Addr × Nat × Option Addr × Nat × Option Addr × Nat × Option Addr × Nat) (f := 58) (vs := [.pointer (some ⟨bb0, 0, none⟩), .agg #[iv p1, iv p2, .slice none 0 0, .bool aM.Purl], .slice bm [r9.1].length bn]) (val := fun _ => .tuple #[]) (B' := fun x => [eBox bb0 73 [.slice x.1 aQ.loops.length x.2.1, .slice x.2.2.1 aQ.rows.length x.2.2.2.1, .slice x.2.2.2.2.1 aQ.bound.length x.2.2.2.2.2.1, .slice x.2.2.2.2.2.2.1 aQ.cross.length x.2.2.2.2.2.2.2, iv aQ.next], eRow r_api_Loop 48 (.slice x.1 aQ.loops.length x.2.1) aQ.loops, eRow (rI .i64) 3 (.slice x.2.2.1 aQ.rows.length x.2.2.2.1) aQ.rows, eRow (rI .i64) 3 (.slice x.2.2.2.2.1 aQ.bound.length x.2.2.2.2.2.1) aQ.bound, eRow r_A2_Int 49 (.slice x.2.2.2.2.2.2.1 aQ.cross.length x.2.2.2.2.2.2.2) aQ.cross]) (D' := fun _ => []) [eBox bb0 73 [.slice a9 r9.2.loops.length aa, .slice ae r9.2.rows.length af, .slice ab r9.2.bound.length ac, .slice ag r9.2.cross.length ah, iv r9.2.next], eRow r_api_Loop 48 (.slice a9 r9.2.loops.length aa) r9.2.loops, eRow (rI .i64) 3 (.slice ae r9.2.rows.length af) r9.2.rows, eRow (rI .i64) 3 (.slice ab r9.2.bound.length ac) r9.2.bound, eRow r_A2_Int 49 (.slice ag r9.2.cross.length ah) r9.2.cross] [eBox al 48 [iv p1, iv p2, .slice none 0 0, .bool aM.Purl], eBox b2 61 [.int .u8 p3.Kind, .bool p3.Purl, iv p3.A, iv p3.B]] [fRep r_api_Loop (.agg #[iv p1, iv p2, .slice none 0 0, .bool aM.Purl]) (api_Loop.mk p1 p2 ([] : (List Int)) aM.Purl), fRep (rL (rL (rI .i64))) (.slice bm [r9.1].length bn) [r9.1]] [1, 3, 4, 5, 6, 0, 2] [1, 0] S (wN rfl) rfl callee58 rfl (by decide) rfl rfl (fun E1 w1 S1 => c_loops_piece_add_s1 E1 w1 r9.2 bb0 a9 aa ae af ab ac ag ah (api_Loop.mk p1 p2 ([] : (List Int)) aM.Purl) (.agg #[iv p1, iv p2, .slice none 0 0, .bool aM.Purl]) [r9.1] (.slice bm [r9.1].length bn) aQ de S1) rfl (lb rfl) fun xx a w S => ?_
  obtain ⟨df, dg, dh, bw, bx, bz, bA, bB⟩ := xx
  dsimp only at S
  obtain rfl := tS h
  exact leafL (leafB (sEnd (.tuple #[]) S (rsl0 rfl ) ⟨(df, dg, dh, bw, bx, bz, bA, bB), rfl, S.mem.sel [0, 1, 2, 3, 4] [] (by decide) rfl rfl⟩))
 refine sCondF S rfl br ?_
 refine sSeq (fun dv bC => sRegion (sBin _ S (wN rfl) rfl rfl rfl (bEq _ _ _ _ .u8 p3.Kind 4) rfl (lb rfl) fun a S => ?_))
 refine sN S fun a S => ?_
 refine lT (bC _ _ ?_)
 rcases iS h with ⟨aZ, h⟩ | ⟨aZ, h⟩
 ·refine sCondT S rfl aZ ?_
  refine sSeq (fun dw bD => sRegion (sM S fun a S => ?_))
  obtain ⟨ak, bE, h⟩ := bS h
  refine sCall (X := Unit) (f := 59) (vs := [.slice a0 r9.1.length a8]) (val := fun _ => .tuple #[]) (B' := fun _ => [eRow (rI .i64) 3 (.slice a0 r9.1.length a8) ak]) (D' := fun _ => []) [eRow (rI .i64) 3 (.slice a0 r9.1.length a8) r9.1] [eBox bb0 73 [.slice a9 r9.2.loops.length aa, .slice ae r9.2.rows.length af, .slice ab r9.2.bound.length ac, .slice ag r9.2.cross.length ah, iv r9.2.next], eBox b2 61 [.int .u8 p3.Kind, .bool p3.Purl, iv p3.A, iv p3.B], eBox al 48 [iv p1, iv p2, .slice none 0 0, .bool p3.Purl], eRow r_api_Loop 48 (.slice a9 r9.2.loops.length aa) r9.2.loops, eRow (rI .i64) 3 (.slice ae r9.2.rows.length af) r9.2.rows, eRow (rI .i64) 3 (.slice ab r9.2.bound.length ac) r9.2.bound, eRow r_A2_Int 49 (.slice ag r9.2.cross.length ah) r9.2.cross] [] [3, 0, 1, 2, 4, 5, 6, 7] [] S (wN rfl) rfl callee59 rfl (by decide) rfl rfl (fun E1 w1 S1 => c_slices_Reverse___int_int__s0 E1 w1 r9.1 a0 a8 ak bE S1) rfl (lb rfl) fun _ a w S => ?_
  have bG := row_v (S.mem.hold (i := 0) (e := eRow (rI .i64) 3 (.slice a0 r9.1.length a8) ak) rfl)
  rw [bG] at S
  refine lT (bD _ _ (sRegion (sM S fun a S => ?_)))
  refine sLoadN (p := al) (off := 0) (T := 48) (vs := [iv p1, iv p2, .slice none 0 0, .bool p3.Purl]) 3 [iv p1, iv p2, .slice none 0 0, .bool p3.Purl] S (wN rfl) rfl rfl rfl rfl rfl rfl rfl (lb rfl) fun a S => ?_
  refine sM S fun a S => ?_
  have S := S.shutR (r := (rI .i64)) (T := 3) (v := .slice a0 ak.length a8) (xs := ak) 0 rfl
  refine sLit (r := (rL (rI .i64))) (T := 32) (xs := [ak]) [(0, .slice a0 ak.length a8)] 1 [.slice a0 ak.length a8] [.slice a0 ak.length a8] (.slice none 0 0) 24 S (wN rfl) rfl rfl Try.underlying69 rfl (by decide) (by decide) (by kernel_rfl) rfl (fun E1 w1 hE => All.cons ((rL (rI .i64)).mono hE (S.mem.know (i := 0) (e := fRep (rL (rI .i64)) (.slice a0 ak.length a8) ak) rfl)) (All.nil _ _ _)) rfl rfl (lb rfl) fun a w aR aS S => ?_
  obtain ⟨am, bH, h⟩ := bS h
  have S := S.learn (fRep (rL (rI .i64)) (.slice none 0 0) ([] : (List Int))) (rL_nil _ _ _)
  have S := S.learn (fRep r_api_Loop (.agg #[iv p1, iv p2, .slice none 0 0, .bool p3.Purl]) (api_Loop.mk p1 p2 ([] : (List Int)) p3.Purl)) ⟨_, rfl, S.mem.know (i := 0) (e := fRep (rL (rI .i64)) (.slice none 0 0) ([] : (List Int))) rfl⟩
  have S := S.shutR (r := (rL (rI .i64))) (T := 32) (v := .slice aR [ak].length aS) (xs := [ak]) 0 rfl
  refine sCall (X := Option Addr × Nat × Option Addr × Nat × Option Addr × Nat × Option Addr × Nat) (f := 58) (vs := [.pointer (some ⟨bb0, 0, none⟩), .agg #[iv p1, iv p2, .slice none 0 0, .bool p3.Purl], .slice aR [ak].length aS]) (val := fun _ => .tuple #[]) (B' := fun x => [eBox bb0 73 [.slice x.1 am.loops.length x.2.1, .slice x.2.2.1 am.rows.length x.2.2.2.1, .slice x.2.2.2.2.1 am.bound.length x.2.2.2.2.2.1, .slice x.2.2.2.2.2.2.1 am.cross.length x.2.2.2.2.2.2.2, iv am.next], eRow r_api_Loop 48 (.slice x.1 am.loops.length x.2.1) am.loops, eRow (rI .i64) 3 (.slice x.2.2.1 am.rows.length x.2.2.2.1) am.rows, eRow (rI .i64) 3 (.slice x.2.2.2.2.1 am.bound.length x.2.2.2.2.2.1) am.bound, eRow r_A2_Int 49 (.slice x.2.2.2.2.2.2.1 am.cross.length x.2.2.2.2.2.2.2) am.cross]) (D' := fun _ => []) [eBox bb0 73 [.slice a9 r9.2.loops.length aa, .slice ae r9.2.rows.length af, .slice ab r9.2.bound.length ac, .slice ag r9.2.cross.length ah, iv r9.2.next], eRow r_api_Loop 48 (.slice a9 r9.2.loops.length aa) r9.2.loops, eRow (rI .i64) 3 (.slice ae r9.2.rows.length af) r9.2.rows, eRow (rI .i64) 3 (.slice ab r9.2.bound.length ac) r9.2.bound, eRow r_A2_Int 49 (.slice ag r9.2.cross.length ah) r9.2.cross] [eBox b2 61 [.int .u8 p3.Kind, .bool p3.Purl, iv p3.A, iv p3.B], eBox al 48 [iv p1, iv p2, .slice none 0 0, .bool p3.Purl]] [fRep r_api_Loop (.agg #[iv p1, iv p2, .slice none 0 0, .bool p3.Purl]) (api_Loop.mk p1 p2 ([] : (List Int)) p3.Purl), fRep (rL (rL (rI .i64))) (.slice aR [ak].length aS) [ak]] [0, 3, 4, 5, 6, 1, 2] [1, 0] S (wN rfl) rfl callee58 rfl (by decide) rfl rfl (fun E1 w1 S1 => c_loops_piece_add_s1 E1 w1 r9.2 bb0 a9 aa ae af ab ac ag ah (api_Loop.mk p1 p2 ([] : (List Int)) p3.Purl) (.agg #[iv p1, iv p2, .slice none 0 0, .bool p3.Purl]) [ak] (.slice aR [ak].length aS) am bH S1) rfl (lb rfl) fun xx a w S => ?_
  obtain ⟨bI, bJ, bK, bL, bM, bN, bO, bP⟩ := xx
  dsimp only at S
  obtain rfl := tS h
  exact leafL (leafB (sEnd (.tuple #[]) S (rsl0 rfl ) ⟨(bI, bJ, bK, bL, bM, bN, bO, bP), rfl, S.mem.sel [0, 1, 2, 3, 4] [] (by decide) rfl rfl⟩))
 refine sCondF S rfl aZ ?_
 refine sSeq (fun dx bQ => sRegion (sBin _ S (wN rfl) rfl rfl rfl (bEq _ _ _ _ .u8 p3.Kind 3) rfl (lb rfl) fun a S => ?_))
 refine sN S fun a S => ?_
 refine lT (bQ _ _ ?_)
 rcases iS h with ⟨ba, h⟩ | ⟨ba, h⟩
 ·refine sCondT S rfl ba ?_
  refine sRegion (sM S fun a S => ?_)
  refine sLoadN (p := al) (off := 0) (T := 48) (vs := [iv p1, iv p2, .slice none 0 0, .bool p3.Purl]) 2 [iv p1, iv p2, .slice none 0 0, .bool p3.Purl] S (wN rfl) rfl rfl rfl rfl rfl rfl rfl (lb rfl) fun a S => ?_
  refine sM S fun a S => ?_
  have S := S.shutR (r := (rI .i64)) (T := 3) (v := .slice a0 r9.1.length a8) (xs := r9.1) 3 rfl
  refine sLit (r := (rL (rI .i64))) (T := 32) (xs := [r9.1]) [(0, .slice a0 r9.1.length a8)] 1 [.slice a0 r9.1.length a8] [.slice a0 r9.1.length a8] (.slice none 0 0) 24 S (wN rfl) rfl rfl Try.underlying69 rfl (by decide) (by decide) (by kernel_rfl) rfl (fun E1 w1 hE => All.cons ((rL (rI .i64)).mono hE (S.mem.know (i := 0) (e := fRep (rL (rI .i64)) (.slice a0 r9.1.length a8) r9.1) rfl)) (All.nil _ _ _)) rfl rfl (lb rfl) fun a w aT aU S => ?_
  obtain ⟨ao, bR, h⟩ := bS h
  have S := S.learn (fRep (rL (rI .i64)) (.slice none 0 0) ([] : (List Int))) (rL_nil _ _ _)
  have S := S.learn (fRep r_api_Loop (.agg #[iv p1, iv p2, .slice none 0 0, .bool p3.Purl]) (api_Loop.mk p1 p2 ([] : (List Int)) p3.Purl)) ⟨_, rfl, S.mem.know (i := 0) (e := fRep (rL (rI .i64)) (.slice none 0 0) ([] : (List Int))) rfl⟩
  have S := S.shutR (r := (rL (rI .i64))) (T := 32) (v := .slice aT [r9.1].length aU) (xs := [r9.1]) 0 rfl
  refine sCall (X := Option Addr × Nat × Option Addr × Nat × Option Addr × Nat × Option Addr × Nat) (f := 58) (vs := [.pointer (some ⟨bb0, 0, none⟩), .agg #[iv p1, iv p2, .slice none 0 0, .bool p3.Purl], .slice aT [r9.1].length aU]) (val := fun _ => .tuple #[]) (B' := fun x => [eBox bb0 73 [.slice x.1 ao.loops.length x.2.1, .slice x.2.2.1 ao.rows.length x.2.2.2.1, .slice x.2.2.2.2.1 ao.bound.length x.2.2.2.2.2.1, .slice x.2.2.2.2.2.2.1 ao.cross.length x.2.2.2.2.2.2.2, iv ao.next], eRow r_api_Loop 48 (.slice x.1 ao.loops.length x.2.1) ao.loops, eRow (rI .i64) 3 (.slice x.2.2.1 ao.rows.length x.2.2.2.1) ao.rows, eRow (rI .i64) 3 (.slice x.2.2.2.2.1 ao.bound.length x.2.2.2.2.2.1) ao.bound, eRow r_A2_Int 49 (.slice x.2.2.2.2.2.2.1 ao.cross.length x.2.2.2.2.2.2.2) ao.cross]) (D' := fun _ => []) [eBox bb0 73 [.slice a9 r9.2.loops.length aa, .slice ae r9.2.rows.length af, .slice ab r9.2.bound.length ac, .slice ag r9.2.cross.length ah, iv r9.2.next], eRow r_api_Loop 48 (.slice a9 r9.2.loops.length aa) r9.2.loops, eRow (rI .i64) 3 (.slice ae r9.2.rows.length af) r9.2.rows, eRow (rI .i64) 3 (.slice ab r9.2.bound.length ac) r9.2.bound, eRow r_A2_Int 49 (.slice ag r9.2.cross.length ah) r9.2.cross] [eBox b2 61 [.int .u8 p3.Kind, .bool p3.Purl, iv p3.A, iv p3.B], eBox al 48 [iv p1, iv p2, .slice none 0 0, .bool p3.Purl]] [fRep r_api_Loop (.agg #[iv p1, iv p2, .slice none 0 0, .bool p3.Purl]) (api_Loop.mk p1 p2 ([] : (List Int)) p3.Purl), fRep (rL (rL (rI .i64))) (.slice aT [r9.1].length aU) [r9.1]] [0, 3, 4, 5, 6, 1, 2] [1, 0] S (wN rfl) rfl callee58 rfl (by decide) rfl rfl (fun E1 w1 S1 => c_loops_piece_add_s1 E1 w1 r9.2 bb0 a9 aa ae af ab ac ag ah (api_Loop.mk p1 p2 ([] : (List Int)) p3.Purl) (.agg #[iv p1, iv p2, .slice none 0 0, .bool p3.Purl]) [r9.1] (.slice aT [r9.1].length aU) ao bR S1) rfl (lb rfl) fun xx a w S => ?_
  obtain ⟨bU, bV, bW, bX, bY, bZ, c5, c6⟩ := xx
  dsimp only at S
  obtain rfl := tS h
  exact leafL (leafB (sEnd (.tuple #[]) S (rsl0 rfl ) ⟨(bU, bV, bW, bX, bY, bZ, c5, c6), rfl, S.mem.sel [0, 1, 2, 3, 4] [] (by decide) rfl rfl⟩))
 refine sCondF S rfl ba ?_
 refine sSeq (fun dy c7 => sRegion (sBin _ S (wN rfl) rfl rfl rfl (bEq _ _ _ _ .u8 p3.Kind 5) rfl (lb rfl) fun a S => ?_))
 refine sN S fun a S => ?_
 refine lT (c7 _ _ ?_)
 rcases iS h with ⟨bb, h⟩ | ⟨bb, h⟩
 rotate_left
 ·refine sCondF S rfl bb ?_
  refine sSeq (fun dz c8 => sRegion (sBin _ S (wN rfl) rfl rfl rfl (bEq _ _ _ _ .u8 p3.Kind 10) rfl (lb rfl) fun a S => ?_))
  refine sN S fun a S => ?_
  refine lT (c8 _ _ ?_)
  rcases iS h with ⟨bc, h⟩ | ⟨bc, h⟩
  ·refine sCondT S rfl bc ?_
   refine sRegion (sM S fun a S => ?_)
   refine sM S fun a S => ?_
   refine nilCheck_ok (q := ⟨bb0, 0, none⟩) S (wN rfl) rfl rfl rfl (lb rfl) fun a S => ?_
   refine sField (b := bb0) (off := 0) 2 2 S (wN rfl) rfl rfl rfl rfl rfl (lb rfl) fun a S => ?_
   refine sLoad1 0 (.slice ab r9.2.bound.length ac) S (wN rfl) rfl rfl rfl rfl rfl rfl (lb rfl) fun a S => ?_
   refine sM S fun a S => ?_
   obtain ⟨c9, ca, h⟩ := bS h
   refine sApp (r := (rI .i64)) (T := 3) (xs := r9.2.bound) (ys := r9.1) (v := .slice ab r9.2.bound.length ac) (u := .slice a0 r9.1.length a8) 6 (iv 0) 8 S (wN rfl) rfl Try.underlying32 rfl rfl (by decide) rfl rfl rfl (src_R (T := 3) 3 S.mem rfl) ca rfl (lb rfl) fun a w bf bg S => ?_
   refine nilCheck_ok (q := ⟨bb0, 0, none⟩) S (wN rfl) rfl rfl rfl (lb rfl) fun a S => ?_
   refine sField (b := bb0) (off := 0) 2 2 S (wN rfl) rfl rfl rfl rfl rfl (lb rfl) fun a S => ?_
   refine sStore (p := bb0) (off := 2) (T := 73) (vs := [.slice a9 r9.2.loops.length aa, .slice ae r9.2.rows.length af, .slice ab r9.2.bound.length ac, .slice ag r9.2.cross.length ah, iv r9.2.next]) (v := .slice bf c9.length bg) 1 [.slice bf c9.length bg] S (wN rfl) rfl rfl rfl rfl rfl rfl rfl (by simp) rfl fun a w S => ?_
   obtain rfl := tS h
   exact leafL (leafB (sEnd (.tuple #[]) S (rsl0 rfl ) ⟨(a9, aa, ae, af, bf, bg, ag, ah), rfl, S.mem.sel [0, 5, 6, 1, 7] [] (by decide) rfl rfl⟩))
  refine sCondF S rfl bc ?_
  refine sRegion (sM S fun a S => ?_)
  refine sLoadN (p := al) (off := 0) (T := 48) (vs := [iv p1, iv p2, .slice none 0 0, .bool p3.Purl]) 2 [iv p1, iv p2, .slice none 0 0, .bool p3.Purl] S (wN rfl) rfl rfl rfl rfl rfl rfl rfl (lb rfl) fun a S => ?_
  refine sLoadN (p := b2) (off := 0) (T := 61) (vs := [.int .u8 p3.Kind, .bool p3.Purl, iv p3.A, iv p3.B]) 1 [.int .u8 p3.Kind, .bool p3.Purl, iv p3.A, iv p3.B] S (wN rfl) rfl rfl rfl rfl rfl rfl rfl (lb rfl) fun a S => ?_
  refine sM S fun a S => ?_
  obtain ⟨ap, cb, h⟩ := bS h
  have S := S.learn (fRep (rL (rI .i64)) (.slice none 0 0) ([] : (List Int))) (rL_nil _ _ _)
  have S := S.learn (fRep r_api_Loop (.agg #[iv p1, iv p2, .slice none 0 0, .bool p3.Purl]) (api_Loop.mk p1 p2 ([] : (List Int)) p3.Purl)) ⟨_, rfl, S.mem.know (i := 0) (e := fRep (rL (rI .i64)) (.slice none 0 0) ([] : (List Int))) rfl⟩
  have S := S.learn (fRep r_api_Stitch (.agg #[.int .u8 p3.Kind, .bool p3.Purl, iv p3.A, iv p3.B]) p3) rfl
  have S := S.shutR (r := (rI .i64)) (T := 3) (v := .slice a0 r9.1.length a8) (xs := r9.1) 3 rfl
  refine sCall (X := Option Addr × Nat × Option Addr × Nat × Option Addr × Nat × Option Addr × Nat) (f := 61) (vs := [.pointer (some ⟨bb0, 0, none⟩), .agg #[iv p1, iv p2, .slice none 0 0, .bool p3.Purl], .agg #[.int .u8 p3.Kind, .bool p3.Purl, iv p3.A, iv p3.B], .slice a0 r9.1.length a8]) (val := fun _ => .tuple #[]) (B' := fun x => [eBox bb0 73 [.slice x.1 ap.loops.length x.2.1, .slice x.2.2.1 ap.rows.length x.2.2.2.1, .slice x.2.2.2.2.1 ap.bound.length x.2.2.2.2.2.1, .slice x.2.2.2.2.2.2.1 ap.cross.length x.2.2.2.2.2.2.2, iv ap.next], eRow r_api_Loop 48 (.slice x.1 ap.loops.length x.2.1) ap.loops, eRow (rI .i64) 3 (.slice x.2.2.1 ap.rows.length x.2.2.2.1) ap.rows, eRow (rI .i64) 3 (.slice x.2.2.2.2.1 ap.bound.length x.2.2.2.2.2.1) ap.bound, eRow r_A2_Int 49 (.slice x.2.2.2.2.2.2.1 ap.cross.length x.2.2.2.2.2.2.2) ap.cross]) (D' := fun _ => []) [eBox bb0 73 [.slice a9 r9.2.loops.length aa, .slice ae r9.2.rows.length af, .slice ab r9.2.bound.length ac, .slice ag r9.2.cross.length ah, iv r9.2.next], eRow r_api_Loop 48 (.slice a9 r9.2.loops.length aa) r9.2.loops, eRow (rI .i64) 3 (.slice ae r9.2.rows.length af) r9.2.rows, eRow (rI .i64) 3 (.slice ab r9.2.bound.length ac) r9.2.bound, eRow r_A2_Int 49 (.slice ag r9.2.cross.length ah) r9.2.cross] [eBox b2 61 [.int .u8 p3.Kind, .bool p3.Purl, iv p3.A, iv p3.B], eBox al 48 [iv p1, iv p2, .slice none 0 0, .bool p3.Purl]] [fRep r_api_Loop (.agg #[iv p1, iv p2, .slice none 0 0, .bool p3.Purl]) (api_Loop.mk p1 p2 ([] : (List Int)) p3.Purl), fRep r_api_Stitch (.agg #[.int .u8 p3.Kind, .bool p3.Purl, iv p3.A, iv p3.B]) p3, fRep (rL (rI .i64)) (.slice a0 r9.1.length a8) r9.1] [0, 3, 4, 5, 6, 1, 2] [2, 1, 0] S (wN rfl) rfl callee61 rfl (by decide) rfl rfl (fun E1 w1 S1 => c_loops_piece_cable_s1 E1 w1 r9.2 bb0 a9 aa ae af ab ac ag ah (api_Loop.mk p1 p2 ([] : (List Int)) p3.Purl) (.agg #[iv p1, iv p2, .slice none 0 0, .bool p3.Purl]) p3 (.agg #[.int .u8 p3.Kind, .bool p3.Purl, iv p3.A, iv p3.B]) r9.1 (.slice a0 r9.1.length a8) ap cb S1) rfl (lb rfl) fun xx a w S => ?_
  obtain ⟨cc, cd, ce, cf, cg, ci, cj, ck⟩ := xx
  dsimp only at S
  obtain rfl := tS h
  exact leafL (leafB (sEnd (.tuple #[]) S (rsl0 rfl ) ⟨(cc, cd, ce, cf, cg, ci, cj, ck), rfl, S.mem.sel [0, 1, 2, 3, 4] [] (by decide) rfl rfl⟩))
 refine sCondT S rfl bb ?_
 refine sSeq (fun dA cl => sRegion (sField (b := b2) (off := 0) 2 2 S (wN rfl) rfl rfl rfl rfl rfl (lb rfl) fun a S => ?_))
 refine sLoad1 1 (iv p3.A) S (wN rfl) rfl rfl rfl rfl rfl rfl (lb rfl) fun a S => ?_
 refine sM S fun a S => ?_
 refine lT (cl _ _ (wp_block ?_))
 have S := S.shutR (r := (rI .i64)) (T := 3) (v := .slice a0 r9.1.length a8) (xs := r9.1) 3 rfl
 obtain ⟨dB, hl, di⟩ := bS h
 refine sLoop hl (fun s0 a w => match s0 with | (aX, aA, aC, aG, aH, bh) => ∃ aq, ∃ ar, ∃ au, ∃ av, ∃ aw, ∃ ax, ∃ ay, ∃ az, St [] E (keysL [eBox bb0 73 [.slice ad_0_0 p0.loops.length cp_0_0, .slice ad_0_1 p0.rows.length cp_0_1, .slice ad_0_2 p0.bound.length cp_0_2, .slice ad_0_3 p0.cross.length cp_0_3, iv p0.next], eRow r_api_Loop 48 (.slice ad_0_0 p0.loops.length cp_0_0) p0.loops, eRow (rI .i64) 3 (.slice ad_0_1 p0.rows.length cp_0_1) p0.rows, eRow (rI .i64) 3 (.slice ad_0_2 p0.bound.length cp_0_2) p0.bound, eRow r_A2_Int 49 (.slice ad_0_3 p0.cross.length cp_0_3) p0.cross]) w0 108 a w [(0, .pointer (some ⟨bb0, 0, none⟩)), (10, .slice a0 r9.1.length a8), (11, .pointer (some ⟨al, 0, none⟩)), (87, iv p3.A), (88, iv aX)] [eBox bb0 73 [.slice aq aA.length ar, .slice au aC.length av, .slice aw aG.length ax, .slice ay aH.length az, iv bh], eBox al 48 [iv p1, iv p2, .slice none 0 0, .bool p3.Purl], eRow r_api_Loop 48 (.slice aq aA.length ar) aA, eRow (rI .i64) 3 (.slice au aC.length av) aC, eRow (rI .i64) 3 (.slice aw aG.length ax) aG, eRow r_A2_Int 49 (.slice ay aH.length az) aH] [fRep (rL (rI .i64)) (.slice a0 r9.1.length a8) r9.1]) ⟨a9, aa, ae, af, ab, ac, ag, ah, S.fix [0, 2, 3, 4, 5, 6] [0] (by decide) rfl rfl rfl⟩ ?_
 clear hl h
 intro s0 a w c0 hI h cm
 obtain ⟨aX, aA, aC, aG, aH, bh⟩ := s0
 unfold loops_piece_work_s1_l1 at h
 dsimp only at h hI
 obtain ⟨aq, ar, au, av, aw, ax, ay, az, S⟩ := hI
 refine sSeq (fun dC cn => sRegion (sBin _ S (wN rfl) rfl rfl rfl (bLt _ _ _ _ .i64 aX p3.A) rfl (lb rfl) fun a S => ?_))
 refine lT (cn _ _ (sSeq (fun dD co => ?_)))
 rcases iS h with ⟨bi, h⟩ | ⟨bi, h⟩
 rotate_left
 ·refine sCondF S rfl bi ?_
  obtain rfl := tS h
  obtain rfl := cm _ rfl
  have h := di
  try dsimp only at h
  obtain rfl := tS h
  exact wp_exit (xThen (xThen (xHit (leafB (sEnd (.tuple #[]) S (rsl0 rfl ) ⟨(aq, ar, au, av, aw, ax, ay, az), rfl, S.mem.sel [0, 2, 3, 4, 5] [] (by decide) rfl rfl⟩)))))
 refine sCondT S rfl bi ?_
 refine wp_skip (leafT (co _ _ ?_))
 refine sSeq (fun dE cp => wp_block ?_)
 obtain ⟨ai, cq, h⟩ := bS h
 obtain ⟨aj, cr, h⟩ := bS h
 refine sDraw (nf := [3, 4, 5]) (W := [(0, 90, .pointer (some ⟨bb0, 0, none⟩)), (1, 91, .agg #[iv p1, iv p2, .slice none 0 0, .bool p3.Purl]), (2, 92, .slice a0 r9.1.length a8)]) rfl S ?_
 refine node_by (A := [[], [], [], [2], [2, 3], [0, 1, 2, 3, 4]]) (nf := [3, 4, 5]) (Y := []) (W := [(0, 90, .pointer (some ⟨bb0, 0, none⟩)), (1, 91, .agg #[iv p1, iv p2, .slice none 0 0, .bool p3.Purl]), (2, 92, .slice a0 r9.1.length a8)]) 6 (by kernel_rfl) (by kernel_rfl) (by kernel_rfl) (by kernel_rfl) (by kernel_rfl) [0, 1, 2] (by kernel_rfl) (by decide) (by decide) (fF ?_ (fF ?_ (fF ?_ (fN ?_ (aB 4 1 3 (by decide) (aB 5 0 3 (by decide) (trivial))))))) [] (fun q hq => by cases hq) (fun hY => absurd (hY 3 (by decide)) (by decide))
 ·exact fM 0 none rfl rfl rfl rfl (.inl rfl) rfl rfl rfl
 ·refine fJ [(11, _)] 1 [none] fun G a w S => ?_
  exact sLoadN (p := al) (off := 0) (T := 48) (vs := [iv p1, iv p2, .slice none 0 0, .bool p3.Purl]) 1 [iv p1, iv p2, .slice none 0 0, .bool p3.Purl] S (wN rfl) rfl rfl rfl rfl rfl rfl rfl (lb rfl) fun a S => leafL ⟨rfl, S⟩
 ·exact fM 2 none rfl rfl rfl rfl (.inl rfl) rfl rfl rfl
 refine ⟨_, [(92, .slice a0 r9.1.length a8)], rfl, (srcs_of [some 2] rfl rfl rfl), fun G a w S => ?_⟩
 refine sCall (X := Option Addr × Nat) (f := 60) (vs := [.slice a0 r9.1.length a8]) (val := fun x => .slice x.1 ai.length x.2) (B' := fun x => [eRow (rI .i64) 3 (.slice x.1 ai.length x.2) ai]) (D' := fun _ => []) [] [eBox bb0 73 [.slice aq aA.length ar, .slice au aC.length av, .slice aw aG.length ax, .slice ay aH.length az, iv bh], eBox al 48 [iv p1, iv p2, .slice none 0 0, .bool p3.Purl], eRow r_api_Loop 48 (.slice aq aA.length ar) aA, eRow (rI .i64) 3 (.slice au aC.length av) aC, eRow (rI .i64) 3 (.slice aw aG.length ax) aG, eRow r_A2_Int 49 (.slice ay aH.length az) aH] [fRep (rL (rI .i64)) (.slice a0 r9.1.length a8) r9.1] [0, 1, 2, 3, 4, 5] [0] S (wN rfl) rfl callee60 rfl (by decide) rfl rfl (fun E1 w1 S1 => c_slices_Clone___int_int__s0 E1 w1 r9.1 (.slice a0 r9.1.length a8) ai cq S1) rfl (lb rfl) fun xx a w S => ?_
 obtain ⟨aI, aJ⟩ := xx
 dsimp only at S
 refine leafL ⟨rfl, _, _, .inl ⟨93, (.slice aI ai.length aJ), [], rfl, S, hz_of rfl, ?_⟩⟩
 refine node_by (A := [[], [], [], [2], [2, 3], [0, 1, 2, 3, 4]]) (nf := [3, 4, 5]) (Y := [3]) 6 (by kernel_rfl) (by kernel_rfl) (by kernel_rfl) (by kernel_rfl) (by kernel_rfl) [3, 0, 1, 2] (by kernel_rfl) (by decide) (by decide) (fF ?_ (fF ?_ (fD 3 (fY (fN ?_ (aB 5 0 4 (by decide) (trivial))))))) [] (fun q hq => by cases hq) (fun hY => absurd (hY 4 (by decide)) (by decide))
 ·exact fM 1 none rfl rfl rfl rfl (.inl rfl) rfl rfl rfl
 ·refine fJ [(11, _)] 2 [none] fun G a w S => ?_
  exact sLoadN (p := al) (off := 0) (T := 48) (vs := [iv p1, iv p2, .slice none 0 0, .bool p3.Purl]) 2 [iv p1, iv p2, .slice none 0 0, .bool p3.Purl] S (wN rfl) rfl rfl rfl rfl rfl rfl rfl (lb rfl) fun a S => leafL ⟨rfl, S⟩
 refine ⟨_, [(93, .slice aI ai.length aJ)], rfl, (srcs_of [some 0] rfl rfl rfl), fun G a w S => ?_⟩
 have S := S.shutR (r := (rI .i64)) (T := 3) (v := .slice aI ai.length aJ) (xs := ai) 0 rfl
 refine sLit (r := (rL (rI .i64))) (T := 32) (xs := [ai]) [(0, .slice aI ai.length aJ)] 1 [.slice aI ai.length aJ] [.slice aI ai.length aJ] (.slice none 0 0) 24 S (wN rfl) rfl rfl Try.underlying69 rfl (by decide) (by decide) (by kernel_rfl) rfl (fun E1 w1 hE => All.cons ((rL (rI .i64)).mono hE (S.mem.know (i := 0) (e := fRep (rL (rI .i64)) (.slice aI ai.length aJ) ai) rfl)) (All.nil _ _ _)) rfl rfl (lb rfl) fun a w aK aL S => ?_
 refine leafL ⟨rfl, _, _, .inl ⟨94, (.slice aK [ai].length aL), [], rfl, S, hz_of rfl, ?_⟩⟩
 refine node_by (A := [[], [], [], [2], [2, 3], [0, 1, 2, 3, 4]]) (nf := [3, 4, 5]) (Y := [4, 3]) 6 (by kernel_rfl) (by kernel_rfl) (by kernel_rfl) (by kernel_rfl) (by kernel_rfl) [4, 3, 0, 1, 2] (by kernel_rfl) (by decide) (by decide) (fF ?_ (fF ?_ (fD 4 (fY (fY (fN ?_ (trivial))))))) [] (fun q hq => by cases hq) (fun hY => absurd (hY 5 (by decide)) (by decide))
 ·exact fM 2 none rfl rfl rfl rfl (.inl rfl) rfl rfl rfl
 ·refine fJ [(11, _)] 3 [none] fun G a w S => ?_
  exact sLoadN (p := al) (off := 0) (T := 48) (vs := [iv p1, iv p2, .slice none 0 0, .bool p3.Purl]) 2 [iv p1, iv p2, .slice none 0 0, .bool p3.Purl] S (wN rfl) rfl rfl rfl rfl rfl rfl rfl (lb rfl) fun a S => leafL ⟨rfl, S⟩
 refine ⟨_, [(90, .pointer (some ⟨bb0, 0, none⟩)), (91, .agg #[iv p1, iv p2, .slice none 0 0, .bool p3.Purl]), (94, .slice aK [ai].length aL)], rfl, (srcs_of [some 2, some 3, some 0] rfl rfl rfl), fun G a w S => ?_⟩
 have S := S.learn (fRep (rL (rI .i64)) (.slice none 0 0) ([] : (List Int))) (rL_nil _ _ _)
 have S := S.learn (fRep r_api_Loop (.agg #[iv p1, iv p2, .slice none 0 0, .bool p3.Purl]) (api_Loop.mk p1 p2 ([] : (List Int)) p3.Purl)) ⟨_, rfl, S.mem.know (i := 0) (e := fRep (rL (rI .i64)) (.slice none 0 0) ([] : (List Int))) rfl⟩
 have S := S.shutR (r := (rL (rI .i64))) (T := 32) (v := .slice aK [ai].length aL) (xs := [ai]) 0 rfl
 refine sCall (X := Option Addr × Nat × Option Addr × Nat × Option Addr × Nat × Option Addr × Nat) (f := 58) (vs := [.pointer (some ⟨bb0, 0, none⟩), .agg #[iv p1, iv p2, .slice none 0 0, .bool p3.Purl], .slice aK [ai].length aL]) (val := fun _ => .tuple #[]) (B' := fun x => [eBox bb0 73 [.slice x.1 aj.loops.length x.2.1, .slice x.2.2.1 aj.rows.length x.2.2.2.1, .slice x.2.2.2.2.1 aj.bound.length x.2.2.2.2.2.1, .slice x.2.2.2.2.2.2.1 aj.cross.length x.2.2.2.2.2.2.2, iv aj.next], eRow r_api_Loop 48 (.slice x.1 aj.loops.length x.2.1) aj.loops, eRow (rI .i64) 3 (.slice x.2.2.1 aj.rows.length x.2.2.2.1) aj.rows, eRow (rI .i64) 3 (.slice x.2.2.2.2.1 aj.bound.length x.2.2.2.2.2.1) aj.bound, eRow r_A2_Int 49 (.slice x.2.2.2.2.2.2.1 aj.cross.length x.2.2.2.2.2.2.2) aj.cross]) (D' := fun _ => []) [eBox bb0 73 [.slice aq aA.length ar, .slice au aC.length av, .slice aw aG.length ax, .slice ay aH.length az, iv bh], eRow r_api_Loop 48 (.slice aq aA.length ar) aA, eRow (rI .i64) 3 (.slice au aC.length av) aC, eRow (rI .i64) 3 (.slice aw aG.length ax) aG, eRow r_A2_Int 49 (.slice ay aH.length az) aH] [eBox al 48 [iv p1, iv p2, .slice none 0 0, .bool p3.Purl]] [fRep r_api_Loop (.agg #[iv p1, iv p2, .slice none 0 0, .bool p3.Purl]) (api_Loop.mk p1 p2 ([] : (List Int)) p3.Purl), fRep (rL (rL (rI .i64))) (.slice aK [ai].length aL) [ai]] [0, 2, 3, 4, 5, 1] [1, 0] S (wN rfl) rfl callee58 rfl (by decide) rfl rfl (fun E1 w1 S1 => c_loops_piece_add_s1 E1 w1 (loops_piece.mk aA aC aG aH bh) bb0 aq ar au av aw ax ay az (api_Loop.mk p1 p2 ([] : (List Int)) p3.Purl) (.agg #[iv p1, iv p2, .slice none 0 0, .bool p3.Purl]) [ai] (.slice aK [ai].length aL) aj cr S1) rfl (lb rfl) fun xx a w S => ?_
 obtain ⟨ct, cu, cv, cw, cx, cy, cz, cA⟩ := xx
 dsimp only at S
 refine leafL ⟨rfl, _, _, .inl ⟨95, (.tuple #[]), [], rfl, S, hz_of rfl, ?_⟩⟩
 refine node_by (A := [[], [], [], [2], [2, 3], [0, 1, 2, 3, 4]]) (nf := [3, 4, 5]) (Y := [5, 4, 3]) 6 (by kernel_rfl) (by kernel_rfl) (by kernel_rfl) (by kernel_rfl) (by kernel_rfl) [5, 4, 3, 0, 1, 2] (by kernel_rfl) (by decide) (by decide) (fD 5 (fD 5 (fD 5 (fY (fY (fY (trivial))))))) [(0, .pointer (some ⟨bb0, 0, none⟩)), (10, .slice a0 r9.1.length a8), (11, .pointer (some ⟨al, 0, none⟩)), (87, iv p3.A), (88, iv aX)] (fin_of [none, none, none, none, none] rfl (by kernel_rfl) (by kernel_rfl)) (fun _ a w S => ?_)
 refine leafB (leafT (cp _ _ ?_))
 refine sRegion (sBin _ S (wN rfl) rfl rfl rfl (bAdd _ _ _ _ aX 1) rfl (lb rfl) fun a S => ?_)
 refine sM S fun a S => ?_
 exact lT (⟨(w64 (aX + 1), aj.loops, aj.rows, aj.bound, aj.cross, aj.next), (Option.some.inj h).symm, ⟨ct, cu, cv, cw, cx, cy, cz, cA, S.fix [0, 5, 1, 2, 3, 4] [4] (by decide) rfl rfl rfl⟩⟩)
noncomputable def loops_of_l1 (p0 : api_Chart) : (Int × List api_Loop) → Option ((Int × List api_Loop) ⊕ List api_Loop) := fun s0 => match s0 with
 | (a0, a8) =>
  if decide (a0 < p0.Start) then
   (appO a8 [(api_Loop.mk 0 a0 ([] : (List Int)) false)]).bind fun a9 =>
   some (.inl (w64 (a0 + 1), a9))
  else
   some (.inr a8)
noncomputable def loops_of_l2 (a9 : ((List api_Stitch) × Int)) (ah : Int) : (Int × List api_Loop × List Int × List Int × List (Int × Int) × Int) → Option ((Int × List api_Loop × List Int × List Int × List (Int × Int) × Int) ⊕ (List api_Loop × List Int × List Int × List (Int × Int) × Int)) := fun s0 => match s0 with
 | (a8, aa, ab, ac, ae, af) =>
  if decide (a8 < (a9.1.length : Int)) then
   (idxO a9.1 a8).bind fun ag =>
   (F_loops_piece_work_s1 (loops_piece.mk aa ab ac ae af) (w64 (ah + 1)) a8 ag).bind fun a0 =>
   some (.inl (w64 (a8 + 1), a0.loops, a0.rows, a0.bound, a0.cross, a0.next))
  else
   some (.inr (aa, ab, ac, ae, af))
noncomputable def loops_of_l3 (p0 : api_Chart) : (Int × List api_Loop × List Int × List Int × List (Int × Int) × Int) → Option ((Int × List api_Loop × List Int × List Int × List (Int × Int) × Int) ⊕ (List api_Loop × List Int × List Int × List (Int × Int) × Int)) := fun s0 => match s0 with
 | (a8, ap, aq, ar, au, av) =>
  if decide (a8 < (p0.Rows.length : Int)) then
   Option.bind (α := (List api_Loop × List Int × List Int × List (Int × Int) × Int)) (
    (F_chart_Face p0 a8).bind fun a9 =>
    Option.bind (α := (List api_Loop × List Int × List Int × List (Int × Int) × Int)) (
     (whileO (loops_of_l2 a9 a8) (0, ap, aq, ar, au, av)).bind fun (aa, ab, ac, ae, af) =>
      some (aa, ab, ac, ae, af)) fun (a0, ag, ah, ai, aj) =>
    (appO ag ([(a0.length : Int)] : List Int)).bind fun ak =>
    some (a0, ak, ah, ai, aj)) fun (aw, ax, al, am, ao) =>
   some (.inl (w64 (a8 + 1), aw, ax, al, am, ao))
  else
   some (.inr (ap, aq, ar, au, av))
noncomputable def F_loops_of (p0 : api_Chart) : Option (loops_piece × Int) :=
 (F_chart_Check p0).bind fun a0 =>
 if a0 != 0 then
  some ((loops_piece.mk ([] : (List api_Loop)) ([] : (List Int)) ([] : (List Int)) ([] : (List (Int × Int))) 0), a0)
 else
  Option.bind (α := List api_Loop) (
   (whileO (loops_of_l1 p0) (0, ([] : List api_Loop))).bind fun a8 =>
    some a8) fun a9 =>
  Option.bind (α := (List api_Loop × List Int × List Int × List (Int × Int) × Int)) (
   (whileO (loops_of_l3 p0) (0, a9, ([0, p0.Start] : List Int), ([] : List Int), ([] : List (Int × Int)), 0)).bind fun (aa, ab, ac, ae, af) =>
    some (aa, ab, ac, ae, af)) fun (ag, ah, ai, aj, ak) =>
  some ((loops_piece.mk ag ah ai aj ak), 0)
def c_loops_of_val (r : (loops_piece × Int)) (x : Value) : Value := .tuple #[x, .int .i64 r.2]
def c_loops_of_D (r : (loops_piece × Int)) (x : Value) : List Fact := [fRep r_loops_piece x r.1]
theorem c_loops_of (E : Nat → Prop) (w0 : World) (p0 : api_Chart) (v0 : Value) (r : (loops_piece × Int)) (h : F_loops_of p0 = some r) (S : St0 E [] w0 w0 [] [fRep r_api_Chart (v0) p0]) :
 Calls Try.prog 33 #[v0] w0 (Ret (X := Value) E [] w0 (c_loops_of_val r) (fun _ => []) (c_loops_of_D r)) := by
 unfold F_loops_of at h
 obtain ⟨u1, rfl, d1⟩ := S.know (i := 0) (e := fRep r_api_Chart (v0) p0) rfl
 have S := S.learn (fRep (rL r_api_Row) u1 p0.Rows) d1
 obtain ⟨aa, ab, _, rfl, _⟩ := d1
 refine sEnter (args := [.agg #[iv p0.Start, .slice aa p0.Rows.length ab]]) 69 Try.func33 rfl rfl (by simp) S (fun a S => ?_)
 refine sSeq (fun K5 d3 => sRegion (sBox (v := .agg #[iv p0.Start, .slice aa p0.Rows.length ab]) S (wN rfl) rfl rfl [iv p0.Start, .slice aa p0.Rows.length ab] rfl rfl (lb rfl) fun a b6 w S => ?_))
 refine sAlloc (.agg #[.slice none 0 0, .slice none 0 0, .slice none 0 0, .slice none 0 0, iv 0]) S (wN rfl) rfl rfl [.slice none 0 0, .slice none 0 0, .slice none 0 0, .slice none 0 0, iv 0] rfl rfl (lb rfl) fun a b7 w S => ?_
 refine sN S fun a S => ?_
 refine lT (d3 _ _ (sSeq (fun K8 d4 => sSeq (fun K9 d5 => sRegion (sLoadN (p := b6) (off := 0) (T := 24) (vs := [iv p0.Start, .slice aa p0.Rows.length ab]) 1 [iv p0.Start, .slice aa p0.Rows.length ab] S (wN rfl) rfl rfl rfl rfl rfl rfl rfl (lb rfl) fun a S => ?_)))))
 obtain ⟨c7, cB, h⟩ := bS h
 have S1 := S.mem
 refine sCq [.agg #[iv p0.Start, .slice aa p0.Rows.length ab]] (iv c7) S callee39 (S1.quiet [1] rfl) (fun E1 w1 S1 => c_chart_Check E1 w1 p0 (.agg #[iv p0.Start, .slice aa p0.Rows.length ab]) c7 cB S1) fun a w S => ?_
 refine sN S fun a S => ?_
 refine lT (d5 _ _ (sSeq (fun dm cC => sRegion (sM S fun a S => ?_))))
 refine sBin _ S (wN rfl) rfl rfl rfl (bNe _ _ _ _ .i64 c7 0) rfl (lb rfl) fun a S => ?_
 refine lT (cC _ _ ?_)
 rcases iS h with ⟨bO, h⟩ | ⟨bO, h⟩
 ·refine sCondT S rfl bO ?_
  refine sSeq (fun dn cD => sRegion (sBuild [] [.slice none 0 0, .slice none 0 0, .slice none 0 0, .slice none 0 0, iv 0] S (wN rfl) rfl rfl rfl rfl (lb rfl) fun a S => ?_))
  refine sM S fun a S => ?_
  refine sStore (p := b7) (off := 0) (T := 73) (vs := [.slice none 0 0, .slice none 0 0, .slice none 0 0, .slice none 0 0, iv 0]) (v := .agg #[.slice none 0 0, .slice none 0 0, .slice none 0 0, .slice none 0 0, iv 0]) 0 [.slice none 0 0, .slice none 0 0, .slice none 0 0, .slice none 0 0, iv 0] S (wN rfl) rfl rfl rfl rfl rfl rfl rfl (by simp) rfl fun a w S => ?_
  refine sN S fun a S => ?_
  refine lT (cD _ _ ?_)
  obtain rfl := tS h
  have S := S.learn (fRep (rL r_api_Loop) (.slice none 0 0) ([] : (List api_Loop))) (rL_nil _ _ _)
  have S := S.learn (fRep (rL (rI .i64)) (.slice none 0 0) ([] : (List Int))) (rL_nil _ _ _)
  have S := S.learn (fRep (rL r_A2_Int) (.slice none 0 0) ([] : (List (Int × Int)))) (rL_nil _ _ _)
  have S := S.learn (fRep r_loops_piece (.agg #[.slice none 0 0, .slice none 0 0, .slice none 0 0, .slice none 0 0, iv 0]) (loops_piece.mk ([] : (List api_Loop)) ([] : (List Int)) ([] : (List Int)) ([] : (List (Int × Int))) 0)) ⟨_, _, _, _, rfl, S.mem.know (i := 2) (e := fRep (rL r_api_Loop) (.slice none 0 0) ([] : (List api_Loop))) rfl, S.mem.know (i := 1) (e := fRep (rL (rI .i64)) (.slice none 0 0) ([] : (List Int))) rfl, S.mem.know (i := 1) (e := fRep (rL (rI .i64)) (.slice none 0 0) ([] : (List Int))) rfl, S.mem.know (i := 0) (e := fRep (rL r_A2_Int) (.slice none 0 0) ([] : (List (Int × Int)))) rfl⟩
  exact wp_ret (rThen (sRet (.tuple #[.agg #[.slice none 0 0, .slice none 0 0, .slice none 0 0, .slice none 0 0, iv 0], iv c7]) S (rsl2 rfl (rvN (c := 2) (t := 73) (T := 73) (p := b7) 0 [.slice none 0 0, .slice none 0 0, .slice none 0 0, .slice none 0 0, iv 0] S rfl rfl rfl rfl) (rvT (t := 3) (v := iv c7) S rfl)) ⟨(.agg #[.slice none 0 0, .slice none 0 0, .slice none 0 0, .slice none 0 0, iv 0]), rfl, S.mem.sel [] [0] (by decide) rfl rfl⟩))
 refine sCondF S rfl bO ?_
 refine wp_skip (leafT (d4 _ _ ?_))
 obtain ⟨d6, h, d7⟩ := bS h
 refine sCut (fun a w => ∃ bZ, bZ = d6 ∧ ∃ bv, ∃ bw, St [] E [] w0 69 a w [(1, .pointer (some ⟨b6, 0, none⟩)), (2, .pointer (some ⟨b7, 0, none⟩))] [eBox b6 24 [iv p0.Start, .slice aa p0.Rows.length ab], eBox b7 73 [.slice bv bZ.length bw, .slice none 0 0, .slice none 0 0, .slice none 0 0, iv 0], eRow r_api_Loop 48 (.slice bv bZ.length bw) bZ] [fRep (rL r_api_Row) (.slice aa p0.Rows.length ab) p0.Rows]) ?_ (fun a w hI => ?_)
 ·refine sSeq (fun dp cE => sRegion (sField (b := b6) (off := 0) 0 0 S (wN rfl) rfl rfl rfl rfl rfl (lb rfl) fun a S => ?_))
  refine sLoad1 1 (iv p0.Start) S (wN rfl) rfl rfl rfl rfl rfl rfl (lb rfl) fun a S => ?_
  refine sM S fun a S => ?_
  refine lT (cE _ _ (wp_block ?_))
  have S := S.nilRow r_api_Loop 48 (α := api_Loop)
  obtain ⟨dr, hl, d8⟩ := bS h
  refine sLoop hl (fun s0 a w => match s0 with | (aR, bD) => ∃ aX, ∃ aZ, St [] E [] w0 69 a w [(1, .pointer (some ⟨b6, 0, none⟩)), (2, .pointer (some ⟨b7, 0, none⟩)), (18, iv p0.Start), (19, iv aR)] [eBox b6 24 [iv p0.Start, .slice aa p0.Rows.length ab], eBox b7 73 [.slice aX bD.length aZ, .slice none 0 0, .slice none 0 0, .slice none 0 0, iv 0], eRow r_api_Loop 48 (.slice aX bD.length aZ) bD] [fRep (rL r_api_Row) (.slice aa p0.Rows.length ab) p0.Rows]) ⟨none, 0, S.fix [2, 1, 0] [0] (by decide) rfl rfl rfl⟩ ?_
  clear hl h
  intro s0 a w c0 hI h cF
  obtain ⟨aR, bD⟩ := s0
  unfold loops_of_l1 at h
  dsimp only at h hI
  obtain ⟨aX, aZ, S⟩ := hI
  refine sSeq (fun dt cG => sRegion (sBin _ S (wN rfl) rfl rfl rfl (bLt _ _ _ _ .i64 aR p0.Start) rfl (lb rfl) fun a S => ?_))
  refine lT (cG _ _ (sSeq (fun du cH => ?_)))
  rcases iS h with ⟨bP, h⟩ | ⟨bP, h⟩
  rotate_left
  ·refine sCondF S rfl bP ?_
   obtain rfl := tS h
   obtain rfl := cF _ rfl
   have h := d8
   try dsimp only at h
   exact wp_exit (xThen (xThen (xHit (leafT (⟨bD, Option.some.inj h, aX, aZ, S.fix [0, 1, 2] [0] (by decide) rfl rfl rfl⟩)))))
  refine sCondT S rfl bP ?_
  refine wp_skip (leafT (cH _ _ ?_))
  refine sSeq (fun dv cI => wp_block ?_)
  refine sSeq (fun dw cJ => sRegion (sM S fun a S => ?_))
  refine sN S fun a S => ?_
  refine lT (cJ _ _ (sRegion (sField (b := b7) (off := 0) 0 0 S (wN rfl) rfl rfl rfl rfl rfl (lb rfl) fun a S => ?_)))
  refine sLoad1 1 (.slice aX bD.length aZ) S (wN rfl) rfl rfl rfl rfl rfl rfl (lb rfl) fun a S => ?_
  refine sM S fun a S => ?_
  refine sBuild [(1, iv aR)] [iv 0, iv aR, .slice none 0 0, .bool false] S (wN rfl) rfl rfl rfl rfl (lb rfl) fun a S => ?_
  have S := S.learn (fRep (rL (rI .i64)) (.slice none 0 0) ([] : (List Int))) (rL_nil _ _ _)
  have S := S.learn (fRep r_api_Loop (.agg #[iv 0, iv aR, .slice none 0 0, .bool false]) (api_Loop.mk 0 aR ([] : (List Int)) false)) ⟨_, rfl, S.mem.know (i := 0) (e := fRep (rL (rI .i64)) (.slice none 0 0) ([] : (List Int))) rfl⟩
  refine sLit (r := r_api_Loop) (T := 48) (xs := [(api_Loop.mk 0 aR ([] : (List Int)) false)]) [(0, .agg #[iv 0, iv aR, .slice none 0 0, .bool false])] 1 [.agg #[iv 0, iv aR, .slice none 0 0, .bool false]] [iv 0, iv aR, .slice none 0 0, .bool false] (.agg #[iv 0, iv 0, .slice none 0 0, .bool false]) 48 S (wN rfl) rfl rfl Try.underlying26 rfl (by decide) (by decide) (by kernel_rfl) rfl (fun E1 w1 hE => All.cons (r_api_Loop.mono hE (S.mem.know (i := 0) (e := fRep r_api_Loop (.agg #[iv 0, iv aR, .slice none 0 0, .bool false]) (api_Loop.mk 0 aR ([] : (List Int)) false)) rfl)) (All.nil _ _ _)) rfl rfl (lb rfl) fun a w cK cL S => ?_
  obtain ⟨cM, cN, h⟩ := bS h
  refine sApp (r := r_api_Loop) (T := 48) (xs := bD) (ys := [(api_Loop.mk 0 aR ([] : (List Int)) false)]) (v := .slice aX bD.length aZ) (u := .slice cK [(api_Loop.mk 0 aR ([] : (List Int)) false)].length cL) 3 (.agg #[iv 0, iv 0, .slice none 0 0, .bool false]) 48 S (wN rfl) rfl Try.underlying26 rfl rfl (by decide) rfl rfl rfl (src_R (T := 48) 0 S.mem rfl) cN rfl (lb rfl) fun a w bQ bR S => ?_
  refine sField (b := b7) (off := 0) 0 0 S (wN rfl) rfl rfl rfl rfl rfl (lb rfl) fun a S => ?_
  refine sStore (p := b7) (off := 0) (T := 73) (vs := [.slice aX bD.length aZ, .slice none 0 0, .slice none 0 0, .slice none 0 0, iv 0]) (v := .slice bQ cM.length bR) 3 [.slice bQ cM.length bR] S (wN rfl) rfl rfl rfl rfl rfl rfl rfl (by simp) rfl fun a w S => ?_
  refine leafL (leafB (leafT (cI _ _ ?_)))
  refine sRegion (sBin _ S (wN rfl) rfl rfl rfl (bAdd _ _ _ _ aR 1) rfl (lb rfl) fun a S => ?_)
  refine sM S fun a S => ?_
  exact lT (⟨(w64 (aR + 1), cM), (Option.some.inj h).symm, ⟨bQ, bR, S.fix [3, 0, 1] [2] (by decide) rfl rfl rfl⟩⟩)
 obtain ⟨bZ, rfl, bv, bw, S⟩ := hI
 have h := d7
 try dsimp only at h
 refine sSeq (fun dx cO => sRegion (sField (b := b6) (off := 0) 0 0 S (wN rfl) rfl rfl rfl rfl rfl (lb rfl) fun a S => ?_))
 refine sLoad1 0 (iv p0.Start) S (wN rfl) rfl rfl rfl rfl rfl rfl (lb rfl) fun a S => ?_
 refine sLit (r := (rI .i64)) (T := 3) (xs := ([0, p0.Start] : List Int)) [(0, iv 0), (1, iv p0.Start)] 2 [iv 0, iv p0.Start] [iv 0, iv p0.Start] (iv 0) 8 S (wN rfl) rfl rfl Try.underlying32 rfl (by decide) (by decide) (by kernel_rfl) rfl (fun E1 w1 hE => All.cons rfl (All.cons rfl (All.nil _ _ _))) rfl rfl (lb rfl) fun a w bU bV S => ?_
 refine sField (b := b7) (off := 0) 1 1 S (wN rfl) rfl rfl rfl rfl rfl (lb rfl) fun a S => ?_
 refine sStore (p := b7) (off := 1) (T := 73) (vs := [.slice bv bZ.length bw, .slice none 0 0, .slice none 0 0, .slice none 0 0, iv 0]) (v := .slice bU ([0, p0.Start] : List Int).length bV) 2 [.slice bU ([0, p0.Start] : List Int).length bV] S (wN rfl) rfl rfl rfl rfl rfl rfl rfl (by simp) rfl fun a w S => ?_
 refine lT (cO _ _ ?_)
 obtain ⟨d9, h, da⟩ := bS h
 refine sCut (fun a w => ∃ aH, ∃ aI, ∃ aJ, ∃ aK, ∃ br, (aH, aI, aJ, aK, br) = d9 ∧ ∃ ac, ∃ ae, ∃ af, ∃ ag, ∃ ah, ∃ ai, ∃ aj, ∃ ak, St [] E [] w0 69 a w [(2, .pointer (some ⟨b7, 0, none⟩))] [eBox b7 73 [.slice ac aH.length ae, .slice af aI.length ag, .slice ah aJ.length ai, .slice aj aK.length ak, iv br], eRow r_api_Loop 48 (.slice ac aH.length ae) aH, eRow (rI .i64) 3 (.slice af aI.length ag) aI, eRow (rI .i64) 3 (.slice ah aJ.length ai) aJ, eRow r_A2_Int 49 (.slice aj aK.length ak) aK] []) ?_ (fun a w hI => ?_)
 rotate_left
 ·obtain ⟨aH, aI, aJ, aK, br, rfl, ac, ae, af, ag, ah, ai, aj, ak, S⟩ := hI
  have h := da
  try dsimp only at h
  refine sSeq (fun db c8 => sRegion (sLoadN (p := b7) (off := 0) (T := 73) (vs := [.slice ac aH.length ae, .slice af aI.length ag, .slice ah aJ.length ai, .slice aj aK.length ak, iv br]) 0 [.slice ac aH.length ae, .slice af aI.length ag, .slice ah aJ.length ai, .slice aj aK.length ak, iv br] S (wN rfl) rfl rfl rfl rfl rfl rfl rfl (lb rfl) fun a S => ?_))
  refine sStore (p := b7) (off := 0) (T := 73) (vs := [.slice ac aH.length ae, .slice af aI.length ag, .slice ah aJ.length ai, .slice aj aK.length ak, iv br]) (v := .agg #[.slice ac aH.length ae, .slice af aI.length ag, .slice ah aJ.length ai, .slice aj aK.length ak, iv br]) 0 [.slice ac aH.length ae, .slice af aI.length ag, .slice ah aJ.length ai, .slice aj aK.length ak, iv br] S (wN rfl) rfl rfl rfl rfl rfl rfl rfl (by simp) rfl fun a w S => ?_
  refine sN S fun a S => ?_
  refine lT (c8 _ _ ?_)
  obtain rfl := tS h
  have S := S.shutR (r := r_api_Loop) (T := 48) (v := .slice ac aH.length ae) (xs := aH) 1 rfl
  have S := S.shutR (r := (rI .i64)) (T := 3) (v := .slice af aI.length ag) (xs := aI) 1 rfl
  have S := S.shutR (r := (rI .i64)) (T := 3) (v := .slice ah aJ.length ai) (xs := aJ) 1 rfl
  have S := S.shutR (r := r_A2_Int) (T := 49) (v := .slice aj aK.length ak) (xs := aK) 1 rfl
  have S := S.learn (fRep r_loops_piece (.agg #[.slice ac aH.length ae, .slice af aI.length ag, .slice ah aJ.length ai, .slice aj aK.length ak, iv br]) (loops_piece.mk aH aI aJ aK br)) ⟨_, _, _, _, rfl, S.mem.know (i := 3) (e := fRep (rL r_api_Loop) (.slice ac aH.length ae) aH) rfl, S.mem.know (i := 2) (e := fRep (rL (rI .i64)) (.slice af aI.length ag) aI) rfl, S.mem.know (i := 1) (e := fRep (rL (rI .i64)) (.slice ah aJ.length ai) aJ) rfl, S.mem.know (i := 0) (e := fRep (rL r_A2_Int) (.slice aj aK.length ak) aK) rfl⟩
  exact wp_ret (sRet (.tuple #[.agg #[.slice ac aH.length ae, .slice af aI.length ag, .slice ah aJ.length ai, .slice aj aK.length ak, iv br], iv 0]) S (rsl2 rfl (rvN (c := 2) (t := 73) (T := 73) (p := b7) 0 [.slice ac aH.length ae, .slice af aI.length ag, .slice ah aJ.length ai, .slice aj aK.length ak, iv br] S rfl rfl rfl rfl) (rvT (t := 3) (v := iv 0) S rfl)) ⟨(.agg #[.slice ac aH.length ae, .slice af aI.length ag, .slice ah aJ.length ai, .slice aj aK.length ak, iv br]), rfl, S.mem.sel [] [0] (by decide) rfl rfl⟩)
 refine sSeq (fun dy cP => sRegion (sField (b := b6) (off := 0) 1 1 S (wN rfl) rfl rfl rfl rfl rfl (lb rfl) fun a S => ?_))
 refine sLoad1 2 (.slice aa p0.Rows.length ab) S (wN rfl) rfl rfl rfl rfl rfl rfl (lb rfl) fun a S => ?_
 refine sLen S (wN rfl) rfl Try.underlying22 rfl rfl (lb rfl) fun a S => ?_
 refine sM S fun a S => ?_
 refine lT (cP _ _ (wp_block ?_))
 have S := S.nilRow (rI .i64) 3 (α := Int)
 have S := S.nilRow r_A2_Int 49 (α := (Int × Int))
 obtain ⟨dz, hl, dc⟩ := bS h
 refine sLoop hl (fun s0 a w => match s0 with | (bm, bK, bL, bM, bN, cA) => ∃ ba, ∃ bb, ∃ bc, ∃ bf, ∃ bg, ∃ bh, ∃ bi, ∃ bj, St [] E [] w0 69 a w [(1, .pointer (some ⟨b6, 0, none⟩)), (2, .pointer (some ⟨b7, 0, none⟩)), (36, iv (p0.Rows.length : Int)), (37, iv bm)] [eBox b6 24 [iv p0.Start, .slice aa p0.Rows.length ab], eBox b7 73 [.slice ba bK.length bb, .slice bc bL.length bf, .slice bg bM.length bh, .slice bi bN.length bj, iv cA], eRow r_api_Loop 48 (.slice ba bK.length bb) bK, eRow (rI .i64) 3 (.slice bc bL.length bf) bL, eRow (rI .i64) 3 (.slice bg bM.length bh) bM, eRow r_A2_Int 49 (.slice bi bN.length bj) bN] [fRep (rL r_api_Row) (.slice aa p0.Rows.length ab) p0.Rows]) ⟨bv, bw, bU, bV, none, 0, none, 0, S.fix [4, 2, 5, 3, 1, 0] [0] (by decide) rfl rfl rfl⟩ ?_
 clear hl h
 intro s0 a w c0 hI h cQ
 obtain ⟨bm, bK, bL, bM, bN, cA⟩ := s0
 unfold loops_of_l3 at h
 dsimp only at h hI
 obtain ⟨ba, bb, bc, bf, bg, bh, bi, bj, S⟩ := hI
 refine sSeq (fun dA cR => sRegion (sBin _ S (wN rfl) rfl rfl rfl (bLt _ _ _ _ .i64 bm (p0.Rows.length : Int)) rfl (lb rfl) fun a S => ?_))
 refine lT (cR _ _ (sSeq (fun dB cT => ?_)))
 rcases iS h with ⟨bW, h⟩ | ⟨bW, h⟩
 rotate_left
 ·refine sCondF S rfl bW ?_
  obtain rfl := tS h
  obtain rfl := cQ _ rfl
  have h := dc
  try dsimp only at h
  exact wp_exit (xThen (xThen (xHit (leafT (⟨bK, bL, bM, bN, cA, Option.some.inj h, ba, bb, bc, bf, bg, bh, bi, bj, S.fix [1, 2, 3, 4, 5] [] (by decide) rfl rfl rfl⟩)))))
 refine sCondT S rfl bW ?_
 refine wp_skip (leafT (cT _ _ ?_))
 obtain ⟨cU, h, cV⟩ := bS h
 refine sCut (fun a w => ∃ c5, ∃ c6, ∃ bt, ∃ bu, ∃ bE, (c5, c6, bt, bu, bE) = cU ∧ ∃ bG, ∃ bH, ∃ bI, ∃ bJ, ∃ bn, ∃ bo, ∃ bp, ∃ bq, St [] E [] w0 69 a w [(1, .pointer (some ⟨b6, 0, none⟩)), (2, .pointer (some ⟨b7, 0, none⟩)), (36, iv (p0.Rows.length : Int)), (37, iv bm)] [eBox b6 24 [iv p0.Start, .slice aa p0.Rows.length ab], eBox b7 73 [.slice bG c5.length bH, .slice bI c6.length bJ, .slice bn bt.length bo, .slice bp bu.length bq, iv bE], eRow r_api_Loop 48 (.slice bG c5.length bH) c5, eRow (rI .i64) 3 (.slice bI c6.length bJ) c6, eRow (rI .i64) 3 (.slice bn bt.length bo) bt, eRow r_A2_Int 49 (.slice bp bu.length bq) bu] [fRep (rL r_api_Row) (.slice aa p0.Rows.length ab) p0.Rows]) ?_ (fun a w hI => ?_)
 rotate_left
 ·obtain ⟨c5, c6, bt, bu, bE, rfl, bG, bH, bI, bJ, bn, bo, bp, bq, S⟩ := hI
  have h := cV
  try dsimp only at h
  refine sRegion (sBin _ S (wN rfl) rfl rfl rfl (bAdd _ _ _ _ bm 1) rfl (lb rfl) fun a S => ?_)
  refine sM S fun a S => ?_
  exact lT (⟨(w64 (bm + 1), c5, c6, bt, bu, bE), (Option.some.inj h).symm, ⟨bG, bH, bI, bJ, bn, bo, bp, bq, S.fix [0, 1, 2, 3, 4, 5] [0] (by decide) rfl rfl rfl⟩⟩)
 refine wp_block ?_
 refine sSeq (fun de c9 => sRegion (sM S fun a S => ?_))
 refine sN S fun a S => ?_
 refine lT (c9 _ _ (sSeq (fun df ca => sRegion (sLoadN (p := b6) (off := 0) (T := 24) (vs := [iv p0.Start, .slice aa p0.Rows.length ab]) 0 [iv p0.Start, .slice aa p0.Rows.length ab] S (wN rfl) rfl rfl rfl rfl rfl rfl rfl (lb rfl) fun a S => ?_))))
 refine sM S fun a S => ?_
 obtain ⟨a9, cb, h⟩ := bS h
 have S := S.learn (fRep r_api_Chart (.agg #[iv p0.Start, .slice aa p0.Rows.length ab]) p0) ⟨_, rfl, S.mem.know (i := 0) (e := fRep (rL r_api_Row) (.slice aa p0.Rows.length ab) p0.Rows) rfl⟩
 refine sCall (X := Value) (f := 43) (vs := [.agg #[iv p0.Start, .slice aa p0.Rows.length ab], iv bm]) (val := c_chart_Face_val a9) (B' := fun _ => []) (D' := c_chart_Face_D a9) [] [eBox b6 24 [iv p0.Start, .slice aa p0.Rows.length ab], eBox b7 73 [.slice ba bK.length bb, .slice bc bL.length bf, .slice bg bM.length bh, .slice bi bN.length bj, iv cA], eRow r_api_Loop 48 (.slice ba bK.length bb) bK, eRow (rI .i64) 3 (.slice bc bL.length bf) bL, eRow (rI .i64) 3 (.slice bg bM.length bh) bM, eRow r_A2_Int 49 (.slice bi bN.length bj) bN] [fRep r_api_Chart (.agg #[iv p0.Start, .slice aa p0.Rows.length ab]) p0] [0, 1, 2, 3, 4, 5] [0] S (wN rfl) rfl callee43 rfl (by decide) rfl rfl (fun E1 w1 S1 => c_chart_Face E1 w1 p0 (.agg #[iv p0.Start, .slice aa p0.Rows.length ab]) bm a9 cb S1) rfl (lb rfl) fun cW a w S => ?_
 obtain ⟨ax, ay, _, rfl, _⟩ := S.mem.know (i := 0) (e := fRep (rL r_api_Stitch) (cW) a9.1) rfl
 refine sM S fun a S => ?_
 refine sExtract (vs := [.slice ax a9.1.length ay, iv a9.2]) (.slice ax a9.1.length ay) S (wN rfl) rfl rfl rfl rfl (lb rfl) fun a S => ?_
 refine sExtract (vs := [.slice ax a9.1.length ay, iv a9.2]) (iv a9.2) S (wN rfl) rfl rfl rfl rfl (lb rfl) fun a S => ?_
 refine sN S fun a S => ?_
 refine sN S fun a S => ?_
 refine lT (ca _ _ ?_)
 obtain ⟨cX, h, cY⟩ := bS h
 refine sCut (fun a w => ∃ al, ∃ aL, ∃ bk, ∃ bl, ∃ bx, (al, aL, bk, bl, bx) = cX ∧ ∃ az, ∃ aA, ∃ aC, ∃ aG, ∃ aS, ∃ aT, ∃ aU, ∃ aV, St [] E [] w0 69 a w [(1, .pointer (some ⟨b6, 0, none⟩)), (2, .pointer (some ⟨b7, 0, none⟩)), (36, iv (p0.Rows.length : Int)), (37, iv bm)] [eBox b6 24 [iv p0.Start, .slice aa p0.Rows.length ab], eBox b7 73 [.slice az al.length aA, .slice aC aL.length aG, .slice aS bk.length aT, .slice aU bl.length aV, iv bx], eRow r_api_Loop 48 (.slice az al.length aA) al, eRow (rI .i64) 3 (.slice aC aL.length aG) aL, eRow (rI .i64) 3 (.slice aS bk.length aT) bk, eRow r_A2_Int 49 (.slice aU bl.length aV) bl] [fRep (rL r_api_Row) (.slice aa p0.Rows.length ab) p0.Rows]) ?_ (fun a w hI => ?_)
 rotate_left
 ·obtain ⟨al, aL, bk, bl, bx, rfl, az, aA, aC, aG, aS, aT, aU, aV, S⟩ := hI
  have h := cY
  try dsimp only at h
  refine sRegion (sField (b := b7) (off := 0) 1 1 S (wN rfl) rfl rfl rfl rfl rfl (lb rfl) fun a S => ?_)
  refine sLoad1 1 (.slice aC aL.length aG) S (wN rfl) rfl rfl rfl rfl rfl rfl (lb rfl) fun a S => ?_
  refine sField (b := b7) (off := 0) 0 0 S (wN rfl) rfl rfl rfl rfl rfl (lb rfl) fun a S => ?_
  refine sLoad1 1 (.slice az al.length aA) S (wN rfl) rfl rfl rfl rfl rfl rfl (lb rfl) fun a S => ?_
  refine sLen S (wN rfl) rfl Try.underlying26 rfl rfl (lb rfl) fun a S => ?_
  refine sLit (r := (rI .i64)) (T := 3) (xs := ([(al.length : Int)] : List Int)) [(0, iv (al.length : Int))] 1 [iv (al.length : Int)] [iv (al.length : Int)] (iv 0) 8 S (wN rfl) rfl rfl Try.underlying32 rfl (by decide) (by decide) (by kernel_rfl) rfl (fun E1 w1 hE => All.cons rfl (All.nil _ _ _)) rfl rfl (lb rfl) fun a w cc cd S => ?_
  obtain ⟨bX, ce, h⟩ := bS h
  refine sApp (r := (rI .i64)) (T := 3) (xs := aL) (ys := ([(al.length : Int)] : List Int)) (v := .slice aC aL.length aG) (u := .slice cc ([(al.length : Int)] : List Int).length cd) 4 (iv 0) 8 S (wN rfl) rfl Try.underlying32 rfl rfl (by decide) rfl rfl rfl (src_R (T := 3) 0 S.mem rfl) ce rfl (lb rfl) fun a w bz bA S => ?_
  refine sField (b := b7) (off := 0) 1 1 S (wN rfl) rfl rfl rfl rfl rfl (lb rfl) fun a S => ?_
  refine sStore (p := b7) (off := 1) (T := 73) (vs := [.slice az al.length aA, .slice aC aL.length aG, .slice aS bk.length aT, .slice aU bl.length aV, iv bx]) (v := .slice bz bX.length bA) 3 [.slice bz bX.length bA] S (wN rfl) rfl rfl rfl rfl rfl rfl rfl (by simp) rfl fun a w S => ?_
  exact leafL (leafB (leafT (⟨al, bX, bk, bl, bx, Option.some.inj h, az, aA, bz, bA, aS, aT, aU, aV, S.fix [3, 0, 4, 1, 5, 6] [0] (by decide) rfl rfl rfl⟩)))
 refine sSeq (fun dg cf => sRegion (sM S fun a S => ?_))
 refine sLen S (wN rfl) rfl Try.underlying62 rfl rfl (lb rfl) fun a S => ?_
 refine sM S fun a S => ?_
 refine lT (cf _ _ (wp_block ?_))
 obtain ⟨dh, hl, cZ⟩ := bS h
 refine sLoop hl (fun s0 a w => match s0 with | (aW, aM, aO, aP, aQ, bB) => ∃ am, ∃ ao, ∃ ap, ∃ aq, ∃ ar, ∃ au, ∃ av, ∃ aw, St [] E [] w0 69 a w [(1, .pointer (some ⟨b6, 0, none⟩)), (2, .pointer (some ⟨b7, 0, none⟩)), (6, iv bm), (36, iv (p0.Rows.length : Int)), (37, iv bm), (46, .slice ax a9.1.length ay), (47, iv (a9.1.length : Int)), (48, iv aW)] [eBox b6 24 [iv p0.Start, .slice aa p0.Rows.length ab], eBox b7 73 [.slice am aM.length ao, .slice ap aO.length aq, .slice ar aP.length au, .slice av aQ.length aw, iv bB], eRow r_api_Loop 48 (.slice am aM.length ao) aM, eRow (rI .i64) 3 (.slice ap aO.length aq) aO, eRow (rI .i64) 3 (.slice ar aP.length au) aP, eRow r_A2_Int 49 (.slice av aQ.length aw) aQ] [fRep (rL r_api_Stitch) (.slice ax a9.1.length ay) a9.1, fRep (rL r_api_Row) (.slice aa p0.Rows.length ab) p0.Rows]) ⟨ba, bb, bc, bf, bg, bh, bi, bj, S.fix [0, 1, 2, 3, 4, 5] [0, 2] (by decide) rfl rfl rfl⟩ ?_
 clear hl h
 intro s0 a w c0 hI h cg
 obtain ⟨aW, aM, aO, aP, aQ, bB⟩ := s0
 unfold loops_of_l2 at h
 dsimp only at h hI
 obtain ⟨am, ao, ap, aq, ar, au, av, aw, S⟩ := hI
 refine sSeq (fun di ci => sRegion (sBin _ S (wN rfl) rfl rfl rfl (bLt _ _ _ _ .i64 aW (a9.1.length : Int)) rfl (lb rfl) fun a S => ?_))
 refine lT (ci _ _ (sSeq (fun dj cj => ?_)))
 rcases iS h with ⟨bC, h⟩ | ⟨bC, h⟩
 rotate_left
 ·refine sCondF S rfl bC ?_
  obtain rfl := tS h
  obtain rfl := cg _ rfl
  have h := cZ
  try dsimp only at h
  exact wp_exit (xThen (xThen (xHit (leafT (⟨aM, aO, aP, aQ, bB, Option.some.inj h, am, ao, ap, aq, ar, au, av, aw, S.fix [0, 1, 2, 3, 4, 5] [1] (by decide) rfl rfl rfl⟩)))))
 refine sCondT S rfl bC ?_
 refine wp_skip (leafT (cj _ _ ?_))
 refine sSeq (fun dk ck => wp_block ?_)
 refine sSeq (fun dl cl => sRegion (sM S fun a S => ?_))
 obtain ⟨a0, cm, h⟩ := bS h
 obtain ⟨cn, co, S⟩ := pIdx (P := Try.prog) (r := r_api_Stitch) (v := .slice ax a9.1.length ay) (xs := a9.1) (j := aW) 62 61 0 S Try.underlying62 rfl rfl cm
 refine sIdxV S (wN rfl) rfl rfl rfl co rfl (lb rfl) fun a S => ?_
 obtain ⟨cp, S⟩ := pLoad (r := r_api_Stitch) (q := cn) (x := a0) 0 S rfl
 obtain rfl : cp = .agg #[.int .u8 a0.Kind, .bool a0.Purl, iv a0.A, iv a0.B] := S.mem.know (i := 1) (e := fRep r_api_Stitch (cp) a0) rfl
 refine sLoadVN (vq := cn) 0 [.int .u8 a0.Kind, .bool a0.Purl, iv a0.A, iv a0.B] S (wN rfl) rfl rfl rfl rfl rfl rfl (lb rfl) fun a S => ?_
 refine sAlloc (.agg #[.int .u8 0, .bool false, iv 0, iv 0]) S (wN rfl) rfl rfl [.int .u8 0, .bool false, iv 0, iv 0] rfl rfl (lb rfl) fun a bY w S => ?_
 refine sN S fun a S => ?_
 refine sStore (p := bY) (off := 0) (T := 61) (vs := [.int .u8 0, .bool false, iv 0, iv 0]) (v := .agg #[.int .u8 a0.Kind, .bool a0.Purl, iv a0.A, iv a0.B]) 0 [.int .u8 a0.Kind, .bool a0.Purl, iv a0.A, iv a0.B] S (wN rfl) rfl rfl rfl rfl rfl rfl rfl (by simp) rfl fun a w S => ?_
 refine lT (cl _ _ (sRegion (sM S fun a S => ?_)))
 refine sBin _ S (wN rfl) rfl rfl rfl (bAdd _ _ _ _ bm 1) rfl (lb rfl) fun a S => ?_
 refine sM S fun a S => ?_
 refine sLoadN (p := bY) (off := 0) (T := 61) (vs := [.int .u8 a0.Kind, .bool a0.Purl, iv a0.A, iv a0.B]) 0 [.int .u8 a0.Kind, .bool a0.Purl, iv a0.A, iv a0.B] S (wN rfl) rfl rfl rfl rfl rfl rfl rfl (lb rfl) fun a S => ?_
 obtain ⟨a8, cq, h⟩ := bS h
 refine sCall (X := Option Addr × Nat × Option Addr × Nat × Option Addr × Nat × Option Addr × Nat) (f := 44) (vs := [.pointer (some ⟨b7, 0, none⟩), iv (w64 (bm + 1)), iv aW, .agg #[.int .u8 a0.Kind, .bool a0.Purl, iv a0.A, iv a0.B]]) (val := fun _ => .tuple #[]) (B' := fun x => [eBox b7 73 [.slice x.1 a8.loops.length x.2.1, .slice x.2.2.1 a8.rows.length x.2.2.2.1, .slice x.2.2.2.2.1 a8.bound.length x.2.2.2.2.2.1, .slice x.2.2.2.2.2.2.1 a8.cross.length x.2.2.2.2.2.2.2, iv a8.next], eRow r_api_Loop 48 (.slice x.1 a8.loops.length x.2.1) a8.loops, eRow (rI .i64) 3 (.slice x.2.2.1 a8.rows.length x.2.2.2.1) a8.rows, eRow (rI .i64) 3 (.slice x.2.2.2.2.1 a8.bound.length x.2.2.2.2.2.1) a8.bound, eRow r_A2_Int 49 (.slice x.2.2.2.2.2.2.1 a8.cross.length x.2.2.2.2.2.2.2) a8.cross]) (D' := fun _ => []) [eBox b7 73 [.slice am aM.length ao, .slice ap aO.length aq, .slice ar aP.length au, .slice av aQ.length aw, iv bB], eRow r_api_Loop 48 (.slice am aM.length ao) aM, eRow (rI .i64) 3 (.slice ap aO.length aq) aO, eRow (rI .i64) 3 (.slice ar aP.length au) aP, eRow r_A2_Int 49 (.slice av aQ.length aw) aQ] [eBox bY 61 [.int .u8 a0.Kind, .bool a0.Purl, iv a0.A, iv a0.B], eBox b6 24 [iv p0.Start, .slice aa p0.Rows.length ab]] [fRep r_api_Stitch (.agg #[.int .u8 a0.Kind, .bool a0.Purl, iv a0.A, iv a0.B]) a0] [2, 3, 4, 5, 6, 0, 1] [1] S (wN rfl) rfl callee44 rfl (by decide) rfl rfl (fun E1 w1 S1 => c_loops_piece_work_s1 E1 w1 (loops_piece.mk aM aO aP aQ bB) b7 am ao ap aq ar au av aw (w64 (bm + 1)) aW a0 (.agg #[.int .u8 a0.Kind, .bool a0.Purl, iv a0.A, iv a0.B]) a8 cq S1) rfl (lb rfl) fun xx a w S => ?_
 obtain ⟨cr, ct, cu, cv, cw, cx, cy, cz⟩ := xx
 dsimp only at S
 refine leafL (leafB (leafT (ck _ _ ?_)))
 refine sRegion (sBin _ S (wN rfl) rfl rfl rfl (bAdd _ _ _ _ aW 1) rfl (lb rfl) fun a S => ?_)
 refine sM S fun a S => ?_
 exact lT (⟨(w64 (aW + 1), a8.loops, a8.rows, a8.bound, a8.cross, a8.next), (Option.some.inj h).symm, ⟨cr, ct, cu, cv, cw, cx, cy, cz, S.fix [6, 0, 1, 2, 3, 4] [3, 4] (by decide) rfl rfl rfl⟩⟩)
noncomputable def F_loops_Of (p0 : api_Chart) : Option ((List api_Loop) × Int) :=
 (F_loops_of p0).bind fun r8 =>
 some (r8.1.loops, r8.2)
def c_loops_Of_val (r : ((List api_Loop) × Int)) (x : Value) : Value := .tuple #[x, .int .i64 r.2]
def c_loops_Of_D (r : ((List api_Loop) × Int)) (x : Value) : List Fact := [fRep (rL r_api_Loop) x r.1]
theorem c_loops_Of (E : Nat → Prop) (w0 : World) (p0 : api_Chart) (v0 : Value) (r : ((List api_Loop) × Int)) (h : F_loops_Of p0 = some r) (S : St0 E [] w0 w0 [] [fRep r_api_Chart (v0) p0]) :
 Calls Try.prog 11 #[v0] w0 (Ret (X := Value) E [] w0 (c_loops_Of_val r) (fun _ => []) (c_loops_Of_D r)) := by
 unfold F_loops_Of at h
 obtain ⟨u1, rfl, ao⟩ := S.know (i := 0) (e := fRep r_api_Chart (v0) p0) rfl
 have S := S.learn (fRep (rL r_api_Row) u1 p0.Rows) ao
 obtain ⟨ag, ah, _, rfl, _⟩ := ao
 refine sEnter (args := [.agg #[iv p0.Start, .slice ag p0.Rows.length ah]]) 14 Try.func11 rfl rfl (by simp) S (fun a S => ?_)
 refine sSeq (fun K5 aq => sRegion (sBox (v := .agg #[iv p0.Start, .slice ag p0.Rows.length ah]) S (wN rfl) rfl rfl [iv p0.Start, .slice ag p0.Rows.length ah] rfl rfl (lb rfl) fun a b6 w S => ?_))
 refine sN S fun a S => ?_
 refine sN S fun a S => ?_
 refine lT (aq _ _ (sSeq (fun K7 ar => sRegion (sLoadN (p := b6) (off := 0) (T := 24) (vs := [iv p0.Start, .slice ag p0.Rows.length ah]) 0 [iv p0.Start, .slice ag p0.Rows.length ah] S (wN rfl) rfl rfl rfl rfl rfl rfl rfl (lb rfl) fun a S => ?_))))
 obtain ⟨r8, au, h⟩ := bS h
 refine sCall (X := Value) (f := 33) (vs := [.agg #[iv p0.Start, .slice ag p0.Rows.length ah]]) (val := c_loops_of_val r8) (B' := fun _ => []) (D' := c_loops_of_D r8) [] [eBox b6 24 [iv p0.Start, .slice ag p0.Rows.length ah]] [fRep r_api_Chart (.agg #[iv p0.Start, .slice ag p0.Rows.length ah]) p0] [0] [1] S (wN rfl) rfl callee33 rfl (by decide) rfl rfl (fun E1 w1 S1 => c_loops_of E1 w1 p0 (.agg #[iv p0.Start, .slice ag p0.Rows.length ah]) r8 au S1) rfl (lb rfl) fun av a w S => ?_
 obtain ⟨aw, ax, ay, az, rfl, ai, aj, ak, al⟩ := S.mem.know (i := 0) (e := fRep r_loops_piece (av) r8.1) rfl
 have S := S.learn (fRep (rL r_api_Loop) aw r8.1.loops) ai
 obtain ⟨a0, a8, _, rfl, _⟩ := ai
 have S := S.learn (fRep (rL (rI .i64)) ax r8.1.rows) aj
 obtain ⟨a9, aa, _, rfl, _⟩ := aj
 have S := S.learn (fRep (rL (rI .i64)) ay r8.1.bound) ak
 obtain ⟨ab, ac, _, rfl, _⟩ := ak
 have S := S.learn (fRep (rL r_A2_Int) az r8.1.cross) al
 obtain ⟨ae, af, _, rfl, _⟩ := al
 refine sM S fun a S => ?_
 refine sExtract (vs := [.agg #[.slice a0 r8.1.loops.length a8, .slice a9 r8.1.rows.length aa, .slice ab r8.1.bound.length ac, .slice ae r8.1.cross.length af, iv r8.1.next], iv r8.2]) (.agg #[.slice a0 r8.1.loops.length a8, .slice a9 r8.1.rows.length aa, .slice ab r8.1.bound.length ac, .slice ae r8.1.cross.length af, iv r8.1.next]) S (wN rfl) rfl rfl rfl rfl (lb rfl) fun a S => ?_
 refine sExtract (vs := [.agg #[.slice a0 r8.1.loops.length a8, .slice a9 r8.1.rows.length aa, .slice ab r8.1.bound.length ac, .slice ae r8.1.cross.length af, iv r8.1.next], iv r8.2]) (iv r8.2) S (wN rfl) rfl rfl rfl rfl (lb rfl) fun a S => ?_
 refine sAlloc (.agg #[.slice none 0 0, .slice none 0 0, .slice none 0 0, .slice none 0 0, iv 0]) S (wN rfl) rfl rfl [.slice none 0 0, .slice none 0 0, .slice none 0 0, .slice none 0 0, iv 0] rfl rfl (lb rfl) fun a ap w S => ?_
 refine sStore (p := ap) (off := 0) (T := 73) (vs := [.slice none 0 0, .slice none 0 0, .slice none 0 0, .slice none 0 0, iv 0]) (v := .agg #[.slice a0 r8.1.loops.length a8, .slice a9 r8.1.rows.length aa, .slice ab r8.1.bound.length ac, .slice ae r8.1.cross.length af, iv r8.1.next]) 0 [.slice a0 r8.1.loops.length a8, .slice a9 r8.1.rows.length aa, .slice ab r8.1.bound.length ac, .slice ae r8.1.cross.length af, iv r8.1.next] S (wN rfl) rfl rfl rfl rfl rfl rfl rfl (by simp) rfl fun a w S => ?_
 refine sN S fun a S => ?_
 refine lT (ar _ _ (sSeq (fun aA am => sRegion (sField (b := ap) (off := 0) 0 0 S (wN rfl) rfl rfl rfl rfl rfl (lb rfl) fun a S => ?_))))
 refine sLoad1 0 (.slice a0 r8.1.loops.length a8) S (wN rfl) rfl rfl rfl rfl rfl rfl (lb rfl) fun a S => ?_
 refine sM S fun a S => ?_
 refine sN S fun a S => ?_
 refine sN S fun a S => ?_
 refine lT (am _ _ ?_)
 obtain rfl := tS h
 exact wp_ret (sRet (.tuple #[.slice a0 r8.1.loops.length a8, iv r8.2]) S (rsl2 rfl (rvT (t := 2) (v := .slice a0 r8.1.loops.length a8) S rfl) (rvT (t := 3) (v := iv r8.2) S rfl)) ⟨(.slice a0 r8.1.loops.length a8), rfl, S.mem.sel [] [3] (by decide) rfl rfl⟩)
noncomputable def F_loops_Bound (p0 : api_Chart) : Option ((List Int) × Int) :=
 (F_loops_of p0).bind fun r8 =>
 some (r8.1.bound, r8.2)
def c_loops_Bound_val (r : ((List Int) × Int)) (x : Value) : Value := .tuple #[x, .int .i64 r.2]
def c_loops_Bound_D (r : ((List Int) × Int)) (x : Value) : List Fact := [fRep (rL (rI .i64)) x r.1]
theorem c_loops_Bound (E : Nat → Prop) (w0 : World) (p0 : api_Chart) (v0 : Value) (r : ((List Int) × Int)) (h : F_loops_Bound p0 = some r) (S : St0 E [] w0 w0 [] [fRep r_api_Chart (v0) p0]) :
 Calls Try.prog 13 #[v0] w0 (Ret (X := Value) E [] w0 (c_loops_Bound_val r) (fun _ => []) (c_loops_Bound_D r)) := by
 unfold F_loops_Bound at h
 obtain ⟨u1, rfl, ao⟩ := S.know (i := 0) (e := fRep r_api_Chart (v0) p0) rfl
 have S := S.learn (fRep (rL r_api_Row) u1 p0.Rows) ao
 obtain ⟨ag, ah, _, rfl, _⟩ := ao
 refine sEnter (args := [.agg #[iv p0.Start, .slice ag p0.Rows.length ah]]) 14 Try.func13 rfl rfl (by simp) S (fun a S => ?_)
 refine sSeq (fun K5 aq => sRegion (sBox (v := .agg #[iv p0.Start, .slice ag p0.Rows.length ah]) S (wN rfl) rfl rfl [iv p0.Start, .slice ag p0.Rows.length ah] rfl rfl (lb rfl) fun a b6 w S => ?_))
 refine sN S fun a S => ?_
 refine sN S fun a S => ?_
 refine lT (aq _ _ (sSeq (fun K7 ar => sRegion (sLoadN (p := b6) (off := 0) (T := 24) (vs := [iv p0.Start, .slice ag p0.Rows.length ah]) 0 [iv p0.Start, .slice ag p0.Rows.length ah] S (wN rfl) rfl rfl rfl rfl rfl rfl rfl (lb rfl) fun a S => ?_))))
 obtain ⟨r8, au, h⟩ := bS h
 refine sCall (X := Value) (f := 33) (vs := [.agg #[iv p0.Start, .slice ag p0.Rows.length ah]]) (val := c_loops_of_val r8) (B' := fun _ => []) (D' := c_loops_of_D r8) [] [eBox b6 24 [iv p0.Start, .slice ag p0.Rows.length ah]] [fRep r_api_Chart (.agg #[iv p0.Start, .slice ag p0.Rows.length ah]) p0] [0] [1] S (wN rfl) rfl callee33 rfl (by decide) rfl rfl (fun E1 w1 S1 => c_loops_of E1 w1 p0 (.agg #[iv p0.Start, .slice ag p0.Rows.length ah]) r8 au S1) rfl (lb rfl) fun av a w S => ?_
 obtain ⟨aw, ax, ay, az, rfl, ai, aj, ak, al⟩ := S.mem.know (i := 0) (e := fRep r_loops_piece (av) r8.1) rfl
 have S := S.learn (fRep (rL r_api_Loop) aw r8.1.loops) ai
 obtain ⟨a9, aa, _, rfl, _⟩ := ai
 have S := S.learn (fRep (rL (rI .i64)) ax r8.1.rows) aj
 obtain ⟨ab, ac, _, rfl, _⟩ := aj
 have S := S.learn (fRep (rL (rI .i64)) ay r8.1.bound) ak
 obtain ⟨a0, a8, _, rfl, _⟩ := ak
 have S := S.learn (fRep (rL r_A2_Int) az r8.1.cross) al
 obtain ⟨ae, af, _, rfl, _⟩ := al
 refine sM S fun a S => ?_
 refine sExtract (vs := [.agg #[.slice a9 r8.1.loops.length aa, .slice ab r8.1.rows.length ac, .slice a0 r8.1.bound.length a8, .slice ae r8.1.cross.length af, iv r8.1.next], iv r8.2]) (.agg #[.slice a9 r8.1.loops.length aa, .slice ab r8.1.rows.length ac, .slice a0 r8.1.bound.length a8, .slice ae r8.1.cross.length af, iv r8.1.next]) S (wN rfl) rfl rfl rfl rfl (lb rfl) fun a S => ?_
 refine sExtract (vs := [.agg #[.slice a9 r8.1.loops.length aa, .slice ab r8.1.rows.length ac, .slice a0 r8.1.bound.length a8, .slice ae r8.1.cross.length af, iv r8.1.next], iv r8.2]) (iv r8.2) S (wN rfl) rfl rfl rfl rfl (lb rfl) fun a S => ?_
 refine sAlloc (.agg #[.slice none 0 0, .slice none 0 0, .slice none 0 0, .slice none 0 0, iv 0]) S (wN rfl) rfl rfl [.slice none 0 0, .slice none 0 0, .slice none 0 0, .slice none 0 0, iv 0] rfl rfl (lb rfl) fun a ap w S => ?_
 refine sStore (p := ap) (off := 0) (T := 73) (vs := [.slice none 0 0, .slice none 0 0, .slice none 0 0, .slice none 0 0, iv 0]) (v := .agg #[.slice a9 r8.1.loops.length aa, .slice ab r8.1.rows.length ac, .slice a0 r8.1.bound.length a8, .slice ae r8.1.cross.length af, iv r8.1.next]) 0 [.slice a9 r8.1.loops.length aa, .slice ab r8.1.rows.length ac, .slice a0 r8.1.bound.length a8, .slice ae r8.1.cross.length af, iv r8.1.next] S (wN rfl) rfl rfl rfl rfl rfl rfl rfl (by simp) rfl fun a w S => ?_
 refine sN S fun a S => ?_
 refine lT (ar _ _ (sSeq (fun aA am => sRegion (sField (b := ap) (off := 0) 2 2 S (wN rfl) rfl rfl rfl rfl rfl (lb rfl) fun a S => ?_))))
 refine sLoad1 0 (.slice a0 r8.1.bound.length a8) S (wN rfl) rfl rfl rfl rfl rfl rfl (lb rfl) fun a S => ?_
 refine sM S fun a S => ?_
 refine sN S fun a S => ?_
 refine sN S fun a S => ?_
 refine lT (am _ _ ?_)
 obtain rfl := tS h
 exact wp_ret (sRet (.tuple #[.slice a0 r8.1.bound.length a8, iv r8.2]) S (rsl2 rfl (rvT (t := 2) (v := .slice a0 r8.1.bound.length a8) S rfl) (rvT (t := 3) (v := iv r8.2) S rfl)) ⟨(.slice a0 r8.1.bound.length a8), rfl, S.mem.sel [] [1] (by decide) rfl rfl⟩)
noncomputable def F_loops_Crossings (p0 : api_Chart) : Option ((List (Int × Int)) × Int) :=
 (F_loops_of p0).bind fun r8 =>
 some (r8.1.cross, r8.2)
def c_loops_Crossings_val (r : ((List (Int × Int)) × Int)) (x : Value) : Value := .tuple #[x, .int .i64 r.2]
def c_loops_Crossings_D (r : ((List (Int × Int)) × Int)) (x : Value) : List Fact := [fRep (rL r_A2_Int) x r.1]
theorem c_loops_Crossings (E : Nat → Prop) (w0 : World) (p0 : api_Chart) (v0 : Value) (r : ((List (Int × Int)) × Int)) (h : F_loops_Crossings p0 = some r) (S : St0 E [] w0 w0 [] [fRep r_api_Chart (v0) p0]) :
 Calls Try.prog 15 #[v0] w0 (Ret (X := Value) E [] w0 (c_loops_Crossings_val r) (fun _ => []) (c_loops_Crossings_D r)) := by
 unfold F_loops_Crossings at h
 obtain ⟨u1, rfl, ao⟩ := S.know (i := 0) (e := fRep r_api_Chart (v0) p0) rfl
 have S := S.learn (fRep (rL r_api_Row) u1 p0.Rows) ao
 obtain ⟨ag, ah, _, rfl, _⟩ := ao
 refine sEnter (args := [.agg #[iv p0.Start, .slice ag p0.Rows.length ah]]) 14 Try.func15 rfl rfl (by simp) S (fun a S => ?_)
 refine sSeq (fun K5 aq => sRegion (sBox (v := .agg #[iv p0.Start, .slice ag p0.Rows.length ah]) S (wN rfl) rfl rfl [iv p0.Start, .slice ag p0.Rows.length ah] rfl rfl (lb rfl) fun a b6 w S => ?_))
 refine sN S fun a S => ?_
 refine sN S fun a S => ?_
 refine lT (aq _ _ (sSeq (fun K7 ar => sRegion (sLoadN (p := b6) (off := 0) (T := 24) (vs := [iv p0.Start, .slice ag p0.Rows.length ah]) 0 [iv p0.Start, .slice ag p0.Rows.length ah] S (wN rfl) rfl rfl rfl rfl rfl rfl rfl (lb rfl) fun a S => ?_))))
 obtain ⟨r8, au, h⟩ := bS h
 refine sCall (X := Value) (f := 33) (vs := [.agg #[iv p0.Start, .slice ag p0.Rows.length ah]]) (val := c_loops_of_val r8) (B' := fun _ => []) (D' := c_loops_of_D r8) [] [eBox b6 24 [iv p0.Start, .slice ag p0.Rows.length ah]] [fRep r_api_Chart (.agg #[iv p0.Start, .slice ag p0.Rows.length ah]) p0] [0] [1] S (wN rfl) rfl callee33 rfl (by decide) rfl rfl (fun E1 w1 S1 => c_loops_of E1 w1 p0 (.agg #[iv p0.Start, .slice ag p0.Rows.length ah]) r8 au S1) rfl (lb rfl) fun av a w S => ?_
 obtain ⟨aw, ax, ay, az, rfl, ai, aj, ak, al⟩ := S.mem.know (i := 0) (e := fRep r_loops_piece (av) r8.1) rfl
 have S := S.learn (fRep (rL r_api_Loop) aw r8.1.loops) ai
 obtain ⟨a9, aa, _, rfl, _⟩ := ai
 have S := S.learn (fRep (rL (rI .i64)) ax r8.1.rows) aj
 obtain ⟨ab, ac, _, rfl, _⟩ := aj
 have S := S.learn (fRep (rL (rI .i64)) ay r8.1.bound) ak
 obtain ⟨ae, af, _, rfl, _⟩ := ak
 have S := S.learn (fRep (rL r_A2_Int) az r8.1.cross) al
 obtain ⟨a0, a8, _, rfl, _⟩ := al
 refine sM S fun a S => ?_
 refine sExtract (vs := [.agg #[.slice a9 r8.1.loops.length aa, .slice ab r8.1.rows.length ac, .slice ae r8.1.bound.length af, .slice a0 r8.1.cross.length a8, iv r8.1.next], iv r8.2]) (.agg #[.slice a9 r8.1.loops.length aa, .slice ab r8.1.rows.length ac, .slice ae r8.1.bound.length af, .slice a0 r8.1.cross.length a8, iv r8.1.next]) S (wN rfl) rfl rfl rfl rfl (lb rfl) fun a S => ?_
 refine sExtract (vs := [.agg #[.slice a9 r8.1.loops.length aa, .slice ab r8.1.rows.length ac, .slice ae r8.1.bound.length af, .slice a0 r8.1.cross.length a8, iv r8.1.next], iv r8.2]) (iv r8.2) S (wN rfl) rfl rfl rfl rfl (lb rfl) fun a S => ?_
 refine sAlloc (.agg #[.slice none 0 0, .slice none 0 0, .slice none 0 0, .slice none 0 0, iv 0]) S (wN rfl) rfl rfl [.slice none 0 0, .slice none 0 0, .slice none 0 0, .slice none 0 0, iv 0] rfl rfl (lb rfl) fun a ap w S => ?_
 refine sStore (p := ap) (off := 0) (T := 73) (vs := [.slice none 0 0, .slice none 0 0, .slice none 0 0, .slice none 0 0, iv 0]) (v := .agg #[.slice a9 r8.1.loops.length aa, .slice ab r8.1.rows.length ac, .slice ae r8.1.bound.length af, .slice a0 r8.1.cross.length a8, iv r8.1.next]) 0 [.slice a9 r8.1.loops.length aa, .slice ab r8.1.rows.length ac, .slice ae r8.1.bound.length af, .slice a0 r8.1.cross.length a8, iv r8.1.next] S (wN rfl) rfl rfl rfl rfl rfl rfl rfl (by simp) rfl fun a w S => ?_
 refine sN S fun a S => ?_
 refine lT (ar _ _ (sSeq (fun aA am => sRegion (sField (b := ap) (off := 0) 3 3 S (wN rfl) rfl rfl rfl rfl rfl (lb rfl) fun a S => ?_))))
 refine sLoad1 0 (.slice a0 r8.1.cross.length a8) S (wN rfl) rfl rfl rfl rfl rfl rfl (lb rfl) fun a S => ?_
 refine sM S fun a S => ?_
 refine sN S fun a S => ?_
 refine sN S fun a S => ?_
 refine lT (am _ _ ?_)
 obtain rfl := tS h
 exact wp_ret (sRet (.tuple #[.slice a0 r8.1.cross.length a8, iv r8.2]) S (rsl2 rfl (rvT (t := 2) (v := .slice a0 r8.1.cross.length a8) S rfl) (rvT (t := 3) (v := iv r8.2) S rfl)) ⟨(.slice a0 r8.1.cross.length a8), rfl, S.mem.sel [] [0] (by decide) rfl rfl⟩)
def anc_raddleref26_SameInts_0 : List (List Nat) := [[], [], [0, 1], [0, 1, 2], [], [], [4, 5], [4, 5, 6], [0, 1, 2, 3, 4, 5, 6, 7]]
noncomputable def raddleref26_SameInts_l1 (p0 : (List Int)) (p1 : (List Int)) : Int → Option (Int ⊕ (Bool ⊕ Unit)) := fun s0 => match s0 with
 | a0 =>
  if decide (a0 < (p0.length : Int)) then
   (idxO p0 a0).bind fun a8 =>
   (idxO p1 a0).bind fun a9 =>
   if a8 != a9 then
    some (.inr (.inl false))
   else
    some (.inl (w64 (a0 + 1)))
  else
   some (.inr (.inr ()))
noncomputable def F_raddleref26_SameInts (p0 : (List Int)) (p1 : (List Int)) : Option Bool :=
 if (p0.length : Int) != (p1.length : Int) then
  some false
 else
  Option.bind (α := Unit ⊕ Bool) (
   (whileO (raddleref26_SameInts_l1 p0 p1) 0).bind fun z0 => match z0 with
    | .inl z =>
     some (.inr z)
    | .inr _ =>
     some (.inl ())) fun z0 => match z0 with
   | .inl _ =>
    some true
   | .inr z =>
    some z
theorem c_raddleref26_SameInts (E : Nat → Prop) (w0 : World) (p0 : (List Int)) (v0 : Value) (p1 : (List Int)) (v1 : Value) (r : Bool) (h : F_raddleref26_SameInts p0 p1 = some r) (S : St0 E [] w0 w0 [] [fRep (rL (rI .i64)) (v0) p0, fRep (rL (rI .i64)) (v1) p1]) :
 Calls Try.prog 18 #[v0, v1] w0 (Ret (X := Unit) E [] w0 (fun _ => .bool r) (fun _ => []) (fun _ => [])) := by
 unfold F_raddleref26_SameInts at h
 obtain ⟨ac, ae, _, rfl, _⟩ := S.know (i := 0) (e := fRep (rL (rI .i64)) (v0) p0) rfl
 obtain ⟨af, ag, _, rfl, _⟩ := S.know (i := 1) (e := fRep (rL (rI .i64)) (v1) p1) rfl
 refine sEnter (args := [.slice ac p0.length ae, .slice af p1.length ag]) 26 Try.func18 rfl rfl (by simp) S (fun a S => ?_)
 refine sSeq (fun K5 aH => sRegion (sN S fun a S => ?_))
 refine lT (aH _ _ (sSeq (fun K6 aI => sSeq (fun K7 aJ => sRegion (sM S fun a S => ?_)))))
 refine sLen S (wN rfl) rfl Try.underlying32 rfl rfl (lb rfl) fun a S => ?_
 refine sM S fun a S => ?_
 refine sLen S (wN rfl) rfl Try.underlying32 rfl rfl (lb rfl) fun a S => ?_
 refine sBin _ S (wN rfl) rfl rfl rfl (bNe _ _ _ _ .i64 (p0.length : Int) (p1.length : Int)) rfl (lb rfl) fun a S => ?_
 refine lT (aJ _ _ ?_)
 rcases iS h with ⟨ai, h⟩ | ⟨ai, h⟩
 ·refine sCondT S rfl ai ?_
  refine sSeq (fun K9 aK => sRegion (sN S fun a S => ?_))
  refine lT (aK _ _ ?_)
  obtain rfl := tS h
  exact wp_ret (rThen (sRet (.bool false) S (rsl1 rfl (rvT (t := 4) (v := .bool false) S rfl)) ⟨(), rfl, S.mem.sel [] [] (by decide) rfl rfl⟩))
 refine sCondF S rfl ai ?_
 refine wp_skip (leafT (aI _ _ ?_))
 obtain ⟨aL, h, az⟩ := bS h
 refine sCut (fun a w => .inl () = aL ∧ St [] E [] w0 26 a w [] [] []) ?_ (fun a w hI => ?_)
 rotate_left
 ·obtain ⟨rfl, S⟩ := hI
  have h := az
  try dsimp only at h
  refine sSeq (fun aM aj => sRegion (sN S fun a S => ?_))
  refine lT (aj _ _ ?_)
  obtain rfl := tS h
  exact wp_ret (sRet (.bool true) S (rsl1 rfl (rvT (t := 4) (v := .bool true) S rfl)) ⟨(), rfl, S.mem.sel [] [] (by decide) rfl rfl⟩)
 refine sSeq (fun aO ak => sRegion (sN S fun a S => ?_))
 refine lT (ak _ _ (wp_block ?_))
 obtain ⟨aP, hl, aA⟩ := bS h
 refine sLoop hl (fun s0 a w => match s0 with | a0 => St [] E [] w0 26 a w [(0, .slice ac p0.length ae), (1, .slice af p1.length ag), (5, iv a0)] [] [fRep (rL (rI .i64)) (.slice ac p0.length ae) p0, fRep (rL (rI .i64)) (.slice af p1.length ag) p1]) (S.fix [] [0, 1] (by decide) rfl rfl rfl) ?_
 clear hl h
 intro a0 a w c0 hI h ah
 unfold raddleref26_SameInts_l1 at h
 dsimp only at h hI
 have S := hI
 refine sSeq (fun aQ al => sSeq (fun aR am => sRegion (sM S fun a S => ?_)))
 refine sM S fun a S => ?_
 refine sLen S (wN rfl) rfl Try.underlying32 rfl rfl (lb rfl) fun a S => ?_
 refine sBin _ S (wN rfl) rfl rfl rfl (bLt _ _ _ _ .i64 a0 (p0.length : Int)) rfl (lb rfl) fun a S => ?_
 refine lT (am _ _ ?_)
 rcases iS h with ⟨aa, h⟩ | ⟨aa, h⟩
 rotate_left
 ·refine sCondF S rfl aa ?_
  obtain rfl := tS h
  obtain rfl := ah _ rfl
  have h := aA
  try dsimp only at h
  exact wp_exit (xThen (xThen (xHit (leafT (⟨Option.some.inj h, S.fix [] [] (by decide) rfl rfl rfl⟩)))))
 refine sCondT S rfl aa ?_
 refine wp_skip (leafT (al _ _ ?_))
 refine sSeq (fun aS ao => wp_block ?_)
 refine sSeq (fun aT ap => ?_)
 obtain ⟨a8, aq, h⟩ := bS h
 obtain ⟨a9, ar, h⟩ := bS h
 obtain ⟨au, av, S⟩ := pIdx (P := Try.prog) (r := (rI .i64)) (v := .slice ac p0.length ae) (xs := p0) (j := a0) 32 3 0 S Try.underlying32 rfl rfl aq
 obtain ⟨aC, S⟩ := pLoad (r := (rI .i64)) (q := au) (x := a8) 0 S rfl
 obtain rfl : aC = iv a8 := S.mem.know (i := 1) (e := fRep (rI .i64) (aC) a8) rfl
 obtain ⟨aw, ax, S⟩ := pIdx (P := Try.prog) (r := (rI .i64)) (v := .slice af p1.length ag) (xs := p1) (j := a0) 32 3 4 S Try.underlying32 rfl rfl ar
 obtain ⟨aG, S⟩ := pLoad (r := (rI .i64)) (q := aw) (x := a9) 0 S rfl
 obtain rfl : aG = iv a9 := S.mem.know (i := 1) (e := fRep (rI .i64) (aG) a9) rfl
 refine sDraw (nf := []) (W := [(0, 17, .slice ac p0.length ae), (1, 18, iv a0), (2, 19, au), (3, 20, iv a8), (4, 21, .slice af p1.length ag), (5, 22, iv a0), (6, 23, aw), (7, 24, iv a9), (8, 25, .bool (a8 != a9))]) rfl S ?_
 refine node_by (A := anc_raddleref26_SameInts_0) 9 (by kernel_rfl) (by kernel_rfl) (by kernel_rfl) (by kernel_rfl) (by kernel_rfl) [0, 1, 2, 3, 4, 5, 6, 7, 8] (by kernel_rfl) (by decide) (by decide) (fF ?_ (fF ?_ (fF ?_ (fF ?_ (fF ?_ (fF ?_ (fF ?_ (fF ?_ (fF ?_ (trivial)))))))))) [(0, .slice ac p0.length ae), (1, .slice af p1.length ag), (5, iv a0), (25, .bool (a8 != a9))] (fin_of [none, none, none, some 8] rfl (by kernel_rfl) (by kernel_rfl)) (fun _ a w S => ?_)
 ·exact fM 0 none rfl rfl rfl rfl (.inl rfl) rfl rfl rfl
 ·exact fM 1 none rfl rfl rfl rfl (.inl rfl) rfl rfl rfl
 ·refine fJ [(17, _), (18, _)] 2 [some 0, some 1] fun G a w S => ?_
  exact sIdxV S (wN rfl) rfl rfl rfl av rfl (lb rfl) fun a S => leafL ⟨rfl, S⟩
 ·refine fJ [(19, _)] 3 [some 2] fun G a w S => ?_
  exact sLoadV1 (vq := au) 3 (iv a8) S (wN rfl) rfl rfl rfl rfl rfl (lb rfl) fun a S => leafL ⟨rfl, S⟩
 ·exact fM 4 none rfl rfl rfl rfl (.inl rfl) rfl rfl rfl
 ·exact fM 5 none rfl rfl rfl rfl (.inl rfl) rfl rfl rfl
 ·refine fJ [(21, _), (22, _)] 6 [some 4, some 5] fun G a w S => ?_
  exact sIdxV S (wN rfl) rfl rfl rfl ax rfl (lb rfl) fun a S => leafL ⟨rfl, S⟩
 ·refine fJ [(23, _)] 7 [some 6] fun G a w S => ?_
  exact sLoadV1 (vq := aw) 0 (iv a9) S (wN rfl) rfl rfl rfl rfl rfl (lb rfl) fun a S => leafL ⟨rfl, S⟩
 ·refine fJ [(20, _), (24, _)] 8 [some 3, some 7] fun G a w S => ?_
  exact sBin _ S (wN rfl) rfl rfl rfl (bNe _ _ _ _ .i64 a8 a9) rfl (lb rfl) fun a S => leafL ⟨rfl, S⟩
 refine leafT (ap _ _ ?_)
 rcases iS h with ⟨ab, h⟩ | ⟨ab, h⟩
 rotate_left
 ·refine sCondF S rfl ab ?_
  refine wp_skip (leafB (leafT (ao _ _ ?_)))
  refine sRegion (sM S fun a S => ?_)
  refine sBin _ S (wN rfl) rfl rfl rfl (bAdd _ _ _ _ a0 1) rfl (lb rfl) fun a S => ?_
  refine sN S fun a S => ?_
  exact lT (⟨w64 (a0 + 1), (Option.some.inj h).symm, (S.fix [] [6, 7] (by decide) rfl rfl rfl)⟩)
 refine sCondT S rfl ab ?_
 refine sSeq (fun aU ay => sRegion (sN S fun a S => ?_))
 refine lT (ay _ _ ?_)
 obtain rfl := tS h
 obtain rfl := ah _ rfl
 have h := aA
 try dsimp only at h
 obtain rfl := tS h
 have h := az
 try dsimp only at h
 obtain rfl := tS h
 exact wp_ret (rBlock (rThen (rThen (rBlock (rThen (sRet (.bool false) S (rsl1 rfl (rvT (t := 4) (v := .bool false) S rfl)) ⟨(), rfl, S.mem.sel [] [] (by decide) rfl rfl⟩))))))
def anc_raddleref27_SamePairs_0 : List (List Nat) := [[], [], [0, 1], [0, 1, 2], [], [], [4, 5], [4, 5, 6], [0, 1, 2, 3, 4, 5, 6, 7]]
noncomputable def raddleref27_SamePairs_l1 (p0 : (List (Int × Int))) (p1 : (List (Int × Int))) : Int → Option (Int ⊕ (Bool ⊕ Unit)) := fun s0 => match s0 with
 | a0 =>
  if decide (a0 < (p0.length : Int)) then
   (idxO p0 a0).bind fun a8 =>
   (idxO p1 a0).bind fun a9 =>
   if !((a8.1 == a9.1) && ((a8.2 == a9.2) && true)) then
    some (.inr (.inl false))
   else
    some (.inl (w64 (a0 + 1)))
  else
   some (.inr (.inr ()))
noncomputable def F_raddleref27_SamePairs (p0 : (List (Int × Int))) (p1 : (List (Int × Int))) : Option Bool :=
 if (p0.length : Int) != (p1.length : Int) then
  some false
 else
  Option.bind (α := Unit ⊕ Bool) (
   (whileO (raddleref27_SamePairs_l1 p0 p1) 0).bind fun z0 => match z0 with
    | .inl z =>
     some (.inr z)
    | .inr _ =>
     some (.inl ())) fun z0 => match z0 with
   | .inl _ =>
    some true
   | .inr z =>
    some z
theorem c_raddleref27_SamePairs (E : Nat → Prop) (w0 : World) (p0 : (List (Int × Int))) (v0 : Value) (p1 : (List (Int × Int))) (v1 : Value) (r : Bool) (h : F_raddleref27_SamePairs p0 p1 = some r) (S : St0 E [] w0 w0 [] [fRep (rL r_A2_Int) (v0) p0, fRep (rL r_A2_Int) (v1) p1]) :
 Calls Try.prog 19 #[v0, v1] w0 (Ret (X := Unit) E [] w0 (fun _ => .bool r) (fun _ => []) (fun _ => [])) := by
 unfold F_raddleref27_SamePairs at h
 obtain ⟨ac, ae, _, rfl, _⟩ := S.know (i := 0) (e := fRep (rL r_A2_Int) (v0) p0) rfl
 obtain ⟨af, ag, _, rfl, _⟩ := S.know (i := 1) (e := fRep (rL r_A2_Int) (v1) p1) rfl
 refine sEnter (args := [.slice ac p0.length ae, .slice af p1.length ag]) 26 Try.func19 rfl rfl (by simp) S (fun a S => ?_)
 refine sSeq (fun K5 aH => sRegion (sN S fun a S => ?_))
 refine lT (aH _ _ (sSeq (fun K6 aI => sSeq (fun K7 aJ => sRegion (sM S fun a S => ?_)))))
 refine sLen S (wN rfl) rfl Try.underlying37 rfl rfl (lb rfl) fun a S => ?_
 refine sM S fun a S => ?_
 refine sLen S (wN rfl) rfl Try.underlying37 rfl rfl (lb rfl) fun a S => ?_
 refine sBin _ S (wN rfl) rfl rfl rfl (bNe _ _ _ _ .i64 (p0.length : Int) (p1.length : Int)) rfl (lb rfl) fun a S => ?_
 refine lT (aJ _ _ ?_)
 rcases iS h with ⟨ai, h⟩ | ⟨ai, h⟩
 ·refine sCondT S rfl ai ?_
  refine sSeq (fun K9 aK => sRegion (sN S fun a S => ?_))
  refine lT (aK _ _ ?_)
  obtain rfl := tS h
  exact wp_ret (rThen (sRet (.bool false) S (rsl1 rfl (rvT (t := 4) (v := .bool false) S rfl)) ⟨(), rfl, S.mem.sel [] [] (by decide) rfl rfl⟩))
 refine sCondF S rfl ai ?_
 refine wp_skip (leafT (aI _ _ ?_))
 obtain ⟨aL, h, az⟩ := bS h
 refine sCut (fun a w => .inl () = aL ∧ St [] E [] w0 26 a w [] [] []) ?_ (fun a w hI => ?_)
 rotate_left
 ·obtain ⟨rfl, S⟩ := hI
  have h := az
  try dsimp only at h
  refine sSeq (fun aM aj => sRegion (sN S fun a S => ?_))
  refine lT (aj _ _ ?_)
  obtain rfl := tS h
  exact wp_ret (sRet (.bool true) S (rsl1 rfl (rvT (t := 4) (v := .bool true) S rfl)) ⟨(), rfl, S.mem.sel [] [] (by decide) rfl rfl⟩)
 refine sSeq (fun aO ak => sRegion (sN S fun a S => ?_))
 refine lT (ak _ _ (wp_block ?_))
 obtain ⟨aP, hl, aA⟩ := bS h
 refine sLoop hl (fun s0 a w => match s0 with | a9 => St [] E [] w0 26 a w [(0, .slice ac p0.length ae), (1, .slice af p1.length ag), (5, iv a9)] [] [fRep (rL r_A2_Int) (.slice ac p0.length ae) p0, fRep (rL r_A2_Int) (.slice af p1.length ag) p1]) (S.fix [] [0, 1] (by decide) rfl rfl rfl) ?_
 clear hl h
 intro a9 a w c0 hI h ah
 unfold raddleref27_SamePairs_l1 at h
 dsimp only at h hI
 have S := hI
 refine sSeq (fun aQ al => sSeq (fun aR am => sRegion (sM S fun a S => ?_)))
 refine sM S fun a S => ?_
 refine sLen S (wN rfl) rfl Try.underlying37 rfl rfl (lb rfl) fun a S => ?_
 refine sBin _ S (wN rfl) rfl rfl rfl (bLt _ _ _ _ .i64 a9 (p0.length : Int)) rfl (lb rfl) fun a S => ?_
 refine lT (am _ _ ?_)
 rcases iS h with ⟨aa, h⟩ | ⟨aa, h⟩
 rotate_left
 ·refine sCondF S rfl aa ?_
  obtain rfl := tS h
  obtain rfl := ah _ rfl
  have h := aA
  try dsimp only at h
  exact wp_exit (xThen (xThen (xHit (leafT (⟨Option.some.inj h, S.fix [] [] (by decide) rfl rfl rfl⟩)))))
 refine sCondT S rfl aa ?_
 refine wp_skip (leafT (al _ _ ?_))
 refine sSeq (fun aS ao => wp_block ?_)
 refine sSeq (fun aT ap => ?_)
 obtain ⟨a0, aq, h⟩ := bS h
 obtain ⟨a8, ar, h⟩ := bS h
 obtain ⟨au, av, S⟩ := pIdx (P := Try.prog) (r := r_A2_Int) (v := .slice ac p0.length ae) (xs := p0) (j := a9) 37 49 0 S Try.underlying37 rfl rfl aq
 obtain ⟨aC, S⟩ := pLoad (r := r_A2_Int) (q := au) (x := a0) 0 S rfl
 obtain rfl : aC = .agg #[iv a0.1, iv a0.2] := S.mem.know (i := 1) (e := fRep r_A2_Int (aC) a0) rfl
 obtain ⟨aw, ax, S⟩ := pIdx (P := Try.prog) (r := r_A2_Int) (v := .slice af p1.length ag) (xs := p1) (j := a9) 37 49 4 S Try.underlying37 rfl rfl ar
 obtain ⟨aG, S⟩ := pLoad (r := r_A2_Int) (q := aw) (x := a8) 0 S rfl
 obtain rfl : aG = .agg #[iv a8.1, iv a8.2] := S.mem.know (i := 1) (e := fRep r_A2_Int (aG) a8) rfl
 refine sDraw (nf := []) (W := [(0, 17, .slice ac p0.length ae), (1, 18, iv a9), (2, 19, au), (3, 20, .agg #[iv a0.1, iv a0.2]), (4, 21, .slice af p1.length ag), (5, 22, iv a9), (6, 23, aw), (7, 24, .agg #[iv a8.1, iv a8.2]), (8, 25, .bool (!((a0.1 == a8.1) && ((a0.2 == a8.2) && true))))]) rfl S ?_
 refine node_by (A := anc_raddleref27_SamePairs_0) 9 (by kernel_rfl) (by kernel_rfl) (by kernel_rfl) (by kernel_rfl) (by kernel_rfl) [0, 1, 2, 3, 4, 5, 6, 7, 8] (by kernel_rfl) (by decide) (by decide) (fF ?_ (fF ?_ (fF ?_ (fF ?_ (fF ?_ (fF ?_ (fF ?_ (fF ?_ (fF ?_ (trivial)))))))))) [(0, .slice ac p0.length ae), (1, .slice af p1.length ag), (5, iv a9), (25, .bool (!((a0.1 == a8.1) && ((a0.2 == a8.2) && true))))] (fin_of [none, none, none, some 8] rfl (by kernel_rfl) (by kernel_rfl)) (fun _ a w S => ?_)
 ·exact fM 0 none rfl rfl rfl rfl (.inl rfl) rfl rfl rfl
 ·exact fM 1 none rfl rfl rfl rfl (.inl rfl) rfl rfl rfl
 ·refine fJ [(17, _), (18, _)] 2 [some 0, some 1] fun G a w S => ?_
  exact sIdxV S (wN rfl) rfl rfl rfl av rfl (lb rfl) fun a S => leafL ⟨rfl, S⟩
 ·refine fJ [(19, _)] 3 [some 2] fun G a w S => ?_
  exact sLoadVN (vq := au) 3 [iv a0.1, iv a0.2] S (wN rfl) rfl rfl rfl rfl rfl rfl (lb rfl) fun a S => leafL ⟨rfl, S⟩
 ·exact fM 4 none rfl rfl rfl rfl (.inl rfl) rfl rfl rfl
 ·exact fM 5 none rfl rfl rfl rfl (.inl rfl) rfl rfl rfl
 ·refine fJ [(21, _), (22, _)] 6 [some 4, some 5] fun G a w S => ?_
  exact sIdxV S (wN rfl) rfl rfl rfl ax rfl (lb rfl) fun a S => leafL ⟨rfl, S⟩
 ·refine fJ [(23, _)] 7 [some 6] fun G a w S => ?_
  exact sLoadVN (vq := aw) 0 [iv a8.1, iv a8.2] S (wN rfl) rfl rfl rfl rfl rfl rfl (lb rfl) fun a S => leafL ⟨rfl, S⟩
 ·refine fJ [(20, _), (24, _)] 8 [some 3, some 7] fun G a w S => ?_
  exact sBin _ S (wN rfl) rfl rfl rfl (bNeV _ _ _ _ #[iv a0.1, iv a0.2] #[iv a8.1, iv a8.2] ((a0.1 == a8.1) && ((a0.2 == a8.2) && true)) (by kernel_rfl) (eqlV_of (by kernel_rfl))) rfl (lb rfl) fun a S => leafL ⟨rfl, S⟩
 refine leafT (ap _ _ ?_)
 rcases iS h with ⟨ab, h⟩ | ⟨ab, h⟩
 rotate_left
 ·refine sCondF S rfl ab ?_
  refine wp_skip (leafB (leafT (ao _ _ ?_)))
  refine sRegion (sM S fun a S => ?_)
  refine sBin _ S (wN rfl) rfl rfl rfl (bAdd _ _ _ _ a9 1) rfl (lb rfl) fun a S => ?_
  refine sN S fun a S => ?_
  exact lT (⟨w64 (a9 + 1), (Option.some.inj h).symm, (S.fix [] [6, 7] (by decide) rfl rfl rfl)⟩)
 refine sCondT S rfl ab ?_
 refine sSeq (fun aU ay => sRegion (sN S fun a S => ?_))
 refine lT (ay _ _ ?_)
 obtain rfl := tS h
 obtain rfl := ah _ rfl
 have h := aA
 try dsimp only at h
 obtain rfl := tS h
 have h := az
 try dsimp only at h
 obtain rfl := tS h
 exact wp_ret (rBlock (rThen (rThen (rBlock (rThen (sRet (.bool false) S (rsl1 rfl (rvT (t := 4) (v := .bool false) S rfl)) ⟨(), rfl, S.mem.sel [] [] (by decide) rfl rfl⟩))))))
noncomputable def F_raddlelaw27_one (p0 : Int) (p1 : (List api_Stitch)) : Option api_Chart :=
 some (api_Chart.mk p0 [(api_Row.mk false p1)])
def c_raddlelaw27_one_val (r : api_Chart) (x : Value) : Value := x
def c_raddlelaw27_one_D (r : api_Chart) (x : Value) : List Fact := [fRep r_api_Chart x r]
theorem c_raddlelaw27_one (E : Nat → Prop) (w0 : World) (p0 : Int) (p1 : (List api_Stitch)) (v1 : Value) (r : api_Chart) (h : F_raddlelaw27_one p0 p1 = some r) (S : St0 E [] w0 w0 [] [fRep (rL r_api_Stitch) (v1) p1]) :
 Calls Try.prog 30 #[iv p0, v1] w0 (Ret (X := Value) E [] w0 (c_raddlelaw27_one_val r) (fun _ => []) (c_raddlelaw27_one_D r)) := by
 unfold F_raddlelaw27_one at h
 obtain ⟨a9, aa, _, rfl, _⟩ := S.know (i := 0) (e := fRep (rL r_api_Stitch) (v1) p1) rfl
 refine sEnter (args := [iv p0, .slice a9 p1.length aa]) 10 Try.func30 rfl rfl (by simp) S (fun a S => ?_)
 refine sSeq (fun K3 ab => sRegion (sAlloc (.agg #[iv 0, .slice none 0 0]) S (wN rfl) rfl rfl [iv 0, .slice none 0 0] rfl rfl (lb rfl) fun a b4 w S => ?_))
 refine lT (ab _ _ (sSeq (fun K5 ac => sRegion (sM S fun a S => ?_))))
 refine sM S fun a S => ?_
 refine sBuild [(1, .slice a9 p1.length aa)] [.bool false, .slice a9 p1.length aa] S (wN rfl) rfl rfl rfl rfl (lb rfl) fun a S => ?_
 have S := S.learn (fRep r_api_Row (.agg #[.bool false, .slice a9 p1.length aa]) (api_Row.mk false p1)) ⟨_, rfl, S.mem.know (i := 0) (e := fRep (rL r_api_Stitch) (.slice a9 p1.length aa) p1) rfl⟩
 refine sLit (r := r_api_Row) (T := 65) (xs := [(api_Row.mk false p1)]) [(0, .agg #[.bool false, .slice a9 p1.length aa])] 1 [.agg #[.bool false, .slice a9 p1.length aa]] [.bool false, .slice a9 p1.length aa] (.agg #[.bool false, .slice none 0 0]) 32 S (wN rfl) rfl rfl Try.underlying22 rfl (by decide) (by decide) (by kernel_rfl) rfl (fun E1 w1 hE => All.cons (r_api_Row.mono hE (S.mem.know (i := 0) (e := fRep r_api_Row (.agg #[.bool false, .slice a9 p1.length aa]) (api_Row.mk false p1)) rfl)) (All.nil _ _ _)) rfl rfl (lb rfl) fun a w a0 a8 S => ?_
 refine sBuild [(0, iv p0), (1, .slice a0 [(api_Row.mk false p1)].length a8)] [iv p0, .slice a0 [(api_Row.mk false p1)].length a8] S (wN rfl) rfl rfl rfl rfl (lb rfl) fun a S => ?_
 refine sStore (p := b4) (off := 0) (T := 24) (vs := [iv 0, .slice none 0 0]) (v := .agg #[iv p0, .slice a0 [(api_Row.mk false p1)].length a8]) 1 [iv p0, .slice a0 [(api_Row.mk false p1)].length a8] S (wN rfl) rfl rfl rfl rfl rfl rfl rfl (by simp) rfl fun a w S => ?_
 refine lT (ac _ _ ?_)
 obtain rfl := tS h
 have S := S.shutR (r := r_api_Row) (T := 65) (v := .slice a0 [(api_Row.mk false p1)].length a8) (xs := [(api_Row.mk false p1)]) 1 rfl
 have S := S.learn (fRep r_api_Chart (.agg #[iv p0, .slice a0 [(api_Row.mk false p1)].length a8]) (api_Chart.mk p0 [(api_Row.mk false p1)])) ⟨_, rfl, S.mem.know (i := 0) (e := fRep (rL r_api_Row) (.slice a0 [(api_Row.mk false p1)].length a8) [(api_Row.mk false p1)]) rfl⟩
 exact wp_ret (sRet (.agg #[iv p0, .slice a0 [(api_Row.mk false p1)].length a8]) S (rsl1 rfl (rvN (c := 4) (t := 24) (T := 24) (p := b4) 0 [iv p0, .slice a0 [(api_Row.mk false p1)].length a8] S rfl rfl rfl rfl)) ⟨(.agg #[iv p0, .slice a0 [(api_Row.mk false p1)].length a8]), rfl, S.mem.sel [] [0] (by decide) rfl rfl⟩)
end Go.Proofs.Yticjoiolfibmlaa
