/- LoopsParts: walks, tables, laws. -/
import Derived.Test.YticjoiolfibmlaaProg
import Derived.Test.YticjoiolfibmlaaRows
import Derived.Test.YticjoiolfibmlaaMLoopsParts2
set_option linter.unusedVariables false
set_option linter.unusedSimpArgs false
set_option maxHeartbeats 4000000
set_option maxRecDepth 100000
namespace Go.Proofs.Yticjoiolfibmlaa
open Go.RowKit
noncomputable def F_slices_Clone___int_int__s0 (p0 : (List Int)) : Option (List Int) :=
 (appO ([] : List Int) p0).bind fun a0 =>
 some a0
theorem c_slices_Clone___int_int__s0 (E : Nat → Prop) (w0 : World) (p0 : (List Int)) (v0 : Value) (r : (List Int)) (h : F_slices_Clone___int_int__s0 p0 = some r) (S : St0 E [] w0 w0 [] [fRep (rL (rI .i64)) (v0) p0]) :
 Calls Try.prog 60 #[v0] w0 (Ret (X := Option Addr × Nat) E [] w0 (fun x => .slice x.1 r.length x.2) (fun x => [eRow (rI .i64) 3 (.slice x.1 r.length x.2) r]) (fun _ => [])) := by
 unfold F_slices_Clone___int_int__s0 at h
 obtain ⟨ad1, cp2, _, rfl, _⟩ := S.know (i := 0) (e := fRep (rL (rI .i64)) (v0) p0) rfl
 refine sEnter (args := [.slice ad1 p0.length cp2]) 8 Try.func60 rfl rfl (by simp) S (fun a S => ?_)
 refine sSeq (fun K3 hK3 => sRegion (sN S fun a S => ?_))
 refine lT (hK3 _ _ (sSeq (fun K4 hK4 => sSeq (fun K5 hK5 => sRegion (sM S fun a S => ?_)))))
 refine sBin _ S (wN rfl) rfl rfl rfl (bEqNil _ _ _ _ Try.underlying32 ad1 (p0.length) (cp2)) rfl (lb rfl) fun a S => ?_
 refine lT (hK5 _ _ ?_)
 rcases nil_cases ad1 with hc6 | hc6
 ·have hz7 := rL_isNil (S.mem.know (i := 0) (e := fRep (rL (rI .i64)) (.slice ad1 p0.length cp2) p0) rfl) hc6
  rw [hz7] at h
  have h : some ([] : (List Int)) = some r := h
  refine sCondT S rfl hc6 ?_
  refine sSeq (fun K8 hK8 => sRegion (sN S fun a S => ?_))
  refine lT (hK8 _ _ ?_)
  obtain rfl := tS h
  have S := S.nilRow (rI .i64) 3 (α := Int)
  exact wp_ret (rThen (sRet (.slice none 0 0) S (rsl1 rfl (rvT (t := 2) (v := .slice none 0 0) S rfl)) ⟨(none, 0), rfl, S.mem.sel [0] [] (by decide) rfl rfl⟩))
 refine sCondF S rfl hc6 ?_
 refine wp_skip (leafT (hK4 _ _ ?_))
 refine sSeq (fun K9 hK9 => sRegion (sLit0 (α := Int) (rI .i64) (T := 3) S (wN rfl) rfl Try.underlying32 rfl rfl (lb rfl) fun a w a5 a6 S => ?_))
 refine sM S fun a S => ?_
 obtain ⟨a8, a7, h⟩ := bS h
 refine sApp (r := (rI .i64)) (T := 3) (xs := ([] : List Int)) (ys := p0) (v := .slice a5 ([] : List Int).length a6) (u := .slice ad1 p0.length cp2) 0 (iv 0) 8 S (wN rfl) rfl Try.underlying32 rfl rfl (by decide) rfl rfl rfl (src_D 0 S.mem rfl) a7 rfl (lb rfl) fun a w a0 a4 S => ?_
 refine sN S fun a S => ?_
 refine lT (hK9 _ _ ?_)
 obtain rfl := tS h
 exact wp_ret (sRet (.slice a0 a8.length a4) S (rsl1 rfl (rvT (t := 2) (v := .slice a0 a8.length a4) S rfl)) ⟨(a0, a4), rfl, S.mem.sel [0] [] (by decide) rfl rfl⟩)
def anc_slices_Reverse___int_int__s1_0 : List (List Nat) := [[], [], [], [], [], [], [4, 5], [4, 5, 6], [], [], [8, 9], [8, 9, 10], [0, 1, 4, 5, 6, 7, 8, 9, 10, 11], [0, 1, 4, 5, 6, 7, 8, 9, 10, 11, 12], [0, 1, 2, 3, 4, 5, 6, 7, 8, 9, 10, 11, 12, 13], [0, 1, 2, 3, 4, 5, 6, 7, 8, 9, 10, 11, 12, 13, 14]]
noncomputable def slices_Reverse___int_int__s1_l1  : (Int × Int × Int × Int) → Option ((Int × Int × Int × Int) ⊕ (Int × Int)) := fun s0 => match s0 with
 | (s2, s3, s4, s5) =>
  if decide (s2 < s3) then
   (idxO ([s4, s5] : List Int) s3).bind fun a0 =>
   (idxO ([s4, s5] : List Int) s2).bind fun a4 =>
   (idxO ([(if s2 = 0 then a0 else s4), (if s2 = 1 then a0 else s5)] : List Int) s3).bind fun a5 =>
   some (.inl (w64 (s2 + 1), w64 (s3 - 1), (if s3 = 0 then a4 else (if s2 = 0 then a0 else s4)), (if s3 = 1 then a4 else (if s2 = 1 then a0 else s5))))
  else
   some (.inr (s4, s5))
noncomputable def F_slices_Reverse___int_int__s1 (p0 : (Int × Int)) : Option (Int × Int) :=
 (whileO (slices_Reverse___int_int__s1_l1) (0, w64 (((2 : Nat) : Int) - 1), p0.1, p0.2)).bind fun (e9, a0) =>
  some (e9, a0)
theorem c_slices_Reverse___int_int__s1 (E : Nat → Prop) (w0 : World) (p0 : (Int × Int)) (bb0 : Nat) (r : (Int × Int)) (h : F_slices_Reverse___int_int__s1 p0 = some r) (S : St0 E (keysL [eBox bb0 49 [iv p0.1, iv p0.2]]) w0 w0 [eBox bb0 49 [iv p0.1, iv p0.2]] []) :
 Calls Try.prog 59 #[.slice (some ⟨bb0, 0, none⟩) 2 2] w0 (Ret (X := Unit) E (keysL [eBox bb0 49 [iv p0.1, iv p0.2]]) w0 (fun _ => .tuple #[]) (fun _ => [eBox bb0 49 [iv r.1, iv r.2]]) (fun _ => [])) := by
 unfold F_slices_Reverse___int_int__s1 at h
 refine sEnter (args := [.slice (some ⟨bb0, 0, none⟩) 2 2]) 28 Try.func59 rfl rfl (by simp) S (fun a S => ?_)
 refine sSeq (fun K1 hK1 => sRegion (sM S fun a S => ?_))
 refine sLen S (wN rfl) rfl Try.underlying32 rfl rfl (lb rfl) fun a S => ?_
 refine sBin _ S (wN rfl) rfl rfl rfl (bSub _ _ _ _ ((2 : Nat) : Int) 1) rfl (lb rfl) fun a S => ?_
 refine sN S fun a S => ?_
 refine sN S fun a S => ?_
 refine lT (hK1 _ _ (wp_block ?_))
 obtain ⟨t8, hl, g7⟩ := bS h
 refine sLoop hl (fun s0 a w => match s0 with | (s2, s3, s4, s5) => St [] E (keysL [eBox bb0 49 [iv p0.1, iv p0.2]]) w0 28 a w [(0, .slice (some ⟨bb0, 0, none⟩) 2 2), (2, iv s2), (3, iv s3)] [eBox bb0 49 [iv s4, iv s5]] []) (S.fix [0] [] (by decide) rfl rfl rfl) ?_
 clear hl h
 intro s0 a w c0 hI h hu6
 obtain ⟨s2, s3, s4, s5⟩ := s0
 unfold slices_Reverse___int_int__s1_l1 at h
 dsimp only at h hI
 have S := hI
 refine sSeq (fun af a9 => sSeq (fun ag aa => sRegion (sM S fun a S => ?_)))
 refine sM S fun a S => ?_
 refine sBin _ S (wN rfl) rfl rfl rfl (bLt _ _ _ _ .i64 s2 s3) rfl (lb rfl) fun a S => ?_
 refine lT (aa _ _ ?_)
 rcases iS h with ⟨a7, h⟩ | ⟨a7, h⟩
 rotate_left
 ·refine sCondF S rfl a7 ?_
  obtain rfl := tS h
  obtain rfl := hu6 _ rfl
  have h := g7
  try dsimp only at h
  obtain rfl := tS h
  exact wp_exit (xThen (xThen (xHit (sEnd (.tuple #[]) S (rsl0 rfl ) ⟨(), rfl, S.mem.sel [0] [] (by decide) rfl rfl⟩))))
 refine sCondT S rfl a7 ?_
 refine wp_skip (leafT (a9 _ _ ?_))
 refine sSeq (fun ah ab => wp_block ?_)
 obtain ⟨a0, a8, h⟩ := bS h
 obtain ⟨a5, a4, h⟩ := bS h
 obtain ⟨ai, a6, h⟩ := bS h
 refine sDraw (nf := [13, 15]) (W := [(0, 14, .slice (some ⟨bb0, 0, none⟩) 2 2), (1, 15, iv s2), (2, 16, .slice (some ⟨bb0, 0, none⟩) 2 2), (3, 17, iv s3), (4, 18, .slice (some ⟨bb0, 0, none⟩) 2 2), (5, 19, iv s3), (6, 20, .pointer (some ⟨bb0, 0 + (s3).toNat * 1, none⟩)), (7, 21, iv a0), (8, 22, .slice (some ⟨bb0, 0, none⟩) 2 2), (9, 23, iv s2), (10, 24, .pointer (some ⟨bb0, 0 + (s2).toNat * 1, none⟩)), (11, 25, iv a5), (12, 26, .pointer (some ⟨bb0, 0 + (s2).toNat * 1, none⟩))]) rfl S ?_
 refine node_by (A := anc_slices_Reverse___int_int__s1_0) 16 (by kernel_rfl) (by kernel_rfl) (by kernel_rfl) (by kernel_rfl) (by kernel_rfl) [0, 1, 2, 3, 4, 5, 6, 7, 8, 9, 10, 11, 12] (by kernel_rfl) (by decide) (by decide) (fF ?_ (fF ?_ (fF ?_ (fF ?_ (fF ?_ (fF ?_ (fF ?_ (fF ?_ (fF ?_ (fF ?_ (fF ?_ (fF ?_ (fF ?_ (fN ?_ (fE 13 (aB 15 0 13 (by decide) (trivial))))))))))))))))) [] (fun q hq => by cases hq) (fun hY => absurd (hY 13 (by decide)) (by decide))
 ·exact fM 0 none rfl rfl rfl rfl (.inl rfl) rfl rfl rfl
 ·exact fM 1 none rfl rfl rfl rfl (.inl rfl) rfl rfl rfl
 ·exact fM 2 none rfl rfl rfl rfl (.inl rfl) rfl rfl rfl
 ·exact fM 3 none rfl rfl rfl rfl (.inl rfl) rfl rfl rfl
 ·exact fM 4 none rfl rfl rfl rfl (.inl rfl) rfl rfl rfl
 ·exact fM 5 none rfl rfl rfl rfl (.inl rfl) rfl rfl rfl
 ·refine fJ [(18, _), (19, _)] 6 [some 4, some 5] fun G a w S => ?_
  exact sIdxV S (wN rfl) rfl rfl rfl (idxV_bsl (m := 2) (c := 2) (sz := 1) Try.underlying32 rfl (idxO_rng (m := 2) a8 rfl).1 (idxO_rng (m := 2) a8 rfl).2 0) rfl (lb rfl) fun a S => leafL ⟨rfl, S⟩
 ·refine fJ [(20, _)] 7 [some 6] fun G a w S => ?_
  exact sLoad1 0 (iv a0) S (wN rfl) rfl rfl rfl rfl (box_at (g := (fun z => .int .i64 z)) [] [] 0 a8 rfl rfl) rfl (lb rfl) fun a S => leafL ⟨rfl, S⟩
 ·exact fM 8 none rfl rfl rfl rfl (.inl rfl) rfl rfl rfl
 ·exact fM 9 none rfl rfl rfl rfl (.inl rfl) rfl rfl rfl
 ·refine fJ [(22, _), (23, _)] 10 [some 8, some 9] fun G a w S => ?_
  exact sIdxV S (wN rfl) rfl rfl rfl (idxV_bsl (m := 2) (c := 2) (sz := 1) Try.underlying32 rfl (idxO_rng (m := 2) a4 rfl).1 (idxO_rng (m := 2) a4 rfl).2 0) rfl (lb rfl) fun a S => leafL ⟨rfl, S⟩
 ·refine fJ [(24, _)] 11 [some 10] fun G a w S => ?_
  exact sLoad1 0 (iv a5) S (wN rfl) rfl rfl rfl rfl (box_at (g := (fun z => .int .i64 z)) [] [] 0 a4 rfl rfl) rfl (lb rfl) fun a S => leafL ⟨rfl, S⟩
 ·refine fJ [(14, _), (15, _)] 12 [some 0, some 1] fun G a w S => ?_
  exact sIdxV S (wN rfl) rfl rfl rfl (idxV_bsl (m := 2) (c := 2) (sz := 1) Try.underlying32 rfl (idxO_rng (m := 2) a4 rfl).1 (idxO_rng (m := 2) a4 rfl).2 0) rfl (lb rfl) fun a S => leafL ⟨rfl, S⟩
 refine ⟨_, [(21, iv a0), (26, .pointer (some ⟨bb0, 0 + (s2).toNat * 1, none⟩))], rfl, (srcs_of [some 7, some 12] rfl rfl rfl), fun G a w S => ?_⟩
 refine sStore (p := bb0) (off := 0 + (s2).toNat * 1) (T := 49) (vs := [iv s4, iv s5]) (v := iv a0) 0 [iv a0] S (wN rfl) rfl rfl rfl rfl rfl rfl rfl (by have hq := idxO_rng (m := 2) a4 rfl; simp; omega) rfl fun a w S => ?_
 have ac : over [iv s4, iv s5] (0 + (s2).toNat * 1) [iv a0] = [iv (if s2 = 0 then a0 else s4), iv (if s2 = 1 then a0 else s5)] := over_at (g := (fun z => .int .i64 z)) (xs := ([s4, s5] : List Int)) (y := a0) [] [] 0 a4 rfl rfl rfl rfl
 rw [ac] at S
 refine leafL ⟨rfl, _, _, .inr ⟨[(14, 27, .pointer (some ⟨bb0, 0 + (s3).toNat * 1, none⟩))], rfl, S, hz_of rfl, ?_⟩⟩
 refine node_by (A := anc_slices_Reverse___int_int__s1_0) 16 (by kernel_rfl) (by kernel_rfl) (by kernel_rfl) (by kernel_rfl) (by kernel_rfl) [14, 0, 1, 2, 3, 4, 5, 6, 7, 8, 9, 10, 11, 12] (by kernel_rfl) (by decide) (by decide) (fD 13 (fD 13 (fF ?_ (fF ?_ (fD 13 (fD 13 (fD 13 (fD 13 (fD 13 (fD 13 (fD 13 (fD 13 (fD 13 (fY (fF ?_ (fN ?_ (trivial))))))))))))))))) [] (fun q hq => by cases hq) (fun hY => absurd (hY 15 (by decide)) (by decide))
 ·exact fM 3 none rfl rfl rfl rfl (.inl rfl) rfl rfl rfl
 ·exact fM 4 none rfl rfl rfl rfl (.inl rfl) rfl rfl rfl
 ·refine fJ [(16, _), (17, _)] 0 [some 3, some 4] fun G a w S => ?_
  exact sIdxV S (wN rfl) rfl rfl rfl (idxV_bsl (m := 2) (c := 2) (sz := 1) Try.underlying32 rfl (idxO_rng (m := 2) a6 rfl).1 (idxO_rng (m := 2) a6 rfl).2 0) rfl (lb rfl) fun a S => leafL ⟨rfl, S⟩
 refine ⟨_, [(25, iv a5), (27, .pointer (some ⟨bb0, 0 + (s3).toNat * 1, none⟩))], rfl, (srcs_of [some 12, some 0] rfl rfl rfl), fun G a w S => ?_⟩
 refine sStore (p := bb0) (off := 0 + (s3).toNat * 1) (T := 49) (vs := [iv (if s2 = 0 then a0 else s4), iv (if s2 = 1 then a0 else s5)]) (v := iv a5) 0 [iv a5] S (wN rfl) rfl rfl rfl rfl rfl rfl rfl (by have hq := idxO_rng (m := 2) a6 rfl; simp; omega) rfl fun a w S => ?_
 have ae : over [iv (if s2 = 0 then a0 else s4), iv (if s2 = 1 then a0 else s5)] (0 + (s3).toNat * 1) [iv a5] = [iv (if s3 = 0 then a5 else (if s2 = 0 then a0 else s4)), iv (if s3 = 1 then a5 else (if s2 = 1 then a0 else s5))] := over_at (g := (fun z => .int .i64 z)) (xs := ([(if s2 = 0 then a0 else s4), (if s2 = 1 then a0 else s5)] : List Int)) (y := a5) [] [] 0 a6 rfl rfl rfl rfl
 rw [ae] at S
 refine leafL ⟨rfl, _, _, .inr ⟨[], rfl, S, hz_of rfl, ?_⟩⟩
 refine node_by (A := anc_slices_Reverse___int_int__s1_0) 16 (by kernel_rfl) (by kernel_rfl) (by kernel_rfl) (by kernel_rfl) (by kernel_rfl) [14, 0, 1, 2, 3, 4, 5, 6, 7, 8, 9, 10, 11, 12] (by kernel_rfl) (by decide) (by decide) (fD 15 (fD 15 (fD 15 (fD 15 (fD 15 (fD 15 (fD 15 (fD 15 (fD 15 (fD 15 (fD 15 (fD 15 (fD 15 (fY (fD 15 (fY (trivial))))))))))))))))) [(0, .slice (some ⟨bb0, 0, none⟩) 2 2), (2, iv s2), (3, iv s3)] (fin_of [none, none, none] rfl (by kernel_rfl) (by kernel_rfl)) (fun _ a w S => ?_)
 refine leafB (leafT (ab _ _ ?_))
 refine sRegion (sM S fun a S => ?_)
 refine sBin _ S (wN rfl) rfl rfl rfl (bAdd _ _ _ _ s2 1) rfl (lb rfl) fun a S => ?_
 refine sM S fun a S => ?_
 refine sBin _ S (wN rfl) rfl rfl rfl (bSub _ _ _ _ s3 1) rfl (lb rfl) fun a S => ?_
 refine sN S fun a S => ?_
 refine sN S fun a S => ?_
 exact lT (⟨(w64 (s2 + 1), w64 (s3 - 1), (if s3 = 0 then a5 else (if s2 = 0 then a0 else s4)), (if s3 = 1 then a5 else (if s2 = 1 then a0 else s5))), (Option.some.inj h).symm, (S.fix [0] [] (by decide) rfl rfl rfl)⟩)
noncomputable def F_slices_Grow___int_int__s1 (p0 : Int) : Option (List Int) :=
 if decide (p0 < 0) then
  none
 else
  Option.bind (α := List Int) (
   if decide (0 < (w64 (p0 - (w64 ((0 : Int) - 0))))) then
    (appZ (w64 (p0 - (w64 ((0 : Int) - 0)))) (0 : Int)).bind fun a0 =>
    (sliceO a0 0 0).bind fun a4 =>
    some a4
   else
    some ([] : List Int)) fun o5 =>
  some o5
theorem c_slices_Grow___int_int__s1 (E : Nat → Prop) (w0 : World) (p0 : Int) (r : (List Int)) (h : F_slices_Grow___int_int__s1 p0 = some r) (S : St0 E [] w0 w0 [] []) :
 Calls Try.prog 74 #[.slice none 0 0, iv p0] w0 (Ret (X := Option Addr × Nat) E [] w0 (fun x => .slice x.1 r.length x.2) (fun x => [eRow (rI .i64) 3 (.slice x.1 r.length x.2) r]) (fun _ => [])) := by
 unfold F_slices_Grow___int_int__s1 at h
 refine sEnter (args := [.slice none 0 0, iv p0]) 27 Try.func74 rfl rfl (by simp) S (fun a S => ?_)
 refine sSeq (fun K1 hK1 => sRegion (sN S fun a S => ?_))
 refine lT (hK1 _ _ (sSeq (fun K2 hK2 => sSeq (fun K3 hK3 => sRegion (sM S fun a S => ?_)))))
 refine sBin _ S (wN rfl) rfl rfl rfl (bLt _ _ _ _ .i64 p0 0) rfl (lb rfl) fun a S => ?_
 refine lT (hK3 _ _ ?_)
 rcases iS h with ⟨hc4, h⟩ | ⟨hc4, h⟩
 ·refine sCondT S rfl hc4 ?_
  refine sRegion ?_
  cases h
 refine sCondF S rfl hc4 ?_
 refine wp_skip (leafT (hK2 _ _ ?_))
 obtain ⟨t8, h, g9⟩ := bS h
 refine sCut (fun a w => ∃ o5, o5 = t8 ∧ ∃ ad6, ∃ cp7, St [] E [] w0 27 a w [(0, .slice ad6 o5.length cp7)] [eRow (rI .i64) 3 (.slice ad6 o5.length cp7) o5] []) ?_ (fun a w hI => ?_)
 rotate_left
 ·obtain ⟨o5, rfl, ad6, cp7, S⟩ := hI
  have h := g9
  try dsimp only at h
  refine sSeq (fun ae a6 => sRegion (sM S fun a S => ?_))
  refine sN S fun a S => ?_
  refine lT (a6 _ _ ?_)
  obtain rfl := tS h
  exact wp_ret (sRet (.slice ad6 o5.length cp7) S (rsl1 rfl (rvT (t := 4) (v := .slice ad6 o5.length cp7) S rfl)) ⟨(ad6, cp7), rfl, S.mem.sel [0] [] (by decide) rfl rfl⟩)
 refine sSeq (fun af a7 => sRegion (sM S fun a S => ?_))
 refine sM S fun a S => ?_
 refine sCapNil S (wN rfl) rfl Try.underlying32 rfl rfl (lb rfl) fun a S => ?_
 refine sM S fun a S => ?_
 refine sLen S (wN rfl) rfl Try.underlying32 rfl rfl (lb rfl) fun a S => ?_
 refine sBin _ S (wN rfl) rfl rfl rfl (bSub _ _ _ _ 0 0) rfl (lb rfl) fun a S => ?_
 refine sBin _ S (wN rfl) rfl rfl rfl (bSub _ _ _ _ p0 (w64 ((0 : Int) - 0))) rfl (lb rfl) fun a S => ?_
 refine sN S fun a S => ?_
 refine lT (a7 _ _ (sSeq (fun ag a8 => sRegion (sM S fun a S => ?_))))
 refine sBin _ S (wN rfl) rfl rfl rfl (bGt _ _ _ _ .i64 (w64 (p0 - (w64 ((0 : Int) - 0)))) 0) rfl (lb rfl) fun a S => ?_
 refine lT (a8 _ _ ?_)
 rcases iS h with ⟨a0, h⟩ | ⟨a0, h⟩
 rotate_left
 ·refine sCondF S rfl a0 ?_
  have S := S.nilRow (rI .i64) 3 (α := Int)
  exact wp_skip (leafT (⟨([] : List Int), Option.some.inj h, none, 0, S.fix [0] [] (by decide) rfl rfl rfl⟩))
 refine sCondT S rfl a0 ?_
 refine sRegion (sM S fun a S => ?_)
 refine sM S fun a S => ?_
 refine sCapNil S (wN rfl) rfl Try.underlying32 rfl rfl (lb rfl) fun a S => ?_
 refine sSliceNil S (wN rfl) rfl Try.underlying32 rfl rfl rfl rfl (lb rfl) fun a S => ?_
 refine sM S fun a S => ?_
 obtain ⟨ab, a9, h⟩ := bS h
 refine sAppZ (r := (rI .i64)) (T := 3) (m := w64 (p0 - (w64 ((0 : Int) - 0)))) (xs := ab) (iv 0) (0 : Int) 8 S (wN rfl) rfl Try.underlying32 Try.underlying3 rfl (by decide) (fun _ _ => rfl) rfl rfl a9 rfl (lb rfl) rfl fun a w a4 a5 S => ?_
 refine sM S fun a S => ?_
 refine sLen S (wN rfl) rfl Try.underlying32 rfl rfl (lb rfl) fun a S => ?_
 obtain ⟨ac, aa, h⟩ := bS h
 refine sSliceT (r := (rI .i64)) (T := 3) (ad := a4) (c := a5) (xs := ab) (vlo := none) (vhi := (some (.int .i64 0))) (hi' := 0) 0 S (wN rfl) rfl Try.underlying32 rfl rfl rfl rfl rfl (.inr rfl) (.inl rfl) aa rfl (lb rfl) fun a S => ?_
 refine sN S fun a S => ?_
 exact lT (⟨ac, Option.some.inj h, a4, a5, S.fix [0] [] (by decide) rfl rfl rfl⟩)
noncomputable def slices_Concat___int_int__l1 (p0 : (List (List Int))) : (Int × Int) → Option ((Int × Int) ⊕ Int) := fun s0 => match s0 with
 | (s9, a0) =>
  if decide (a0 < (p0.length : Int)) then
   (idxO p0 a0).bind fun a4 =>
   if decide ((w64 (s9 + (a4.length : Int))) < 0) then
    none
   else
    some (.inl (w64 (s9 + (a4.length : Int)), w64 (a0 + 1)))
  else
   some (.inr s9)
noncomputable def slices_Concat___int_int__l2 (p0 : (List (List Int))) : (List Int × Int) → Option ((List Int × Int) ⊕ List Int) := fun s0 => match s0 with
 | (a4, a0) =>
  if decide (a0 < (p0.length : Int)) then
   (idxO p0 a0).bind fun a5 =>
   (appO a4 a5).bind fun a6 =>
   some (.inl (a6, w64 (a0 + 1)))
  else
   some (.inr a4)
noncomputable def F_slices_Concat___int_int_ (p0 : (List (List Int))) : Option (List Int) :=
 Option.bind (α := Int) (
  (whileO (slices_Concat___int_int__l1 p0) (0, 0)).bind fun a0 =>
   some a0) fun o5 =>
 (F_slices_Grow___int_int__s1 o5).bind fun a4 =>
 Option.bind (α := List Int) (
  (whileO (slices_Concat___int_int__l2 p0) (a4, 0)).bind fun a5 =>
   some a5) fun a6 =>
 some a6
def c_slices_Concat___int_int__val (r : (List Int)) (x : Value) : Value := x
def c_slices_Concat___int_int__D (r : (List Int)) (x : Value) : List Fact := [fRep (rL (rI .i64)) x r]
theorem c_slices_Concat___int_int_ (E : Nat → Prop) (w0 : World) (p0 : (List (List Int))) (v0 : Value) (r : (List Int)) (h : F_slices_Concat___int_int_ p0 = some r) (S : St0 E [] w0 w0 [] [fRep (rL (rL (rI .i64))) (v0) p0]) :
 Calls Try.prog 68 #[v0] w0 (Ret (X := Value) E [] w0 (c_slices_Concat___int_int__val r) (fun _ => []) (c_slices_Concat___int_int__D r)) := by
 unfold F_slices_Concat___int_int_ at h
 obtain ⟨ad1, cp2, _, rfl, _⟩ := S.know (i := 0) (e := fRep (rL (rL (rI .i64))) (v0) p0) rfl
 refine sEnter (args := [.slice ad1 p0.length cp2]) 36 Try.func68 rfl rfl (by simp) S (fun a S => ?_)
 refine sSeq (fun K3 hK3 => sRegion (sN S fun a S => ?_))
 refine lT (hK3 _ _ (sSeq (fun K4 hK4 => sRegion (sN S fun a S => ?_))))
 refine lT (hK4 _ _ ?_)
 obtain ⟨t6, h, g7⟩ := bS h
 refine sCut (fun a w => ∃ o5, o5 = t6 ∧ St [] E [] w0 36 a w [(0, .slice ad1 p0.length cp2), (3, iv o5)] [] [fRep (rL (rL (rI .i64))) (.slice ad1 p0.length cp2) p0]) ?_ (fun a w hI => ?_)
 ·refine sSeq (fun K8 hK8 => sRegion (sM S fun a S => ?_))
  refine sLen S (wN rfl) rfl Try.underlying69 rfl rfl (lb rfl) fun a S => ?_
  refine sM S fun a S => ?_
  refine lT (hK8 _ _ (wp_block ?_))
  obtain ⟨bf, hl, aV⟩ := bS h
  refine sLoop hl (fun s0 a w => match s0 with | (s9, ac) => St [] E [] w0 36 a w [(0, .slice ad1 p0.length cp2), (3, iv s9), (9, .slice ad1 p0.length cp2), (10, iv (p0.length : Int)), (11, iv ac)] [] [fRep (rL (rL (rI .i64))) (.slice ad1 p0.length cp2) p0]) (S.fix [] [0] (by decide) rfl rfl rfl) ?_
  clear hl h
  intro s0 a w c0 hI h ak
  obtain ⟨s9, ac⟩ := s0
  unfold slices_Concat___int_int__l1 at h
  dsimp only at h hI
  have S := hI
  refine sSeq (fun bg al => sRegion (sBin _ S (wN rfl) rfl rfl rfl (bLt _ _ _ _ .i64 ac (p0.length : Int)) rfl (lb rfl) fun a S => ?_))
  refine lT (al _ _ (sSeq (fun bh am => ?_)))
  rcases iS h with ⟨a8, h⟩ | ⟨a8, h⟩
  rotate_left
  ·refine sCondF S rfl a8 ?_
   obtain rfl := tS h
   obtain rfl := ak _ rfl
   have h := aV
   try dsimp only at h
   exact wp_exit (xThen (xThen (xHit (leafT (⟨s9, Option.some.inj h, S.fix [] [0] (by decide) rfl rfl rfl⟩)))))
  refine sCondT S rfl a8 ?_
  refine wp_skip (leafT (am _ _ ?_))
  refine sSeq (fun bi ao => wp_block ?_)
  refine sSeq (fun bj ap => sRegion ?_)
  obtain ⟨ae, aq, h⟩ := bS h
  obtain ⟨aT, ar, S⟩ := pIdx (P := Try.prog) (r := (rL (rI .i64))) (v := .slice ad1 p0.length cp2) (xs := p0) (j := ac) 69 32 0 S Try.underlying69 rfl rfl aq
  refine sIdxV S (wN rfl) rfl rfl rfl ar rfl (lb rfl) fun a S => ?_
  obtain ⟨aW, S⟩ := pLoad (r := (rL (rI .i64))) (q := aT) (x := ae) 0 S rfl
  obtain ⟨au, av, _, rfl, _⟩ := S.mem.know (i := 1) (e := fRep (rL (rI .i64)) (aW) ae) rfl
  refine sLoadV1 (vq := aT) 0 (.slice au ae.length av) S (wN rfl) rfl rfl rfl rfl rfl (lb rfl) fun a S => ?_
  refine sN S fun a S => ?_
  refine lT (ap _ _ (sSeq (fun bl aw => sRegion (sM S fun a S => ?_))))
  refine sM S fun a S => ?_
  refine sLen S (wN rfl) rfl Try.underlying32 rfl rfl (lb rfl) fun a S => ?_
  refine sBin _ S (wN rfl) rfl rfl rfl (bAdd _ _ _ _ s9 (ae.length : Int)) rfl (lb rfl) fun a S => ?_
  refine sN S fun a S => ?_
  refine lT (aw _ _ (sSeq (fun bm ax => sRegion (sM S fun a S => ?_))))
  refine sBin _ S (wN rfl) rfl rfl rfl (bLt _ _ _ _ .i64 (w64 (s9 + (ae.length : Int))) 0) rfl (lb rfl) fun a S => ?_
  refine lT (ax _ _ ?_)
  rcases iS h with ⟨a9, h⟩ | ⟨a9, h⟩
  ·refine sCondT S rfl a9 ?_
   refine sRegion ?_
   cases h
  refine sCondF S rfl a9 ?_
  refine wp_skip (leafB (leafT (ao _ _ ?_)))
  refine sRegion (sBin _ S (wN rfl) rfl rfl rfl (bAdd _ _ _ _ ac 1) rfl (lb rfl) fun a S => ?_)
  refine sM S fun a S => ?_
  exact lT (⟨(w64 (s9 + (ae.length : Int)), w64 (ac + 1)), (Option.some.inj h).symm, (S.fix [] [3] (by decide) rfl rfl rfl)⟩)
 obtain ⟨o5, rfl, S⟩ := hI
 have h := g7
 try dsimp only at h
 refine sSeq (fun bn ay => sRegion (sM S fun a S => ?_))
 obtain ⟨aj, az, h⟩ := bS h
 refine sCall (X := Option Addr × Nat) (f := 74) (vs := [.slice none 0 0, iv o5]) (val := fun x => .slice x.1 aj.length x.2) (B' := fun x => [eRow (rI .i64) 3 (.slice x.1 aj.length x.2) aj]) (D' := fun _ => []) [] [] [] [] [] S (wN rfl) rfl callee74 rfl (by decide) rfl rfl (fun E1 w1 S1 => c_slices_Grow___int_int__s1 E1 w1 o5 aj az S1) rfl (lb rfl) fun xx a w S => ?_
 obtain ⟨aA, aC⟩ := xx
 dsimp only at S
 refine sN S fun a S => ?_
 refine lT (ay _ _ ?_)
 obtain ⟨aX, h, aZ⟩ := bS h
 refine sCut (fun a w => ∃ a7, a7 = aX ∧ ∃ a0, ∃ a4, St [] E [] w0 36 a w [(6, .slice a0 a7.length a4)] [eRow (rI .i64) 3 (.slice a0 a7.length a4) a7] []) ?_ (fun a w hI => ?_)
 rotate_left
 ·obtain ⟨a7, rfl, a0, a4, S⟩ := hI
  have h := aZ
  try dsimp only at h
  refine sSeq (fun bo aG => sRegion (sM S fun a S => ?_))
  refine sN S fun a S => ?_
  refine lT (aG _ _ ?_)
  obtain rfl := tS h
  have S := S.shutR (r := (rI .i64)) (T := 3) (v := .slice a0 a7.length a4) (xs := a7) 0 rfl
  exact wp_ret (sRet (.slice a0 a7.length a4) S (rsl1 rfl (rvT (t := 2) (v := .slice a0 a7.length a4) S rfl)) ⟨(.slice a0 a7.length a4), rfl, S.mem.sel [] [0] (by decide) rfl rfl⟩)
 refine sSeq (fun bp aH => sRegion (sM S fun a S => ?_))
 refine sLen S (wN rfl) rfl Try.underlying69 rfl rfl (lb rfl) fun a S => ?_
 refine sM S fun a S => ?_
 refine lT (aH _ _ (wp_block ?_))
 obtain ⟨bq, hl, ba⟩ := bS h
 refine sLoop hl (fun s0 a w => match s0 with | (aa, af) => ∃ a5, ∃ a6, St [] E [] w0 36 a w [(6, .slice a5 aa.length a6), (25, .slice ad1 p0.length cp2), (26, iv (p0.length : Int)), (27, iv af)] [eRow (rI .i64) 3 (.slice a5 aa.length a6) aa] [fRep (rL (rL (rI .i64))) (.slice ad1 p0.length cp2) p0]) ⟨aA, aC, S.fix [0] [0] (by decide) rfl rfl rfl⟩ ?_
 clear hl h
 intro s0 a w c0 hI h aI
 obtain ⟨aa, af⟩ := s0
 unfold slices_Concat___int_int__l2 at h
 dsimp only at h hI
 obtain ⟨a5, a6, S⟩ := hI
 refine sSeq (fun br aJ => sRegion (sBin _ S (wN rfl) rfl rfl rfl (bLt _ _ _ _ .i64 af (p0.length : Int)) rfl (lb rfl) fun a S => ?_))
 refine lT (aJ _ _ (sSeq (fun bt aK => ?_)))
 rcases iS h with ⟨ab, h⟩ | ⟨ab, h⟩
 rotate_left
 ·refine sCondF S rfl ab ?_
  obtain rfl := tS h
  obtain rfl := aI _ rfl
  have h := ba
  try dsimp only at h
  exact wp_exit (xThen (xThen (xHit (leafT (⟨aa, Option.some.inj h, a5, a6, S.fix [0] [] (by decide) rfl rfl rfl⟩)))))
 refine sCondT S rfl ab ?_
 refine wp_skip (leafT (aK _ _ ?_))
 refine sSeq (fun bu aL => wp_block ?_)
 refine sSeq (fun bv aM => sRegion ?_)
 obtain ⟨ag, aO, h⟩ := bS h
 obtain ⟨aU, aP, S⟩ := pIdx (P := Try.prog) (r := (rL (rI .i64))) (v := .slice ad1 p0.length cp2) (xs := p0) (j := af) 69 32 0 S Try.underlying69 rfl rfl aO
 refine sIdxV S (wN rfl) rfl rfl rfl aP rfl (lb rfl) fun a S => ?_
 obtain ⟨bb, S⟩ := pLoad (r := (rL (rI .i64))) (q := aU) (x := ag) 0 S rfl
 obtain ⟨ah, ai, _, rfl, _⟩ := S.mem.know (i := 1) (e := fRep (rL (rI .i64)) (bb) ag) rfl
 refine sLoadV1 (vq := aU) 0 (.slice ah ag.length ai) S (wN rfl) rfl rfl rfl rfl rfl (lb rfl) fun a S => ?_
 refine sN S fun a S => ?_
 refine lT (aM _ _ (sRegion (sM S fun a S => ?_)))
 refine sM S fun a S => ?_
 obtain ⟨bc, aQ, h⟩ := bS h
 refine sApp (r := (rI .i64)) (T := 3) (xs := aa) (ys := ag) (v := .slice a5 aa.length a6) (u := .slice ah ag.length ai) 0 (iv 0) 8 S (wN rfl) rfl Try.underlying32 rfl rfl (by decide) rfl rfl rfl (src_D 1 S.mem rfl) aQ rfl (lb rfl) fun a w aR aS S => ?_
 refine sN S fun a S => ?_
 refine leafL (leafB (leafT (aL _ _ ?_)))
 refine sRegion (sBin _ S (wN rfl) rfl rfl rfl (bAdd _ _ _ _ af 1) rfl (lb rfl) fun a S => ?_)
 refine sM S fun a S => ?_
 exact lT (⟨(bc, w64 (af + 1)), (Option.some.inj h).symm, ⟨aR, aS, S.fix [0] [3] (by decide) rfl rfl rfl⟩⟩)
def anc_loops_piece_cable_s1_0 : List (List Nat) := [[], [], [1], [0, 1, 2], [], [], [5], [4, 5, 6], [0, 1, 2, 3, 4, 5, 6, 7], [0, 1, 2, 3, 4, 5, 6, 7, 8], [0, 1, 2, 3, 4, 5, 6, 7, 8, 9], []]
def anc_loops_piece_cable_s1_1 : List (List Nat) := [[], [], [1], [1, 2], [1, 2, 3], [], [5], [1, 2, 3, 4, 5, 6], [0, 1, 2, 3, 4, 5, 6, 7], [0, 1, 2, 3, 4, 5, 6, 7, 8], [0, 1, 2, 3, 4, 5, 6, 7, 8, 9]]
noncomputable def loops_piece_cable_s1_l1 (a5 : (List Int)) (p1 : api_Loop) : (Int × List api_Loop × List Int × List Int × List (Int × Int) × Int) → Option ((Int × List api_Loop × List Int × List Int × List (Int × Int) × Int) ⊕ (List api_Loop × List Int × List Int × List (Int × Int) × Int)) := fun s0 => match s0 with
 | (a4, a6, a7, a8, a9, aa) =>
  if decide (a4 < (a5.length : Int)) then
   (idxO a5 a4).bind fun ab =>
   (F_loops_piece_add_s1 (loops_piece.mk a6 a7 a8 a9 aa) p1 [([ab] : List Int)]).bind fun a0 =>
   some (.inl (w64 (a4 + 1), a0.loops, a0.rows, a0.bound, a0.cross, a0.next))
  else
   some (.inr (a6, a7, a8, a9, aa))
noncomputable def loops_piece_cable_s1_l2 (p2 : api_Stitch) (p0 : loops_piece) (a4 : Int) : (Int × List (Int × Int)) → Option ((Int × List (Int × Int)) ⊕ List (Int × Int)) := fun s0 => match s0 with
 | (a0, a5) =>
  if decide (a0 < p2.B) then
   Option.bind (α := (Int × Int)) (
    if p2.Kind == 7 then
     (F_slices_Reverse___int_int__s1 (w64 ((w64 ((p0.loops.length : Int) + p2.B)) + a4), w64 ((p0.loops.length : Int) + a0))).bind fun a6 =>
     some (a6.1, a6.2)
    else
     some (w64 ((w64 ((p0.loops.length : Int) + p2.B)) + a4), w64 ((p0.loops.length : Int) + a0))) fun (a7, a8) =>
   (appO a5 [(a7, a8)]).bind fun a9 =>
   some (.inl (w64 (a0 + 1), a9))
  else
   some (.inr a5)
noncomputable def loops_piece_cable_s1_l3 (p2 : api_Stitch) (p0 : loops_piece) : (Int × List (Int × Int)) → Option ((Int × List (Int × Int)) ⊕ List (Int × Int)) := fun s0 => match s0 with
 | (a0, a4) =>
  if decide (a0 < p2.A) then
   Option.bind (α := List (Int × Int)) (
    (whileO (loops_piece_cable_s1_l2 p2 p0 a0) (0, a4)).bind fun a5 =>
     some a5) fun a6 =>
   some (.inl (w64 (a0 + 1), a6))
  else
   some (.inr a4)
noncomputable def F_loops_piece_cable_s1 (p0 : loops_piece) (p1 : api_Loop) (p2 : api_Stitch) (p3 : (List Int)) : Option loops_piece :=
 Option.bind (α := (List api_Loop × List Int × List Int × List (Int × Int) × Int)) (
  (sliceO p3 p2.A (p3.length : Int)).bind fun a4 =>
  (sliceO p3 0 p2.A).bind fun a5 =>
  (F_slices_Concat___int_int_ [a4, a5]).bind fun a6 =>
  (whileO (loops_piece_cable_s1_l1 a6 p1) (0, p0.loops, p0.rows, p0.bound, p0.cross, p0.next)).bind fun (a7, a8, a9, aa, ab) =>
   some (a7, a8, a9, aa, ab)) fun (ac, ae, af, ag, ah) =>
 (whileO (loops_piece_cable_s1_l3 p2 p0) (0, ag)).bind fun a0 =>
  some (loops_piece.mk ac ae af a0 ah)
theorem c_loops_piece_cable_s1 (E : Nat → Prop) (w0 : World) (p0 : loops_piece) (bb0 : Nat) (ad_0_0 : Option Addr) (cp_0_0 : Nat) (ad_0_1 : Option Addr) (cp_0_1 : Nat) (ad_0_2 : Option Addr) (cp_0_2 : Nat) (ad_0_3 : Option Addr) (cp_0_3 : Nat) (p1 : api_Loop) (v1 : Value) (p2 : api_Stitch) (v2 : Value) (p3 : (List Int)) (v3 : Value) (r : loops_piece) (h : F_loops_piece_cable_s1 p0 p1 p2 p3 = some r) (S : St0 E (keysL [eBox bb0 73 [.slice ad_0_0 p0.loops.length cp_0_0, .slice ad_0_1 p0.rows.length cp_0_1, .slice ad_0_2 p0.bound.length cp_0_2, .slice ad_0_3 p0.cross.length cp_0_3, iv p0.next], eRow r_api_Loop 48 (.slice ad_0_0 p0.loops.length cp_0_0) p0.loops, eRow (rI .i64) 3 (.slice ad_0_1 p0.rows.length cp_0_1) p0.rows, eRow (rI .i64) 3 (.slice ad_0_2 p0.bound.length cp_0_2) p0.bound, eRow r_A2_Int 49 (.slice ad_0_3 p0.cross.length cp_0_3) p0.cross]) w0 w0 [eBox bb0 73 [.slice ad_0_0 p0.loops.length cp_0_0, .slice ad_0_1 p0.rows.length cp_0_1, .slice ad_0_2 p0.bound.length cp_0_2, .slice ad_0_3 p0.cross.length cp_0_3, iv p0.next], eRow r_api_Loop 48 (.slice ad_0_0 p0.loops.length cp_0_0) p0.loops, eRow (rI .i64) 3 (.slice ad_0_1 p0.rows.length cp_0_1) p0.rows, eRow (rI .i64) 3 (.slice ad_0_2 p0.bound.length cp_0_2) p0.bound, eRow r_A2_Int 49 (.slice ad_0_3 p0.cross.length cp_0_3) p0.cross] [fRep r_api_Loop (v1) p1, fRep r_api_Stitch (v2) p2, fRep (rL (rI .i64)) (v3) p3]) :
 Calls Try.prog 61 #[.pointer (some ⟨bb0, 0, none⟩), v1, v2, v3] w0 (Ret (X := Option Addr × Nat × Option Addr × Nat × Option Addr × Nat × Option Addr × Nat) E (keysL [eBox bb0 73 [.slice ad_0_0 p0.loops.length cp_0_0, .slice ad_0_1 p0.rows.length cp_0_1, .slice ad_0_2 p0.bound.length cp_0_2, .slice ad_0_3 p0.cross.length cp_0_3, iv p0.next], eRow r_api_Loop 48 (.slice ad_0_0 p0.loops.length cp_0_0) p0.loops, eRow (rI .i64) 3 (.slice ad_0_1 p0.rows.length cp_0_1) p0.rows, eRow (rI .i64) 3 (.slice ad_0_2 p0.bound.length cp_0_2) p0.bound, eRow r_A2_Int 49 (.slice ad_0_3 p0.cross.length cp_0_3) p0.cross]) w0 (fun _ => .tuple #[]) (fun x => [eBox bb0 73 [.slice x.1 r.loops.length x.2.1, .slice x.2.2.1 r.rows.length x.2.2.2.1, .slice x.2.2.2.2.1 r.bound.length x.2.2.2.2.2.1, .slice x.2.2.2.2.2.2.1 r.cross.length x.2.2.2.2.2.2.2, iv r.next], eRow r_api_Loop 48 (.slice x.1 r.loops.length x.2.1) r.loops, eRow (rI .i64) 3 (.slice x.2.2.1 r.rows.length x.2.2.2.1) r.rows, eRow (rI .i64) 3 (.slice x.2.2.2.2.1 r.bound.length x.2.2.2.2.2.1) r.bound, eRow r_A2_Int 49 (.slice x.2.2.2.2.2.2.1 r.cross.length x.2.2.2.2.2.2.2) r.cross]) (fun _ => [])) := by
 unfold F_loops_piece_cable_s1 at h
 obtain ⟨u1, rfl, hu2⟩ := S.know (i := 0) (e := fRep r_api_Loop (v1) p1) rfl
 have S := S.learn (fRep (rL (rI .i64)) u1 p1.Parents) hu2
 obtain ⟨ad3, cp4, _, rfl, _⟩ := hu2
 obtain rfl : v2 = .agg #[.int .u8 p2.Kind, .bool p2.Purl, iv p2.A, iv p2.B] := S.know (i := 2) (e := fRep r_api_Stitch (v2) p2) rfl
 obtain ⟨ad5, cp6, _, rfl, _⟩ := S.know (i := 3) (e := fRep (rL (rI .i64)) (v3) p3) rfl
 refine sEnter (args := [.pointer (some ⟨bb0, 0, none⟩), .agg #[iv p1.Row, iv p1.Cell, .slice ad3 p1.Parents.length cp4, .bool p1.Purl], .agg #[.int .u8 p2.Kind, .bool p2.Purl, iv p2.A, iv p2.B], .slice ad5 p3.length cp6]) 78 Try.func61 rfl rfl (by simp) S (fun a S => ?_)
 refine sSeq (fun K7 hK7 => sRegion (sBox (v := .agg #[iv p1.Row, iv p1.Cell, .slice ad3 p1.Parents.length cp4, .bool p1.Purl]) S (wN rfl) rfl rfl [iv p1.Row, iv p1.Cell, .slice ad3 p1.Parents.length cp4, .bool p1.Purl] rfl rfl (lb rfl) fun a b8 w S => ?_))
 refine sBox (v := .agg #[.int .u8 p2.Kind, .bool p2.Purl, iv p2.A, iv p2.B]) S (wN rfl) rfl rfl [.int .u8 p2.Kind, .bool p2.Purl, iv p2.A, iv p2.B] rfl rfl (lb rfl) fun a b9 w S => ?_
 refine lT (hK7 _ _ (sSeq (fun cJ bZ => sRegion (sM S fun a S => ?_))))
 refine nilCheck_ok (q := ⟨bb0, 0, none⟩) S (wN rfl) rfl rfl rfl (lb rfl) fun a S => ?_
 refine sField (b := bb0) (off := 0) 0 0 S (wN rfl) rfl rfl rfl rfl rfl (lb rfl) fun a S => ?_
 refine sLoad1 2 (.slice ad_0_0 p0.loops.length cp_0_0) S (wN rfl) rfl rfl rfl rfl rfl rfl (lb rfl) fun a S => ?_
 refine sLen S (wN rfl) rfl Try.underlying26 rfl rfl (lb rfl) fun a S => ?_
 refine sN S fun a S => ?_
 refine lT (bZ _ _ ?_)
 obtain ⟨cr, h, ct⟩ := bS h
 refine sCut (fun a w => ∃ am, ∃ ao, ∃ ap, ∃ bA, ∃ bh, (am, ao, ap, bA, bh) = cr ∧ ∃ a9, ∃ aa, ∃ ab, ∃ ac, ∃ ae, ∃ af, ∃ bi, ∃ bj, St [] E (keysL [eBox bb0 73 [.slice ad_0_0 p0.loops.length cp_0_0, .slice ad_0_1 p0.rows.length cp_0_1, .slice ad_0_2 p0.bound.length cp_0_2, .slice ad_0_3 p0.cross.length cp_0_3, iv p0.next], eRow r_api_Loop 48 (.slice ad_0_0 p0.loops.length cp_0_0) p0.loops, eRow (rI .i64) 3 (.slice ad_0_1 p0.rows.length cp_0_1) p0.rows, eRow (rI .i64) 3 (.slice ad_0_2 p0.bound.length cp_0_2) p0.bound, eRow r_A2_Int 49 (.slice ad_0_3 p0.cross.length cp_0_3) p0.cross]) w0 78 a w [(0, .pointer (some ⟨bb0, 0, none⟩)), (6, .pointer (some ⟨b9, 0, none⟩)), (8, iv (p0.loops.length : Int))] [eBox bb0 73 [.slice a9 am.length aa, .slice ab ao.length ac, .slice ae ap.length af, .slice bi bA.length bj, iv bh], eBox b9 61 [.int .u8 p2.Kind, .bool p2.Purl, iv p2.A, iv p2.B], eRow r_api_Loop 48 (.slice a9 am.length aa) am, eRow (rI .i64) 3 (.slice ab ao.length ac) ao, eRow (rI .i64) 3 (.slice ae ap.length af) ap, eRow r_A2_Int 49 (.slice bi bA.length bj) bA] []) ?_ (fun a w hI => ?_)
 ·refine sSeq (fun cK c5 => ?_)
  obtain ⟨aq, bB, h⟩ := bS h
  obtain ⟨ar, bC, h⟩ := bS h
  obtain ⟨aA, c6, h⟩ := bS h
  refine sDraw (nf := [3, 7, 8, 9]) (W := [(0, 19, .slice ad5 p3.length cp6), (1, 20, .pointer (some ⟨b9, 2, none⟩)), (2, 21, iv p2.A), (4, 23, .slice ad5 p3.length cp6), (5, 24, .pointer (some ⟨b9, 2, none⟩)), (6, 25, iv p2.A), (11, 30, iv 0)]) rfl S ?_
  refine nodeCut (fun N W L D => ∀ ah ai aj ak, N [7, 3] ((7, 26, .slice ah ar.length ai) :: (3, 22, .slice aj aq.length ak) :: W) (L) ((fRep (rL (rI .i64)) (.slice ah ar.length ai) ar) :: (fRep (rL (rI .i64)) (.slice aj aq.length ak) aq) :: D)) (fun ah ai aj ak => ?_) fun nd1 => ?_
  ·refine node_by (A := anc_loops_piece_cable_s1_0) 12 (by kernel_rfl) (by kernel_rfl) (by kernel_rfl) (by kernel_rfl) (by kernel_rfl) [7, 3, 0, 1, 2, 4, 5, 6, 11] (by kernel_rfl) (by decide) (by decide) (fD 3 (fD 3 (fD 3 (fY (fD 7 (fD 7 (fD 7 (fY (fN ?_ (aB 9 2 8 (by decide) (fE 8 (fF ?_ (trivial))))))))))))) [] (fun q hq => by cases hq) (fun hY => absurd (hY 8 (by decide)) (by decide))
   ·refine ⟨_, [(22, .slice aj aq.length ak), (26, .slice ah ar.length ai)], rfl, (srcs_of [some 1, some 0] rfl rfl rfl), fun G a w S => ?_⟩
    refine sLit (r := (rL (rI .i64))) (T := 32) (xs := [aq, ar]) [(0, .slice aj aq.length ak), (1, .slice ah ar.length ai)] 2 [.slice aj aq.length ak, .slice ah ar.length ai] [.slice aj aq.length ak, .slice ah ar.length ai] (.slice none 0 0) 24 S (wN rfl) rfl rfl Try.underlying69 rfl (by decide) (by decide) (by kernel_rfl) rfl (fun E1 w1 hE => All.cons ((rL (rI .i64)).mono hE (S.mem.know (i := 1) (e := fRep (rL (rI .i64)) (.slice aj aq.length ak) aq) rfl)) (All.cons ((rL (rI .i64)).mono hE (S.mem.know (i := 0) (e := fRep (rL (rI .i64)) (.slice ah ar.length ai) ar) rfl)) (All.nil _ _ _))) rfl rfl (lb rfl) fun a w aQ aR S => ?_
    refine leafL ⟨rfl, _, _, .inl ⟨27, (.slice aQ [aq, ar].length aR), [], rfl, S, hz_of rfl, ?_⟩⟩
    refine node_by (A := anc_loops_piece_cable_s1_0) 12 (by kernel_rfl) (by kernel_rfl) (by kernel_rfl) (by kernel_rfl) (by kernel_rfl) [8, 7, 3, 0, 1, 2, 4, 5, 6, 11] (by kernel_rfl) (by decide) (by decide) (fD 8 (fD 8 (fD 8 (fY (fD 8 (fD 8 (fD 8 (fY (fY (fN ?_ (fE 9 (fF ?_ (trivial))))))))))))) [] (fun q hq => by cases hq) (fun hY => absurd (hY 9 (by decide)) (by decide))
    ·refine ⟨_, [(27, .slice aQ [aq, ar].length aR)], rfl, (srcs_of [some 0] rfl rfl rfl), fun G a w S => ?_⟩
     have S := S.shutR (r := (rL (rI .i64))) (T := 32) (v := .slice aQ [aq, ar].length aR) (xs := [aq, ar]) 0 rfl
     refine sCall (X := Value) (f := 68) (vs := [.slice aQ [aq, ar].length aR]) (val := c_slices_Concat___int_int__val aA) (B' := fun _ => []) (D' := c_slices_Concat___int_int__D aA) [] [eBox b9 61 [.int .u8 p2.Kind, .bool p2.Purl, iv p2.A, iv p2.B], eBox b8 48 [iv p1.Row, iv p1.Cell, .slice ad3 p1.Parents.length cp4, .bool p1.Purl], eBox bb0 73 [.slice ad_0_0 p0.loops.length cp_0_0, .slice ad_0_1 p0.rows.length cp_0_1, .slice ad_0_2 p0.bound.length cp_0_2, .slice ad_0_3 p0.cross.length cp_0_3, iv p0.next], eRow r_api_Loop 48 (.slice ad_0_0 p0.loops.length cp_0_0) p0.loops, eRow (rI .i64) 3 (.slice ad_0_1 p0.rows.length cp_0_1) p0.rows, eRow (rI .i64) 3 (.slice ad_0_2 p0.bound.length cp_0_2) p0.bound, eRow r_A2_Int 49 (.slice ad_0_3 p0.cross.length cp_0_3) p0.cross] [fRep (rL (rL (rI .i64))) (.slice aQ [aq, ar].length aR) [aq, ar]] [0, 1, 2, 3, 4, 5, 6] [0] S (wN rfl) rfl callee68 rfl (by decide) rfl rfl (fun E1 w1 S1 => c_slices_Concat___int_int_ E1 w1 [aq, ar] (.slice aQ [aq, ar].length aR) aA c6 S1) rfl (lb rfl) fun cu a w S => ?_
     obtain ⟨aT, aU, _, rfl, _⟩ := S.mem.know (i := 0) (e := fRep (rL (rI .i64)) (cu) aA) rfl
     refine leafL ⟨rfl, _, _, .inl ⟨28, (.slice aT aA.length aU), [(10, 29, iv (aA.length : Int))], rfl, S, hz_of rfl, ?_⟩⟩
     refine node_by (A := anc_loops_piece_cable_s1_0) 12 (by kernel_rfl) (by kernel_rfl) (by kernel_rfl) (by kernel_rfl) (by kernel_rfl) [10, 9, 8, 7, 3, 0, 1, 2, 4, 5, 6, 11] (by kernel_rfl) (by decide) (by decide) (fD 9 (fD 9 (fD 9 (fY (fD 9 (fD 9 (fD 9 (fY (fY (fY (fF ?_ (fF ?_ (trivial))))))))))))) [(0, .pointer (some ⟨bb0, 0, none⟩)), (5, .pointer (some ⟨b8, 0, none⟩)), (6, .pointer (some ⟨b9, 0, none⟩)), (8, iv (p0.loops.length : Int)), (28, .slice aT aA.length aU), (29, iv (aA.length : Int)), (30, iv 0)] (fin_of [none, none, none, none, some 1, some 0, some 11] rfl (by kernel_rfl) (by kernel_rfl)) (fun _ a w S => ?_)
     ·refine fJ [(28, _)] 0 [some 1] fun G a w S => ?_
      exact sLen S (wN rfl) rfl Try.underlying32 rfl rfl (lb rfl) fun a S => leafL ⟨rfl, S⟩
     ·refine fJ [] 11 [] fun G a w S => ?_
      exact sM S fun a S => leafL ⟨rfl, S⟩
     refine leafT (c5 _ _ ?_)
     refine wp_block ?_
     obtain ⟨cL, hl, cv⟩ := bS h
     refine sLoop hl (fun s0 a w => match s0 with | (bz, bl, bm, bn, bo, bD) => ∃ aC, ∃ aG, ∃ aH, ∃ aI, ∃ aJ, ∃ aK, ∃ aL, ∃ aM, St [] E (keysL [eBox bb0 73 [.slice ad_0_0 p0.loops.length cp_0_0, .slice ad_0_1 p0.rows.length cp_0_1, .slice ad_0_2 p0.bound.length cp_0_2, .slice ad_0_3 p0.cross.length cp_0_3, iv p0.next], eRow r_api_Loop 48 (.slice ad_0_0 p0.loops.length cp_0_0) p0.loops, eRow (rI .i64) 3 (.slice ad_0_1 p0.rows.length cp_0_1) p0.rows, eRow (rI .i64) 3 (.slice ad_0_2 p0.bound.length cp_0_2) p0.bound, eRow r_A2_Int 49 (.slice ad_0_3 p0.cross.length cp_0_3) p0.cross]) w0 78 a w [(0, .pointer (some ⟨bb0, 0, none⟩)), (5, .pointer (some ⟨b8, 0, none⟩)), (6, .pointer (some ⟨b9, 0, none⟩)), (8, iv (p0.loops.length : Int)), (28, .slice aT aA.length aU), (29, iv (aA.length : Int)), (30, iv bz)] [eBox bb0 73 [.slice aC bl.length aG, .slice aH bm.length aI, .slice aJ bn.length aK, .slice aL bo.length aM, iv bD], eBox b8 48 [iv p1.Row, iv p1.Cell, .slice ad3 p1.Parents.length cp4, .bool p1.Purl], eBox b9 61 [.int .u8 p2.Kind, .bool p2.Purl, iv p2.A, iv p2.B], eRow r_api_Loop 48 (.slice aC bl.length aG) bl, eRow (rI .i64) 3 (.slice aH bm.length aI) bm, eRow (rI .i64) 3 (.slice aJ bn.length aK) bn, eRow r_A2_Int 49 (.slice aL bo.length aM) bo] [fRep (rL (rI .i64)) (.slice aT aA.length aU) aA, fRep (rL (rI .i64)) (.slice ad3 p1.Parents.length cp4) p1.Parents]) ⟨ad_0_0, cp_0_0, ad_0_1, cp_0_1, ad_0_2, cp_0_2, ad_0_3, cp_0_3, S.fix [2, 1, 0, 3, 4, 5, 6] [0, 4] (by decide) rfl rfl rfl⟩ ?_
     clear hl h
     intro s0 a w c0 hI h c7
     obtain ⟨bz, bl, bm, bn, bo, bD⟩ := s0
     unfold loops_piece_cable_s1_l1 at h
     dsimp only at h hI
     obtain ⟨aC, aG, aH, aI, aJ, aK, aL, aM, S⟩ := hI
     refine sSeq (fun cM c8 => sRegion (sBin _ S (wN rfl) rfl rfl rfl (bLt _ _ _ _ .i64 bz (aA.length : Int)) rfl (lb rfl) fun a S => ?_))
     refine lT (c8 _ _ (sSeq (fun cN c9 => ?_)))
     rcases iS h with ⟨bx, h⟩ | ⟨bx, h⟩
     rotate_left
     ·refine sCondF S rfl bx ?_
      obtain rfl := tS h
      obtain rfl := c7 _ rfl
      have h := cv
      try dsimp only at h
      exact wp_exit (xThen (xThen (xHit (leafT (⟨bl, bm, bn, bo, bD, Option.some.inj h, aC, aG, aH, aI, aJ, aK, aL, aM, S.fix [0, 2, 3, 4, 5, 6] [] (by decide) rfl rfl rfl⟩)))))
     refine sCondT S rfl bx ?_
     refine wp_skip (leafT (c9 _ _ ?_))
     refine sSeq (fun cO ca => wp_block ?_)
     refine sSeq (fun cP cb => sRegion ?_)
     obtain ⟨al, cc, h⟩ := bS h
     obtain ⟨cp, cd, S⟩ := pIdx (P := Try.prog) (r := (rI .i64)) (v := .slice aT aA.length aU) (xs := aA) (j := bz) 32 3 0 S Try.underlying32 rfl rfl cc
     refine sIdxV S (wN rfl) rfl rfl rfl cd rfl (lb rfl) fun a S => ?_
     obtain ⟨cq, S⟩ := pLoad (r := (rI .i64)) (q := cp) (x := al) 0 S rfl
     obtain rfl : cq = iv al := S.mem.know (i := 1) (e := fRep (rI .i64) (cq) al) rfl
     refine sLoadV1 (vq := cp) 0 (iv al) S (wN rfl) rfl rfl rfl rfl rfl (lb rfl) fun a S => ?_
     refine sN S fun a S => ?_
     refine lT (cb _ _ (sRegion (sM S fun a S => ?_)))
     refine sLoadN (p := b8) (off := 0) (T := 48) (vs := [iv p1.Row, iv p1.Cell, .slice ad3 p1.Parents.length cp4, .bool p1.Purl]) 1 [iv p1.Row, iv p1.Cell, .slice ad3 p1.Parents.length cp4, .bool p1.Purl] S (wN rfl) rfl rfl rfl rfl rfl rfl rfl (lb rfl) fun a S => ?_
     refine sM S fun a S => ?_
     refine sLit (r := (rI .i64)) (T := 3) (xs := ([al] : List Int)) [(0, iv al)] 1 [iv al] [iv al] (iv 0) 8 S (wN rfl) rfl rfl Try.underlying32 rfl (by decide) (by decide) (by kernel_rfl) rfl (fun E1 w1 hE => All.cons rfl (All.nil _ _ _)) rfl rfl (lb rfl) fun a w aV aW S => ?_
     have S := S.shutR (r := (rI .i64)) (T := 3) (v := .slice aV ([al] : List Int).length aW) (xs := ([al] : List Int)) 0 rfl
     refine sLit (r := (rL (rI .i64))) (T := 32) (xs := [([al] : List Int)]) [(0, .slice aV ([al] : List Int).length aW)] 1 [.slice aV ([al] : List Int).length aW] [.slice aV ([al] : List Int).length aW] (.slice none 0 0) 24 S (wN rfl) rfl rfl Try.underlying69 rfl (by decide) (by decide) (by kernel_rfl) rfl (fun E1 w1 hE => All.cons ((rL (rI .i64)).mono hE (S.mem.know (i := 0) (e := fRep (rL (rI .i64)) (.slice aV ([al] : List Int).length aW) ([al] : List Int)) rfl)) (All.nil _ _ _)) rfl rfl (lb rfl) fun a w bp bq S => ?_
     obtain ⟨au, ce, h⟩ := bS h
     have S := S.learn (fRep r_api_Loop (.agg #[iv p1.Row, iv p1.Cell, .slice ad3 p1.Parents.length cp4, .bool p1.Purl]) p1) ⟨_, rfl, S.mem.know (i := 5) (e := fRep (rL (rI .i64)) (.slice ad3 p1.Parents.length cp4) p1.Parents) rfl⟩
     have S := S.shutR (r := (rL (rI .i64))) (T := 32) (v := .slice bp [([al] : List Int)].length bq) (xs := [([al] : List Int)]) 0 rfl
     refine sCall (X := Option Addr × Nat × Option Addr × Nat × Option Addr × Nat × Option Addr × Nat) (f := 58) (vs := [.pointer (some ⟨bb0, 0, none⟩), .agg #[iv p1.Row, iv p1.Cell, .slice ad3 p1.Parents.length cp4, .bool p1.Purl], .slice bp [([al] : List Int)].length bq]) (val := fun _ => .tuple #[]) (B' := fun x => [eBox bb0 73 [.slice x.1 au.loops.length x.2.1, .slice x.2.2.1 au.rows.length x.2.2.2.1, .slice x.2.2.2.2.1 au.bound.length x.2.2.2.2.2.1, .slice x.2.2.2.2.2.2.1 au.cross.length x.2.2.2.2.2.2.2, iv au.next], eRow r_api_Loop 48 (.slice x.1 au.loops.length x.2.1) au.loops, eRow (rI .i64) 3 (.slice x.2.2.1 au.rows.length x.2.2.2.1) au.rows, eRow (rI .i64) 3 (.slice x.2.2.2.2.1 au.bound.length x.2.2.2.2.2.1) au.bound, eRow r_A2_Int 49 (.slice x.2.2.2.2.2.2.1 au.cross.length x.2.2.2.2.2.2.2) au.cross]) (D' := fun _ => []) [eBox bb0 73 [.slice aC bl.length aG, .slice aH bm.length aI, .slice aJ bn.length aK, .slice aL bo.length aM, iv bD], eRow r_api_Loop 48 (.slice aC bl.length aG) bl, eRow (rI .i64) 3 (.slice aH bm.length aI) bm, eRow (rI .i64) 3 (.slice aJ bn.length aK) bn, eRow r_A2_Int 49 (.slice aL bo.length aM) bo] [eBox b8 48 [iv p1.Row, iv p1.Cell, .slice ad3 p1.Parents.length cp4, .bool p1.Purl], eBox b9 61 [.int .u8 p2.Kind, .bool p2.Purl, iv p2.A, iv p2.B]] [fRep r_api_Loop (.agg #[iv p1.Row, iv p1.Cell, .slice ad3 p1.Parents.length cp4, .bool p1.Purl]) p1, fRep (rL (rL (rI .i64))) (.slice bp [([al] : List Int)].length bq) [([al] : List Int)]] [0, 3, 4, 5, 6, 1, 2] [1, 0] S (wN rfl) rfl callee58 rfl (by decide) rfl rfl (fun E1 w1 S1 => c_loops_piece_add_s1 E1 w1 (loops_piece.mk bl bm bn bo bD) bb0 aC aG aH aI aJ aK aL aM p1 (.agg #[iv p1.Row, iv p1.Cell, .slice ad3 p1.Parents.length cp4, .bool p1.Purl]) [([al] : List Int)] (.slice bp [([al] : List Int)].length bq) au ce S1) rfl (lb rfl) fun xx a w S => ?_
     obtain ⟨cf, cg, ci, bE, bF, bG, bH, bI⟩ := xx
     dsimp only at S
     refine leafL (leafB (leafT (ca _ _ ?_)))
     refine sRegion (sBin _ S (wN rfl) rfl rfl rfl (bAdd _ _ _ _ bz 1) rfl (lb rfl) fun a S => ?_)
     refine sM S fun a S => ?_
     exact lT (⟨(w64 (bz + 1), au.loops, au.rows, au.bound, au.cross, au.next), (Option.some.inj h).symm, ⟨cf, cg, ci, bE, bF, bG, bH, bI, S.fix [0, 5, 6, 1, 2, 3, 4] [6, 7] (by decide) rfl rfl rfl⟩⟩)
    refine fJ [] 9 [] fun G a w S => ?_
    exact sM S fun a S => leafL ⟨rfl, S⟩
   refine fJ [] 8 [] fun G a w S => ?_
   exact sM S fun a S => leafL ⟨rfl, S⟩
  refine node_by (A := anc_loops_piece_cable_s1_0) 12 (by kernel_rfl) (by kernel_rfl) (by kernel_rfl) (by kernel_rfl) (by kernel_rfl) [0, 1, 2, 4, 5, 6, 11] (by kernel_rfl) (by decide) (by decide) (fF ?_ (fF ?_ (fF ?_ (fN ?_ (fF ?_ (fF ?_ (fF ?_ (fN ?_ (aB 8 3 3 (by decide) (aB 9 2 3 (by decide) (fE 3 (fF ?_ (trivial))))))))))))) [] (fun q hq => by cases hq) (fun hY => absurd (hY 3 (by decide)) (by decide))
  ·exact fM 0 none rfl rfl rfl rfl (.inl rfl) rfl rfl rfl
  ·refine fJ [(6, _)] 1 [none] fun G a w S => ?_
   exact sField (b := b9) (off := 0) 2 2 S (wN rfl) rfl rfl rfl rfl rfl (lb rfl) fun a S => leafL ⟨rfl, S⟩
  ·refine fJ [(20, _)] 2 [some 1] fun G a w S => ?_
   exact sLoad1 0 (iv p2.A) S (wN rfl) rfl rfl rfl rfl rfl rfl (lb rfl) fun a S => leafL ⟨rfl, S⟩
  ·refine ⟨_, [(19, .slice ad5 p3.length cp6), (21, iv p2.A)], rfl, (srcs_of [some 0, some 2] rfl rfl rfl), fun G a w S => ?_⟩
   refine sSlice (r := (rI .i64)) (v := .slice ad5 p3.length cp6) (xs := p3) (vlo := (some (.int .i64 p2.A))) (vhi := none) (lo' := p2.A) (hi' := (p3.length : Int)) 3 S (wN rfl) rfl Try.underlying32 rfl rfl rfl rfl rfl (.inl rfl) (.inr ⟨rfl, rfl⟩) bB rfl (lb rfl) fun a aj ak S => ?_
   refine leafL ⟨rfl, _, _, .inl ⟨22, (.slice aj aq.length ak), [], rfl, S, hz_of rfl, ?_⟩⟩
   refine node_by (A := anc_loops_piece_cable_s1_0) 12 (by kernel_rfl) (by kernel_rfl) (by kernel_rfl) (by kernel_rfl) (by kernel_rfl) [3, 0, 1, 2, 4, 5, 6, 11] (by kernel_rfl) (by decide) (by decide) (fD 3 (fD 3 (fD 3 (fY (fF ?_ (fF ?_ (fF ?_ (fN ?_ (aB 8 3 7 (by decide) (aB 9 2 7 (by decide) (fE 7 (fF ?_ (trivial))))))))))))) [] (fun q hq => by cases hq) (fun hY => absurd (hY 7 (by decide)) (by decide))
   ·exact fM 4 none rfl rfl rfl rfl (.inl rfl) rfl rfl rfl
   ·refine fJ [(6, _)] 5 [none] fun G a w S => ?_
    exact sField (b := b9) (off := 0) 2 2 S (wN rfl) rfl rfl rfl rfl rfl (lb rfl) fun a S => leafL ⟨rfl, S⟩
   ·refine fJ [(24, _)] 6 [some 5] fun G a w S => ?_
    exact sLoad1 0 (iv p2.A) S (wN rfl) rfl rfl rfl rfl rfl rfl (lb rfl) fun a S => leafL ⟨rfl, S⟩
   ·refine ⟨_, [(23, .slice ad5 p3.length cp6), (25, iv p2.A)], rfl, (srcs_of [some 4, some 6] rfl rfl rfl), fun G a w S => ?_⟩
    refine sSlice (r := (rI .i64)) (v := .slice ad5 p3.length cp6) (xs := p3) (vlo := none) (vhi := (some (.int .i64 p2.A))) (lo' := 0) (hi' := p2.A) 4 S (wN rfl) rfl Try.underlying32 rfl rfl rfl rfl rfl (.inr ⟨rfl, rfl⟩) (.inl rfl) bC rfl (lb rfl) fun a ah ai S => ?_
    refine leafL ⟨rfl, _, _, .inl ⟨26, (.slice ah ar.length ai), [], rfl, S, hz_of rfl, ?_⟩⟩
    exact nd1 ah ai aj ak
   refine fJ [] 7 [] fun G a w S => ?_
   exact sM S fun a S => leafL ⟨rfl, S⟩
  ·exact fM 3 none rfl rfl rfl rfl (.inl rfl) rfl rfl rfl
  ·refine fJ [(6, _)] 4 [none] fun G a w S => ?_
   exact sField (b := b9) (off := 0) 2 2 S (wN rfl) rfl rfl rfl rfl rfl (lb rfl) fun a S => leafL ⟨rfl, S⟩
  ·refine fJ [(24, _)] 5 [some 4] fun G a w S => ?_
   exact sLoad1 0 (iv p2.A) S (wN rfl) rfl rfl rfl rfl rfl rfl (lb rfl) fun a S => leafL ⟨rfl, S⟩
  ·refine ⟨_, [(23, .slice ad5 p3.length cp6), (25, iv p2.A)], rfl, (srcs_of [some 3, some 5] rfl rfl rfl), fun G a w S => ?_⟩
   refine sSlice (r := (rI .i64)) (v := .slice ad5 p3.length cp6) (xs := p3) (vlo := none) (vhi := (some (.int .i64 p2.A))) (lo' := 0) (hi' := p2.A) 3 S (wN rfl) rfl Try.underlying32 rfl rfl rfl rfl rfl (.inr ⟨rfl, rfl⟩) (.inl rfl) bC rfl (lb rfl) fun a bt bu S => ?_
   refine leafL ⟨rfl, _, _, .inl ⟨26, (.slice bt ar.length bu), [], rfl, S, hz_of rfl, ?_⟩⟩
   refine node_by (A := anc_loops_piece_cable_s1_0) 12 (by kernel_rfl) (by kernel_rfl) (by kernel_rfl) (by kernel_rfl) (by kernel_rfl) [7, 0, 1, 2, 4, 5, 6, 11] (by kernel_rfl) (by decide) (by decide) (fF ?_ (fF ?_ (fF ?_ (fN ?_ (fD 7 (fD 7 (fD 7 (fY (aB 8 3 3 (by decide) (aB 9 2 3 (by decide) (fE 3 (fF ?_ (trivial))))))))))))) [] (fun q hq => by cases hq) (fun hY => absurd (hY 3 (by decide)) (by decide))
   ·exact fM 1 none rfl rfl rfl rfl (.inl rfl) rfl rfl rfl
   ·refine fJ [(6, _)] 2 [none] fun G a w S => ?_
    exact sField (b := b9) (off := 0) 2 2 S (wN rfl) rfl rfl rfl rfl rfl (lb rfl) fun a S => leafL ⟨rfl, S⟩
   ·refine fJ [(20, _)] 3 [some 2] fun G a w S => ?_
    exact sLoad1 0 (iv p2.A) S (wN rfl) rfl rfl rfl rfl rfl rfl (lb rfl) fun a S => leafL ⟨rfl, S⟩
   ·refine ⟨_, [(19, .slice ad5 p3.length cp6), (21, iv p2.A)], rfl, (srcs_of [some 1, some 3] rfl rfl rfl), fun G a w S => ?_⟩
    refine sSlice (r := (rI .i64)) (v := .slice ad5 p3.length cp6) (xs := p3) (vlo := (some (.int .i64 p2.A))) (vhi := none) (lo' := p2.A) (hi' := (p3.length : Int)) 4 S (wN rfl) rfl Try.underlying32 rfl rfl rfl rfl rfl (.inl rfl) (.inr ⟨rfl, rfl⟩) bB rfl (lb rfl) fun a bv bw S => ?_
    refine leafL ⟨rfl, _, _, .inl ⟨22, (.slice bv aq.length bw), [], rfl, S, hz_of rfl, ?_⟩⟩
    exact nodePerm (nd1 bt bu bv bw) [1, 0, 2, 3, 4, 5, 6, 7, 8] [0, 1, 2, 3, 4, 5, 6] [1, 0, 2, 3, 4, 5] (by decide) (by decide) rfl rfl rfl
   refine fJ [] 7 [] fun G a w S => ?_
   exact sM S fun a S => leafL ⟨rfl, S⟩
  refine fJ [] 6 [] fun G a w S => ?_
  exact sM S fun a S => leafL ⟨rfl, S⟩
 obtain ⟨am, ao, ap, bA, bh, rfl, a9, aa, ab, ac, ae, af, bi, bj, S⟩ := hI
 have h := ct
 try dsimp only at h
 refine sSeq (fun cw bJ => sRegion (sField (b := b9) (off := 0) 2 2 S (wN rfl) rfl rfl rfl rfl rfl (lb rfl) fun a S => ?_))
 refine sLoad1 1 (iv p2.A) S (wN rfl) rfl rfl rfl rfl rfl rfl (lb rfl) fun a S => ?_
 refine sM S fun a S => ?_
 refine lT (bJ _ _ (wp_block ?_))
 obtain ⟨cx, hl, cj⟩ := bS h
 refine sLoop hl (fun s0 a w => match s0 with | (a5, br) => ∃ aw, ∃ ax, St [] E (keysL [eBox bb0 73 [.slice ad_0_0 p0.loops.length cp_0_0, .slice ad_0_1 p0.rows.length cp_0_1, .slice ad_0_2 p0.bound.length cp_0_2, .slice ad_0_3 p0.cross.length cp_0_3, iv p0.next], eRow r_api_Loop 48 (.slice ad_0_0 p0.loops.length cp_0_0) p0.loops, eRow (rI .i64) 3 (.slice ad_0_1 p0.rows.length cp_0_1) p0.rows, eRow (rI .i64) 3 (.slice ad_0_2 p0.bound.length cp_0_2) p0.bound, eRow r_A2_Int 49 (.slice ad_0_3 p0.cross.length cp_0_3) p0.cross]) w0 78 a w [(0, .pointer (some ⟨bb0, 0, none⟩)), (6, .pointer (some ⟨b9, 0, none⟩)), (8, iv (p0.loops.length : Int)), (42, iv p2.A), (43, iv a5)] [eBox bb0 73 [.slice a9 am.length aa, .slice ab ao.length ac, .slice ae ap.length af, .slice aw br.length ax, iv bh], eBox b9 61 [.int .u8 p2.Kind, .bool p2.Purl, iv p2.A, iv p2.B], eRow r_api_Loop 48 (.slice a9 am.length aa) am, eRow (rI .i64) 3 (.slice ab ao.length ac) ao, eRow (rI .i64) 3 (.slice ae ap.length af) ap, eRow r_A2_Int 49 (.slice aw br.length ax) br] []) ⟨bi, bj, S.fix [0, 1, 2, 3, 4, 5] [] (by decide) rfl rfl rfl⟩ ?_
 clear hl h
 intro s0 a w c0 hI h bK
 obtain ⟨a5, br⟩ := s0
 unfold loops_piece_cable_s1_l3 at h
 dsimp only at h hI
 obtain ⟨aw, ax, S⟩ := hI
 refine sSeq (fun cy bL => sRegion (sBin _ S (wN rfl) rfl rfl rfl (bLt _ _ _ _ .i64 a5 p2.A) rfl (lb rfl) fun a S => ?_))
 refine lT (bL _ _ (sSeq (fun cz bM => ?_)))
 rcases iS h with ⟨aX, h⟩ | ⟨aX, h⟩
 rotate_left
 ·refine sCondF S rfl aX ?_
  obtain rfl := tS h
  obtain rfl := bK _ rfl
  have h := cj
  try dsimp only at h
  obtain rfl := tS h
  exact wp_exit (xThen (xThen (xHit (sEnd (.tuple #[]) S (rsl0 rfl ) ⟨(a9, aa, ab, ac, ae, af, aw, ax), rfl, S.mem.sel [0, 2, 3, 4, 5] [] (by decide) rfl rfl⟩))))
 refine sCondT S rfl aX ?_
 refine wp_skip (leafT (bM _ _ ?_))
 obtain ⟨ck, h, cl⟩ := bS h
 refine sCut (fun a w => ∃ aS, aS = ck ∧ ∃ aO, ∃ aP, St [] E (keysL [eBox bb0 73 [.slice ad_0_0 p0.loops.length cp_0_0, .slice ad_0_1 p0.rows.length cp_0_1, .slice ad_0_2 p0.bound.length cp_0_2, .slice ad_0_3 p0.cross.length cp_0_3, iv p0.next], eRow r_api_Loop 48 (.slice ad_0_0 p0.loops.length cp_0_0) p0.loops, eRow (rI .i64) 3 (.slice ad_0_1 p0.rows.length cp_0_1) p0.rows, eRow (rI .i64) 3 (.slice ad_0_2 p0.bound.length cp_0_2) p0.bound, eRow r_A2_Int 49 (.slice ad_0_3 p0.cross.length cp_0_3) p0.cross]) w0 78 a w [(0, .pointer (some ⟨bb0, 0, none⟩)), (6, .pointer (some ⟨b9, 0, none⟩)), (8, iv (p0.loops.length : Int)), (42, iv p2.A), (43, iv a5)] [eBox bb0 73 [.slice a9 am.length aa, .slice ab ao.length ac, .slice ae ap.length af, .slice aO aS.length aP, iv bh], eBox b9 61 [.int .u8 p2.Kind, .bool p2.Purl, iv p2.A, iv p2.B], eRow r_api_Loop 48 (.slice a9 am.length aa) am, eRow (rI .i64) 3 (.slice ab ao.length ac) ao, eRow (rI .i64) 3 (.slice ae ap.length af) ap, eRow r_A2_Int 49 (.slice aO aS.length aP) aS] []) ?_ (fun a w hI => ?_)
 rotate_left
 ·obtain ⟨aS, rfl, aO, aP, S⟩ := hI
  have h := cl
  try dsimp only at h
  refine sRegion (sBin _ S (wN rfl) rfl rfl rfl (bAdd _ _ _ _ a5 1) rfl (lb rfl) fun a S => ?_)
  refine sM S fun a S => ?_
  exact lT (⟨(w64 (a5 + 1), aS), (Option.some.inj h).symm, ⟨aO, aP, S.fix [0, 1, 2, 3, 4, 5] [] (by decide) rfl rfl rfl⟩⟩)
 refine wp_block ?_
 refine sSeq (fun cA bN => sRegion (sM S fun a S => ?_))
 refine sN S fun a S => ?_
 refine lT (bN _ _ (sSeq (fun cB bO => sRegion (sField (b := b9) (off := 0) 3 3 S (wN rfl) rfl rfl rfl rfl rfl (lb rfl) fun a S => ?_))))
 refine sLoad1 1 (iv p2.B) S (wN rfl) rfl rfl rfl rfl rfl rfl (lb rfl) fun a S => ?_
 refine sM S fun a S => ?_
 refine lT (bO _ _ (wp_block ?_))
 obtain ⟨cC, hl, cm⟩ := bS h
 refine sLoop hl (fun s0 a w => match s0 with | (ag, a8) => ∃ a0, ∃ a4, St [] E (keysL [eBox bb0 73 [.slice ad_0_0 p0.loops.length cp_0_0, .slice ad_0_1 p0.rows.length cp_0_1, .slice ad_0_2 p0.bound.length cp_0_2, .slice ad_0_3 p0.cross.length cp_0_3, iv p0.next], eRow r_api_Loop 48 (.slice ad_0_0 p0.loops.length cp_0_0) p0.loops, eRow (rI .i64) 3 (.slice ad_0_1 p0.rows.length cp_0_1) p0.rows, eRow (rI .i64) 3 (.slice ad_0_2 p0.bound.length cp_0_2) p0.bound, eRow r_A2_Int 49 (.slice ad_0_3 p0.cross.length cp_0_3) p0.cross]) w0 78 a w [(0, .pointer (some ⟨bb0, 0, none⟩)), (6, .pointer (some ⟨b9, 0, none⟩)), (8, iv (p0.loops.length : Int)), (11, iv a5), (42, iv p2.A), (43, iv a5), (47, iv p2.B), (48, iv ag)] [eBox bb0 73 [.slice a9 am.length aa, .slice ab ao.length ac, .slice ae ap.length af, .slice a0 a8.length a4, iv bh], eBox b9 61 [.int .u8 p2.Kind, .bool p2.Purl, iv p2.A, iv p2.B], eRow r_api_Loop 48 (.slice a9 am.length aa) am, eRow (rI .i64) 3 (.slice ab ao.length ac) ao, eRow (rI .i64) 3 (.slice ae ap.length af) ap, eRow r_A2_Int 49 (.slice a0 a8.length a4) a8] []) ⟨aw, ax, S.fix [0, 1, 2, 3, 4, 5] [] (by decide) rfl rfl rfl⟩ ?_
 clear hl h
 intro s0 a w c0 hI h bP
 obtain ⟨ag, a8⟩ := s0
 unfold loops_piece_cable_s1_l2 at h
 dsimp only at h hI
 obtain ⟨a0, a4, S⟩ := hI
 refine sSeq (fun cD bQ => sRegion (sBin _ S (wN rfl) rfl rfl rfl (bLt _ _ _ _ .i64 ag p2.B) rfl (lb rfl) fun a S => ?_))
 refine lT (bQ _ _ (sSeq (fun cE bR => ?_)))
 rcases iS h with ⟨aZ, h⟩ | ⟨aZ, h⟩
 rotate_left
 ·refine sCondF S rfl aZ ?_
  obtain rfl := tS h
  obtain rfl := bP _ rfl
  have h := cm
  try dsimp only at h
  exact wp_exit (xThen (xThen (xHit (leafB (leafT (⟨a8, Option.some.inj h, a0, a4, S.fix [0, 1, 2, 3, 4, 5] [] (by decide) rfl rfl rfl⟩))))))
 refine sCondT S rfl aZ ?_
 refine wp_skip (leafT (bR _ _ ?_))
 refine sSeq (fun cF bT => wp_block ?_)
 refine sSeq (fun cG bU => sRegion (sM S fun a S => ?_))
 refine sN S fun a S => ?_
 refine lT (bU _ _ (sSeq (fun cH bV => sRegion (sM S fun a S => ?_))))
 refine sField (b := b9) (off := 0) 3 3 S (wN rfl) rfl rfl rfl rfl rfl (lb rfl) fun a S => ?_
 refine sLoad1 1 (iv p2.B) S (wN rfl) rfl rfl rfl rfl rfl rfl (lb rfl) fun a S => ?_
 refine sBin _ S (wN rfl) rfl rfl rfl (bAdd _ _ _ _ (p0.loops.length : Int) p2.B) rfl (lb rfl) fun a S => ?_
 refine sM S fun a S => ?_
 refine sBin _ S (wN rfl) rfl rfl rfl (bAdd _ _ _ _ (w64 ((p0.loops.length : Int) + p2.B)) a5) rfl (lb rfl) fun a S => ?_
 refine sM S fun a S => ?_
 refine sM S fun a S => ?_
 refine sBin _ S (wN rfl) rfl rfl rfl (bAdd _ _ _ _ (p0.loops.length : Int) ag) rfl (lb rfl) fun a S => ?_
 refine sBuild [(0, iv (w64 ((w64 ((p0.loops.length : Int) + p2.B)) + a5))), (1, iv (w64 ((p0.loops.length : Int) + ag)))] [iv (w64 ((w64 ((p0.loops.length : Int) + p2.B)) + a5)), iv (w64 ((p0.loops.length : Int) + ag))] S (wN rfl) rfl rfl rfl rfl (lb rfl) fun a S => ?_
 refine sAlloc (.agg #[iv 0, iv 0]) S (wN rfl) rfl rfl [iv 0, iv 0] rfl rfl (lb rfl) fun a av w S => ?_
 refine sStore (p := av) (off := 0) (T := 49) (vs := [iv 0, iv 0]) (v := .agg #[iv (w64 ((w64 ((p0.loops.length : Int) + p2.B)) + a5)), iv (w64 ((p0.loops.length : Int) + ag))]) 0 [iv (w64 ((w64 ((p0.loops.length : Int) + p2.B)) + a5)), iv (w64 ((p0.loops.length : Int) + ag))] S (wN rfl) rfl rfl rfl rfl rfl rfl rfl (by simp) rfl fun a w S => ?_
 refine lT (bV _ _ ?_)
 obtain ⟨cn, h, co⟩ := bS h
 refine sCut (fun a w => ∃ a6, ∃ a7, (a6, a7) = cn ∧ St [] E (keysL [eBox bb0 73 [.slice ad_0_0 p0.loops.length cp_0_0, .slice ad_0_1 p0.rows.length cp_0_1, .slice ad_0_2 p0.bound.length cp_0_2, .slice ad_0_3 p0.cross.length cp_0_3, iv p0.next], eRow r_api_Loop 48 (.slice ad_0_0 p0.loops.length cp_0_0) p0.loops, eRow (rI .i64) 3 (.slice ad_0_1 p0.rows.length cp_0_1) p0.rows, eRow (rI .i64) 3 (.slice ad_0_2 p0.bound.length cp_0_2) p0.bound, eRow r_A2_Int 49 (.slice ad_0_3 p0.cross.length cp_0_3) p0.cross]) w0 78 a w [(0, .pointer (some ⟨bb0, 0, none⟩)), (6, .pointer (some ⟨b9, 0, none⟩)), (8, iv (p0.loops.length : Int)), (11, iv a5), (13, .pointer (some ⟨av, 0, none⟩)), (42, iv p2.A), (43, iv a5), (47, iv p2.B), (48, iv ag)] [eBox bb0 73 [.slice a9 am.length aa, .slice ab ao.length ac, .slice ae ap.length af, .slice a0 a8.length a4, iv bh], eBox b9 61 [.int .u8 p2.Kind, .bool p2.Purl, iv p2.A, iv p2.B], eBox av 49 [iv a6, iv a7], eRow r_api_Loop 48 (.slice a9 am.length aa) am, eRow (rI .i64) 3 (.slice ab ao.length ac) ao, eRow (rI .i64) 3 (.slice ae ap.length af) ap, eRow r_A2_Int 49 (.slice a0 a8.length a4) a8] []) ?_ (fun a w hI => ?_)
 ·refine sSeq (fun cI bW => sRegion (sField (b := b9) (off := 0) 0 0 S (wN rfl) rfl rfl rfl rfl rfl (lb rfl) fun a S => ?_))
  refine sLoad1 2 (.int .u8 p2.Kind) S (wN rfl) rfl rfl rfl rfl rfl rfl (lb rfl) fun a S => ?_
  refine sBin _ S (wN rfl) rfl rfl rfl (bEq _ _ _ _ .u8 p2.Kind 7) rfl (lb rfl) fun a S => ?_
  refine lT (bW _ _ ?_)
  rcases iS h with ⟨ba, h⟩ | ⟨ba, h⟩
  rotate_left
  ·refine sCondF S rfl ba ?_
   exact wp_skip (leafT (⟨w64 ((w64 ((p0.loops.length : Int) + p2.B)) + a5), w64 ((p0.loops.length : Int) + ag), Option.some.inj h, S.fix [1, 2, 0, 3, 4, 5, 6] [] (by decide) rfl rfl rfl⟩))
  refine sCondT S rfl ba ?_
  refine sRegion (sSliceA (m := 2) (sz := 1) (b := av) S (wN rfl) rfl Try.underlying49 rfl rfl (by decide) rfl (lb rfl) fun a S => ?_)
  obtain ⟨bb, bX, h⟩ := bS h
  refine sCall (X := Unit) (f := 59) (vs := [.slice (some ⟨av, 0, none⟩) 2 2]) (val := fun _ => .tuple #[]) (B' := fun _ => [eBox av 49 [iv bb.1, iv bb.2]]) (D' := fun _ => []) [eBox av 49 [iv (w64 ((w64 ((p0.loops.length : Int) + p2.B)) + a5)), iv (w64 ((p0.loops.length : Int) + ag))]] [eBox bb0 73 [.slice a9 am.length aa, .slice ab ao.length ac, .slice ae ap.length af, .slice a0 a8.length a4, iv bh], eBox b9 61 [.int .u8 p2.Kind, .bool p2.Purl, iv p2.A, iv p2.B], eRow r_api_Loop 48 (.slice a9 am.length aa) am, eRow (rI .i64) 3 (.slice ab ao.length ac) ao, eRow (rI .i64) 3 (.slice ae ap.length af) ap, eRow r_A2_Int 49 (.slice a0 a8.length a4) a8] [] [0, 1, 2, 3, 4, 5, 6] [] S (wN rfl) rfl callee59 rfl (by decide) rfl rfl (fun E1 w1 S1 => c_slices_Reverse___int_int__s1 E1 w1 (w64 ((w64 ((p0.loops.length : Int) + p2.B)) + a5), w64 ((p0.loops.length : Int) + ag)) av bb bX S1) rfl (lb rfl) fun _ a w S => ?_
  exact lT (⟨bb.1, bb.2, Option.some.inj h, S.fix [1, 2, 0, 3, 4, 5, 6] [] (by decide) rfl rfl rfl⟩)
 obtain ⟨a6, a7, rfl, S⟩ := hI
 have h := co
 try dsimp only at h
 obtain ⟨bc, bY, h⟩ := bS h
 refine sDraw (nf := [6, 7, 10]) (W := [(0, 66, .pointer (some ⟨bb0, 0, none⟩)), (1, 67, .pointer (some ⟨bb0, 0, none⟩)), (2, 68, .pointer (some ⟨bb0, 0, none⟩)), (3, 69, .pointer (some ⟨bb0, 3, none⟩)), (4, 70, .slice a0 a8.length a4), (5, 71, .agg #[iv a6, iv a7])]) rfl S ?_
 refine node_by (A := anc_loops_piece_cable_s1_1) 11 (by kernel_rfl) (by kernel_rfl) (by kernel_rfl) (by kernel_rfl) (by kernel_rfl) [0, 1, 2, 3, 4, 5] (by kernel_rfl) (by decide) (by decide) (fF ?_ (fF ?_ (fF ?_ (fF ?_ (fF ?_ (fF ?_ (fN ?_ (aB 7 3 6 (by decide) (fE 6 (fE 6 (aB 10 0 6 (by decide) (trivial)))))))))))) [] (fun q hq => by cases hq) (fun hY => absurd (hY 6 (by decide)) (by decide))
 ·exact fM 0 none rfl rfl rfl rfl (.inl rfl) rfl rfl rfl
 ·exact fM 1 none rfl rfl rfl rfl (.inl rfl) rfl rfl rfl
 ·refine fJ [(67, _)] 2 [some 1] fun G a w S => ?_
  exact nilCheck_ok (q := ⟨bb0, 0, none⟩) S (wN rfl) rfl rfl rfl (lb rfl) fun a S => leafL ⟨rfl, S⟩
 ·refine fJ [(68, _)] 3 [some 2] fun G a w S => ?_
  exact sField (b := bb0) (off := 0) 3 3 S (wN rfl) rfl rfl rfl rfl rfl (lb rfl) fun a S => leafL ⟨rfl, S⟩
 ·refine fJ [(69, _)] 4 [some 3] fun G a w S => ?_
  exact sLoad1 0 (.slice a0 a8.length a4) S (wN rfl) rfl rfl rfl rfl rfl rfl (lb rfl) fun a S => leafL ⟨rfl, S⟩
 ·refine fJ [(13, _)] 5 [none] fun G a w S => ?_
  exact sLoadN (p := av) (off := 0) (T := 49) (vs := [iv a6, iv a7]) 2 [iv a6, iv a7] S (wN rfl) rfl rfl rfl rfl rfl rfl rfl (lb rfl) fun a S => leafL ⟨rfl, S⟩
 refine ⟨_, [(71, .agg #[iv a6, iv a7])], rfl, (srcs_of [some 5] rfl rfl rfl), fun G a w S => ?_⟩
 have S := S.learn (fRep r_A2_Int (.agg #[iv a6, iv a7]) (a6, a7)) rfl
 refine sLit (r := r_A2_Int) (T := 49) (xs := [(a6, a7)]) [(0, .agg #[iv a6, iv a7])] 1 [.agg #[iv a6, iv a7]] [iv a6, iv a7] (.agg #[iv 0, iv 0]) 16 S (wN rfl) rfl rfl Try.underlying37 rfl (by decide) (by decide) (by kernel_rfl) rfl (fun E1 w1 hE => All.cons (r_A2_Int.mono hE (S.mem.know (i := 0) (e := fRep r_A2_Int (.agg #[iv a6, iv a7]) (a6, a7)) rfl)) (All.nil _ _ _)) rfl rfl (lb rfl) fun a w bf bg S => ?_
 refine leafL ⟨rfl, _, _, .inl ⟨72, (.slice bf [(a6, a7)].length bg), [], rfl, S, hz_of rfl, ?_⟩⟩
 refine node_by (A := anc_loops_piece_cable_s1_1) 11 (by kernel_rfl) (by kernel_rfl) (by kernel_rfl) (by kernel_rfl) (by kernel_rfl) [6, 0, 1, 2, 3, 4, 5] (by kernel_rfl) (by decide) (by decide) (fF ?_ (fF ?_ (fF ?_ (fF ?_ (fF ?_ (fD 6 (fY (fN ?_ (fE 7 (fE 7 (aB 10 0 7 (by decide) (trivial)))))))))))) [] (fun q hq => by cases hq) (fun hY => absurd (hY 7 (by decide)) (by decide))
 ·exact fM 1 none rfl rfl rfl rfl (.inl rfl) rfl rfl rfl
 ·exact fM 2 none rfl rfl rfl rfl (.inl rfl) rfl rfl rfl
 ·refine fJ [(67, _)] 3 [some 2] fun G a w S => ?_
  exact nilCheck_ok (q := ⟨bb0, 0, none⟩) S (wN rfl) rfl rfl rfl (lb rfl) fun a S => leafL ⟨rfl, S⟩
 ·refine fJ [(68, _)] 4 [some 3] fun G a w S => ?_
  exact sField (b := bb0) (off := 0) 3 3 S (wN rfl) rfl rfl rfl rfl rfl (lb rfl) fun a S => leafL ⟨rfl, S⟩
 ·refine fJ [(69, _)] 5 [some 4] fun G a w S => ?_
  exact sLoad1 1 (.slice a0 a8.length a4) S (wN rfl) rfl rfl rfl rfl rfl rfl (lb rfl) fun a S => leafL ⟨rfl, S⟩
 refine ⟨_, [(70, .slice a0 a8.length a4), (72, .slice bf [(a6, a7)].length bg)], rfl, (srcs_of [some 5, some 0] rfl rfl rfl), fun G a w S => ?_⟩
 refine sApp (r := r_A2_Int) (T := 49) (xs := a8) (ys := [(a6, a7)]) (v := .slice a0 a8.length a4) (u := .slice bf [(a6, a7)].length bg) 7 (.agg #[iv 0, iv 0]) 16 S (wN rfl) rfl Try.underlying37 rfl rfl (by decide) rfl rfl rfl (src_R (T := 49) 0 S.mem rfl) bY rfl (lb rfl) fun a w ay az S => ?_
 refine leafL ⟨rfl, _, _, .inl ⟨73, (.slice ay bc.length az), [(8, 74, .pointer (some ⟨bb0, 0, none⟩)), (9, 75, .pointer (some ⟨bb0, 3, none⟩))], rfl, S, hz_of rfl, ?_⟩⟩
 refine node_by (A := anc_loops_piece_cable_s1_1) 11 (by kernel_rfl) (by kernel_rfl) (by kernel_rfl) (by kernel_rfl) (by kernel_rfl) [8, 9, 7, 6, 0, 1, 2, 3, 4, 5] (by kernel_rfl) (by decide) (by decide) (fF ?_ (fD 7 (fD 7 (fD 7 (fD 7 (fD 7 (fY (fY (fF ?_ (fF ?_ (fN ?_ (trivial)))))))))))) [] (fun q hq => by cases hq) (fun hY => absurd (hY 10 (by decide)) (by decide))
 ·exact fM 4 none rfl rfl rfl rfl (.inl rfl) rfl rfl rfl
 ·refine fJ [(66, _)] 0 [some 4] fun G a w S => ?_
  exact nilCheck_ok (q := ⟨bb0, 0, none⟩) S (wN rfl) rfl rfl rfl (lb rfl) fun a S => leafL ⟨rfl, S⟩
 ·refine fJ [(74, _)] 1 [some 0] fun G a w S => ?_
  exact sField (b := bb0) (off := 0) 3 3 S (wN rfl) rfl rfl rfl rfl rfl (lb rfl) fun a S => leafL ⟨rfl, S⟩
 refine ⟨_, [(73, .slice ay bc.length az), (75, .pointer (some ⟨bb0, 3, none⟩))], rfl, (srcs_of [some 2, some 1] rfl rfl rfl), fun G a w S => ?_⟩
 refine sStore (p := bb0) (off := 3) (T := 73) (vs := [.slice a9 am.length aa, .slice ab ao.length ac, .slice ae ap.length af, .slice a0 a8.length a4, iv bh]) (v := .slice ay bc.length az) 2 [.slice ay bc.length az] S (wN rfl) rfl rfl rfl rfl rfl rfl rfl (by simp) rfl fun a w S => ?_
 refine leafL ⟨rfl, _, _, .inr ⟨[], rfl, S, hz_of rfl, ?_⟩⟩
 refine node_by (A := anc_loops_piece_cable_s1_1) 11 (by kernel_rfl) (by kernel_rfl) (by kernel_rfl) (by kernel_rfl) (by kernel_rfl) [8, 9, 7, 6, 0, 1, 2, 3, 4, 5] (by kernel_rfl) (by decide) (by decide) (fD 10 (fD 10 (fD 10 (fD 10 (fD 10 (fD 10 (fY (fY (fD 10 (fD 10 (fY (trivial)))))))))))) [(0, .pointer (some ⟨bb0, 0, none⟩)), (6, .pointer (some ⟨b9, 0, none⟩)), (8, iv (p0.loops.length : Int)), (11, iv a5), (42, iv p2.A), (43, iv a5), (47, iv p2.B), (48, iv ag)] (fin_of [none, none, none, none, none, none, none, none] rfl (by kernel_rfl) (by kernel_rfl)) (fun _ a w S => ?_)
 refine leafB (leafT (bT _ _ ?_))
 refine sRegion (sBin _ S (wN rfl) rfl rfl rfl (bAdd _ _ _ _ ag 1) rfl (lb rfl) fun a S => ?_)
 refine sM S fun a S => ?_
 exact lT (⟨(w64 (ag + 1), bc), (Option.some.inj h).symm, ⟨ay, az, S.fix [0, 3, 5, 6, 7, 1] [] (by decide) rfl rfl rfl⟩⟩)
def anc_loops_piece_work_s1_0 : List (List Nat) := [[], [0], [0, 1], [0, 1, 2], [], [4], [4, 5], [0, 1, 2, 3, 4, 5, 6], [0, 1, 2, 3, 4, 5, 6, 7], [0, 1, 2, 3, 4, 5, 6, 7, 8], [0, 1, 2, 3, 4, 5, 6, 7, 8, 9], [0, 1, 2, 3, 4, 5, 6, 7, 8, 9, 10]]
noncomputable def loops_piece_work_s1_l1 (p3 : api_Stitch) (r9 : ((List Int) × loops_piece)) (p1 : Int) (p2 : Int) : (Int × List api_Loop × List Int × List Int × List (Int × Int) × Int) → Option ((Int × List api_Loop × List Int × List Int × List (Int × Int) × Int) ⊕ (List api_Loop × List Int × List Int × List (Int × Int) × Int)) := fun s0 => match s0 with
 | (a4, a5, a6, a7, a8, a9) =>
  if decide (a4 < p3.A) then
   (F_slices_Clone___int_int__s0 r9.1).bind fun aa =>
   (F_loops_piece_add_s1 (loops_piece.mk a5 a6 a7 a8 a9) (api_Loop.mk p1 p2 ([] : (List Int)) p3.Purl) [aa]).bind fun a0 =>
   some (.inl (w64 (a4 + 1), a0.loops, a0.rows, a0.bound, a0.cross, a0.next))
  else
   some (.inr (a5, a6, a7, a8, a9))
noncomputable def F_loops_piece_work_s1 (p0 : loops_piece) (p1 : Int) (p2 : Int) (p3 : api_Stitch) : Option loops_piece :=
 (F_stitch_Uses [p3]).bind fun r6 =>
 (F_loops_piece_take_s3 p0 r6.1).bind fun r9 =>
 Option.bind (α := Bool) (
  if p3.Kind == 2 then
   some (p3.Kind == 2)
  else
   some (p3.Kind == 9)) fun ae =>
 if ae then
  (makeO (if (1 : Int) < p3.A then p3.A else 1) ([] : (List Int))).bind fun af =>
  (F_loops_piece_add_s1 r9.2 (api_Loop.mk p1 p2 ([] : (List Int)) p3.Purl) af).bind fun ag =>
  some ag
 else
  if p3.Kind == 1 then
   (F_loops_piece_add_s1 r9.2 (api_Loop.mk p1 p2 ([] : (List Int)) p3.Purl) [r9.1]).bind fun ah =>
   some ah
  else
   if p3.Kind == 8 then
    (idxO r9.1 0).bind fun ai =>
    (idxO r9.2.loops ai).bind fun aj =>
    (F_loops_piece_add_s1 r9.2 (api_Loop.mk p1 p2 ([] : (List Int)) aj.Purl) [r9.1]).bind fun ak =>
    some ak
   else
    if p3.Kind == 4 then
     (F_slices_Reverse___int_int__s0 r9.1).bind fun a0 =>
     (F_loops_piece_add_s1 r9.2 (api_Loop.mk p1 p2 ([] : (List Int)) p3.Purl) [a0]).bind fun a4 =>
     some a4
    else
     if p3.Kind == 3 then
      (F_loops_piece_add_s1 r9.2 (api_Loop.mk p1 p2 ([] : (List Int)) p3.Purl) [r9.1]).bind fun a5 =>
      some a5
     else
      if p3.Kind == 5 then
       (whileO (loops_piece_work_s1_l1 p3 r9 p1 p2) (0, r9.2.loops, r9.2.rows, r9.2.bound, r9.2.cross, r9.2.next)).bind fun (a6, a7, a8, a9, aa) =>
        some (loops_piece.mk a6 a7 a8 a9 aa)
      else
       if p3.Kind == 10 then
        (appO r9.2.bound r9.1).bind fun ab =>
        some (loops_piece.mk r9.2.loops r9.2.rows ab r9.2.cross r9.2.next)
       else
        (F_loops_piece_cable_s1 r9.2 (api_Loop.mk p1 p2 ([] : (List Int)) p3.Purl) p3 r9.1).bind fun ac =>
        some ac
theorem c_loops_piece_work_s1 (E : Nat → Prop) (w0 : World) (p0 : loops_piece) (bb0 : Nat) (ad_0_0 : Option Addr) (cp_0_0 : Nat) (ad_0_1 : Option Addr) (cp_0_1 : Nat) (ad_0_2 : Option Addr) (cp_0_2 : Nat) (ad_0_3 : Option Addr) (cp_0_3 : Nat) (p1 : Int) (p2 : Int) (p3 : api_Stitch) (v3 : Value) (r : loops_piece) (h : F_loops_piece_work_s1 p0 p1 p2 p3 = some r) (S : St0 E (keysL [eBox bb0 73 [.slice ad_0_0 p0.loops.length cp_0_0, .slice ad_0_1 p0.rows.length cp_0_1, .slice ad_0_2 p0.bound.length cp_0_2, .slice ad_0_3 p0.cross.length cp_0_3, iv p0.next], eRow r_api_Loop 48 (.slice ad_0_0 p0.loops.length cp_0_0) p0.loops, eRow (rI .i64) 3 (.slice ad_0_1 p0.rows.length cp_0_1) p0.rows, eRow (rI .i64) 3 (.slice ad_0_2 p0.bound.length cp_0_2) p0.bound, eRow r_A2_Int 49 (.slice ad_0_3 p0.cross.length cp_0_3) p0.cross]) w0 w0 [eBox bb0 73 [.slice ad_0_0 p0.loops.length cp_0_0, .slice ad_0_1 p0.rows.length cp_0_1, .slice ad_0_2 p0.bound.length cp_0_2, .slice ad_0_3 p0.cross.length cp_0_3, iv p0.next], eRow r_api_Loop 48 (.slice ad_0_0 p0.loops.length cp_0_0) p0.loops, eRow (rI .i64) 3 (.slice ad_0_1 p0.rows.length cp_0_1) p0.rows, eRow (rI .i64) 3 (.slice ad_0_2 p0.bound.length cp_0_2) p0.bound, eRow r_A2_Int 49 (.slice ad_0_3 p0.cross.length cp_0_3) p0.cross] [fRep r_api_Stitch (v3) p3]) :
 Calls Try.prog 44 #[.pointer (some ⟨bb0, 0, none⟩), iv p1, iv p2, v3] w0 (Ret (X := Option Addr × Nat × Option Addr × Nat × Option Addr × Nat × Option Addr × Nat) E (keysL [eBox bb0 73 [.slice ad_0_0 p0.loops.length cp_0_0, .slice ad_0_1 p0.rows.length cp_0_1, .slice ad_0_2 p0.bound.length cp_0_2, .slice ad_0_3 p0.cross.length cp_0_3, iv p0.next], eRow r_api_Loop 48 (.slice ad_0_0 p0.loops.length cp_0_0) p0.loops, eRow (rI .i64) 3 (.slice ad_0_1 p0.rows.length cp_0_1) p0.rows, eRow (rI .i64) 3 (.slice ad_0_2 p0.bound.length cp_0_2) p0.bound, eRow r_A2_Int 49 (.slice ad_0_3 p0.cross.length cp_0_3) p0.cross]) w0 (fun _ => .tuple #[]) (fun x => [eBox bb0 73 [.slice x.1 r.loops.length x.2.1, .slice x.2.2.1 r.rows.length x.2.2.2.1, .slice x.2.2.2.2.1 r.bound.length x.2.2.2.2.2.1, .slice x.2.2.2.2.2.2.1 r.cross.length x.2.2.2.2.2.2.2, iv r.next], eRow r_api_Loop 48 (.slice x.1 r.loops.length x.2.1) r.loops, eRow (rI .i64) 3 (.slice x.2.2.1 r.rows.length x.2.2.2.1) r.rows, eRow (rI .i64) 3 (.slice x.2.2.2.2.1 r.bound.length x.2.2.2.2.2.1) r.bound, eRow r_A2_Int 49 (.slice x.2.2.2.2.2.2.1 r.cross.length x.2.2.2.2.2.2.2) r.cross]) (fun _ => [])) := by
 unfold F_loops_piece_work_s1 at h
 obtain rfl : v3 = .agg #[.int .u8 p3.Kind, .bool p3.Purl, iv p3.A, iv p3.B] := S.know (i := 0) (e := fRep r_api_Stitch (v3) p3) rfl
 refine sEnter (args := [.pointer (some ⟨bb0, 0, none⟩), iv p1, iv p2, .agg #[.int .u8 p3.Kind, .bool p3.Purl, iv p3.A, iv p3.B]]) 108 Try.func44 rfl rfl (by simp) S (fun a S => ?_)
 refine sSeq (fun K1 hK1 => sRegion (sBox (v := .agg #[.int .u8 p3.Kind, .bool p3.Purl, iv p3.A, iv p3.B]) S (wN rfl) rfl rfl [.int .u8 p3.Kind, .bool p3.Purl, iv p3.A, iv p3.B] rfl rfl (lb rfl) fun a b2 w S => ?_))
 refine lT (hK1 _ _ (sSeq (fun K3 hK3 => sRegion (sLoadN (p := b2) (off := 0) (T := 61) (vs := [.int .u8 p3.Kind, .bool p3.Purl, iv p3.A, iv p3.B]) 0 [.int .u8 p3.Kind, .bool p3.Purl, iv p3.A, iv p3.B] S (wN rfl) rfl rfl rfl rfl rfl rfl rfl (lb rfl) fun a S => ?_))))
 refine sLit (r := r_api_Stitch) (T := 61) (xs := [p3]) [(0, .agg #[.int .u8 p3.Kind, .bool p3.Purl, iv p3.A, iv p3.B])] 1 [.agg #[.int .u8 p3.Kind, .bool p3.Purl, iv p3.A, iv p3.B]] [.int .u8 p3.Kind, .bool p3.Purl, iv p3.A, iv p3.B] (.agg #[.int .u8 0, .bool false, iv 0, iv 0]) 24 S (wN rfl) rfl rfl Try.underlying62 rfl (by decide) (by decide) (by kernel_rfl) rfl (fun E1 w1 hE => All.cons (r_api_Stitch.mono hE (S.mem.know (i := 0) (e := fRep r_api_Stitch (.agg #[.int .u8 p3.Kind, .bool p3.Purl, iv p3.A, iv p3.B]) p3) rfl)) (All.nil _ _ _)) rfl rfl (lb rfl) fun a w ad4 cp5 S => ?_
 obtain ⟨r6, hx7, h⟩ := bS h
 have S1 := S.mem
 have S1 := S1.shutR (r := r_api_Stitch) (T := 61) (v := .slice ad4 [p3].length cp5) (xs := [p3]) 0 rfl
 refine sCq [.slice ad4 [p3].length cp5] (.tuple #[iv r6.1, iv r6.2]) S callee53 (S1.quiet [0] rfl) (fun E1 w1 S1 => c_stitch_Uses E1 w1 [p3] (.slice ad4 [p3].length cp5) r6 hx7 S1) fun a w S => ?_
 refine sM S fun a S => ?_
 refine sExtract (vs := [iv r6.1, iv r6.2]) (iv r6.1) S (wN rfl) rfl rfl rfl rfl (lb rfl) fun a S => ?_
 refine sExtract (vs := [iv r6.1, iv r6.2]) (iv r6.2) S (wN rfl) rfl rfl rfl rfl (lb rfl) fun a S => ?_
 refine sN S fun a S => ?_
 refine sN S fun a S => ?_
 refine lT (hK3 _ _ (sSeq (fun K8 hK8 => sRegion (sM S fun a S => ?_))))
 refine sM S fun a S => ?_
 obtain ⟨r9, cw, h⟩ := bS h
 refine sCall (X := Option Addr × Nat × Option Addr × Nat × Option Addr × Nat × Option Addr × Nat × Option Addr × Nat) (f := 57) (vs := [.pointer (some ⟨bb0, 0, none⟩), iv r6.1]) (val := fun x => .slice x.1 r9.1.length x.2.1) (B' := fun x => [eRow (rI .i64) 3 (.slice x.1 r9.1.length x.2.1) r9.1, eBox bb0 73 [.slice x.2.2.1 r9.2.loops.length x.2.2.2.1, .slice x.2.2.2.2.1 r9.2.rows.length x.2.2.2.2.2.1, .slice x.2.2.2.2.2.2.1 r9.2.bound.length x.2.2.2.2.2.2.2.1, .slice x.2.2.2.2.2.2.2.2.1 r9.2.cross.length x.2.2.2.2.2.2.2.2.2, iv r9.2.next], eRow r_api_Loop 48 (.slice x.2.2.1 r9.2.loops.length x.2.2.2.1) r9.2.loops, eRow (rI .i64) 3 (.slice x.2.2.2.2.1 r9.2.rows.length x.2.2.2.2.2.1) r9.2.rows, eRow (rI .i64) 3 (.slice x.2.2.2.2.2.2.1 r9.2.bound.length x.2.2.2.2.2.2.2.1) r9.2.bound, eRow r_A2_Int 49 (.slice x.2.2.2.2.2.2.2.2.1 r9.2.cross.length x.2.2.2.2.2.2.2.2.2) r9.2.cross]) (D' := fun _ => []) [eBox bb0 73 [.slice ad_0_0 p0.loops.length cp_0_0, .slice ad_0_1 p0.rows.length cp_0_1, .slice ad_0_2 p0.bound.length cp_0_2, .slice ad_0_3 p0.cross.length cp_0_3, iv p0.next], eRow r_api_Loop 48 (.slice ad_0_0 p0.loops.length cp_0_0) p0.loops, eRow (rI .i64) 3 (.slice ad_0_1 p0.rows.length cp_0_1) p0.rows, eRow (rI .i64) 3 (.slice ad_0_2 p0.bound.length cp_0_2) p0.bound, eRow r_A2_Int 49 (.slice ad_0_3 p0.cross.length cp_0_3) p0.cross] [eRow r_api_Stitch 61 (.slice ad4 [p3].length cp5) [p3], eBox b2 61 [.int .u8 p3.Kind, .bool p3.Purl, iv p3.A, iv p3.B]] [] [2, 3, 4, 5, 6, 0, 1] [] S (wN rfl) rfl callee57 rfl (by decide) rfl rfl (fun E1 w1 S1 => c_loops_piece_take_s3 E1 w1 p0 bb0 ad_0_0 cp_0_0 ad_0_1 cp_0_1 ad_0_2 cp_0_2 ad_0_3 cp_0_3 r6.1 r9 cw S1) rfl (lb rfl) fun xx a w S => ?_
 obtain ⟨a0, a4, a5, a6, a9, aa, a7, a8, ab, ac⟩ := xx
 dsimp only at S
 refine sN S fun a S => ?_
 refine lT (hK8 _ _ (sSeq (fun dv cx => sRegion (sM S fun a S => ?_))))
 refine sM S fun a S => ?_
 refine sField (b := b2) (off := 0) 1 1 S (wN rfl) rfl rfl rfl rfl rfl (lb rfl) fun a S => ?_
 refine sLoad1 7 (.bool p3.Purl) S (wN rfl) rfl rfl rfl rfl rfl rfl (lb rfl) fun a S => ?_
 refine sBuild [(0, iv p1), (1, iv p2), (3, .bool p3.Purl)] [iv p1, iv p2, .slice none 0 0, .bool p3.Purl] S (wN rfl) rfl rfl rfl rfl (lb rfl) fun a S => ?_
 refine sAlloc (.agg #[iv 0, iv 0, .slice none 0 0, .bool false]) S (wN rfl) rfl rfl [iv 0, iv 0, .slice none 0 0, .bool false] rfl rfl (lb rfl) fun a ah w S => ?_
 refine sStore (p := ah) (off := 0) (T := 48) (vs := [iv 0, iv 0, .slice none 0 0, .bool false]) (v := .agg #[iv p1, iv p2, .slice none 0 0, .bool p3.Purl]) 0 [iv p1, iv p2, .slice none 0 0, .bool p3.Purl] S (wN rfl) rfl rfl rfl rfl rfl rfl rfl (by simp) rfl fun a w S => ?_
 refine lT (cx _ _ (sSeq (fun dw cy => sRegion (sField (b := b2) (off := 0) 0 0 S (wN rfl) rfl rfl rfl rfl rfl (lb rfl) fun a S => ?_))))
 refine sLoad1 8 (.int .u8 p3.Kind) S (wN rfl) rfl rfl rfl rfl rfl rfl (lb rfl) fun a S => ?_
 refine lT (cy _ _ (wp_block ?_))
 obtain ⟨dg, h, dh⟩ := bS h
 refine sCut (fun a w => ∃ cz, cz = dg ∧ St [] E (keysL [eBox bb0 73 [.slice ad_0_0 p0.loops.length cp_0_0, .slice ad_0_1 p0.rows.length cp_0_1, .slice ad_0_2 p0.bound.length cp_0_2, .slice ad_0_3 p0.cross.length cp_0_3, iv p0.next], eRow r_api_Loop 48 (.slice ad_0_0 p0.loops.length cp_0_0) p0.loops, eRow (rI .i64) 3 (.slice ad_0_1 p0.rows.length cp_0_1) p0.rows, eRow (rI .i64) 3 (.slice ad_0_2 p0.bound.length cp_0_2) p0.bound, eRow r_A2_Int 49 (.slice ad_0_3 p0.cross.length cp_0_3) p0.cross]) w0 108 a w [(0, .pointer (some ⟨bb0, 0, none⟩)), (7, .pointer (some ⟨b2, 0, none⟩)), (10, .slice a0 r9.1.length a4), (11, .pointer (some ⟨ah, 0, none⟩)), (27, .int .u8 p3.Kind), (33, .bool cz)] [eBox bb0 73 [.slice a5 r9.2.loops.length a6, .slice a9 r9.2.rows.length aa, .slice a7 r9.2.bound.length a8, .slice ab r9.2.cross.length ac, iv r9.2.next], eBox b2 61 [.int .u8 p3.Kind, .bool p3.Purl, iv p3.A, iv p3.B], eBox ah 48 [iv p1, iv p2, .slice none 0 0, .bool p3.Purl], eRow (rI .i64) 3 (.slice a0 r9.1.length a4) r9.1, eRow r_api_Loop 48 (.slice a5 r9.2.loops.length a6) r9.2.loops, eRow (rI .i64) 3 (.slice a9 r9.2.rows.length aa) r9.2.rows, eRow (rI .i64) 3 (.slice a7 r9.2.bound.length a8) r9.2.bound, eRow r_A2_Int 49 (.slice ab r9.2.cross.length ac) r9.2.cross] []) ?_ (fun a w hI => ?_)
 ·refine sSeq (fun dx cA => sRegion (sBin _ S (wN rfl) rfl rfl rfl (bEq _ _ _ _ .u8 p3.Kind 2) rfl (lb rfl) fun a S => ?_))
  refine sN S fun a S => ?_
  refine lT (cA _ _ ?_)
  rcases iS h with ⟨bl, h⟩ | ⟨bl, h⟩
  ·refine sCondT S rfl bl ?_
   exact wp_skip (leafT (⟨p3.Kind == 2, Option.some.inj h, S.fix [2, 8, 0, 1, 3, 4, 5, 6] [] (by decide) rfl rfl rfl⟩))
  refine sCondF S rfl bl ?_
  refine sRegion (sBin _ S (wN rfl) rfl rfl rfl (bEq _ _ _ _ .u8 p3.Kind 9) rfl (lb rfl) fun a S => ?_)
  refine sN S fun a S => ?_
  exact lT (⟨p3.Kind == 9, Option.some.inj h, S.fix [2, 8, 0, 1, 3, 4, 5, 6] [] (by decide) rfl rfl rfl⟩)
 obtain ⟨cz, rfl, S⟩ := hI
 have h := dh
 try dsimp only at h
 rcases iS h with ⟨bm, h⟩ | ⟨bm, h⟩
 ·refine sCondT S rfl bm ?_
  obtain ⟨bf, cB, h⟩ := bS h
  obtain ⟨aJ, cC, h⟩ := bS h
  refine sDraw (nf := [5, 6]) (W := [(0, 36, .pointer (some ⟨bb0, 0, none⟩)), (1, 37, .agg #[iv p1, iv p2, .slice none 0 0, .bool p3.Purl]), (2, 38, .pointer (some ⟨b2, 2, none⟩)), (3, 39, iv p3.A), (4, 40, iv (if (1 : Int) < p3.A then p3.A else 1))]) rfl S ?_
  refine node_by (A := [[], [], [], [2], [2, 3], [2, 3, 4], [0, 1, 2, 3, 4, 5]]) (nf := [5, 6]) (Y := []) (W := [(0, 36, .pointer (some ⟨bb0, 0, none⟩)), (1, 37, .agg #[iv p1, iv p2, .slice none 0 0, .bool p3.Purl]), (2, 38, .pointer (some ⟨b2, 2, none⟩)), (3, 39, iv p3.A), (4, 40, iv (if (1 : Int) < p3.A then p3.A else 1))]) 7 (by kernel_rfl) (by kernel_rfl) (by kernel_rfl) (by kernel_rfl) (by kernel_rfl) [0, 1, 2, 3, 4] (by kernel_rfl) (by decide) (by decide) (fF ?_ (fF ?_ (fF ?_ (fF ?_ (fF ?_ (fN ?_ (aB 6 0 5 (by decide) (trivial)))))))) [] (fun q hq => by cases hq) (fun hY => absurd (hY 5 (by decide)) (by decide))
  ·exact fM 0 none rfl rfl rfl rfl (.inl rfl) rfl rfl rfl
  ·refine fJ [(11, _)] 1 [none] fun G a w S => ?_
   exact sLoadN (p := ah) (off := 0) (T := 48) (vs := [iv p1, iv p2, .slice none 0 0, .bool p3.Purl]) 2 [iv p1, iv p2, .slice none 0 0, .bool p3.Purl] S (wN rfl) rfl rfl rfl rfl rfl rfl rfl (lb rfl) fun a S => leafL ⟨rfl, S⟩
  ·refine fJ [(7, _)] 2 [none] fun G a w S => ?_
   exact sField (b := b2) (off := 0) 2 2 S (wN rfl) rfl rfl rfl rfl rfl (lb rfl) fun a S => leafL ⟨rfl, S⟩
  ·refine fJ [(38, _)] 3 [some 2] fun G a w S => ?_
   exact sLoad1 1 (iv p3.A) S (wN rfl) rfl rfl rfl rfl rfl rfl (lb rfl) fun a S => leafL ⟨rfl, S⟩
  ·refine fJ [(39, _)] 4 [some 3] fun G a w S => ?_
   exact sMax2 (p := 1) (q := p3.A) S (wN rfl) rfl rfl rfl rfl (lb rfl) fun a S => leafL ⟨rfl, S⟩
  refine ⟨_, [(40, iv (if (1 : Int) < p3.A then p3.A else 1))], rfl, (srcs_of [some 4] rfl rfl rfl), fun G a w S => ?_⟩
  refine sMake (r := (rL (rI .i64))) (m := if (1 : Int) < p3.A then p3.A else 1) (xs := bf) (.slice none 0 0) ([] : (List Int)) 24 S (wN rfl) rfl Try.underlying69 rfl rfl (by decide) (fun E w => rL_nil _ E w) rfl rfl cB rfl (lb rfl) fun a w aR aS S => ?_
  refine leafL ⟨rfl, _, _, .inl ⟨41, (.slice aR bf.length aS), [], rfl, S, hz_of rfl, ?_⟩⟩
  refine node_by (A := [[], [], [], [2], [2, 3], [2, 3, 4], [0, 1, 2, 3, 4, 5]]) (nf := [5, 6]) (Y := [5]) 7 (by kernel_rfl) (by kernel_rfl) (by kernel_rfl) (by kernel_rfl) (by kernel_rfl) [5, 0, 1, 2, 3, 4] (by kernel_rfl) (by decide) (by decide) (fF ?_ (fF ?_ (fD 5 (fD 5 (fD 5 (fY (fN ?_ (trivial)))))))) [] (fun q hq => by cases hq) (fun hY => absurd (hY 6 (by decide)) (by decide))
  ·exact fM 1 none rfl rfl rfl rfl (.inl rfl) rfl rfl rfl
  ·refine fJ [(11, _)] 2 [none] fun G a w S => ?_
   exact sLoadN (p := ah) (off := 0) (T := 48) (vs := [iv p1, iv p2, .slice none 0 0, .bool p3.Purl]) 3 [iv p1, iv p2, .slice none 0 0, .bool p3.Purl] S (wN rfl) rfl rfl rfl rfl rfl rfl rfl (lb rfl) fun a S => leafL ⟨rfl, S⟩
  refine ⟨_, [(36, .pointer (some ⟨bb0, 0, none⟩)), (37, .agg #[iv p1, iv p2, .slice none 0 0, .bool p3.Purl]), (41, .slice aR bf.length aS)], rfl, (srcs_of [some 1, some 2, some 0] rfl rfl rfl), fun G a w S => ?_⟩
  have S := S.learn (fRep (rL (rI .i64)) (.slice none 0 0) ([] : (List Int))) (rL_nil _ _ _)
  have S := S.learn (fRep r_api_Loop (.agg #[iv p1, iv p2, .slice none 0 0, .bool p3.Purl]) (api_Loop.mk p1 p2 ([] : (List Int)) p3.Purl)) ⟨_, rfl, S.mem.know (i := 0) (e := fRep (rL (rI .i64)) (.slice none 0 0) ([] : (List Int))) rfl⟩
  have S := S.shutR (r := (rL (rI .i64))) (T := 32) (v := .slice aR bf.length aS) (xs := bf) 0 rfl
  refine sCall (X := Option Addr × Nat × Option Addr × Nat × Option Addr × Nat × Option Addr × Nat) (f := 58) (vs := [.pointer (some ⟨bb0, 0, none⟩), .agg #[iv p1, iv p2, .slice none 0 0, .bool p3.Purl], .slice aR bf.length aS]) (val := fun _ => .tuple #[]) (B' := fun x => [eBox bb0 73 [.slice x.1 aJ.loops.length x.2.1, .slice x.2.2.1 aJ.rows.length x.2.2.2.1, .slice x.2.2.2.2.1 aJ.bound.length x.2.2.2.2.2.1, .slice x.2.2.2.2.2.2.1 aJ.cross.length x.2.2.2.2.2.2.2, iv aJ.next], eRow r_api_Loop 48 (.slice x.1 aJ.loops.length x.2.1) aJ.loops, eRow (rI .i64) 3 (.slice x.2.2.1 aJ.rows.length x.2.2.2.1) aJ.rows, eRow (rI .i64) 3 (.slice x.2.2.2.2.1 aJ.bound.length x.2.2.2.2.2.1) aJ.bound, eRow r_A2_Int 49 (.slice x.2.2.2.2.2.2.1 aJ.cross.length x.2.2.2.2.2.2.2) aJ.cross]) (D' := fun _ => []) [eBox bb0 73 [.slice a5 r9.2.loops.length a6, .slice a9 r9.2.rows.length aa, .slice a7 r9.2.bound.length a8, .slice ab r9.2.cross.length ac, iv r9.2.next], eRow r_api_Loop 48 (.slice a5 r9.2.loops.length a6) r9.2.loops, eRow (rI .i64) 3 (.slice a9 r9.2.rows.length aa) r9.2.rows, eRow (rI .i64) 3 (.slice a7 r9.2.bound.length a8) r9.2.bound, eRow r_A2_Int 49 (.slice ab r9.2.cross.length ac) r9.2.cross] [eBox b2 61 [.int .u8 p3.Kind, .bool p3.Purl, iv p3.A, iv p3.B], eBox ah 48 [iv p1, iv p2, .slice none 0 0, .bool p3.Purl], eRow (rI .i64) 3 (.slice a0 r9.1.length a4) r9.1] [fRep r_api_Loop (.agg #[iv p1, iv p2, .slice none 0 0, .bool p3.Purl]) (api_Loop.mk p1 p2 ([] : (List Int)) p3.Purl), fRep (rL (rL (rI .i64))) (.slice aR bf.length aS) bf] [0, 4, 5, 6, 7, 1, 2, 3] [1, 0] S (wN rfl) rfl callee58 rfl (by decide) rfl rfl (fun E1 w1 S1 => c_loops_piece_add_s1 E1 w1 r9.2 bb0 a5 a6 a9 aa a7 a8 ab ac (api_Loop.mk p1 p2 ([] : (List Int)) p3.Purl) (.agg #[iv p1, iv p2, .slice none 0 0, .bool p3.Purl]) bf (.slice aR bf.length aS) aJ cC S1) rfl (lb rfl) fun xx a w S => ?_
  obtain ⟨cD, cE, cF, cG, cH, cI, cJ, cK⟩ := xx
  dsimp only at S
  refine leafL ⟨rfl, _, _, .inl ⟨42, (.tuple #[]), [], rfl, S, hz_of rfl, ?_⟩⟩
  refine node_by (A := [[], [], [], [2], [2, 3], [2, 3, 4], [0, 1, 2, 3, 4, 5]]) (nf := [5, 6]) (Y := [6, 5]) 7 (by kernel_rfl) (by kernel_rfl) (by kernel_rfl) (by kernel_rfl) (by kernel_rfl) [6, 5, 0, 1, 2, 3, 4] (by kernel_rfl) (by decide) (by decide) (fD 6 (fD 6 (fD 6 (fD 6 (fD 6 (fY (fY (trivial)))))))) [] (fin_of [] rfl (by kernel_rfl) (by kernel_rfl)) (fun _ a w S => ?_)
  obtain rfl := tS h
  exact leafB (sEnd (.tuple #[]) S (rsl0 rfl ) ⟨(cD, cE, cF, cG, cH, cI, cJ, cK), rfl, S.mem.sel [0, 1, 2, 3, 4] [] (by decide) rfl rfl⟩)
 refine sCondF S rfl bm ?_
 refine sSeq (fun dy cL => sRegion (sBin _ S (wN rfl) rfl rfl rfl (bEq _ _ _ _ .u8 p3.Kind 1) rfl (lb rfl) fun a S => ?_))
 refine sN S fun a S => ?_
 refine lT (cL _ _ ?_)
 rcases iS h with ⟨bn, h⟩ | ⟨bn, h⟩
 ·refine sCondT S rfl bn ?_
  refine sRegion (sM S fun a S => ?_)
  refine sLoadN (p := ah) (off := 0) (T := 48) (vs := [iv p1, iv p2, .slice none 0 0, .bool p3.Purl]) 2 [iv p1, iv p2, .slice none 0 0, .bool p3.Purl] S (wN rfl) rfl rfl rfl rfl rfl rfl rfl (lb rfl) fun a S => ?_
  refine sM S fun a S => ?_
  have S := S.shutR (r := (rI .i64)) (T := 3) (v := .slice a0 r9.1.length a4) (xs := r9.1) 3 rfl
  refine sLit (r := (rL (rI .i64))) (T := 32) (xs := [r9.1]) [(0, .slice a0 r9.1.length a4)] 1 [.slice a0 r9.1.length a4] [.slice a0 r9.1.length a4] (.slice none 0 0) 24 S (wN rfl) rfl rfl Try.underlying69 rfl (by decide) (by decide) (by kernel_rfl) rfl (fun E1 w1 hE => All.cons ((rL (rI .i64)).mono hE (S.mem.know (i := 0) (e := fRep (rL (rI .i64)) (.slice a0 r9.1.length a4) r9.1) rfl)) (All.nil _ _ _)) rfl rfl (lb rfl) fun a w bg bh S => ?_
  obtain ⟨aK, cM, h⟩ := bS h
  have S := S.learn (fRep (rL (rI .i64)) (.slice none 0 0) ([] : (List Int))) (rL_nil _ _ _)
  have S := S.learn (fRep r_api_Loop (.agg #[iv p1, iv p2, .slice none 0 0, .bool p3.Purl]) (api_Loop.mk p1 p2 ([] : (List Int)) p3.Purl)) ⟨_, rfl, S.mem.know (i := 0) (e := fRep (rL (rI .i64)) (.slice none 0 0) ([] : (List Int))) rfl⟩
  have S := S.shutR (r := (rL (rI .i64))) (T := 32) (v := .slice bg [r9.1].length bh) (xs := [r9.1]) 0 rfl
  refine sCall (X := Option Addr × Nat × Option Addr × Nat × Option Addr × Nat × Option Addr × Nat) (f := 58) (vs := [.pointer (some ⟨bb0, 0, none⟩), .agg #[iv p1, iv p2, .slice none 0 0, .bool p3.Purl], .slice bg [r9.1].length bh]) (val := fun _ => .tuple #[]) (B' := fun x => [eBox bb0 73 [.slice x.1 aK.loops.length x.2.1, .slice x.2.2.1 aK.rows.length x.2.2.2.1, .slice x.2.2.2.2.1 aK.bound.length x.2.2.2.2.2.1, .slice x.2.2.2.2.2.2.1 aK.cross.length x.2.2.2.2.2.2.2, iv aK.next], eRow r_api_Loop 48 (.slice x.1 aK.loops.length x.2.1) aK.loops, eRow (rI .i64) 3 (.slice x.2.2.1 aK.rows.length x.2.2.2.1) aK.rows, eRow (rI .i64) 3 (.slice x.2.2.2.2.1 aK.bound.length x.2.2.2.2.2.1) aK.bound, eRow r_A2_Int 49 (.slice x.2.2.2.2.2.2.1 aK.cross.length x.2.2.2.2.2.2.2) aK.cross]) (D' := fun _ => []) [eBox bb0 73 [.slice a5 r9.2.loops.length a6, .slice a9 r9.2.rows.length aa, .slice a7 r9.2.bound.length a8, .slice ab r9.2.cross.length ac, iv r9.2.next], eRow r_api_Loop 48 (.slice a5 r9.2.loops.length a6) r9.2.loops, eRow (rI .i64) 3 (.slice a9 r9.2.rows.length aa) r9.2.rows, eRow (rI .i64) 3 (.slice a7 r9.2.bound.length a8) r9.2.bound, eRow r_A2_Int 49 (.slice ab r9.2.cross.length ac) r9.2.cross] [eBox b2 61 [.int .u8 p3.Kind, .bool p3.Purl, iv p3.A, iv p3.B], eBox ah 48 [iv p1, iv p2, .slice none 0 0, .bool p3.Purl]] [fRep r_api_Loop (.agg #[iv p1, iv p2, .slice none 0 0, .bool p3.Purl]) (api_Loop.mk p1 p2 ([] : (List Int)) p3.Purl), fRep (rL (rL (rI .i64))) (.slice bg [r9.1].length bh) [r9.1]] [0, 3, 4, 5, 6, 1, 2] [1, 0] S (wN rfl) rfl callee58 rfl (by decide) rfl rfl (fun E1 w1 S1 => c_loops_piece_add_s1 E1 w1 r9.2 bb0 a5 a6 a9 aa a7 a8 ab ac (api_Loop.mk p1 p2 ([] : (List Int)) p3.Purl) (.agg #[iv p1, iv p2, .slice none 0 0, .bool p3.Purl]) [r9.1] (.slice bg [r9.1].length bh) aK cM S1) rfl (lb rfl) fun xx a w S => ?_
  obtain ⟨cN, cO, cP, cQ, cR, cT, cU, cV⟩ := xx
  dsimp only at S
  obtain rfl := tS h
  exact leafL (leafB (sEnd (.tuple #[]) S (rsl0 rfl ) ⟨(cN, cO, cP, cQ, cR, cT, cU, cV), rfl, S.mem.sel [0, 1, 2, 3, 4] [] (by decide) rfl rfl⟩))
 refine sCondF S rfl bn ?_
 refine sSeq (fun dz cW => sRegion (sBin _ S (wN rfl) rfl rfl rfl (bEq _ _ _ _ .u8 p3.Kind 8) rfl (lb rfl) fun a S => ?_))
 refine sN S fun a S => ?_
 refine lT (cW _ _ ?_)
 rcases iS h with ⟨bo, h⟩ | ⟨bo, h⟩
 ·refine sCondT S rfl bo ?_
  refine sSeq (fun dA cX => ?_)
  obtain ⟨bp, bq, h⟩ := bS h
  obtain ⟨aI, br, h⟩ := bS h
  obtain ⟨dc, cY, cZ⟩ := pIdxR (P := Try.prog) (r := (rI .i64)) (T := 3) (v := .slice a0 r9.1.length a4) (xs := r9.1) (j := 0) 32 3 3 S Try.underlying32 rfl rfl bq
  obtain ⟨de, d3, d4⟩ := pIdxR (P := Try.prog) (r := r_api_Loop) (T := 48) (v := .slice a5 r9.2.loops.length a6) (xs := r9.2.loops) (j := bp) 26 48 4 S Try.underlying26 rfl rfl br
  obtain ⟨df, d5, d6⟩ := pFldR (P := Try.prog) 48 3 3 d4 rfl
  refine sDraw (nf := [11]) (W := [(0, 52, .pointer (some ⟨bb0, 0, none⟩)), (1, 53, .pointer (some ⟨bb0, 0, none⟩)), (2, 54, .pointer (some ⟨bb0, 0, none⟩)), (3, 55, .slice a5 r9.2.loops.length a6), (4, 56, .slice a0 r9.1.length a4), (5, 57, dc), (6, 58, iv bp), (7, 59, de), (8, 60, df), (9, 61, .bool aI.Purl), (10, 62, .pointer (some ⟨ah, 3, none⟩))]) rfl S ?_
  refine node_by (A := anc_loops_piece_work_s1_0) 12 (by kernel_rfl) (by kernel_rfl) (by kernel_rfl) (by kernel_rfl) (by kernel_rfl) [0, 1, 2, 3, 4, 5, 6, 7, 8, 9, 10] (by kernel_rfl) (by decide) (by decide) (fF ?_ (fF ?_ (fF ?_ (fF ?_ (fF ?_ (fF ?_ (fF ?_ (fF ?_ (fF ?_ (fF ?_ (fF ?_ (fN ?_ (trivial))))))))))))) [] (fun q hq => by cases hq) (fun hY => absurd (hY 11 (by decide)) (by decide))
  ·exact fM 0 none rfl rfl rfl rfl (.inl rfl) rfl rfl rfl
  ·refine fJ [(52, _)] 1 [some 0] fun G a w S => ?_
   exact nilCheck_ok (q := ⟨bb0, 0, none⟩) S (wN rfl) rfl rfl rfl (lb rfl) fun a S => leafL ⟨rfl, S⟩
  ·refine fJ [(53, _)] 2 [some 1] fun G a w S => ?_
   exact sField (b := bb0) (off := 0) 0 0 S (wN rfl) rfl rfl rfl rfl rfl (lb rfl) fun a S => leafL ⟨rfl, S⟩
  ·refine fJ [(54, _)] 3 [some 2] fun G a w S => ?_
   exact sLoad1 0 (.slice a5 r9.2.loops.length a6) S (wN rfl) rfl rfl rfl rfl rfl rfl (lb rfl) fun a S => leafL ⟨rfl, S⟩
  ·exact fM 4 none rfl rfl rfl rfl (.inl rfl) rfl rfl rfl
  ·refine fJ [(56, _)] 5 [some 4] fun G a w S => ?_
   exact sIdxV S (wN rfl) rfl rfl rfl cY rfl (lb rfl) fun a S => leafL ⟨rfl, S⟩
  ·refine fJ [(57, _)] 6 [some 5] fun G a w S => ?_
   exact sLoadR (r := (rI .i64)) (T := 3) (xs := r9.1) (x := bp) (v := .slice a0 r9.1.length a4) (vq := dc) (j := 0) 3 (iv bp) S cZ (wN rfl) rfl rfl rfl bq (fun _ _ _ h => h) (scal_I _) rfl rfl (lb rfl) fun a S => leafL ⟨rfl, S⟩
  ·refine fJ [(55, _), (58, _)] 7 [some 3, some 6] fun G a w S => ?_
   exact sIdxV S (wN rfl) rfl rfl rfl d3 rfl (lb rfl) fun a S => leafL ⟨rfl, S⟩
  ·refine fJ [(59, _)] 8 [some 7] fun G a w S => ?_
   exact sFldV (q := de) S (wN rfl) rfl rfl d5 rfl (lb rfl) fun a S => leafL ⟨rfl, S⟩
  ·refine fJ [(60, _)] 9 [some 8] fun G a w S => ?_
   exact sLoadF (r := r_api_Loop) (s := rB) (g := (·.Purl)) (T := 48) (xs := r9.2.loops) (x := aI) (v := .slice a5 r9.2.loops.length a6) (vq := df) (j := bp) 4 3 (.bool aI.Purl) S d6 (wN rfl) rfl rfl rfl br comp_api_Loop_Purl (fun _ _ _ h => h) scal_B rfl rfl (lb rfl) fun a S => leafL ⟨rfl, S⟩
  ·refine fJ [(11, _)] 10 [none] fun G a w S => ?_
   exact sField (b := ah) (off := 0) 3 3 S (wN rfl) rfl rfl rfl rfl rfl (lb rfl) fun a S => leafL ⟨rfl, S⟩
  refine ⟨_, [(61, .bool aI.Purl), (62, .pointer (some ⟨ah, 3, none⟩))], rfl, (srcs_of [some 9, some 10] rfl rfl rfl), fun G a w S => ?_⟩
  refine sStore (p := ah) (off := 3) (T := 48) (vs := [iv p1, iv p2, .slice none 0 0, .bool p3.Purl]) (v := .bool aI.Purl) 2 [.bool aI.Purl] S (wN rfl) rfl rfl rfl rfl rfl rfl rfl (by simp) rfl fun a w S => ?_
  refine leafL ⟨rfl, _, _, .inr ⟨[], rfl, S, hz_of rfl, ?_⟩⟩
  refine node_by (A := anc_loops_piece_work_s1_0) 12 (by kernel_rfl) (by kernel_rfl) (by kernel_rfl) (by kernel_rfl) (by kernel_rfl) [0, 1, 2, 3, 4, 5, 6, 7, 8, 9, 10] (by kernel_rfl) (by decide) (by decide) (fD 11 (fD 11 (fD 11 (fD 11 (fD 11 (fD 11 (fD 11 (fD 11 (fD 11 (fD 11 (fD 11 (fY (trivial))))))))))))) [(0, .pointer (some ⟨bb0, 0, none⟩)), (10, .slice a0 r9.1.length a4), (11, .pointer (some ⟨ah, 0, none⟩))] (fin_of [none, none, none] rfl (by kernel_rfl) (by kernel_rfl)) (fun _ a w S => ?_)
  refine leafT (cX _ _ ?_)
  refine sRegion (sM S fun a S => ?_)
  refine sLoadN (p := ah) (off := 0) (T := 48) (vs := [iv p1, iv p2, .slice none 0 0, .bool aI.Purl]) 0 [iv p1, iv p2, .slice none 0 0, .bool aI.Purl] S (wN rfl) rfl rfl rfl rfl rfl rfl rfl (lb rfl) fun a S => ?_
  refine sM S fun a S => ?_
  have S := S.shutR (r := (rI .i64)) (T := 3) (v := .slice a0 r9.1.length a4) (xs := r9.1) 3 rfl
  refine sLit (r := (rL (rI .i64))) (T := 32) (xs := [r9.1]) [(0, .slice a0 r9.1.length a4)] 1 [.slice a0 r9.1.length a4] [.slice a0 r9.1.length a4] (.slice none 0 0) 24 S (wN rfl) rfl rfl Try.underlying69 rfl (by decide) (by decide) (by kernel_rfl) rfl (fun E1 w1 hE => All.cons ((rL (rI .i64)).mono hE (S.mem.know (i := 0) (e := fRep (rL (rI .i64)) (.slice a0 r9.1.length a4) r9.1) rfl)) (All.nil _ _ _)) rfl rfl (lb rfl) fun a w bi bj S => ?_
  obtain ⟨aL, d7, h⟩ := bS h
  have S := S.learn (fRep (rL (rI .i64)) (.slice none 0 0) ([] : (List Int))) (rL_nil _ _ _)
  have S := S.learn (fRep r_api_Loop (.agg #[iv p1, iv p2, .slice none 0 0, .bool aI.Purl]) (api_Loop.mk p1 p2 ([] : (List Int)) aI.Purl)) ⟨_, rfl, S.mem.know (i := 0) (e := fRep (rL (rI .i64)) (.slice none 0 0) ([] : (List Int))) rfl⟩
  have S := S.shutR (r := (rL (rI .i64))) (T := 32) (v := .slice bi [r9.1].length bj) (xs := [r9.1]) 0 rfl
  refine sCall (X := Option Addr × Nat × Option Addr × Nat × Option Addr × Nat × Option Addr × Nat) (f := 58) (vs := [.pointer (some ⟨bb0, 0, none⟩), .agg #[iv p1, iv p2, .slice none 0 0, .bool aI.Purl], .slice bi [r9.1].length bj]) (val := fun _ => .tuple #[]) (B' := fun x => [eBox bb0 73 [.slice x.1 aL.loops.length x.2.1, .slice x.2.2.1 aL.rows.length x.2.2.2.1, .slice x.2.2.2.2.1 aL.bound.length x.2.2.2.2.2.1, .slice x.2.2.2.2.2.2.1 aL.cross.length x.2.2.2.2.2.2.2, iv aL.next], eRow r_api_Loop 48 (.slice x.1 aL.loops.length x.2.1) aL.loops, eRow (rI .i64) 3 (.slice x.2.2.1 aL.rows.length x.2.2.2.1) aL.rows, eRow (rI .i64) 3 (.slice x.2.2.2.2.1 aL.bound.length x.2.2.2.2.2.1) aL.bound, eRow r_A2_Int 49 (.slice x.2.2.2.2.2.2.1 aL.cross.length x.2.2.2.2.2.2.2) aL.cross]) (D' := fun _ => []) [eBox bb0 73 [.slice a5 r9.2.loops.length a6, .slice a9 r9.2.rows.length aa, .slice a7 r9.2.bound.length a8, .slice ab r9.2.cross.length ac, iv r9.2.next], eRow r_api_Loop 48 (.slice a5 r9.2.loops.length a6) r9.2.loops, eRow (rI .i64) 3 (.slice a9 r9.2.rows.length aa) r9.2.rows, eRow (rI .i64) 3 (.slice a7 r9.2.bound.length a8) r9.2.bound, eRow r_A2_Int 49 (.slice ab r9.2.cross.length ac) r9.2.cross] [eBox ah 48 [iv p1, iv p2, .slice none 0 0, .bool aI.Purl], eBox b2 61 [.int .u8 p3.Kind, .bool p3.Purl, iv p3.A, iv p3.B]] [fRep r_api_Loop (.agg #[iv p1, iv p2, .slice none 0 0, .bool aI.Purl]) (api_Loop.mk p1 p2 ([] : (List Int)) aI.Purl), fRep (rL (rL (rI .i64))) (.slice bi [r9.1].length bj) [r9.1]] [1, 3, 4, 5, 6, 0, 2] [1, 0] S (wN rfl) rfl callee58 rfl (by decide) rfl rfl (fun E1 w1 S1 => c_loops_piece_add_s1 E1 w1 r9.2 bb0 a5 a6 a9 aa a7 a8 ab ac (api_Loop.mk p1 p2 ([] : (List Int)) aI.Purl) (.agg #[iv p1, iv p2, .slice none 0 0, .bool aI.Purl]) [r9.1] (.slice bi [r9.1].length bj) aL d7 S1) rfl (lb rfl) fun xx a w S => ?_
  obtain ⟨d8, d9, da, bt, bu, bv, bw, bx⟩ := xx
  dsimp only at S
  obtain rfl := tS h
  exact leafL (leafB (sEnd (.tuple #[]) S (rsl0 rfl ) ⟨(d8, d9, da, bt, bu, bv, bw, bx), rfl, S.mem.sel [0, 1, 2, 3, 4] [] (by decide) rfl rfl⟩))
 refine sCondF S rfl bo ?_
 refine sSeq (fun di bz => sRegion (sBin _ S (wN rfl) rfl rfl rfl (bEq _ _ _ _ .u8 p3.Kind 4) rfl (lb rfl) fun a S => ?_))
 refine sN S fun a S => ?_
 refine lT (bz _ _ ?_)
 rcases iS h with ⟨aU, h⟩ | ⟨aU, h⟩
 ·refine sCondT S rfl aU ?_
  refine sSeq (fun dj bA => sRegion (sM S fun a S => ?_))
  obtain ⟨ag, bB, h⟩ := bS h
  refine sCall (X := Unit) (f := 59) (vs := [.slice a0 r9.1.length a4]) (val := fun _ => .tuple #[]) (B' := fun _ => [eRow (rI .i64) 3 (.slice a0 r9.1.length a4) ag]) (D' := fun _ => []) [eRow (rI .i64) 3 (.slice a0 r9.1.length a4) r9.1] [eBox bb0 73 [.slice a5 r9.2.loops.length a6, .slice a9 r9.2.rows.length aa, .slice a7 r9.2.bound.length a8, .slice ab r9.2.cross.length ac, iv r9.2.next], eBox b2 61 [.int .u8 p3.Kind, .bool p3.Purl, iv p3.A, iv p3.B], eBox ah 48 [iv p1, iv p2, .slice none 0 0, .bool p3.Purl], eRow r_api_Loop 48 (.slice a5 r9.2.loops.length a6) r9.2.loops, eRow (rI .i64) 3 (.slice a9 r9.2.rows.length aa) r9.2.rows, eRow (rI .i64) 3 (.slice a7 r9.2.bound.length a8) r9.2.bound, eRow r_A2_Int 49 (.slice ab r9.2.cross.length ac) r9.2.cross] [] [3, 0, 1, 2, 4, 5, 6, 7] [] S (wN rfl) rfl callee59 rfl (by decide) rfl rfl (fun E1 w1 S1 => c_slices_Reverse___int_int__s0 E1 w1 r9.1 a0 a4 ag bB S1) rfl (lb rfl) fun _ a w S => ?_
  have bC := row_v (S.mem.hold (i := 0) (e := eRow (rI .i64) 3 (.slice a0 r9.1.length a4) ag) rfl)
  rw [bC] at S
  refine lT (bA _ _ (sRegion (sM S fun a S => ?_)))
  refine sLoadN (p := ah) (off := 0) (T := 48) (vs := [iv p1, iv p2, .slice none 0 0, .bool p3.Purl]) 3 [iv p1, iv p2, .slice none 0 0, .bool p3.Purl] S (wN rfl) rfl rfl rfl rfl rfl rfl rfl (lb rfl) fun a S => ?_
  refine sM S fun a S => ?_
  have S := S.shutR (r := (rI .i64)) (T := 3) (v := .slice a0 ag.length a4) (xs := ag) 0 rfl
  refine sLit (r := (rL (rI .i64))) (T := 32) (xs := [ag]) [(0, .slice a0 ag.length a4)] 1 [.slice a0 ag.length a4] [.slice a0 ag.length a4] (.slice none 0 0) 24 S (wN rfl) rfl rfl Try.underlying69 rfl (by decide) (by decide) (by kernel_rfl) rfl (fun E1 w1 hE => All.cons ((rL (rI .i64)).mono hE (S.mem.know (i := 0) (e := fRep (rL (rI .i64)) (.slice a0 ag.length a4) ag) rfl)) (All.nil _ _ _)) rfl rfl (lb rfl) fun a w aM aO S => ?_
  obtain ⟨ai, bD, h⟩ := bS h
  have S := S.learn (fRep (rL (rI .i64)) (.slice none 0 0) ([] : (List Int))) (rL_nil _ _ _)
  have S := S.learn (fRep r_api_Loop (.agg #[iv p1, iv p2, .slice none 0 0, .bool p3.Purl]) (api_Loop.mk p1 p2 ([] : (List Int)) p3.Purl)) ⟨_, rfl, S.mem.know (i := 0) (e := fRep (rL (rI .i64)) (.slice none 0 0) ([] : (List Int))) rfl⟩
  have S := S.shutR (r := (rL (rI .i64))) (T := 32) (v := .slice aM [ag].length aO) (xs := [ag]) 0 rfl
  refine sCall (X := Option Addr × Nat × Option Addr × Nat × Option Addr × Nat × Option Addr × Nat) (f := 58) (vs := [.pointer (some ⟨bb0, 0, none⟩), .agg #[iv p1, iv p2, .slice none 0 0, .bool p3.Purl], .slice aM [ag].length aO]) (val := fun _ => .tuple #[]) (B' := fun x => [eBox bb0 73 [.slice x.1 ai.loops.length x.2.1, .slice x.2.2.1 ai.rows.length x.2.2.2.1, .slice x.2.2.2.2.1 ai.bound.length x.2.2.2.2.2.1, .slice x.2.2.2.2.2.2.1 ai.cross.length x.2.2.2.2.2.2.2, iv ai.next], eRow r_api_Loop 48 (.slice x.1 ai.loops.length x.2.1) ai.loops, eRow (rI .i64) 3 (.slice x.2.2.1 ai.rows.length x.2.2.2.1) ai.rows, eRow (rI .i64) 3 (.slice x.2.2.2.2.1 ai.bound.length x.2.2.2.2.2.1) ai.bound, eRow r_A2_Int 49 (.slice x.2.2.2.2.2.2.1 ai.cross.length x.2.2.2.2.2.2.2) ai.cross]) (D' := fun _ => []) [eBox bb0 73 [.slice a5 r9.2.loops.length a6, .slice a9 r9.2.rows.length aa, .slice a7 r9.2.bound.length a8, .slice ab r9.2.cross.length ac, iv r9.2.next], eRow r_api_Loop 48 (.slice a5 r9.2.loops.length a6) r9.2.loops, eRow (rI .i64) 3 (.slice a9 r9.2.rows.length aa) r9.2.rows, eRow (rI .i64) 3 (.slice a7 r9.2.bound.length a8) r9.2.bound, eRow r_A2_Int 49 (.slice ab r9.2.cross.length ac) r9.2.cross] [eBox b2 61 [.int .u8 p3.Kind, .bool p3.Purl, iv p3.A, iv p3.B], eBox ah 48 [iv p1, iv p2, .slice none 0 0, .bool p3.Purl]] [fRep r_api_Loop (.agg #[iv p1, iv p2, .slice none 0 0, .bool p3.Purl]) (api_Loop.mk p1 p2 ([] : (List Int)) p3.Purl), fRep (rL (rL (rI .i64))) (.slice aM [ag].length aO) [ag]] [0, 3, 4, 5, 6, 1, 2] [1, 0] S (wN rfl) rfl callee58 rfl (by decide) rfl rfl (fun E1 w1 S1 => c_loops_piece_add_s1 E1 w1 r9.2 bb0 a5 a6 a9 aa a7 a8 ab ac (api_Loop.mk p1 p2 ([] : (List Int)) p3.Purl) (.agg #[iv p1, iv p2, .slice none 0 0, .bool p3.Purl]) [ag] (.slice aM [ag].length aO) ai bD S1) rfl (lb rfl) fun xx a w S => ?_
  obtain ⟨bE, bF, bG, bH, bI, bJ, bK, bL⟩ := xx
  dsimp only at S
  obtain rfl := tS h
  exact leafL (leafB (sEnd (.tuple #[]) S (rsl0 rfl ) ⟨(bE, bF, bG, bH, bI, bJ, bK, bL), rfl, S.mem.sel [0, 1, 2, 3, 4] [] (by decide) rfl rfl⟩))
 refine sCondF S rfl aU ?_
 refine sSeq (fun dk bM => sRegion (sBin _ S (wN rfl) rfl rfl rfl (bEq _ _ _ _ .u8 p3.Kind 3) rfl (lb rfl) fun a S => ?_))
 refine sN S fun a S => ?_
 refine lT (bM _ _ ?_)
 rcases iS h with ⟨aV, h⟩ | ⟨aV, h⟩
 ·refine sCondT S rfl aV ?_
  refine sRegion (sM S fun a S => ?_)
  refine sLoadN (p := ah) (off := 0) (T := 48) (vs := [iv p1, iv p2, .slice none 0 0, .bool p3.Purl]) 2 [iv p1, iv p2, .slice none 0 0, .bool p3.Purl] S (wN rfl) rfl rfl rfl rfl rfl rfl rfl (lb rfl) fun a S => ?_
  refine sM S fun a S => ?_
  have S := S.shutR (r := (rI .i64)) (T := 3) (v := .slice a0 r9.1.length a4) (xs := r9.1) 3 rfl
  refine sLit (r := (rL (rI .i64))) (T := 32) (xs := [r9.1]) [(0, .slice a0 r9.1.length a4)] 1 [.slice a0 r9.1.length a4] [.slice a0 r9.1.length a4] (.slice none 0 0) 24 S (wN rfl) rfl rfl Try.underlying69 rfl (by decide) (by decide) (by kernel_rfl) rfl (fun E1 w1 hE => All.cons ((rL (rI .i64)).mono hE (S.mem.know (i := 0) (e := fRep (rL (rI .i64)) (.slice a0 r9.1.length a4) r9.1) rfl)) (All.nil _ _ _)) rfl rfl (lb rfl) fun a w aP aQ S => ?_
  obtain ⟨aj, bN, h⟩ := bS h
  have S := S.learn (fRep (rL (rI .i64)) (.slice none 0 0) ([] : (List Int))) (rL_nil _ _ _)
  have S := S.learn (fRep r_api_Loop (.agg #[iv p1, iv p2, .slice none 0 0, .bool p3.Purl]) (api_Loop.mk p1 p2 ([] : (List Int)) p3.Purl)) ⟨_, rfl, S.mem.know (i := 0) (e := fRep (rL (rI .i64)) (.slice none 0 0) ([] : (List Int))) rfl⟩
  have S := S.shutR (r := (rL (rI .i64))) (T := 32) (v := .slice aP [r9.1].length aQ) (xs := [r9.1]) 0 rfl
  refine sCall (X := Option Addr × Nat × Option Addr × Nat × Option Addr × Nat × Option Addr × Nat) (f := 58) (vs := [.pointer (some ⟨bb0, 0, none⟩), .agg #[iv p1, iv p2, .slice none 0 0, .bool p3.Purl], .slice aP [r9.1].length aQ]) (val := fun _ => .tuple #[]) (B' := fun x => [eBox bb0 73 [.slice x.1 aj.loops.length x.2.1, .slice x.2.2.1 aj.rows.length x.2.2.2.1, .slice x.2.2.2.2.1 aj.bound.length x.2.2.2.2.2.1, .slice x.2.2.2.2.2.2.1 aj.cross.length x.2.2.2.2.2.2.2, iv aj.next], eRow r_api_Loop 48 (.slice x.1 aj.loops.length x.2.1) aj.loops, eRow (rI .i64) 3 (.slice x.2.2.1 aj.rows.length x.2.2.2.1) aj.rows, eRow (rI .i64) 3 (.slice x.2.2.2.2.1 aj.bound.length x.2.2.2.2.2.1) aj.bound, eRow r_A2_Int 49 (.slice x.2.2.2.2.2.2.1 aj.cross.length x.2.2.2.2.2.2.2) aj.cross]) (D' := fun _ => []) [eBox bb0 73 [.slice a5 r9.2.loops.length a6, .slice a9 r9.2.rows.length aa, .slice a7 r9.2.bound.length a8, .slice ab r9.2.cross.length ac, iv r9.2.next], eRow r_api_Loop 48 (.slice a5 r9.2.loops.length a6) r9.2.loops, eRow (rI .i64) 3 (.slice a9 r9.2.rows.length aa) r9.2.rows, eRow (rI .i64) 3 (.slice a7 r9.2.bound.length a8) r9.2.bound, eRow r_A2_Int 49 (.slice ab r9.2.cross.length ac) r9.2.cross] [eBox b2 61 [.int .u8 p3.Kind, .bool p3.Purl, iv p3.A, iv p3.B], eBox ah 48 [iv p1, iv p2, .slice none 0 0, .bool p3.Purl]] [fRep r_api_Loop (.agg #[iv p1, iv p2, .slice none 0 0, .bool p3.Purl]) (api_Loop.mk p1 p2 ([] : (List Int)) p3.Purl), fRep (rL (rL (rI .i64))) (.slice aP [r9.1].length aQ) [r9.1]] [0, 3, 4, 5, 6, 1, 2] [1, 0] S (wN rfl) rfl callee58 rfl (by decide) rfl rfl (fun E1 w1 S1 => c_loops_piece_add_s1 E1 w1 r9.2 bb0 a5 a6 a9 aa a7 a8 ab ac (api_Loop.mk p1 p2 ([] : (List Int)) p3.Purl) (.agg #[iv p1, iv p2, .slice none 0 0, .bool p3.Purl]) [r9.1] (.slice aP [r9.1].length aQ) aj bN S1) rfl (lb rfl) fun xx a w S => ?_
  obtain ⟨bO, bP, bQ, bR, bT, bU, bV, bW⟩ := xx
  dsimp only at S
  obtain rfl := tS h
  exact leafL (leafB (sEnd (.tuple #[]) S (rsl0 rfl ) ⟨(bO, bP, bQ, bR, bT, bU, bV, bW), rfl, S.mem.sel [0, 1, 2, 3, 4] [] (by decide) rfl rfl⟩))
 refine sCondF S rfl aV ?_
 refine sSeq (fun dl bX => sRegion (sBin _ S (wN rfl) rfl rfl rfl (bEq _ _ _ _ .u8 p3.Kind 5) rfl (lb rfl) fun a S => ?_))
 refine sN S fun a S => ?_
 refine lT (bX _ _ ?_)
 rcases iS h with ⟨aW, h⟩ | ⟨aW, h⟩
 rotate_left
 ·refine sCondF S rfl aW ?_
  refine sSeq (fun dm bY => sRegion (sBin _ S (wN rfl) rfl rfl rfl (bEq _ _ _ _ .u8 p3.Kind 10) rfl (lb rfl) fun a S => ?_))
  refine sN S fun a S => ?_
  refine lT (bY _ _ ?_)
  rcases iS h with ⟨aX, h⟩ | ⟨aX, h⟩
  ·refine sCondT S rfl aX ?_
   refine sRegion (sM S fun a S => ?_)
   refine sM S fun a S => ?_
   refine nilCheck_ok (q := ⟨bb0, 0, none⟩) S (wN rfl) rfl rfl rfl (lb rfl) fun a S => ?_
   refine sField (b := bb0) (off := 0) 2 2 S (wN rfl) rfl rfl rfl rfl rfl (lb rfl) fun a S => ?_
   refine sLoad1 0 (.slice a7 r9.2.bound.length a8) S (wN rfl) rfl rfl rfl rfl rfl rfl (lb rfl) fun a S => ?_
   refine sM S fun a S => ?_
   obtain ⟨bZ, c5, h⟩ := bS h
   refine sApp (r := (rI .i64)) (T := 3) (xs := r9.2.bound) (ys := r9.1) (v := .slice a7 r9.2.bound.length a8) (u := .slice a0 r9.1.length a4) 6 (iv 0) 8 S (wN rfl) rfl Try.underlying32 rfl rfl (by decide) rfl rfl rfl (src_R (T := 3) 3 S.mem rfl) c5 rfl (lb rfl) fun a w aZ ba S => ?_
   refine nilCheck_ok (q := ⟨bb0, 0, none⟩) S (wN rfl) rfl rfl rfl (lb rfl) fun a S => ?_
   refine sField (b := bb0) (off := 0) 2 2 S (wN rfl) rfl rfl rfl rfl rfl (lb rfl) fun a S => ?_
   refine sStore (p := bb0) (off := 2) (T := 73) (vs := [.slice a5 r9.2.loops.length a6, .slice a9 r9.2.rows.length aa, .slice a7 r9.2.bound.length a8, .slice ab r9.2.cross.length ac, iv r9.2.next]) (v := .slice aZ bZ.length ba) 1 [.slice aZ bZ.length ba] S (wN rfl) rfl rfl rfl rfl rfl rfl rfl (by simp) rfl fun a w S => ?_
   obtain rfl := tS h
   exact leafL (leafB (sEnd (.tuple #[]) S (rsl0 rfl ) ⟨(a5, a6, a9, aa, aZ, ba, ab, ac), rfl, S.mem.sel [0, 5, 6, 1, 7] [] (by decide) rfl rfl⟩))
  refine sCondF S rfl aX ?_
  refine sRegion (sM S fun a S => ?_)
  refine sLoadN (p := ah) (off := 0) (T := 48) (vs := [iv p1, iv p2, .slice none 0 0, .bool p3.Purl]) 2 [iv p1, iv p2, .slice none 0 0, .bool p3.Purl] S (wN rfl) rfl rfl rfl rfl rfl rfl rfl (lb rfl) fun a S => ?_
  refine sLoadN (p := b2) (off := 0) (T := 61) (vs := [.int .u8 p3.Kind, .bool p3.Purl, iv p3.A, iv p3.B]) 1 [.int .u8 p3.Kind, .bool p3.Purl, iv p3.A, iv p3.B] S (wN rfl) rfl rfl rfl rfl rfl rfl rfl (lb rfl) fun a S => ?_
  refine sM S fun a S => ?_
  obtain ⟨ak, c6, h⟩ := bS h
  have S := S.learn (fRep (rL (rI .i64)) (.slice none 0 0) ([] : (List Int))) (rL_nil _ _ _)
  have S := S.learn (fRep r_api_Loop (.agg #[iv p1, iv p2, .slice none 0 0, .bool p3.Purl]) (api_Loop.mk p1 p2 ([] : (List Int)) p3.Purl)) ⟨_, rfl, S.mem.know (i := 0) (e := fRep (rL (rI .i64)) (.slice none 0 0) ([] : (List Int))) rfl⟩
  have S := S.learn (fRep r_api_Stitch (.agg #[.int .u8 p3.Kind, .bool p3.Purl, iv p3.A, iv p3.B]) p3) rfl
  have S := S.shutR (r := (rI .i64)) (T := 3) (v := .slice a0 r9.1.length a4) (xs := r9.1) 3 rfl
  refine sCall (X := Option Addr × Nat × Option Addr × Nat × Option Addr × Nat × Option Addr × Nat) (f := 61) (vs := [.pointer (some ⟨bb0, 0, none⟩), .agg #[iv p1, iv p2, .slice none 0 0, .bool p3.Purl], .agg #[.int .u8 p3.Kind, .bool p3.Purl, iv p3.A, iv p3.B], .slice a0 r9.1.length a4]) (val := fun _ => .tuple #[]) (B' := fun x => [eBox bb0 73 [.slice x.1 ak.loops.length x.2.1, .slice x.2.2.1 ak.rows.length x.2.2.2.1, .slice x.2.2.2.2.1 ak.bound.length x.2.2.2.2.2.1, .slice x.2.2.2.2.2.2.1 ak.cross.length x.2.2.2.2.2.2.2, iv ak.next], eRow r_api_Loop 48 (.slice x.1 ak.loops.length x.2.1) ak.loops, eRow (rI .i64) 3 (.slice x.2.2.1 ak.rows.length x.2.2.2.1) ak.rows, eRow (rI .i64) 3 (.slice x.2.2.2.2.1 ak.bound.length x.2.2.2.2.2.1) ak.bound, eRow r_A2_Int 49 (.slice x.2.2.2.2.2.2.1 ak.cross.length x.2.2.2.2.2.2.2) ak.cross]) (D' := fun _ => []) [eBox bb0 73 [.slice a5 r9.2.loops.length a6, .slice a9 r9.2.rows.length aa, .slice a7 r9.2.bound.length a8, .slice ab r9.2.cross.length ac, iv r9.2.next], eRow r_api_Loop 48 (.slice a5 r9.2.loops.length a6) r9.2.loops, eRow (rI .i64) 3 (.slice a9 r9.2.rows.length aa) r9.2.rows, eRow (rI .i64) 3 (.slice a7 r9.2.bound.length a8) r9.2.bound, eRow r_A2_Int 49 (.slice ab r9.2.cross.length ac) r9.2.cross] [eBox b2 61 [.int .u8 p3.Kind, .bool p3.Purl, iv p3.A, iv p3.B], eBox ah 48 [iv p1, iv p2, .slice none 0 0, .bool p3.Purl]] [fRep r_api_Loop (.agg #[iv p1, iv p2, .slice none 0 0, .bool p3.Purl]) (api_Loop.mk p1 p2 ([] : (List Int)) p3.Purl), fRep r_api_Stitch (.agg #[.int .u8 p3.Kind, .bool p3.Purl, iv p3.A, iv p3.B]) p3, fRep (rL (rI .i64)) (.slice a0 r9.1.length a4) r9.1] [0, 3, 4, 5, 6, 1, 2] [2, 1, 0] S (wN rfl) rfl callee61 rfl (by decide) rfl rfl (fun E1 w1 S1 => c_loops_piece_cable_s1 E1 w1 r9.2 bb0 a5 a6 a9 aa a7 a8 ab ac (api_Loop.mk p1 p2 ([] : (List Int)) p3.Purl) (.agg #[iv p1, iv p2, .slice none 0 0, .bool p3.Purl]) p3 (.agg #[.int .u8 p3.Kind, .bool p3.Purl, iv p3.A, iv p3.B]) r9.1 (.slice a0 r9.1.length a4) ak c6 S1) rfl (lb rfl) fun xx a w S => ?_
  obtain ⟨c7, c8, c9, ca, cb, cc, cd, ce⟩ := xx
  dsimp only at S
  obtain rfl := tS h
  exact leafL (leafB (sEnd (.tuple #[]) S (rsl0 rfl ) ⟨(c7, c8, c9, ca, cb, cc, cd, ce), rfl, S.mem.sel [0, 1, 2, 3, 4] [] (by decide) rfl rfl⟩))
 refine sCondT S rfl aW ?_
 refine sSeq (fun dn cf => sRegion (sField (b := b2) (off := 0) 2 2 S (wN rfl) rfl rfl rfl rfl rfl (lb rfl) fun a S => ?_))
 refine sLoad1 1 (iv p3.A) S (wN rfl) rfl rfl rfl rfl rfl rfl (lb rfl) fun a S => ?_
 refine sM S fun a S => ?_
 refine lT (cf _ _ (wp_block ?_))
 have S := S.shutR (r := (rI .i64)) (T := 3) (v := .slice a0 r9.1.length a4) (xs := r9.1) 3 rfl
 obtain ⟨dp, hl, db⟩ := bS h
 refine sLoop hl (fun s0 a w => match s0 with | (aT, aw, ax, ay, az, bb) => ∃ al, ∃ am, ∃ ao, ∃ ap, ∃ aq, ∃ ar, ∃ au, ∃ av, St [] E (keysL [eBox bb0 73 [.slice ad_0_0 p0.loops.length cp_0_0, .slice ad_0_1 p0.rows.length cp_0_1, .slice ad_0_2 p0.bound.length cp_0_2, .slice ad_0_3 p0.cross.length cp_0_3, iv p0.next], eRow r_api_Loop 48 (.slice ad_0_0 p0.loops.length cp_0_0) p0.loops, eRow (rI .i64) 3 (.slice ad_0_1 p0.rows.length cp_0_1) p0.rows, eRow (rI .i64) 3 (.slice ad_0_2 p0.bound.length cp_0_2) p0.bound, eRow r_A2_Int 49 (.slice ad_0_3 p0.cross.length cp_0_3) p0.cross]) w0 108 a w [(0, .pointer (some ⟨bb0, 0, none⟩)), (10, .slice a0 r9.1.length a4), (11, .pointer (some ⟨ah, 0, none⟩)), (87, iv p3.A), (88, iv aT)] [eBox bb0 73 [.slice al aw.length am, .slice ao ax.length ap, .slice aq ay.length ar, .slice au az.length av, iv bb], eBox ah 48 [iv p1, iv p2, .slice none 0 0, .bool p3.Purl], eRow r_api_Loop 48 (.slice al aw.length am) aw, eRow (rI .i64) 3 (.slice ao ax.length ap) ax, eRow (rI .i64) 3 (.slice aq ay.length ar) ay, eRow r_A2_Int 49 (.slice au az.length av) az] [fRep (rL (rI .i64)) (.slice a0 r9.1.length a4) r9.1]) ⟨a5, a6, a9, aa, a7, a8, ab, ac, S.fix [0, 2, 3, 4, 5, 6] [0] (by decide) rfl rfl rfl⟩ ?_
 clear hl h
 intro s0 a w c0 hI h cg
 obtain ⟨aT, aw, ax, ay, az, bb⟩ := s0
 unfold loops_piece_work_s1_l1 at h
 dsimp only at h hI
 obtain ⟨al, am, ao, ap, aq, ar, au, av, S⟩ := hI
 refine sSeq (fun dr ci => sRegion (sBin _ S (wN rfl) rfl rfl rfl (bLt _ _ _ _ .i64 aT p3.A) rfl (lb rfl) fun a S => ?_))
 refine lT (ci _ _ (sSeq (fun dt cj => ?_)))
 rcases iS h with ⟨bc, h⟩ | ⟨bc, h⟩
 rotate_left
 ·refine sCondF S rfl bc ?_
  obtain rfl := tS h
  obtain rfl := cg _ rfl
  have h := db
  try dsimp only at h
  obtain rfl := tS h
  exact wp_exit (xThen (xThen (xHit (leafB (sEnd (.tuple #[]) S (rsl0 rfl ) ⟨(al, am, ao, ap, aq, ar, au, av), rfl, S.mem.sel [0, 2, 3, 4, 5] [] (by decide) rfl rfl⟩)))))
 refine sCondT S rfl bc ?_
 refine wp_skip (leafT (cj _ _ ?_))
 refine sSeq (fun du ck => wp_block ?_)
 obtain ⟨ae, cl, h⟩ := bS h
 obtain ⟨af, cm, h⟩ := bS h
 refine sDraw (nf := [3, 4, 5]) (W := [(0, 90, .pointer (some ⟨bb0, 0, none⟩)), (1, 91, .agg #[iv p1, iv p2, .slice none 0 0, .bool p3.Purl]), (2, 92, .slice a0 r9.1.length a4)]) rfl S ?_
 refine node_by (A := [[], [], [], [2], [2, 3], [0, 1, 2, 3, 4]]) (nf := [3, 4, 5]) (Y := []) (W := [(0, 90, .pointer (some ⟨bb0, 0, none⟩)), (1, 91, .agg #[iv p1, iv p2, .slice none 0 0, .bool p3.Purl]), (2, 92, .slice a0 r9.1.length a4)]) 6 (by kernel_rfl) (by kernel_rfl) (by kernel_rfl) (by kernel_rfl) (by kernel_rfl) [0, 1, 2] (by kernel_rfl) (by decide) (by decide) (fF ?_ (fF ?_ (fF ?_ (fN ?_ (aB 4 1 3 (by decide) (aB 5 0 3 (by decide) (trivial))))))) [] (fun q hq => by cases hq) (fun hY => absurd (hY 3 (by decide)) (by decide))
 ·exact fM 0 none rfl rfl rfl rfl (.inl rfl) rfl rfl rfl
 ·refine fJ [(11, _)] 1 [none] fun G a w S => ?_
  exact sLoadN (p := ah) (off := 0) (T := 48) (vs := [iv p1, iv p2, .slice none 0 0, .bool p3.Purl]) 1 [iv p1, iv p2, .slice none 0 0, .bool p3.Purl] S (wN rfl) rfl rfl rfl rfl rfl rfl rfl (lb rfl) fun a S => leafL ⟨rfl, S⟩
 ·exact fM 2 none rfl rfl rfl rfl (.inl rfl) rfl rfl rfl
 refine ⟨_, [(92, .slice a0 r9.1.length a4)], rfl, (srcs_of [some 2] rfl rfl rfl), fun G a w S => ?_⟩
 refine sCall (X := Option Addr × Nat) (f := 60) (vs := [.slice a0 r9.1.length a4]) (val := fun x => .slice x.1 ae.length x.2) (B' := fun x => [eRow (rI .i64) 3 (.slice x.1 ae.length x.2) ae]) (D' := fun _ => []) [] [eBox bb0 73 [.slice al aw.length am, .slice ao ax.length ap, .slice aq ay.length ar, .slice au az.length av, iv bb], eBox ah 48 [iv p1, iv p2, .slice none 0 0, .bool p3.Purl], eRow r_api_Loop 48 (.slice al aw.length am) aw, eRow (rI .i64) 3 (.slice ao ax.length ap) ax, eRow (rI .i64) 3 (.slice aq ay.length ar) ay, eRow r_A2_Int 49 (.slice au az.length av) az] [fRep (rL (rI .i64)) (.slice a0 r9.1.length a4) r9.1] [0, 1, 2, 3, 4, 5] [0] S (wN rfl) rfl callee60 rfl (by decide) rfl rfl (fun E1 w1 S1 => c_slices_Clone___int_int__s0 E1 w1 r9.1 (.slice a0 r9.1.length a4) ae cl S1) rfl (lb rfl) fun xx a w S => ?_
 obtain ⟨aA, aC⟩ := xx
 dsimp only at S
 refine leafL ⟨rfl, _, _, .inl ⟨93, (.slice aA ae.length aC), [], rfl, S, hz_of rfl, ?_⟩⟩
 refine node_by (A := [[], [], [], [2], [2, 3], [0, 1, 2, 3, 4]]) (nf := [3, 4, 5]) (Y := [3]) 6 (by kernel_rfl) (by kernel_rfl) (by kernel_rfl) (by kernel_rfl) (by kernel_rfl) [3, 0, 1, 2] (by kernel_rfl) (by decide) (by decide) (fF ?_ (fF ?_ (fD 3 (fY (fN ?_ (aB 5 0 4 (by decide) (trivial))))))) [] (fun q hq => by cases hq) (fun hY => absurd (hY 4 (by decide)) (by decide))
 ·exact fM 1 none rfl rfl rfl rfl (.inl rfl) rfl rfl rfl
 ·refine fJ [(11, _)] 2 [none] fun G a w S => ?_
  exact sLoadN (p := ah) (off := 0) (T := 48) (vs := [iv p1, iv p2, .slice none 0 0, .bool p3.Purl]) 2 [iv p1, iv p2, .slice none 0 0, .bool p3.Purl] S (wN rfl) rfl rfl rfl rfl rfl rfl rfl (lb rfl) fun a S => leafL ⟨rfl, S⟩
 refine ⟨_, [(93, .slice aA ae.length aC)], rfl, (srcs_of [some 0] rfl rfl rfl), fun G a w S => ?_⟩
 have S := S.shutR (r := (rI .i64)) (T := 3) (v := .slice aA ae.length aC) (xs := ae) 0 rfl
 refine sLit (r := (rL (rI .i64))) (T := 32) (xs := [ae]) [(0, .slice aA ae.length aC)] 1 [.slice aA ae.length aC] [.slice aA ae.length aC] (.slice none 0 0) 24 S (wN rfl) rfl rfl Try.underlying69 rfl (by decide) (by decide) (by kernel_rfl) rfl (fun E1 w1 hE => All.cons ((rL (rI .i64)).mono hE (S.mem.know (i := 0) (e := fRep (rL (rI .i64)) (.slice aA ae.length aC) ae) rfl)) (All.nil _ _ _)) rfl rfl (lb rfl) fun a w aG aH S => ?_
 refine leafL ⟨rfl, _, _, .inl ⟨94, (.slice aG [ae].length aH), [], rfl, S, hz_of rfl, ?_⟩⟩
 refine node_by (A := [[], [], [], [2], [2, 3], [0, 1, 2, 3, 4]]) (nf := [3, 4, 5]) (Y := [4, 3]) 6 (by kernel_rfl) (by kernel_rfl) (by kernel_rfl) (by kernel_rfl) (by kernel_rfl) [4, 3, 0, 1, 2] (by kernel_rfl) (by decide) (by decide) (fF ?_ (fF ?_ (fD 4 (fY (fY (fN ?_ (trivial))))))) [] (fun q hq => by cases hq) (fun hY => absurd (hY 5 (by decide)) (by decide))
 ·exact fM 2 none rfl rfl rfl rfl (.inl rfl) rfl rfl rfl
 ·refine fJ [(11, _)] 3 [none] fun G a w S => ?_
  exact sLoadN (p := ah) (off := 0) (T := 48) (vs := [iv p1, iv p2, .slice none 0 0, .bool p3.Purl]) 2 [iv p1, iv p2, .slice none 0 0, .bool p3.Purl] S (wN rfl) rfl rfl rfl rfl rfl rfl rfl (lb rfl) fun a S => leafL ⟨rfl, S⟩
 refine ⟨_, [(90, .pointer (some ⟨bb0, 0, none⟩)), (91, .agg #[iv p1, iv p2, .slice none 0 0, .bool p3.Purl]), (94, .slice aG [ae].length aH)], rfl, (srcs_of [some 2, some 3, some 0] rfl rfl rfl), fun G a w S => ?_⟩
 have S := S.learn (fRep (rL (rI .i64)) (.slice none 0 0) ([] : (List Int))) (rL_nil _ _ _)
 have S := S.learn (fRep r_api_Loop (.agg #[iv p1, iv p2, .slice none 0 0, .bool p3.Purl]) (api_Loop.mk p1 p2 ([] : (List Int)) p3.Purl)) ⟨_, rfl, S.mem.know (i := 0) (e := fRep (rL (rI .i64)) (.slice none 0 0) ([] : (List Int))) rfl⟩
 have S := S.shutR (r := (rL (rI .i64))) (T := 32) (v := .slice aG [ae].length aH) (xs := [ae]) 0 rfl
 refine sCall (X := Option Addr × Nat × Option Addr × Nat × Option Addr × Nat × Option Addr × Nat) (f := 58) (vs := [.pointer (some ⟨bb0, 0, none⟩), .agg #[iv p1, iv p2, .slice none 0 0, .bool p3.Purl], .slice aG [ae].length aH]) (val := fun _ => .tuple #[]) (B' := fun x => [eBox bb0 73 [.slice x.1 af.loops.length x.2.1, .slice x.2.2.1 af.rows.length x.2.2.2.1, .slice x.2.2.2.2.1 af.bound.length x.2.2.2.2.2.1, .slice x.2.2.2.2.2.2.1 af.cross.length x.2.2.2.2.2.2.2, iv af.next], eRow r_api_Loop 48 (.slice x.1 af.loops.length x.2.1) af.loops, eRow (rI .i64) 3 (.slice x.2.2.1 af.rows.length x.2.2.2.1) af.rows, eRow (rI .i64) 3 (.slice x.2.2.2.2.1 af.bound.length x.2.2.2.2.2.1) af.bound, eRow r_A2_Int 49 (.slice x.2.2.2.2.2.2.1 af.cross.length x.2.2.2.2.2.2.2) af.cross]) (D' := fun _ => []) [eBox bb0 73 [.slice al aw.length am, .slice ao ax.length ap, .slice aq ay.length ar, .slice au az.length av, iv bb], eRow r_api_Loop 48 (.slice al aw.length am) aw, eRow (rI .i64) 3 (.slice ao ax.length ap) ax, eRow (rI .i64) 3 (.slice aq ay.length ar) ay, eRow r_A2_Int 49 (.slice au az.length av) az] [eBox ah 48 [iv p1, iv p2, .slice none 0 0, .bool p3.Purl]] [fRep r_api_Loop (.agg #[iv p1, iv p2, .slice none 0 0, .bool p3.Purl]) (api_Loop.mk p1 p2 ([] : (List Int)) p3.Purl), fRep (rL (rL (rI .i64))) (.slice aG [ae].length aH) [ae]] [0, 2, 3, 4, 5, 1] [1, 0] S (wN rfl) rfl callee58 rfl (by decide) rfl rfl (fun E1 w1 S1 => c_loops_piece_add_s1 E1 w1 (loops_piece.mk aw ax ay az bb) bb0 al am ao ap aq ar au av (api_Loop.mk p1 p2 ([] : (List Int)) p3.Purl) (.agg #[iv p1, iv p2, .slice none 0 0, .bool p3.Purl]) [ae] (.slice aG [ae].length aH) af cm S1) rfl (lb rfl) fun xx a w S => ?_
 obtain ⟨cn, co, cp, cq, cr, ct, cu, cv⟩ := xx
 dsimp only at S
 refine leafL ⟨rfl, _, _, .inl ⟨95, (.tuple #[]), [], rfl, S, hz_of rfl, ?_⟩⟩
 refine node_by (A := [[], [], [], [2], [2, 3], [0, 1, 2, 3, 4]]) (nf := [3, 4, 5]) (Y := [5, 4, 3]) 6 (by kernel_rfl) (by kernel_rfl) (by kernel_rfl) (by kernel_rfl) (by kernel_rfl) [5, 4, 3, 0, 1, 2] (by kernel_rfl) (by decide) (by decide) (fD 5 (fD 5 (fD 5 (fY (fY (fY (trivial))))))) [(0, .pointer (some ⟨bb0, 0, none⟩)), (10, .slice a0 r9.1.length a4), (11, .pointer (some ⟨ah, 0, none⟩)), (87, iv p3.A), (88, iv aT)] (fin_of [none, none, none, none, none] rfl (by kernel_rfl) (by kernel_rfl)) (fun _ a w S => ?_)
 refine leafB (leafT (ck _ _ ?_))
 refine sRegion (sBin _ S (wN rfl) rfl rfl rfl (bAdd _ _ _ _ aT 1) rfl (lb rfl) fun a S => ?_)
 refine sM S fun a S => ?_
 exact lT (⟨(w64 (aT + 1), af.loops, af.rows, af.bound, af.cross, af.next), (Option.some.inj h).symm, ⟨cn, co, cp, cq, cr, ct, cu, cv, S.fix [0, 5, 1, 2, 3, 4] [4] (by decide) rfl rfl rfl⟩⟩)
noncomputable def loops_of_l1 (p0 : api_Chart) : (Int × List api_Loop) → Option ((Int × List api_Loop) ⊕ List api_Loop) := fun s0 => match s0 with
 | (a0, a4) =>
  if decide (a0 < p0.Start) then
   (appO a4 [(api_Loop.mk 0 a0 ([] : (List Int)) false)]).bind fun a5 =>
   some (.inl (w64 (a0 + 1), a5))
  else
   some (.inr a4)
noncomputable def loops_of_l2 (a5 : ((List api_Stitch) × Int)) (ac : Int) : (Int × List api_Loop × List Int × List Int × List (Int × Int) × Int) → Option ((Int × List api_Loop × List Int × List Int × List (Int × Int) × Int) ⊕ (List api_Loop × List Int × List Int × List (Int × Int) × Int)) := fun s0 => match s0 with
 | (a4, a6, a7, a8, a9, aa) =>
  if decide (a4 < (a5.1.length : Int)) then
   (idxO a5.1 a4).bind fun ab =>
   (F_loops_piece_work_s1 (loops_piece.mk a6 a7 a8 a9 aa) (w64 (ac + 1)) a4 ab).bind fun a0 =>
   some (.inl (w64 (a4 + 1), a0.loops, a0.rows, a0.bound, a0.cross, a0.next))
  else
   some (.inr (a6, a7, a8, a9, aa))
noncomputable def loops_of_l3 (p0 : api_Chart) : (Int × List api_Loop × List Int × List Int × List (Int × Int) × Int) → Option ((Int × List api_Loop × List Int × List Int × List (Int × Int) × Int) ⊕ (List api_Loop × List Int × List Int × List (Int × Int) × Int)) := fun s0 => match s0 with
 | (a4, ak, al, am, ao, ap) =>
  if decide (a4 < (p0.Rows.length : Int)) then
   Option.bind (α := (List api_Loop × List Int × List Int × List (Int × Int) × Int)) (
    (F_chart_Face p0 a4).bind fun a5 =>
    Option.bind (α := (List api_Loop × List Int × List Int × List (Int × Int) × Int)) (
     (whileO (loops_of_l2 a5 a4) (0, ak, al, am, ao, ap)).bind fun (a6, a7, a8, a9, aa) =>
      some (a6, a7, a8, a9, aa)) fun (a0, ab, ac, ae, af) =>
    (appO ab ([(a0.length : Int)] : List Int)).bind fun ag =>
    some (a0, ag, ac, ae, af)) fun (aq, ar, ah, ai, aj) =>
   some (.inl (w64 (a4 + 1), aq, ar, ah, ai, aj))
  else
   some (.inr (ak, al, am, ao, ap))
noncomputable def F_loops_of (p0 : api_Chart) : Option (loops_piece × Int) :=
 (F_chart_Check p0).bind fun a0 =>
 if a0 != 0 then
  some ((loops_piece.mk ([] : (List api_Loop)) ([] : (List Int)) ([] : (List Int)) ([] : (List (Int × Int))) 0), a0)
 else
  Option.bind (α := List api_Loop) (
   (whileO (loops_of_l1 p0) (0, ([] : List api_Loop))).bind fun a4 =>
    some a4) fun a5 =>
  Option.bind (α := (List api_Loop × List Int × List Int × List (Int × Int) × Int)) (
   (whileO (loops_of_l3 p0) (0, a5, ([0, p0.Start] : List Int), ([] : List Int), ([] : List (Int × Int)), 0)).bind fun (a6, a7, a8, a9, aa) =>
    some (a6, a7, a8, a9, aa)) fun (ab, ac, ae, af, ag) =>
  some ((loops_piece.mk ab ac ae af ag), 0)
def c_loops_of_val (r : (loops_piece × Int)) (x : Value) : Value := .tuple #[x, .int .i64 r.2]
def c_loops_of_D (r : (loops_piece × Int)) (x : Value) : List Fact := [fRep r_loops_piece x r.1]
theorem c_loops_of (E : Nat → Prop) (w0 : World) (p0 : api_Chart) (v0 : Value) (r : (loops_piece × Int)) (h : F_loops_of p0 = some r) (S : St0 E [] w0 w0 [] [fRep r_api_Chart (v0) p0]) :
 Calls Try.prog 33 #[v0] w0 (Ret (X := Value) E [] w0 (c_loops_of_val r) (fun _ => []) (c_loops_of_D r)) := by
 unfold F_loops_of at h
 obtain ⟨u1, rfl, hu2⟩ := S.know (i := 0) (e := fRep r_api_Chart (v0) p0) rfl
 have S := S.learn (fRep (rL r_api_Row) u1 p0.Rows) hu2
 obtain ⟨ad3, cp4, _, rfl, _⟩ := hu2
 refine sEnter (args := [.agg #[iv p0.Start, .slice ad3 p0.Rows.length cp4]]) 69 Try.func33 rfl rfl (by simp) S (fun a S => ?_)
 refine sSeq (fun K5 hK5 => sRegion (sBox (v := .agg #[iv p0.Start, .slice ad3 p0.Rows.length cp4]) S (wN rfl) rfl rfl [iv p0.Start, .slice ad3 p0.Rows.length cp4] rfl rfl (lb rfl) fun a b6 w S => ?_))
 refine sAlloc (.agg #[.slice none 0 0, .slice none 0 0, .slice none 0 0, .slice none 0 0, iv 0]) S (wN rfl) rfl rfl [.slice none 0 0, .slice none 0 0, .slice none 0 0, .slice none 0 0, iv 0] rfl rfl (lb rfl) fun a b7 w S => ?_
 refine sN S fun a S => ?_
 refine lT (hK5 _ _ (sSeq (fun K8 hK8 => sSeq (fun K9 hK9 => sRegion (sLoadN (p := b6) (off := 0) (T := 24) (vs := [iv p0.Start, .slice ad3 p0.Rows.length cp4]) 1 [iv p0.Start, .slice ad3 p0.Rows.length cp4] S (wN rfl) rfl rfl rfl rfl rfl rfl rfl (lb rfl) fun a S => ?_)))))
 obtain ⟨bV, cu, h⟩ := bS h
 have S1 := S.mem
 refine sCq [.agg #[iv p0.Start, .slice ad3 p0.Rows.length cp4]] (iv bV) S callee39 (S1.quiet [1] rfl) (fun E1 w1 S1 => c_chart_Check E1 w1 p0 (.agg #[iv p0.Start, .slice ad3 p0.Rows.length cp4]) bV cu S1) fun a w S => ?_
 refine sN S fun a S => ?_
 refine lT (hK9 _ _ (sSeq (fun db cv => sRegion (sM S fun a S => ?_))))
 refine sBin _ S (wN rfl) rfl rfl rfl (bNe _ _ _ _ .i64 bV 0) rfl (lb rfl) fun a S => ?_
 refine lT (cv _ _ ?_)
 rcases iS h with ⟨bI, h⟩ | ⟨bI, h⟩
 ·refine sCondT S rfl bI ?_
  refine sSeq (fun dc cw => sRegion (sBuild [] [.slice none 0 0, .slice none 0 0, .slice none 0 0, .slice none 0 0, iv 0] S (wN rfl) rfl rfl rfl rfl (lb rfl) fun a S => ?_))
  refine sM S fun a S => ?_
  refine sStore (p := b7) (off := 0) (T := 73) (vs := [.slice none 0 0, .slice none 0 0, .slice none 0 0, .slice none 0 0, iv 0]) (v := .agg #[.slice none 0 0, .slice none 0 0, .slice none 0 0, .slice none 0 0, iv 0]) 0 [.slice none 0 0, .slice none 0 0, .slice none 0 0, .slice none 0 0, iv 0] S (wN rfl) rfl rfl rfl rfl rfl rfl rfl (by simp) rfl fun a w S => ?_
  refine sN S fun a S => ?_
  refine lT (cw _ _ ?_)
  obtain rfl := tS h
  have S := S.learn (fRep (rL r_api_Loop) (.slice none 0 0) ([] : (List api_Loop))) (rL_nil _ _ _)
  have S := S.learn (fRep (rL (rI .i64)) (.slice none 0 0) ([] : (List Int))) (rL_nil _ _ _)
  have S := S.learn (fRep (rL r_A2_Int) (.slice none 0 0) ([] : (List (Int × Int)))) (rL_nil _ _ _)
  have S := S.learn (fRep r_loops_piece (.agg #[.slice none 0 0, .slice none 0 0, .slice none 0 0, .slice none 0 0, iv 0]) (loops_piece.mk ([] : (List api_Loop)) ([] : (List Int)) ([] : (List Int)) ([] : (List (Int × Int))) 0)) ⟨_, _, _, _, rfl, S.mem.know (i := 2) (e := fRep (rL r_api_Loop) (.slice none 0 0) ([] : (List api_Loop))) rfl, S.mem.know (i := 1) (e := fRep (rL (rI .i64)) (.slice none 0 0) ([] : (List Int))) rfl, S.mem.know (i := 1) (e := fRep (rL (rI .i64)) (.slice none 0 0) ([] : (List Int))) rfl, S.mem.know (i := 0) (e := fRep (rL r_A2_Int) (.slice none 0 0) ([] : (List (Int × Int)))) rfl⟩
  exact wp_ret (rThen (sRet (.tuple #[.agg #[.slice none 0 0, .slice none 0 0, .slice none 0 0, .slice none 0 0, iv 0], iv bV]) S (rsl2 rfl (rvN (c := 2) (t := 73) (T := 73) (p := b7) 0 [.slice none 0 0, .slice none 0 0, .slice none 0 0, .slice none 0 0, iv 0] S rfl rfl rfl rfl) (rvT (t := 3) (v := iv bV) S rfl)) ⟨(.agg #[.slice none 0 0, .slice none 0 0, .slice none 0 0, .slice none 0 0, iv 0]), rfl, S.mem.sel [] [0] (by decide) rfl rfl⟩))
 refine sCondF S rfl bI ?_
 refine wp_skip (leafT (hK8 _ _ ?_))
 obtain ⟨cT, h, cU⟩ := bS h
 refine sCut (fun a w => ∃ bR, bR = cT ∧ ∃ bp, ∃ bq, St [] E [] w0 69 a w [(1, .pointer (some ⟨b6, 0, none⟩)), (2, .pointer (some ⟨b7, 0, none⟩))] [eBox b6 24 [iv p0.Start, .slice ad3 p0.Rows.length cp4], eBox b7 73 [.slice bp bR.length bq, .slice none 0 0, .slice none 0 0, .slice none 0 0, iv 0], eRow r_api_Loop 48 (.slice bp bR.length bq) bR] [fRep (rL r_api_Row) (.slice ad3 p0.Rows.length cp4) p0.Rows]) ?_ (fun a w hI => ?_)
 ·refine sSeq (fun de cx => sRegion (sField (b := b6) (off := 0) 0 0 S (wN rfl) rfl rfl rfl rfl rfl (lb rfl) fun a S => ?_))
  refine sLoad1 1 (iv p0.Start) S (wN rfl) rfl rfl rfl rfl rfl rfl (lb rfl) fun a S => ?_
  refine sM S fun a S => ?_
  refine lT (cx _ _ (wp_block ?_))
  have S := S.nilRow r_api_Loop 48 (α := api_Loop)
  obtain ⟨df, hl, cV⟩ := bS h
  refine sLoop hl (fun s0 a w => match s0 with | (aK, bx) => ∃ aR, ∃ aS, St [] E [] w0 69 a w [(1, .pointer (some ⟨b6, 0, none⟩)), (2, .pointer (some ⟨b7, 0, none⟩)), (18, iv p0.Start), (19, iv aK)] [eBox b6 24 [iv p0.Start, .slice ad3 p0.Rows.length cp4], eBox b7 73 [.slice aR bx.length aS, .slice none 0 0, .slice none 0 0, .slice none 0 0, iv 0], eRow r_api_Loop 48 (.slice aR bx.length aS) bx] [fRep (rL r_api_Row) (.slice ad3 p0.Rows.length cp4) p0.Rows]) ⟨none, 0, S.fix [2, 1, 0] [0] (by decide) rfl rfl rfl⟩ ?_
  clear hl h
  intro s0 a w c0 hI h cy
  obtain ⟨aK, bx⟩ := s0
  unfold loops_of_l1 at h
  dsimp only at h hI
  obtain ⟨aR, aS, S⟩ := hI
  refine sSeq (fun dg cz => sRegion (sBin _ S (wN rfl) rfl rfl rfl (bLt _ _ _ _ .i64 aK p0.Start) rfl (lb rfl) fun a S => ?_))
  refine lT (cz _ _ (sSeq (fun dh cA => ?_)))
  rcases iS h with ⟨bJ, h⟩ | ⟨bJ, h⟩
  rotate_left
  ·refine sCondF S rfl bJ ?_
   obtain rfl := tS h
   obtain rfl := cy _ rfl
   have h := cV
   try dsimp only at h
   exact wp_exit (xThen (xThen (xHit (leafT (⟨bx, Option.some.inj h, aR, aS, S.fix [0, 1, 2] [0] (by decide) rfl rfl rfl⟩)))))
  refine sCondT S rfl bJ ?_
  refine wp_skip (leafT (cA _ _ ?_))
  refine sSeq (fun di cB => wp_block ?_)
  refine sSeq (fun dj cC => sRegion (sM S fun a S => ?_))
  refine sN S fun a S => ?_
  refine lT (cC _ _ (sRegion (sField (b := b7) (off := 0) 0 0 S (wN rfl) rfl rfl rfl rfl rfl (lb rfl) fun a S => ?_)))
  refine sLoad1 1 (.slice aR bx.length aS) S (wN rfl) rfl rfl rfl rfl rfl rfl (lb rfl) fun a S => ?_
  refine sM S fun a S => ?_
  refine sBuild [(1, iv aK)] [iv 0, iv aK, .slice none 0 0, .bool false] S (wN rfl) rfl rfl rfl rfl (lb rfl) fun a S => ?_
  have S := S.learn (fRep (rL (rI .i64)) (.slice none 0 0) ([] : (List Int))) (rL_nil _ _ _)
  have S := S.learn (fRep r_api_Loop (.agg #[iv 0, iv aK, .slice none 0 0, .bool false]) (api_Loop.mk 0 aK ([] : (List Int)) false)) ⟨_, rfl, S.mem.know (i := 0) (e := fRep (rL (rI .i64)) (.slice none 0 0) ([] : (List Int))) rfl⟩
  refine sLit (r := r_api_Loop) (T := 48) (xs := [(api_Loop.mk 0 aK ([] : (List Int)) false)]) [(0, .agg #[iv 0, iv aK, .slice none 0 0, .bool false])] 1 [.agg #[iv 0, iv aK, .slice none 0 0, .bool false]] [iv 0, iv aK, .slice none 0 0, .bool false] (.agg #[iv 0, iv 0, .slice none 0 0, .bool false]) 48 S (wN rfl) rfl rfl Try.underlying26 rfl (by decide) (by decide) (by kernel_rfl) rfl (fun E1 w1 hE => All.cons (r_api_Loop.mono hE (S.mem.know (i := 0) (e := fRep r_api_Loop (.agg #[iv 0, iv aK, .slice none 0 0, .bool false]) (api_Loop.mk 0 aK ([] : (List Int)) false)) rfl)) (All.nil _ _ _)) rfl rfl (lb rfl) fun a w cD cE S => ?_
  obtain ⟨cF, cG, h⟩ := bS h
  refine sApp (r := r_api_Loop) (T := 48) (xs := bx) (ys := [(api_Loop.mk 0 aK ([] : (List Int)) false)]) (v := .slice aR bx.length aS) (u := .slice cD [(api_Loop.mk 0 aK ([] : (List Int)) false)].length cE) 3 (.agg #[iv 0, iv 0, .slice none 0 0, .bool false]) 48 S (wN rfl) rfl Try.underlying26 rfl rfl (by decide) rfl rfl rfl (src_R (T := 48) 0 S.mem rfl) cG rfl (lb rfl) fun a w bK bL S => ?_
  refine sField (b := b7) (off := 0) 0 0 S (wN rfl) rfl rfl rfl rfl rfl (lb rfl) fun a S => ?_
  refine sStore (p := b7) (off := 0) (T := 73) (vs := [.slice aR bx.length aS, .slice none 0 0, .slice none 0 0, .slice none 0 0, iv 0]) (v := .slice bK cF.length bL) 3 [.slice bK cF.length bL] S (wN rfl) rfl rfl rfl rfl rfl rfl rfl (by simp) rfl fun a w S => ?_
  refine leafL (leafB (leafT (cB _ _ ?_)))
  refine sRegion (sBin _ S (wN rfl) rfl rfl rfl (bAdd _ _ _ _ aK 1) rfl (lb rfl) fun a S => ?_)
  refine sM S fun a S => ?_
  exact lT (⟨(w64 (aK + 1), cF), (Option.some.inj h).symm, ⟨bK, bL, S.fix [3, 0, 1] [2] (by decide) rfl rfl rfl⟩⟩)
 obtain ⟨bR, rfl, bp, bq, S⟩ := hI
 have h := cU
 try dsimp only at h
 refine sSeq (fun dk cH => sRegion (sField (b := b6) (off := 0) 0 0 S (wN rfl) rfl rfl rfl rfl rfl (lb rfl) fun a S => ?_))
 refine sLoad1 0 (iv p0.Start) S (wN rfl) rfl rfl rfl rfl rfl rfl (lb rfl) fun a S => ?_
 refine sLit (r := (rI .i64)) (T := 3) (xs := ([0, p0.Start] : List Int)) [(0, iv 0), (1, iv p0.Start)] 2 [iv 0, iv p0.Start] [iv 0, iv p0.Start] (iv 0) 8 S (wN rfl) rfl rfl Try.underlying32 rfl (by decide) (by decide) (by kernel_rfl) rfl (fun E1 w1 hE => All.cons rfl (All.cons rfl (All.nil _ _ _))) rfl rfl (lb rfl) fun a w bM bN S => ?_
 refine sField (b := b7) (off := 0) 1 1 S (wN rfl) rfl rfl rfl rfl rfl (lb rfl) fun a S => ?_
 refine sStore (p := b7) (off := 1) (T := 73) (vs := [.slice bp bR.length bq, .slice none 0 0, .slice none 0 0, .slice none 0 0, iv 0]) (v := .slice bM ([0, p0.Start] : List Int).length bN) 2 [.slice bM ([0, p0.Start] : List Int).length bN] S (wN rfl) rfl rfl rfl rfl rfl rfl rfl (by simp) rfl fun a w S => ?_
 refine lT (cH _ _ ?_)
 obtain ⟨cW, h, cX⟩ := bS h
 refine sCut (fun a w => ∃ ax, ∃ ay, ∃ az, ∃ aA, ∃ bm, (ax, ay, az, aA, bm) = cW ∧ ∃ a6, ∃ a7, ∃ a8, ∃ a9, ∃ aa, ∃ ab, ∃ ac, ∃ ae, St [] E [] w0 69 a w [(2, .pointer (some ⟨b7, 0, none⟩))] [eBox b7 73 [.slice a6 ax.length a7, .slice a8 ay.length a9, .slice aa az.length ab, .slice ac aA.length ae, iv bm], eRow r_api_Loop 48 (.slice a6 ax.length a7) ax, eRow (rI .i64) 3 (.slice a8 ay.length a9) ay, eRow (rI .i64) 3 (.slice aa az.length ab) az, eRow r_A2_Int 49 (.slice ac aA.length ae) aA] []) ?_ (fun a w hI => ?_)
 rotate_left
 ·obtain ⟨ax, ay, az, aA, bm, rfl, a6, a7, a8, a9, aa, ab, ac, ae, S⟩ := hI
  have h := cX
  try dsimp only at h
  refine sSeq (fun cY bW => sRegion (sLoadN (p := b7) (off := 0) (T := 73) (vs := [.slice a6 ax.length a7, .slice a8 ay.length a9, .slice aa az.length ab, .slice ac aA.length ae, iv bm]) 0 [.slice a6 ax.length a7, .slice a8 ay.length a9, .slice aa az.length ab, .slice ac aA.length ae, iv bm] S (wN rfl) rfl rfl rfl rfl rfl rfl rfl (lb rfl) fun a S => ?_))
  refine sStore (p := b7) (off := 0) (T := 73) (vs := [.slice a6 ax.length a7, .slice a8 ay.length a9, .slice aa az.length ab, .slice ac aA.length ae, iv bm]) (v := .agg #[.slice a6 ax.length a7, .slice a8 ay.length a9, .slice aa az.length ab, .slice ac aA.length ae, iv bm]) 0 [.slice a6 ax.length a7, .slice a8 ay.length a9, .slice aa az.length ab, .slice ac aA.length ae, iv bm] S (wN rfl) rfl rfl rfl rfl rfl rfl rfl (by simp) rfl fun a w S => ?_
  refine sN S fun a S => ?_
  refine lT (bW _ _ ?_)
  obtain rfl := tS h
  have S := S.shutR (r := r_api_Loop) (T := 48) (v := .slice a6 ax.length a7) (xs := ax) 1 rfl
  have S := S.shutR (r := (rI .i64)) (T := 3) (v := .slice a8 ay.length a9) (xs := ay) 1 rfl
  have S := S.shutR (r := (rI .i64)) (T := 3) (v := .slice aa az.length ab) (xs := az) 1 rfl
  have S := S.shutR (r := r_A2_Int) (T := 49) (v := .slice ac aA.length ae) (xs := aA) 1 rfl
  have S := S.learn (fRep r_loops_piece (.agg #[.slice a6 ax.length a7, .slice a8 ay.length a9, .slice aa az.length ab, .slice ac aA.length ae, iv bm]) (loops_piece.mk ax ay az aA bm)) ⟨_, _, _, _, rfl, S.mem.know (i := 3) (e := fRep (rL r_api_Loop) (.slice a6 ax.length a7) ax) rfl, S.mem.know (i := 2) (e := fRep (rL (rI .i64)) (.slice a8 ay.length a9) ay) rfl, S.mem.know (i := 1) (e := fRep (rL (rI .i64)) (.slice aa az.length ab) az) rfl, S.mem.know (i := 0) (e := fRep (rL r_A2_Int) (.slice ac aA.length ae) aA) rfl⟩
  exact wp_ret (sRet (.tuple #[.agg #[.slice a6 ax.length a7, .slice a8 ay.length a9, .slice aa az.length ab, .slice ac aA.length ae, iv bm], iv 0]) S (rsl2 rfl (rvN (c := 2) (t := 73) (T := 73) (p := b7) 0 [.slice a6 ax.length a7, .slice a8 ay.length a9, .slice aa az.length ab, .slice ac aA.length ae, iv bm] S rfl rfl rfl rfl) (rvT (t := 3) (v := iv 0) S rfl)) ⟨(.agg #[.slice a6 ax.length a7, .slice a8 ay.length a9, .slice aa az.length ab, .slice ac aA.length ae, iv bm]), rfl, S.mem.sel [] [0] (by decide) rfl rfl⟩)
 refine sSeq (fun dl cI => sRegion (sField (b := b6) (off := 0) 1 1 S (wN rfl) rfl rfl rfl rfl rfl (lb rfl) fun a S => ?_))
 refine sLoad1 2 (.slice ad3 p0.Rows.length cp4) S (wN rfl) rfl rfl rfl rfl rfl rfl (lb rfl) fun a S => ?_
 refine sLen S (wN rfl) rfl Try.underlying22 rfl rfl (lb rfl) fun a S => ?_
 refine sM S fun a S => ?_
 refine lT (cI _ _ (wp_block ?_))
 have S := S.nilRow (rI .i64) 3 (α := Int)
 have S := S.nilRow r_A2_Int 49 (α := (Int × Int))
 obtain ⟨dm, hl, cZ⟩ := bS h
 refine sLoop hl (fun s0 a w => match s0 with | (bg, bE, bF, bG, bH, ct) => ∃ aT, ∃ aU, ∃ aV, ∃ aW, ∃ aX, ∃ aZ, ∃ ba, ∃ bb, St [] E [] w0 69 a w [(1, .pointer (some ⟨b6, 0, none⟩)), (2, .pointer (some ⟨b7, 0, none⟩)), (36, iv (p0.Rows.length : Int)), (37, iv bg)] [eBox b6 24 [iv p0.Start, .slice ad3 p0.Rows.length cp4], eBox b7 73 [.slice aT bE.length aU, .slice aV bF.length aW, .slice aX bG.length aZ, .slice ba bH.length bb, iv ct], eRow r_api_Loop 48 (.slice aT bE.length aU) bE, eRow (rI .i64) 3 (.slice aV bF.length aW) bF, eRow (rI .i64) 3 (.slice aX bG.length aZ) bG, eRow r_A2_Int 49 (.slice ba bH.length bb) bH] [fRep (rL r_api_Row) (.slice ad3 p0.Rows.length cp4) p0.Rows]) ⟨bp, bq, bM, bN, none, 0, none, 0, S.fix [4, 2, 5, 3, 1, 0] [0] (by decide) rfl rfl rfl⟩ ?_
 clear hl h
 intro s0 a w c0 hI h cJ
 obtain ⟨bg, bE, bF, bG, bH, ct⟩ := s0
 unfold loops_of_l3 at h
 dsimp only at h hI
 obtain ⟨aT, aU, aV, aW, aX, aZ, ba, bb, S⟩ := hI
 refine sSeq (fun dn cK => sRegion (sBin _ S (wN rfl) rfl rfl rfl (bLt _ _ _ _ .i64 bg (p0.Rows.length : Int)) rfl (lb rfl) fun a S => ?_))
 refine lT (cK _ _ (sSeq (fun dp cL => ?_)))
 rcases iS h with ⟨bO, h⟩ | ⟨bO, h⟩
 rotate_left
 ·refine sCondF S rfl bO ?_
  obtain rfl := tS h
  obtain rfl := cJ _ rfl
  have h := cZ
  try dsimp only at h
  exact wp_exit (xThen (xThen (xHit (leafT (⟨bE, bF, bG, bH, ct, Option.some.inj h, aT, aU, aV, aW, aX, aZ, ba, bb, S.fix [1, 2, 3, 4, 5] [] (by decide) rfl rfl rfl⟩)))))
 refine sCondT S rfl bO ?_
 refine wp_skip (leafT (cL _ _ ?_))
 obtain ⟨cM, h, cN⟩ := bS h
 refine sCut (fun a w => ∃ bT, ∃ bU, ∃ bn, ∃ bo, ∃ bz, (bT, bU, bn, bo, bz) = cM ∧ ∃ bA, ∃ bB, ∃ bC, ∃ bD, ∃ bh, ∃ bi, ∃ bj, ∃ bl, St [] E [] w0 69 a w [(1, .pointer (some ⟨b6, 0, none⟩)), (2, .pointer (some ⟨b7, 0, none⟩)), (36, iv (p0.Rows.length : Int)), (37, iv bg)] [eBox b6 24 [iv p0.Start, .slice ad3 p0.Rows.length cp4], eBox b7 73 [.slice bA bT.length bB, .slice bC bU.length bD, .slice bh bn.length bi, .slice bj bo.length bl, iv bz], eRow r_api_Loop 48 (.slice bA bT.length bB) bT, eRow (rI .i64) 3 (.slice bC bU.length bD) bU, eRow (rI .i64) 3 (.slice bh bn.length bi) bn, eRow r_A2_Int 49 (.slice bj bo.length bl) bo] [fRep (rL r_api_Row) (.slice ad3 p0.Rows.length cp4) p0.Rows]) ?_ (fun a w hI => ?_)
 rotate_left
 ·obtain ⟨bT, bU, bn, bo, bz, rfl, bA, bB, bC, bD, bh, bi, bj, bl, S⟩ := hI
  have h := cN
  try dsimp only at h
  refine sRegion (sBin _ S (wN rfl) rfl rfl rfl (bAdd _ _ _ _ bg 1) rfl (lb rfl) fun a S => ?_)
  refine sM S fun a S => ?_
  exact lT (⟨(w64 (bg + 1), bT, bU, bn, bo, bz), (Option.some.inj h).symm, ⟨bA, bB, bC, bD, bh, bi, bj, bl, S.fix [0, 1, 2, 3, 4, 5] [0] (by decide) rfl rfl rfl⟩⟩)
 refine wp_block ?_
 refine sSeq (fun d3 bX => sRegion (sM S fun a S => ?_))
 refine sN S fun a S => ?_
 refine lT (bX _ _ (sSeq (fun d4 bY => sRegion (sLoadN (p := b6) (off := 0) (T := 24) (vs := [iv p0.Start, .slice ad3 p0.Rows.length cp4]) 0 [iv p0.Start, .slice ad3 p0.Rows.length cp4] S (wN rfl) rfl rfl rfl rfl rfl rfl rfl (lb rfl) fun a S => ?_))))
 refine sM S fun a S => ?_
 obtain ⟨a5, bZ, h⟩ := bS h
 have S := S.learn (fRep r_api_Chart (.agg #[iv p0.Start, .slice ad3 p0.Rows.length cp4]) p0) ⟨_, rfl, S.mem.know (i := 0) (e := fRep (rL r_api_Row) (.slice ad3 p0.Rows.length cp4) p0.Rows) rfl⟩
 refine sCall (X := Value) (f := 43) (vs := [.agg #[iv p0.Start, .slice ad3 p0.Rows.length cp4], iv bg]) (val := c_chart_Face_val a5) (B' := fun _ => []) (D' := c_chart_Face_D a5) [] [eBox b6 24 [iv p0.Start, .slice ad3 p0.Rows.length cp4], eBox b7 73 [.slice aT bE.length aU, .slice aV bF.length aW, .slice aX bG.length aZ, .slice ba bH.length bb, iv ct], eRow r_api_Loop 48 (.slice aT bE.length aU) bE, eRow (rI .i64) 3 (.slice aV bF.length aW) bF, eRow (rI .i64) 3 (.slice aX bG.length aZ) bG, eRow r_A2_Int 49 (.slice ba bH.length bb) bH] [fRep r_api_Chart (.agg #[iv p0.Start, .slice ad3 p0.Rows.length cp4]) p0] [0, 1, 2, 3, 4, 5] [0] S (wN rfl) rfl callee43 rfl (by decide) rfl rfl (fun E1 w1 S1 => c_chart_Face E1 w1 p0 (.agg #[iv p0.Start, .slice ad3 p0.Rows.length cp4]) bg a5 bZ S1) rfl (lb rfl) fun cO a w S => ?_
 obtain ⟨ap, aq, _, rfl, _⟩ := S.mem.know (i := 0) (e := fRep (rL r_api_Stitch) (cO) a5.1) rfl
 refine sM S fun a S => ?_
 refine sExtract (vs := [.slice ap a5.1.length aq, iv a5.2]) (.slice ap a5.1.length aq) S (wN rfl) rfl rfl rfl rfl (lb rfl) fun a S => ?_
 refine sExtract (vs := [.slice ap a5.1.length aq, iv a5.2]) (iv a5.2) S (wN rfl) rfl rfl rfl rfl (lb rfl) fun a S => ?_
 refine sN S fun a S => ?_
 refine sN S fun a S => ?_
 refine lT (bY _ _ ?_)
 obtain ⟨cP, h, cQ⟩ := bS h
 refine sCut (fun a w => ∃ af, ∃ aC, ∃ bc, ∃ bf, ∃ br, (af, aC, bc, bf, br) = cP ∧ ∃ ar, ∃ au, ∃ av, ∃ aw, ∃ aL, ∃ aM, ∃ aO, ∃ aP, St [] E [] w0 69 a w [(1, .pointer (some ⟨b6, 0, none⟩)), (2, .pointer (some ⟨b7, 0, none⟩)), (36, iv (p0.Rows.length : Int)), (37, iv bg)] [eBox b6 24 [iv p0.Start, .slice ad3 p0.Rows.length cp4], eBox b7 73 [.slice ar af.length au, .slice av aC.length aw, .slice aL bc.length aM, .slice aO bf.length aP, iv br], eRow r_api_Loop 48 (.slice ar af.length au) af, eRow (rI .i64) 3 (.slice av aC.length aw) aC, eRow (rI .i64) 3 (.slice aL bc.length aM) bc, eRow r_A2_Int 49 (.slice aO bf.length aP) bf] [fRep (rL r_api_Row) (.slice ad3 p0.Rows.length cp4) p0.Rows]) ?_ (fun a w hI => ?_)
 rotate_left
 ·obtain ⟨af, aC, bc, bf, br, rfl, ar, au, av, aw, aL, aM, aO, aP, S⟩ := hI
  have h := cQ
  try dsimp only at h
  refine sRegion (sField (b := b7) (off := 0) 1 1 S (wN rfl) rfl rfl rfl rfl rfl (lb rfl) fun a S => ?_)
  refine sLoad1 1 (.slice av aC.length aw) S (wN rfl) rfl rfl rfl rfl rfl rfl (lb rfl) fun a S => ?_
  refine sField (b := b7) (off := 0) 0 0 S (wN rfl) rfl rfl rfl rfl rfl (lb rfl) fun a S => ?_
  refine sLoad1 1 (.slice ar af.length au) S (wN rfl) rfl rfl rfl rfl rfl rfl (lb rfl) fun a S => ?_
  refine sLen S (wN rfl) rfl Try.underlying26 rfl rfl (lb rfl) fun a S => ?_
  refine sLit (r := (rI .i64)) (T := 3) (xs := ([(af.length : Int)] : List Int)) [(0, iv (af.length : Int))] 1 [iv (af.length : Int)] [iv (af.length : Int)] (iv 0) 8 S (wN rfl) rfl rfl Try.underlying32 rfl (by decide) (by decide) (by kernel_rfl) rfl (fun E1 w1 hE => All.cons rfl (All.nil _ _ _)) rfl rfl (lb rfl) fun a w c5 c6 S => ?_
  obtain ⟨bP, c7, h⟩ := bS h
  refine sApp (r := (rI .i64)) (T := 3) (xs := aC) (ys := ([(af.length : Int)] : List Int)) (v := .slice av aC.length aw) (u := .slice c5 ([(af.length : Int)] : List Int).length c6) 4 (iv 0) 8 S (wN rfl) rfl Try.underlying32 rfl rfl (by decide) rfl rfl rfl (src_R (T := 3) 0 S.mem rfl) c7 rfl (lb rfl) fun a w bt bu S => ?_
  refine sField (b := b7) (off := 0) 1 1 S (wN rfl) rfl rfl rfl rfl rfl (lb rfl) fun a S => ?_
  refine sStore (p := b7) (off := 1) (T := 73) (vs := [.slice ar af.length au, .slice av aC.length aw, .slice aL bc.length aM, .slice aO bf.length aP, iv br]) (v := .slice bt bP.length bu) 3 [.slice bt bP.length bu] S (wN rfl) rfl rfl rfl rfl rfl rfl rfl (by simp) rfl fun a w S => ?_
  exact leafL (leafB (leafT (⟨af, bP, bc, bf, br, Option.some.inj h, ar, au, bt, bu, aL, aM, aO, aP, S.fix [3, 0, 4, 1, 5, 6] [0] (by decide) rfl rfl rfl⟩)))
 refine sSeq (fun d5 c8 => sRegion (sM S fun a S => ?_))
 refine sLen S (wN rfl) rfl Try.underlying62 rfl rfl (lb rfl) fun a S => ?_
 refine sM S fun a S => ?_
 refine lT (c8 _ _ (wp_block ?_))
 obtain ⟨d6, hl, cR⟩ := bS h
 refine sLoop hl (fun s0 a w => match s0 with | (aQ, aG, aH, aI, aJ, bv) => ∃ ag, ∃ ah, ∃ ai, ∃ aj, ∃ ak, ∃ al, ∃ am, ∃ ao, St [] E [] w0 69 a w [(1, .pointer (some ⟨b6, 0, none⟩)), (2, .pointer (some ⟨b7, 0, none⟩)), (6, iv bg), (36, iv (p0.Rows.length : Int)), (37, iv bg), (46, .slice ap a5.1.length aq), (47, iv (a5.1.length : Int)), (48, iv aQ)] [eBox b6 24 [iv p0.Start, .slice ad3 p0.Rows.length cp4], eBox b7 73 [.slice ag aG.length ah, .slice ai aH.length aj, .slice ak aI.length al, .slice am aJ.length ao, iv bv], eRow r_api_Loop 48 (.slice ag aG.length ah) aG, eRow (rI .i64) 3 (.slice ai aH.length aj) aH, eRow (rI .i64) 3 (.slice ak aI.length al) aI, eRow r_A2_Int 49 (.slice am aJ.length ao) aJ] [fRep (rL r_api_Stitch) (.slice ap a5.1.length aq) a5.1, fRep (rL r_api_Row) (.slice ad3 p0.Rows.length cp4) p0.Rows]) ⟨aT, aU, aV, aW, aX, aZ, ba, bb, S.fix [0, 1, 2, 3, 4, 5] [0, 2] (by decide) rfl rfl rfl⟩ ?_
 clear hl h
 intro s0 a w c0 hI h c9
 obtain ⟨aQ, aG, aH, aI, aJ, bv⟩ := s0
 unfold loops_of_l2 at h
 dsimp only at h hI
 obtain ⟨ag, ah, ai, aj, ak, al, am, ao, S⟩ := hI
 refine sSeq (fun d7 ca => sRegion (sBin _ S (wN rfl) rfl rfl rfl (bLt _ _ _ _ .i64 aQ (a5.1.length : Int)) rfl (lb rfl) fun a S => ?_))
 refine lT (ca _ _ (sSeq (fun d8 cb => ?_)))
 rcases iS h with ⟨bw, h⟩ | ⟨bw, h⟩
 rotate_left
 ·refine sCondF S rfl bw ?_
  obtain rfl := tS h
  obtain rfl := c9 _ rfl
  have h := cR
  try dsimp only at h
  exact wp_exit (xThen (xThen (xHit (leafT (⟨aG, aH, aI, aJ, bv, Option.some.inj h, ag, ah, ai, aj, ak, al, am, ao, S.fix [0, 1, 2, 3, 4, 5] [1] (by decide) rfl rfl rfl⟩)))))
 refine sCondT S rfl bw ?_
 refine wp_skip (leafT (cb _ _ ?_))
 refine sSeq (fun d9 cc => wp_block ?_)
 refine sSeq (fun da cd => sRegion (sM S fun a S => ?_))
 obtain ⟨a0, ce, h⟩ := bS h
 obtain ⟨cf, cg, S⟩ := pIdx (P := Try.prog) (r := r_api_Stitch) (v := .slice ap a5.1.length aq) (xs := a5.1) (j := aQ) 62 61 0 S Try.underlying62 rfl rfl ce
 refine sIdxV S (wN rfl) rfl rfl rfl cg rfl (lb rfl) fun a S => ?_
 obtain ⟨ci, S⟩ := pLoad (r := r_api_Stitch) (q := cf) (x := a0) 0 S rfl
 obtain rfl : ci = .agg #[.int .u8 a0.Kind, .bool a0.Purl, iv a0.A, iv a0.B] := S.mem.know (i := 1) (e := fRep r_api_Stitch (ci) a0) rfl
 refine sLoadVN (vq := cf) 0 [.int .u8 a0.Kind, .bool a0.Purl, iv a0.A, iv a0.B] S (wN rfl) rfl rfl rfl rfl rfl rfl (lb rfl) fun a S => ?_
 refine sAlloc (.agg #[.int .u8 0, .bool false, iv 0, iv 0]) S (wN rfl) rfl rfl [.int .u8 0, .bool false, iv 0, iv 0] rfl rfl (lb rfl) fun a bQ w S => ?_
 refine sN S fun a S => ?_
 refine sStore (p := bQ) (off := 0) (T := 61) (vs := [.int .u8 0, .bool false, iv 0, iv 0]) (v := .agg #[.int .u8 a0.Kind, .bool a0.Purl, iv a0.A, iv a0.B]) 0 [.int .u8 a0.Kind, .bool a0.Purl, iv a0.A, iv a0.B] S (wN rfl) rfl rfl rfl rfl rfl rfl rfl (by simp) rfl fun a w S => ?_
 refine lT (cd _ _ (sRegion (sM S fun a S => ?_)))
 refine sBin _ S (wN rfl) rfl rfl rfl (bAdd _ _ _ _ bg 1) rfl (lb rfl) fun a S => ?_
 refine sM S fun a S => ?_
 refine sLoadN (p := bQ) (off := 0) (T := 61) (vs := [.int .u8 a0.Kind, .bool a0.Purl, iv a0.A, iv a0.B]) 0 [.int .u8 a0.Kind, .bool a0.Purl, iv a0.A, iv a0.B] S (wN rfl) rfl rfl rfl rfl rfl rfl rfl (lb rfl) fun a S => ?_
 obtain ⟨a4, cj, h⟩ := bS h
 refine sCall (X := Option Addr × Nat × Option Addr × Nat × Option Addr × Nat × Option Addr × Nat) (f := 44) (vs := [.pointer (some ⟨b7, 0, none⟩), iv (w64 (bg + 1)), iv aQ, .agg #[.int .u8 a0.Kind, .bool a0.Purl, iv a0.A, iv a0.B]]) (val := fun _ => .tuple #[]) (B' := fun x => [eBox b7 73 [.slice x.1 a4.loops.length x.2.1, .slice x.2.2.1 a4.rows.length x.2.2.2.1, .slice x.2.2.2.2.1 a4.bound.length x.2.2.2.2.2.1, .slice x.2.2.2.2.2.2.1 a4.cross.length x.2.2.2.2.2.2.2, iv a4.next], eRow r_api_Loop 48 (.slice x.1 a4.loops.length x.2.1) a4.loops, eRow (rI .i64) 3 (.slice x.2.2.1 a4.rows.length x.2.2.2.1) a4.rows, eRow (rI .i64) 3 (.slice x.2.2.2.2.1 a4.bound.length x.2.2.2.2.2.1) a4.bound, eRow r_A2_Int 49 (.slice x.2.2.2.2.2.2.1 a4.cross.length x.2.2.2.2.2.2.2) a4.cross]) (D' := fun _ => []) [eBox b7 73 [.slice ag aG.length ah, .slice ai aH.length aj, .slice ak aI.length al, .slice am aJ.length ao, iv bv], eRow r_api_Loop 48 (.slice ag aG.length ah) aG, eRow (rI .i64) 3 (.slice ai aH.length aj) aH, eRow (rI .i64) 3 (.slice ak aI.length al) aI, eRow r_A2_Int 49 (.slice am aJ.length ao) aJ] [eBox bQ 61 [.int .u8 a0.Kind, .bool a0.Purl, iv a0.A, iv a0.B], eBox b6 24 [iv p0.Start, .slice ad3 p0.Rows.length cp4]] [fRep r_api_Stitch (.agg #[.int .u8 a0.Kind, .bool a0.Purl, iv a0.A, iv a0.B]) a0] [2, 3, 4, 5, 6, 0, 1] [1] S (wN rfl) rfl callee44 rfl (by decide) rfl rfl (fun E1 w1 S1 => c_loops_piece_work_s1 E1 w1 (loops_piece.mk aG aH aI aJ bv) b7 ag ah ai aj ak al am ao (w64 (bg + 1)) aQ a0 (.agg #[.int .u8 a0.Kind, .bool a0.Purl, iv a0.A, iv a0.B]) a4 cj S1) rfl (lb rfl) fun xx a w S => ?_
 obtain ⟨ck, cl, cm, cn, co, cp, cq, cr⟩ := xx
 dsimp only at S
 refine leafL (leafB (leafT (cc _ _ ?_)))
 refine sRegion (sBin _ S (wN rfl) rfl rfl rfl (bAdd _ _ _ _ aQ 1) rfl (lb rfl) fun a S => ?_)
 refine sM S fun a S => ?_
 exact lT (⟨(w64 (aQ + 1), a4.loops, a4.rows, a4.bound, a4.cross, a4.next), (Option.some.inj h).symm, ⟨ck, cl, cm, cn, co, cp, cq, cr, S.fix [6, 0, 1, 2, 3, 4] [3, 4] (by decide) rfl rfl rfl⟩⟩)
noncomputable def F_loops_Of (p0 : api_Chart) : Option ((List api_Loop) × Int) :=
 (F_loops_of p0).bind fun r8 =>
 some (r8.1.loops, r8.2)
def c_loops_Of_val (r : ((List api_Loop) × Int)) (x : Value) : Value := .tuple #[x, .int .i64 r.2]
def c_loops_Of_D (r : ((List api_Loop) × Int)) (x : Value) : List Fact := [fRep (rL r_api_Loop) x r.1]
theorem c_loops_Of (E : Nat → Prop) (w0 : World) (p0 : api_Chart) (v0 : Value) (r : ((List api_Loop) × Int)) (h : F_loops_Of p0 = some r) (S : St0 E [] w0 w0 [] [fRep r_api_Chart (v0) p0]) :
 Calls Try.prog 11 #[v0] w0 (Ret (X := Value) E [] w0 (c_loops_Of_val r) (fun _ => []) (c_loops_Of_D r)) := by
 unfold F_loops_Of at h
 obtain ⟨u1, rfl, hu2⟩ := S.know (i := 0) (e := fRep r_api_Chart (v0) p0) rfl
 have S := S.learn (fRep (rL r_api_Row) u1 p0.Rows) hu2
 obtain ⟨ad3, cp4, _, rfl, _⟩ := hu2
 refine sEnter (args := [.agg #[iv p0.Start, .slice ad3 p0.Rows.length cp4]]) 14 Try.func11 rfl rfl (by simp) S (fun a S => ?_)
 refine sSeq (fun K5 hK5 => sRegion (sBox (v := .agg #[iv p0.Start, .slice ad3 p0.Rows.length cp4]) S (wN rfl) rfl rfl [iv p0.Start, .slice ad3 p0.Rows.length cp4] rfl rfl (lb rfl) fun a b6 w S => ?_))
 refine sN S fun a S => ?_
 refine sN S fun a S => ?_
 refine lT (hK5 _ _ (sSeq (fun K7 hK7 => sRegion (sLoadN (p := b6) (off := 0) (T := 24) (vs := [iv p0.Start, .slice ad3 p0.Rows.length cp4]) 0 [iv p0.Start, .slice ad3 p0.Rows.length cp4] S (wN rfl) rfl rfl rfl rfl rfl rfl rfl (lb rfl) fun a S => ?_))))
 obtain ⟨r8, hx9, h⟩ := bS h
 refine sCall (X := Value) (f := 33) (vs := [.agg #[iv p0.Start, .slice ad3 p0.Rows.length cp4]]) (val := c_loops_of_val r8) (B' := fun _ => []) (D' := c_loops_of_D r8) [] [eBox b6 24 [iv p0.Start, .slice ad3 p0.Rows.length cp4]] [fRep r_api_Chart (.agg #[iv p0.Start, .slice ad3 p0.Rows.length cp4]) p0] [0] [1] S (wN rfl) rfl callee33 rfl (by decide) rfl rfl (fun E1 w1 S1 => c_loops_of E1 w1 p0 (.agg #[iv p0.Start, .slice ad3 p0.Rows.length cp4]) r8 hx9 S1) rfl (lb rfl) fun ai a w S => ?_
 obtain ⟨aj, ak, al, am, rfl, ab, ac, ae, af⟩ := S.mem.know (i := 0) (e := fRep r_loops_piece (ai) r8.1) rfl
 have S := S.learn (fRep (rL r_api_Loop) aj r8.1.loops) ab
 obtain ⟨a0, a4, _, rfl, _⟩ := ab
 have S := S.learn (fRep (rL (rI .i64)) ak r8.1.rows) ac
 obtain ⟨a5, a6, _, rfl, _⟩ := ac
 have S := S.learn (fRep (rL (rI .i64)) al r8.1.bound) ae
 obtain ⟨a7, a8, _, rfl, _⟩ := ae
 have S := S.learn (fRep (rL r_A2_Int) am r8.1.cross) af
 obtain ⟨a9, aa, _, rfl, _⟩ := af
 refine sM S fun a S => ?_
 refine sExtract (vs := [.agg #[.slice a0 r8.1.loops.length a4, .slice a5 r8.1.rows.length a6, .slice a7 r8.1.bound.length a8, .slice a9 r8.1.cross.length aa, iv r8.1.next], iv r8.2]) (.agg #[.slice a0 r8.1.loops.length a4, .slice a5 r8.1.rows.length a6, .slice a7 r8.1.bound.length a8, .slice a9 r8.1.cross.length aa, iv r8.1.next]) S (wN rfl) rfl rfl rfl rfl (lb rfl) fun a S => ?_
 refine sExtract (vs := [.agg #[.slice a0 r8.1.loops.length a4, .slice a5 r8.1.rows.length a6, .slice a7 r8.1.bound.length a8, .slice a9 r8.1.cross.length aa, iv r8.1.next], iv r8.2]) (iv r8.2) S (wN rfl) rfl rfl rfl rfl (lb rfl) fun a S => ?_
 refine sAlloc (.agg #[.slice none 0 0, .slice none 0 0, .slice none 0 0, .slice none 0 0, iv 0]) S (wN rfl) rfl rfl [.slice none 0 0, .slice none 0 0, .slice none 0 0, .slice none 0 0, iv 0] rfl rfl (lb rfl) fun a ah w S => ?_
 refine sStore (p := ah) (off := 0) (T := 73) (vs := [.slice none 0 0, .slice none 0 0, .slice none 0 0, .slice none 0 0, iv 0]) (v := .agg #[.slice a0 r8.1.loops.length a4, .slice a5 r8.1.rows.length a6, .slice a7 r8.1.bound.length a8, .slice a9 r8.1.cross.length aa, iv r8.1.next]) 0 [.slice a0 r8.1.loops.length a4, .slice a5 r8.1.rows.length a6, .slice a7 r8.1.bound.length a8, .slice a9 r8.1.cross.length aa, iv r8.1.next] S (wN rfl) rfl rfl rfl rfl rfl rfl rfl (by simp) rfl fun a w S => ?_
 refine sN S fun a S => ?_
 refine lT (hK7 _ _ (sSeq (fun ao ag => sRegion (sField (b := ah) (off := 0) 0 0 S (wN rfl) rfl rfl rfl rfl rfl (lb rfl) fun a S => ?_))))
 refine sLoad1 0 (.slice a0 r8.1.loops.length a4) S (wN rfl) rfl rfl rfl rfl rfl rfl (lb rfl) fun a S => ?_
 refine sM S fun a S => ?_
 refine sN S fun a S => ?_
 refine sN S fun a S => ?_
 refine lT (ag _ _ ?_)
 obtain rfl := tS h
 exact wp_ret (sRet (.tuple #[.slice a0 r8.1.loops.length a4, iv r8.2]) S (rsl2 rfl (rvT (t := 2) (v := .slice a0 r8.1.loops.length a4) S rfl) (rvT (t := 3) (v := iv r8.2) S rfl)) ⟨(.slice a0 r8.1.loops.length a4), rfl, S.mem.sel [] [3] (by decide) rfl rfl⟩)
noncomputable def F_loops_Bound (p0 : api_Chart) : Option ((List Int) × Int) :=
 (F_loops_of p0).bind fun r8 =>
 some (r8.1.bound, r8.2)
def c_loops_Bound_val (r : ((List Int) × Int)) (x : Value) : Value := .tuple #[x, .int .i64 r.2]
def c_loops_Bound_D (r : ((List Int) × Int)) (x : Value) : List Fact := [fRep (rL (rI .i64)) x r.1]
theorem c_loops_Bound (E : Nat → Prop) (w0 : World) (p0 : api_Chart) (v0 : Value) (r : ((List Int) × Int)) (h : F_loops_Bound p0 = some r) (S : St0 E [] w0 w0 [] [fRep r_api_Chart (v0) p0]) :
 Calls Try.prog 13 #[v0] w0 (Ret (X := Value) E [] w0 (c_loops_Bound_val r) (fun _ => []) (c_loops_Bound_D r)) := by
 unfold F_loops_Bound at h
 obtain ⟨u1, rfl, hu2⟩ := S.know (i := 0) (e := fRep r_api_Chart (v0) p0) rfl
 have S := S.learn (fRep (rL r_api_Row) u1 p0.Rows) hu2
 obtain ⟨ad3, cp4, _, rfl, _⟩ := hu2
 refine sEnter (args := [.agg #[iv p0.Start, .slice ad3 p0.Rows.length cp4]]) 14 Try.func13 rfl rfl (by simp) S (fun a S => ?_)
 refine sSeq (fun K5 hK5 => sRegion (sBox (v := .agg #[iv p0.Start, .slice ad3 p0.Rows.length cp4]) S (wN rfl) rfl rfl [iv p0.Start, .slice ad3 p0.Rows.length cp4] rfl rfl (lb rfl) fun a b6 w S => ?_))
 refine sN S fun a S => ?_
 refine sN S fun a S => ?_
 refine lT (hK5 _ _ (sSeq (fun K7 hK7 => sRegion (sLoadN (p := b6) (off := 0) (T := 24) (vs := [iv p0.Start, .slice ad3 p0.Rows.length cp4]) 0 [iv p0.Start, .slice ad3 p0.Rows.length cp4] S (wN rfl) rfl rfl rfl rfl rfl rfl rfl (lb rfl) fun a S => ?_))))
 obtain ⟨r8, hx9, h⟩ := bS h
 refine sCall (X := Value) (f := 33) (vs := [.agg #[iv p0.Start, .slice ad3 p0.Rows.length cp4]]) (val := c_loops_of_val r8) (B' := fun _ => []) (D' := c_loops_of_D r8) [] [eBox b6 24 [iv p0.Start, .slice ad3 p0.Rows.length cp4]] [fRep r_api_Chart (.agg #[iv p0.Start, .slice ad3 p0.Rows.length cp4]) p0] [0] [1] S (wN rfl) rfl callee33 rfl (by decide) rfl rfl (fun E1 w1 S1 => c_loops_of E1 w1 p0 (.agg #[iv p0.Start, .slice ad3 p0.Rows.length cp4]) r8 hx9 S1) rfl (lb rfl) fun ai a w S => ?_
 obtain ⟨aj, ak, al, am, rfl, ab, ac, ae, af⟩ := S.mem.know (i := 0) (e := fRep r_loops_piece (ai) r8.1) rfl
 have S := S.learn (fRep (rL r_api_Loop) aj r8.1.loops) ab
 obtain ⟨a5, a6, _, rfl, _⟩ := ab
 have S := S.learn (fRep (rL (rI .i64)) ak r8.1.rows) ac
 obtain ⟨a7, a8, _, rfl, _⟩ := ac
 have S := S.learn (fRep (rL (rI .i64)) al r8.1.bound) ae
 obtain ⟨a0, a4, _, rfl, _⟩ := ae
 have S := S.learn (fRep (rL r_A2_Int) am r8.1.cross) af
 obtain ⟨a9, aa, _, rfl, _⟩ := af
 refine sM S fun a S => ?_
 refine sExtract (vs := [.agg #[.slice a5 r8.1.loops.length a6, .slice a7 r8.1.rows.length a8, .slice a0 r8.1.bound.length a4, .slice a9 r8.1.cross.length aa, iv r8.1.next], iv r8.2]) (.agg #[.slice a5 r8.1.loops.length a6, .slice a7 r8.1.rows.length a8, .slice a0 r8.1.bound.length a4, .slice a9 r8.1.cross.length aa, iv r8.1.next]) S (wN rfl) rfl rfl rfl rfl (lb rfl) fun a S => ?_
 refine sExtract (vs := [.agg #[.slice a5 r8.1.loops.length a6, .slice a7 r8.1.rows.length a8, .slice a0 r8.1.bound.length a4, .slice a9 r8.1.cross.length aa, iv r8.1.next], iv r8.2]) (iv r8.2) S (wN rfl) rfl rfl rfl rfl (lb rfl) fun a S => ?_
 refine sAlloc (.agg #[.slice none 0 0, .slice none 0 0, .slice none 0 0, .slice none 0 0, iv 0]) S (wN rfl) rfl rfl [.slice none 0 0, .slice none 0 0, .slice none 0 0, .slice none 0 0, iv 0] rfl rfl (lb rfl) fun a ah w S => ?_
 refine sStore (p := ah) (off := 0) (T := 73) (vs := [.slice none 0 0, .slice none 0 0, .slice none 0 0, .slice none 0 0, iv 0]) (v := .agg #[.slice a5 r8.1.loops.length a6, .slice a7 r8.1.rows.length a8, .slice a0 r8.1.bound.length a4, .slice a9 r8.1.cross.length aa, iv r8.1.next]) 0 [.slice a5 r8.1.loops.length a6, .slice a7 r8.1.rows.length a8, .slice a0 r8.1.bound.length a4, .slice a9 r8.1.cross.length aa, iv r8.1.next] S (wN rfl) rfl rfl rfl rfl rfl rfl rfl (by simp) rfl fun a w S => ?_
 refine sN S fun a S => ?_
 refine lT (hK7 _ _ (sSeq (fun ao ag => sRegion (sField (b := ah) (off := 0) 2 2 S (wN rfl) rfl rfl rfl rfl rfl (lb rfl) fun a S => ?_))))
 refine sLoad1 0 (.slice a0 r8.1.bound.length a4) S (wN rfl) rfl rfl rfl rfl rfl rfl (lb rfl) fun a S => ?_
 refine sM S fun a S => ?_
 refine sN S fun a S => ?_
 refine sN S fun a S => ?_
 refine lT (ag _ _ ?_)
 obtain rfl := tS h
 exact wp_ret (sRet (.tuple #[.slice a0 r8.1.bound.length a4, iv r8.2]) S (rsl2 rfl (rvT (t := 2) (v := .slice a0 r8.1.bound.length a4) S rfl) (rvT (t := 3) (v := iv r8.2) S rfl)) ⟨(.slice a0 r8.1.bound.length a4), rfl, S.mem.sel [] [1] (by decide) rfl rfl⟩)
noncomputable def F_loops_Crossings (p0 : api_Chart) : Option ((List (Int × Int)) × Int) :=
 (F_loops_of p0).bind fun r8 =>
 some (r8.1.cross, r8.2)
def c_loops_Crossings_val (r : ((List (Int × Int)) × Int)) (x : Value) : Value := .tuple #[x, .int .i64 r.2]
def c_loops_Crossings_D (r : ((List (Int × Int)) × Int)) (x : Value) : List Fact := [fRep (rL r_A2_Int) x r.1]
theorem c_loops_Crossings (E : Nat → Prop) (w0 : World) (p0 : api_Chart) (v0 : Value) (r : ((List (Int × Int)) × Int)) (h : F_loops_Crossings p0 = some r) (S : St0 E [] w0 w0 [] [fRep r_api_Chart (v0) p0]) :
 Calls Try.prog 15 #[v0] w0 (Ret (X := Value) E [] w0 (c_loops_Crossings_val r) (fun _ => []) (c_loops_Crossings_D r)) := by
 unfold F_loops_Crossings at h
 obtain ⟨u1, rfl, hu2⟩ := S.know (i := 0) (e := fRep r_api_Chart (v0) p0) rfl
 have S := S.learn (fRep (rL r_api_Row) u1 p0.Rows) hu2
 obtain ⟨ad3, cp4, _, rfl, _⟩ := hu2
 refine sEnter (args := [.agg #[iv p0.Start, .slice ad3 p0.Rows.length cp4]]) 14 Try.func15 rfl rfl (by simp) S (fun a S => ?_)
 refine sSeq (fun K5 hK5 => sRegion (sBox (v := .agg #[iv p0.Start, .slice ad3 p0.Rows.length cp4]) S (wN rfl) rfl rfl [iv p0.Start, .slice ad3 p0.Rows.length cp4] rfl rfl (lb rfl) fun a b6 w S => ?_))
 refine sN S fun a S => ?_
 refine sN S fun a S => ?_
 refine lT (hK5 _ _ (sSeq (fun K7 hK7 => sRegion (sLoadN (p := b6) (off := 0) (T := 24) (vs := [iv p0.Start, .slice ad3 p0.Rows.length cp4]) 0 [iv p0.Start, .slice ad3 p0.Rows.length cp4] S (wN rfl) rfl rfl rfl rfl rfl rfl rfl (lb rfl) fun a S => ?_))))
 obtain ⟨r8, hx9, h⟩ := bS h
 refine sCall (X := Value) (f := 33) (vs := [.agg #[iv p0.Start, .slice ad3 p0.Rows.length cp4]]) (val := c_loops_of_val r8) (B' := fun _ => []) (D' := c_loops_of_D r8) [] [eBox b6 24 [iv p0.Start, .slice ad3 p0.Rows.length cp4]] [fRep r_api_Chart (.agg #[iv p0.Start, .slice ad3 p0.Rows.length cp4]) p0] [0] [1] S (wN rfl) rfl callee33 rfl (by decide) rfl rfl (fun E1 w1 S1 => c_loops_of E1 w1 p0 (.agg #[iv p0.Start, .slice ad3 p0.Rows.length cp4]) r8 hx9 S1) rfl (lb rfl) fun ai a w S => ?_
 obtain ⟨aj, ak, al, am, rfl, ab, ac, ae, af⟩ := S.mem.know (i := 0) (e := fRep r_loops_piece (ai) r8.1) rfl
 have S := S.learn (fRep (rL r_api_Loop) aj r8.1.loops) ab
 obtain ⟨a5, a6, _, rfl, _⟩ := ab
 have S := S.learn (fRep (rL (rI .i64)) ak r8.1.rows) ac
 obtain ⟨a7, a8, _, rfl, _⟩ := ac
 have S := S.learn (fRep (rL (rI .i64)) al r8.1.bound) ae
 obtain ⟨a9, aa, _, rfl, _⟩ := ae
 have S := S.learn (fRep (rL r_A2_Int) am r8.1.cross) af
 obtain ⟨a0, a4, _, rfl, _⟩ := af
 refine sM S fun a S => ?_
 refine sExtract (vs := [.agg #[.slice a5 r8.1.loops.length a6, .slice a7 r8.1.rows.length a8, .slice a9 r8.1.bound.length aa, .slice a0 r8.1.cross.length a4, iv r8.1.next], iv r8.2]) (.agg #[.slice a5 r8.1.loops.length a6, .slice a7 r8.1.rows.length a8, .slice a9 r8.1.bound.length aa, .slice a0 r8.1.cross.length a4, iv r8.1.next]) S (wN rfl) rfl rfl rfl rfl (lb rfl) fun a S => ?_
 refine sExtract (vs := [.agg #[.slice a5 r8.1.loops.length a6, .slice a7 r8.1.rows.length a8, .slice a9 r8.1.bound.length aa, .slice a0 r8.1.cross.length a4, iv r8.1.next], iv r8.2]) (iv r8.2) S (wN rfl) rfl rfl rfl rfl (lb rfl) fun a S => ?_
 refine sAlloc (.agg #[.slice none 0 0, .slice none 0 0, .slice none 0 0, .slice none 0 0, iv 0]) S (wN rfl) rfl rfl [.slice none 0 0, .slice none 0 0, .slice none 0 0, .slice none 0 0, iv 0] rfl rfl (lb rfl) fun a ah w S => ?_
 refine sStore (p := ah) (off := 0) (T := 73) (vs := [.slice none 0 0, .slice none 0 0, .slice none 0 0, .slice none 0 0, iv 0]) (v := .agg #[.slice a5 r8.1.loops.length a6, .slice a7 r8.1.rows.length a8, .slice a9 r8.1.bound.length aa, .slice a0 r8.1.cross.length a4, iv r8.1.next]) 0 [.slice a5 r8.1.loops.length a6, .slice a7 r8.1.rows.length a8, .slice a9 r8.1.bound.length aa, .slice a0 r8.1.cross.length a4, iv r8.1.next] S (wN rfl) rfl rfl rfl rfl rfl rfl rfl (by simp) rfl fun a w S => ?_
 refine sN S fun a S => ?_
 refine lT (hK7 _ _ (sSeq (fun ao ag => sRegion (sField (b := ah) (off := 0) 3 3 S (wN rfl) rfl rfl rfl rfl rfl (lb rfl) fun a S => ?_))))
 refine sLoad1 0 (.slice a0 r8.1.cross.length a4) S (wN rfl) rfl rfl rfl rfl rfl rfl (lb rfl) fun a S => ?_
 refine sM S fun a S => ?_
 refine sN S fun a S => ?_
 refine sN S fun a S => ?_
 refine lT (ag _ _ ?_)
 obtain rfl := tS h
 exact wp_ret (sRet (.tuple #[.slice a0 r8.1.cross.length a4, iv r8.2]) S (rsl2 rfl (rvT (t := 2) (v := .slice a0 r8.1.cross.length a4) S rfl) (rvT (t := 3) (v := iv r8.2) S rfl)) ⟨(.slice a0 r8.1.cross.length a4), rfl, S.mem.sel [] [0] (by decide) rfl rfl⟩)
def anc_raddleref26_SameInts_0 : List (List Nat) := [[], [], [0, 1], [0, 1, 2], [], [], [4, 5], [4, 5, 6], [0, 1, 2, 3, 4, 5, 6, 7]]
noncomputable def raddleref26_SameInts_l1 (p0 : (List Int)) (p1 : (List Int)) : Int → Option (Int ⊕ (Bool ⊕ Unit)) := fun s0 => match s0 with
 | a0 =>
  if decide (a0 < (p0.length : Int)) then
   (idxO p0 a0).bind fun a4 =>
   (idxO p1 a0).bind fun a5 =>
   if a4 != a5 then
    some (.inr (.inl false))
   else
    some (.inl (w64 (a0 + 1)))
  else
   some (.inr (.inr ()))
noncomputable def F_raddleref26_SameInts (p0 : (List Int)) (p1 : (List Int)) : Option Bool :=
 if (p0.length : Int) != (p1.length : Int) then
  some false
 else
  Option.bind (α := Unit ⊕ Bool) (
   (whileO (raddleref26_SameInts_l1 p0 p1) 0).bind fun z0 => match z0 with
    | .inl z =>
     some (.inr z)
    | .inr _ =>
     some (.inl ())) fun z0 => match z0 with
   | .inl _ =>
    some true
   | .inr z =>
    some z
theorem c_raddleref26_SameInts (E : Nat → Prop) (w0 : World) (p0 : (List Int)) (v0 : Value) (p1 : (List Int)) (v1 : Value) (r : Bool) (h : F_raddleref26_SameInts p0 p1 = some r) (S : St0 E [] w0 w0 [] [fRep (rL (rI .i64)) (v0) p0, fRep (rL (rI .i64)) (v1) p1]) :
 Calls Try.prog 18 #[v0, v1] w0 (Ret (X := Unit) E [] w0 (fun _ => .bool r) (fun _ => []) (fun _ => [])) := by
 unfold F_raddleref26_SameInts at h
 obtain ⟨ad1, cp2, _, rfl, _⟩ := S.know (i := 0) (e := fRep (rL (rI .i64)) (v0) p0) rfl
 obtain ⟨ad3, cp4, _, rfl, _⟩ := S.know (i := 1) (e := fRep (rL (rI .i64)) (v1) p1) rfl
 refine sEnter (args := [.slice ad1 p0.length cp2, .slice ad3 p1.length cp4]) 26 Try.func18 rfl rfl (by simp) S (fun a S => ?_)
 refine sSeq (fun K5 hK5 => sRegion (sN S fun a S => ?_))
 refine lT (hK5 _ _ (sSeq (fun K6 hK6 => sSeq (fun K7 hK7 => sRegion (sM S fun a S => ?_)))))
 refine sLen S (wN rfl) rfl Try.underlying32 rfl rfl (lb rfl) fun a S => ?_
 refine sM S fun a S => ?_
 refine sLen S (wN rfl) rfl Try.underlying32 rfl rfl (lb rfl) fun a S => ?_
 refine sBin _ S (wN rfl) rfl rfl rfl (bNe _ _ _ _ .i64 (p0.length : Int) (p1.length : Int)) rfl (lb rfl) fun a S => ?_
 refine lT (hK7 _ _ ?_)
 rcases iS h with ⟨hc8, h⟩ | ⟨hc8, h⟩
 ·refine sCondT S rfl hc8 ?_
  refine sSeq (fun K9 hK9 => sRegion (sN S fun a S => ?_))
  refine lT (hK9 _ _ ?_)
  obtain rfl := tS h
  exact wp_ret (rThen (sRet (.bool false) S (rsl1 rfl (rvT (t := 4) (v := .bool false) S rfl)) ⟨(), rfl, S.mem.sel [] [] (by decide) rfl rfl⟩))
 refine sCondF S rfl hc8 ?_
 refine wp_skip (leafT (hK6 _ _ ?_))
 obtain ⟨au, h, ao⟩ := bS h
 refine sCut (fun a w => .inl () = au ∧ St [] E [] w0 26 a w [] [] []) ?_ (fun a w hI => ?_)
 rotate_left
 ·obtain ⟨rfl, S⟩ := hI
  have h := ao
  try dsimp only at h
  refine sSeq (fun av a9 => sRegion (sN S fun a S => ?_))
  refine lT (a9 _ _ ?_)
  obtain rfl := tS h
  exact wp_ret (sRet (.bool true) S (rsl1 rfl (rvT (t := 4) (v := .bool true) S rfl)) ⟨(), rfl, S.mem.sel [] [] (by decide) rfl rfl⟩)
 refine sSeq (fun aw aa => sRegion (sN S fun a S => ?_))
 refine lT (aa _ _ (wp_block ?_))
 obtain ⟨ax, hl, ap⟩ := bS h
 refine sLoop hl (fun s0 a w => match s0 with | a0 => St [] E [] w0 26 a w [(0, .slice ad1 p0.length cp2), (1, .slice ad3 p1.length cp4), (5, iv a0)] [] [fRep (rL (rI .i64)) (.slice ad1 p0.length cp2) p0, fRep (rL (rI .i64)) (.slice ad3 p1.length cp4) p1]) (S.fix [] [0, 1] (by decide) rfl rfl rfl) ?_
 clear hl h
 intro a0 a w c0 hI h a8
 unfold raddleref26_SameInts_l1 at h
 dsimp only at h hI
 have S := hI
 refine sSeq (fun ay ab => sSeq (fun az ac => sRegion (sM S fun a S => ?_)))
 refine sM S fun a S => ?_
 refine sLen S (wN rfl) rfl Try.underlying32 rfl rfl (lb rfl) fun a S => ?_
 refine sBin _ S (wN rfl) rfl rfl rfl (bLt _ _ _ _ .i64 a0 (p0.length : Int)) rfl (lb rfl) fun a S => ?_
 refine lT (ac _ _ ?_)
 rcases iS h with ⟨a6, h⟩ | ⟨a6, h⟩
 rotate_left
 ·refine sCondF S rfl a6 ?_
  obtain rfl := tS h
  obtain rfl := a8 _ rfl
  have h := ap
  try dsimp only at h
  exact wp_exit (xThen (xThen (xHit (leafT (⟨Option.some.inj h, S.fix [] [] (by decide) rfl rfl rfl⟩)))))
 refine sCondT S rfl a6 ?_
 refine wp_skip (leafT (ab _ _ ?_))
 refine sSeq (fun aA ae => wp_block ?_)
 refine sSeq (fun aC af => ?_)
 obtain ⟨a4, ag, h⟩ := bS h
 obtain ⟨a5, ah, h⟩ := bS h
 obtain ⟨ai, aj, S⟩ := pIdx (P := Try.prog) (r := (rI .i64)) (v := .slice ad1 p0.length cp2) (xs := p0) (j := a0) 32 3 0 S Try.underlying32 rfl rfl ag
 obtain ⟨aq, S⟩ := pLoad (r := (rI .i64)) (q := ai) (x := a4) 0 S rfl
 obtain rfl : aq = iv a4 := S.mem.know (i := 1) (e := fRep (rI .i64) (aq) a4) rfl
 obtain ⟨ak, al, S⟩ := pIdx (P := Try.prog) (r := (rI .i64)) (v := .slice ad3 p1.length cp4) (xs := p1) (j := a0) 32 3 4 S Try.underlying32 rfl rfl ah
 obtain ⟨ar, S⟩ := pLoad (r := (rI .i64)) (q := ak) (x := a5) 0 S rfl
 obtain rfl : ar = iv a5 := S.mem.know (i := 1) (e := fRep (rI .i64) (ar) a5) rfl
 refine sDraw (nf := []) (W := [(0, 17, .slice ad1 p0.length cp2), (1, 18, iv a0), (2, 19, ai), (3, 20, iv a4), (4, 21, .slice ad3 p1.length cp4), (5, 22, iv a0), (6, 23, ak), (7, 24, iv a5), (8, 25, .bool (a4 != a5))]) rfl S ?_
 refine node_by (A := anc_raddleref26_SameInts_0) 9 (by kernel_rfl) (by kernel_rfl) (by kernel_rfl) (by kernel_rfl) (by kernel_rfl) [0, 1, 2, 3, 4, 5, 6, 7, 8] (by kernel_rfl) (by decide) (by decide) (fF ?_ (fF ?_ (fF ?_ (fF ?_ (fF ?_ (fF ?_ (fF ?_ (fF ?_ (fF ?_ (trivial)))))))))) [(0, .slice ad1 p0.length cp2), (1, .slice ad3 p1.length cp4), (5, iv a0), (25, .bool (a4 != a5))] (fin_of [none, none, none, some 8] rfl (by kernel_rfl) (by kernel_rfl)) (fun _ a w S => ?_)
 ·exact fM 0 none rfl rfl rfl rfl (.inl rfl) rfl rfl rfl
 ·exact fM 1 none rfl rfl rfl rfl (.inl rfl) rfl rfl rfl
 ·refine fJ [(17, _), (18, _)] 2 [some 0, some 1] fun G a w S => ?_
  exact sIdxV S (wN rfl) rfl rfl rfl aj rfl (lb rfl) fun a S => leafL ⟨rfl, S⟩
 ·refine fJ [(19, _)] 3 [some 2] fun G a w S => ?_
  exact sLoadV1 (vq := ai) 3 (iv a4) S (wN rfl) rfl rfl rfl rfl rfl (lb rfl) fun a S => leafL ⟨rfl, S⟩
 ·exact fM 4 none rfl rfl rfl rfl (.inl rfl) rfl rfl rfl
 ·exact fM 5 none rfl rfl rfl rfl (.inl rfl) rfl rfl rfl
 ·refine fJ [(21, _), (22, _)] 6 [some 4, some 5] fun G a w S => ?_
  exact sIdxV S (wN rfl) rfl rfl rfl al rfl (lb rfl) fun a S => leafL ⟨rfl, S⟩
 ·refine fJ [(23, _)] 7 [some 6] fun G a w S => ?_
  exact sLoadV1 (vq := ak) 0 (iv a5) S (wN rfl) rfl rfl rfl rfl rfl (lb rfl) fun a S => leafL ⟨rfl, S⟩
 ·refine fJ [(20, _), (24, _)] 8 [some 3, some 7] fun G a w S => ?_
  exact sBin _ S (wN rfl) rfl rfl rfl (bNe _ _ _ _ .i64 a4 a5) rfl (lb rfl) fun a S => leafL ⟨rfl, S⟩
 refine leafT (af _ _ ?_)
 rcases iS h with ⟨a7, h⟩ | ⟨a7, h⟩
 rotate_left
 ·refine sCondF S rfl a7 ?_
  refine wp_skip (leafB (leafT (ae _ _ ?_)))
  refine sRegion (sM S fun a S => ?_)
  refine sBin _ S (wN rfl) rfl rfl rfl (bAdd _ _ _ _ a0 1) rfl (lb rfl) fun a S => ?_
  refine sN S fun a S => ?_
  exact lT (⟨w64 (a0 + 1), (Option.some.inj h).symm, (S.fix [] [6, 7] (by decide) rfl rfl rfl)⟩)
 refine sCondT S rfl a7 ?_
 refine sSeq (fun aG am => sRegion (sN S fun a S => ?_))
 refine lT (am _ _ ?_)
 obtain rfl := tS h
 obtain rfl := a8 _ rfl
 have h := ap
 try dsimp only at h
 obtain rfl := tS h
 have h := ao
 try dsimp only at h
 obtain rfl := tS h
 exact wp_ret (rBlock (rThen (rThen (rBlock (rThen (sRet (.bool false) S (rsl1 rfl (rvT (t := 4) (v := .bool false) S rfl)) ⟨(), rfl, S.mem.sel [] [] (by decide) rfl rfl⟩))))))
def anc_raddleref27_SamePairs_0 : List (List Nat) := [[], [], [0, 1], [0, 1, 2], [], [], [4, 5], [4, 5, 6], [0, 1, 2, 3, 4, 5, 6, 7]]
noncomputable def raddleref27_SamePairs_l1 (p0 : (List (Int × Int))) (p1 : (List (Int × Int))) : Int → Option (Int ⊕ (Bool ⊕ Unit)) := fun s0 => match s0 with
 | a0 =>
  if decide (a0 < (p0.length : Int)) then
   (idxO p0 a0).bind fun a4 =>
   (idxO p1 a0).bind fun a5 =>
   if !((a4.1 == a5.1) && ((a4.2 == a5.2) && true)) then
    some (.inr (.inl false))
   else
    some (.inl (w64 (a0 + 1)))
  else
   some (.inr (.inr ()))
noncomputable def F_raddleref27_SamePairs (p0 : (List (Int × Int))) (p1 : (List (Int × Int))) : Option Bool :=
 if (p0.length : Int) != (p1.length : Int) then
  some false
 else
  Option.bind (α := Unit ⊕ Bool) (
   (whileO (raddleref27_SamePairs_l1 p0 p1) 0).bind fun z0 => match z0 with
    | .inl z =>
     some (.inr z)
    | .inr _ =>
     some (.inl ())) fun z0 => match z0 with
   | .inl _ =>
    some true
   | .inr z =>
    some z
theorem c_raddleref27_SamePairs (E : Nat → Prop) (w0 : World) (p0 : (List (Int × Int))) (v0 : Value) (p1 : (List (Int × Int))) (v1 : Value) (r : Bool) (h : F_raddleref27_SamePairs p0 p1 = some r) (S : St0 E [] w0 w0 [] [fRep (rL r_A2_Int) (v0) p0, fRep (rL r_A2_Int) (v1) p1]) :
 Calls Try.prog 19 #[v0, v1] w0 (Ret (X := Unit) E [] w0 (fun _ => .bool r) (fun _ => []) (fun _ => [])) := by
 unfold F_raddleref27_SamePairs at h
 obtain ⟨ad1, cp2, _, rfl, _⟩ := S.know (i := 0) (e := fRep (rL r_A2_Int) (v0) p0) rfl
 obtain ⟨ad3, cp4, _, rfl, _⟩ := S.know (i := 1) (e := fRep (rL r_A2_Int) (v1) p1) rfl
 refine sEnter (args := [.slice ad1 p0.length cp2, .slice ad3 p1.length cp4]) 26 Try.func19 rfl rfl (by simp) S (fun a S => ?_)
 refine sSeq (fun K5 hK5 => sRegion (sN S fun a S => ?_))
 refine lT (hK5 _ _ (sSeq (fun K6 hK6 => sSeq (fun K7 hK7 => sRegion (sM S fun a S => ?_)))))
 refine sLen S (wN rfl) rfl Try.underlying37 rfl rfl (lb rfl) fun a S => ?_
 refine sM S fun a S => ?_
 refine sLen S (wN rfl) rfl Try.underlying37 rfl rfl (lb rfl) fun a S => ?_
 refine sBin _ S (wN rfl) rfl rfl rfl (bNe _ _ _ _ .i64 (p0.length : Int) (p1.length : Int)) rfl (lb rfl) fun a S => ?_
 refine lT (hK7 _ _ ?_)
 rcases iS h with ⟨hc8, h⟩ | ⟨hc8, h⟩
 ·refine sCondT S rfl hc8 ?_
  refine sSeq (fun K9 hK9 => sRegion (sN S fun a S => ?_))
  refine lT (hK9 _ _ ?_)
  obtain rfl := tS h
  exact wp_ret (rThen (sRet (.bool false) S (rsl1 rfl (rvT (t := 4) (v := .bool false) S rfl)) ⟨(), rfl, S.mem.sel [] [] (by decide) rfl rfl⟩))
 refine sCondF S rfl hc8 ?_
 refine wp_skip (leafT (hK6 _ _ ?_))
 obtain ⟨au, h, ao⟩ := bS h
 refine sCut (fun a w => .inl () = au ∧ St [] E [] w0 26 a w [] [] []) ?_ (fun a w hI => ?_)
 rotate_left
 ·obtain ⟨rfl, S⟩ := hI
  have h := ao
  try dsimp only at h
  refine sSeq (fun av a9 => sRegion (sN S fun a S => ?_))
  refine lT (a9 _ _ ?_)
  obtain rfl := tS h
  exact wp_ret (sRet (.bool true) S (rsl1 rfl (rvT (t := 4) (v := .bool true) S rfl)) ⟨(), rfl, S.mem.sel [] [] (by decide) rfl rfl⟩)
 refine sSeq (fun aw aa => sRegion (sN S fun a S => ?_))
 refine lT (aa _ _ (wp_block ?_))
 obtain ⟨ax, hl, ap⟩ := bS h
 refine sLoop hl (fun s0 a w => match s0 with | a5 => St [] E [] w0 26 a w [(0, .slice ad1 p0.length cp2), (1, .slice ad3 p1.length cp4), (5, iv a5)] [] [fRep (rL r_A2_Int) (.slice ad1 p0.length cp2) p0, fRep (rL r_A2_Int) (.slice ad3 p1.length cp4) p1]) (S.fix [] [0, 1] (by decide) rfl rfl rfl) ?_
 clear hl h
 intro a5 a w c0 hI h a8
 unfold raddleref27_SamePairs_l1 at h
 dsimp only at h hI
 have S := hI
 refine sSeq (fun ay ab => sSeq (fun az ac => sRegion (sM S fun a S => ?_)))
 refine sM S fun a S => ?_
 refine sLen S (wN rfl) rfl Try.underlying37 rfl rfl (lb rfl) fun a S => ?_
 refine sBin _ S (wN rfl) rfl rfl rfl (bLt _ _ _ _ .i64 a5 (p0.length : Int)) rfl (lb rfl) fun a S => ?_
 refine lT (ac _ _ ?_)
 rcases iS h with ⟨a6, h⟩ | ⟨a6, h⟩
 rotate_left
 ·refine sCondF S rfl a6 ?_
  obtain rfl := tS h
  obtain rfl := a8 _ rfl
  have h := ap
  try dsimp only at h
  exact wp_exit (xThen (xThen (xHit (leafT (⟨Option.some.inj h, S.fix [] [] (by decide) rfl rfl rfl⟩)))))
 refine sCondT S rfl a6 ?_
 refine wp_skip (leafT (ab _ _ ?_))
 refine sSeq (fun aA ae => wp_block ?_)
 refine sSeq (fun aC af => ?_)
 obtain ⟨a0, ag, h⟩ := bS h
 obtain ⟨a4, ah, h⟩ := bS h
 obtain ⟨ai, aj, S⟩ := pIdx (P := Try.prog) (r := r_A2_Int) (v := .slice ad1 p0.length cp2) (xs := p0) (j := a5) 37 49 0 S Try.underlying37 rfl rfl ag
 obtain ⟨aq, S⟩ := pLoad (r := r_A2_Int) (q := ai) (x := a0) 0 S rfl
 obtain rfl : aq = .agg #[iv a0.1, iv a0.2] := S.mem.know (i := 1) (e := fRep r_A2_Int (aq) a0) rfl
 obtain ⟨ak, al, S⟩ := pIdx (P := Try.prog) (r := r_A2_Int) (v := .slice ad3 p1.length cp4) (xs := p1) (j := a5) 37 49 4 S Try.underlying37 rfl rfl ah
 obtain ⟨ar, S⟩ := pLoad (r := r_A2_Int) (q := ak) (x := a4) 0 S rfl
 obtain rfl : ar = .agg #[iv a4.1, iv a4.2] := S.mem.know (i := 1) (e := fRep r_A2_Int (ar) a4) rfl
 refine sDraw (nf := []) (W := [(0, 17, .slice ad1 p0.length cp2), (1, 18, iv a5), (2, 19, ai), (3, 20, .agg #[iv a0.1, iv a0.2]), (4, 21, .slice ad3 p1.length cp4), (5, 22, iv a5), (6, 23, ak), (7, 24, .agg #[iv a4.1, iv a4.2]), (8, 25, .bool (!((a0.1 == a4.1) && ((a0.2 == a4.2) && true))))]) rfl S ?_
 refine node_by (A := anc_raddleref27_SamePairs_0) 9 (by kernel_rfl) (by kernel_rfl) (by kernel_rfl) (by kernel_rfl) (by kernel_rfl) [0, 1, 2, 3, 4, 5, 6, 7, 8] (by kernel_rfl) (by decide) (by decide) (fF ?_ (fF ?_ (fF ?_ (fF ?_ (fF ?_ (fF ?_ (fF ?_ (fF ?_ (fF ?_ (trivial)))))))))) [(0, .slice ad1 p0.length cp2), (1, .slice ad3 p1.length cp4), (5, iv a5), (25, .bool (!((a0.1 == a4.1) && ((a0.2 == a4.2) && true))))] (fin_of [none, none, none, some 8] rfl (by kernel_rfl) (by kernel_rfl)) (fun _ a w S => ?_)
 ·exact fM 0 none rfl rfl rfl rfl (.inl rfl) rfl rfl rfl
 ·exact fM 1 none rfl rfl rfl rfl (.inl rfl) rfl rfl rfl
 ·refine fJ [(17, _), (18, _)] 2 [some 0, some 1] fun G a w S => ?_
  exact sIdxV S (wN rfl) rfl rfl rfl aj rfl (lb rfl) fun a S => leafL ⟨rfl, S⟩
 ·refine fJ [(19, _)] 3 [some 2] fun G a w S => ?_
  exact sLoadVN (vq := ai) 3 [iv a0.1, iv a0.2] S (wN rfl) rfl rfl rfl rfl rfl rfl (lb rfl) fun a S => leafL ⟨rfl, S⟩
 ·exact fM 4 none rfl rfl rfl rfl (.inl rfl) rfl rfl rfl
 ·exact fM 5 none rfl rfl rfl rfl (.inl rfl) rfl rfl rfl
 ·refine fJ [(21, _), (22, _)] 6 [some 4, some 5] fun G a w S => ?_
  exact sIdxV S (wN rfl) rfl rfl rfl al rfl (lb rfl) fun a S => leafL ⟨rfl, S⟩
 ·refine fJ [(23, _)] 7 [some 6] fun G a w S => ?_
  exact sLoadVN (vq := ak) 0 [iv a4.1, iv a4.2] S (wN rfl) rfl rfl rfl rfl rfl rfl (lb rfl) fun a S => leafL ⟨rfl, S⟩
 ·refine fJ [(20, _), (24, _)] 8 [some 3, some 7] fun G a w S => ?_
  exact sBin _ S (wN rfl) rfl rfl rfl (bNeV _ _ _ _ #[iv a0.1, iv a0.2] #[iv a4.1, iv a4.2] ((a0.1 == a4.1) && ((a0.2 == a4.2) && true)) (by kernel_rfl) (eqlV_of (by kernel_rfl))) rfl (lb rfl) fun a S => leafL ⟨rfl, S⟩
 refine leafT (af _ _ ?_)
 rcases iS h with ⟨a7, h⟩ | ⟨a7, h⟩
 rotate_left
 ·refine sCondF S rfl a7 ?_
  refine wp_skip (leafB (leafT (ae _ _ ?_)))
  refine sRegion (sM S fun a S => ?_)
  refine sBin _ S (wN rfl) rfl rfl rfl (bAdd _ _ _ _ a5 1) rfl (lb rfl) fun a S => ?_
  refine sN S fun a S => ?_
  exact lT (⟨w64 (a5 + 1), (Option.some.inj h).symm, (S.fix [] [6, 7] (by decide) rfl rfl rfl)⟩)
 refine sCondT S rfl a7 ?_
 refine sSeq (fun aG am => sRegion (sN S fun a S => ?_))
 refine lT (am _ _ ?_)
 obtain rfl := tS h
 obtain rfl := a8 _ rfl
 have h := ap
 try dsimp only at h
 obtain rfl := tS h
 have h := ao
 try dsimp only at h
 obtain rfl := tS h
 exact wp_ret (rBlock (rThen (rThen (rBlock (rThen (sRet (.bool false) S (rsl1 rfl (rvT (t := 4) (v := .bool false) S rfl)) ⟨(), rfl, S.mem.sel [] [] (by decide) rfl rfl⟩))))))
noncomputable def F_raddlelaw27_one (p0 : Int) (p1 : (List api_Stitch)) : Option api_Chart :=
 some (api_Chart.mk p0 [(api_Row.mk false p1)])
def c_raddlelaw27_one_val (r : api_Chart) (x : Value) : Value := x
def c_raddlelaw27_one_D (r : api_Chart) (x : Value) : List Fact := [fRep r_api_Chart x r]
theorem c_raddlelaw27_one (E : Nat → Prop) (w0 : World) (p0 : Int) (p1 : (List api_Stitch)) (v1 : Value) (r : api_Chart) (h : F_raddlelaw27_one p0 p1 = some r) (S : St0 E [] w0 w0 [] [fRep (rL r_api_Stitch) (v1) p1]) :
 Calls Try.prog 30 #[iv p0, v1] w0 (Ret (X := Value) E [] w0 (c_raddlelaw27_one_val r) (fun _ => []) (c_raddlelaw27_one_D r)) := by
 unfold F_raddlelaw27_one at h
 obtain ⟨ad1, cp2, _, rfl, _⟩ := S.know (i := 0) (e := fRep (rL r_api_Stitch) (v1) p1) rfl
 refine sEnter (args := [iv p0, .slice ad1 p1.length cp2]) 10 Try.func30 rfl rfl (by simp) S (fun a S => ?_)
 refine sSeq (fun K3 hK3 => sRegion (sAlloc (.agg #[iv 0, .slice none 0 0]) S (wN rfl) rfl rfl [iv 0, .slice none 0 0] rfl rfl (lb rfl) fun a b4 w S => ?_))
 refine lT (hK3 _ _ (sSeq (fun K5 hK5 => sRegion (sM S fun a S => ?_))))
 refine sM S fun a S => ?_
 refine sBuild [(1, .slice ad1 p1.length cp2)] [.bool false, .slice ad1 p1.length cp2] S (wN rfl) rfl rfl rfl rfl (lb rfl) fun a S => ?_
 have S := S.learn (fRep r_api_Row (.agg #[.bool false, .slice ad1 p1.length cp2]) (api_Row.mk false p1)) ⟨_, rfl, S.mem.know (i := 0) (e := fRep (rL r_api_Stitch) (.slice ad1 p1.length cp2) p1) rfl⟩
 refine sLit (r := r_api_Row) (T := 65) (xs := [(api_Row.mk false p1)]) [(0, .agg #[.bool false, .slice ad1 p1.length cp2])] 1 [.agg #[.bool false, .slice ad1 p1.length cp2]] [.bool false, .slice ad1 p1.length cp2] (.agg #[.bool false, .slice none 0 0]) 32 S (wN rfl) rfl rfl Try.underlying22 rfl (by decide) (by decide) (by kernel_rfl) rfl (fun E1 w1 hE => All.cons (r_api_Row.mono hE (S.mem.know (i := 0) (e := fRep r_api_Row (.agg #[.bool false, .slice ad1 p1.length cp2]) (api_Row.mk false p1)) rfl)) (All.nil _ _ _)) rfl rfl (lb rfl) fun a w ad6 cp7 S => ?_
 refine sBuild [(0, iv p0), (1, .slice ad6 [(api_Row.mk false p1)].length cp7)] [iv p0, .slice ad6 [(api_Row.mk false p1)].length cp7] S (wN rfl) rfl rfl rfl rfl (lb rfl) fun a S => ?_
 refine sStore (p := b4) (off := 0) (T := 24) (vs := [iv 0, .slice none 0 0]) (v := .agg #[iv p0, .slice ad6 [(api_Row.mk false p1)].length cp7]) 1 [iv p0, .slice ad6 [(api_Row.mk false p1)].length cp7] S (wN rfl) rfl rfl rfl rfl rfl rfl rfl (by simp) rfl fun a w S => ?_
 refine lT (hK5 _ _ ?_)
 obtain rfl := tS h
 have S := S.shutR (r := r_api_Row) (T := 65) (v := .slice ad6 [(api_Row.mk false p1)].length cp7) (xs := [(api_Row.mk false p1)]) 1 rfl
 have S := S.learn (fRep r_api_Chart (.agg #[iv p0, .slice ad6 [(api_Row.mk false p1)].length cp7]) (api_Chart.mk p0 [(api_Row.mk false p1)])) ⟨_, rfl, S.mem.know (i := 0) (e := fRep (rL r_api_Row) (.slice ad6 [(api_Row.mk false p1)].length cp7) [(api_Row.mk false p1)]) rfl⟩
 exact wp_ret (sRet (.agg #[iv p0, .slice ad6 [(api_Row.mk false p1)].length cp7]) S (rsl1 rfl (rvN (c := 4) (t := 24) (T := 24) (p := b4) 0 [iv p0, .slice ad6 [(api_Row.mk false p1)].length cp7] S rfl rfl rfl rfl)) ⟨(.agg #[iv p0, .slice ad6 [(api_Row.mk false p1)].length cp7]), rfl, S.mem.sel [] [0] (by decide) rfl rfl⟩)
end Go.Proofs.Yticjoiolfibmlaa
