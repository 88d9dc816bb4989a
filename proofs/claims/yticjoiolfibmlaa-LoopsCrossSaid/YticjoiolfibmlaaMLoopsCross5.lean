/- LoopsCross: walks, tables, laws. -/
import Derived.Test.YticjoiolfibmlaaProg
import Derived.Test.YticjoiolfibmlaaRows
import Derived.Test.YticjoiolfibmlaaMLoopsCross4
set_option linter.unusedVariables false
set_option linter.unusedSimpArgs false
set_option maxHeartbeats 4000000
set_option maxRecDepth 100000
namespace Go.Proofs.Yticjoiolfibmlaa
open Go.RowKit
noncomputable def raddleref26_Great_l1 (p0 : api_Chart) : Int → Option (Int ⊕ (Bool ⊕ Unit)) := fun s0 => match s0 with
 | a0 =>
  Option.bind (α := Bool) (
   if decide (a0 < (p0.Rows.length : Int)) then
    some (decide (a0 < 150))
   else
    some false) fun a4 =>
  if a4 then
   (idxO p0.Rows a0).bind fun a5 =>
   (F_raddleref25_Great a5.Cells).bind fun a6 =>
   if a6 then
    some (.inr (.inl true))
   else
    some (.inl (w64 (a0 + 1)))
  else
   some (.inr (.inr ()))
noncomputable def F_raddleref26_Great (p0 : api_Chart) : Option Bool :=
 Option.bind (α := Unit ⊕ Bool) (
  (whileO (raddleref26_Great_l1 p0) 0).bind fun z0 => match z0 with
   | .inl z =>
    some (.inr z)
   | .inr _ =>
    some (.inl ())) fun z0 => match z0 with
  | .inl _ =>
   Option.bind (α := Bool) (
    if decide (12 < (p0.Rows.length : Int)) then
     if decide ((p0.Rows.length : Int) ≤ 100) then
      some true
     else
      some (decide (150 < (p0.Rows.length : Int)))
    else
     some (decide (150 < (p0.Rows.length : Int)))) fun a0 =>
   some a0
  | .inr z =>
   some z
theorem c_raddleref26_Great (E : Nat → Prop) (w0 : World) (p0 : api_Chart) (v0 : Value) (r : Bool) (h : F_raddleref26_Great p0 = some r) (S : St0 E [] w0 w0 [] [fRep r_api_Chart (v0) p0]) :
 Calls Try.prog 10 #[v0] w0 (Ret (X := Unit) E [] w0 (fun _ => .bool r) (fun _ => []) (fun _ => [])) := by
 unfold F_raddleref26_Great at h
 obtain ⟨u1, rfl, ar⟩ := S.know (i := 0) (e := fRep r_api_Chart (v0) p0) rfl
 have S := S.learn (fRep (rL r_api_Row) u1 p0.Rows) ar
 obtain ⟨a5, a6, _, rfl, _⟩ := ar
 refine sEnter (args := [.agg #[iv p0.Start, .slice a5 p0.Rows.length a6]]) 38 Try.func10 rfl rfl (by simp) S (fun a S => ?_)
 refine sSeq (fun K5 ay => sRegion (sBox (v := .agg #[iv p0.Start, .slice a5 p0.Rows.length a6]) S (wN rfl) rfl rfl [iv p0.Start, .slice a5 p0.Rows.length a6] rfl rfl (lb rfl) fun a b6 w S => ?_))
 refine sN S fun a S => ?_
 refine lT (ay _ _ ?_)
 obtain ⟨t7, h, g8⟩ := bS h
 refine sCut (fun a w => .inl () = t7 ∧ St [] E [] w0 38 a w [(1, .pointer (some ⟨b6, 0, none⟩))] [eBox b6 24 [iv p0.Start, .slice a5 p0.Rows.length a6]] [fRep (rL r_api_Row) (.slice a5 p0.Rows.length a6) p0.Rows]) ?_ (fun a w hI => ?_)
 rotate_left
 ·obtain ⟨rfl, S⟩ := hI
  have h := g8
  try dsimp only at h
  obtain ⟨az, h, aA⟩ := bS h
  refine sCut (fun a w => ∃ af, af = az ∧ St [] E [] w0 38 a w [(2, .bool af)] [] []) ?_ (fun a w hI => ?_)
  rotate_left
  ·obtain ⟨af, rfl, S⟩ := hI
   have h := aA
   try dsimp only at h
   obtain rfl := tS h
   exact wp_ret (sRet (.bool af) S (rsl1 rfl (rvT (t := 2) (v := .bool af) S rfl)) ⟨(), rfl, S.mem.sel [] [] (by decide) rfl rfl⟩)
  refine sRegion (sField (b := b6) (off := 0) 1 1 S (wN rfl) rfl rfl rfl rfl rfl (lb rfl) fun a S => ?_)
  refine sLoad1 0 (.slice a5 p0.Rows.length a6) S (wN rfl) rfl rfl rfl rfl rfl rfl (lb rfl) fun a S => ?_
  refine sLen S (wN rfl) rfl Try.underlying22 rfl rfl (lb rfl) fun a S => ?_
  refine sBin _ S (wN rfl) rfl rfl rfl (bGt _ _ _ _ .i64 (p0.Rows.length : Int) 12) rfl (lb rfl) fun a S => ?_
  refine sM S fun a S => ?_
  rcases iS h with ⟨a0, h⟩ | ⟨a0, h⟩
  rotate_left
  ·refine sSkN 4 4 true 26 S rfl rfl a0 rfl fun a S => ?_
   refine sPickF (.bool false) S (wN rfl) rfl rfl a0 rfl rfl (lb rfl) fun a S => ?_
   refine sM S fun a S => ?_
   refine sField (b := b6) (off := 0) 1 1 S (wG 10 false 32 rfl rfl rfl rfl) rfl rfl rfl rfl rfl (lb rfl) fun a S => ?_
   refine sLoad1 0 (.slice a5 p0.Rows.length a6) S (wG 10 false 32 rfl rfl rfl rfl) rfl rfl rfl rfl rfl rfl (lb rfl) fun a S => ?_
   refine sLen S (wG 10 false 32 rfl rfl rfl rfl) rfl Try.underlying22 rfl rfl (lb rfl) fun a S => ?_
   refine sBin _ S (wG 10 false 32 rfl rfl rfl rfl) rfl rfl rfl (bGt _ _ _ _ .i64 (p0.Rows.length : Int) 150) rfl (lb rfl) fun a S => ?_
   refine sPickF (.bool (decide (150 < (p0.Rows.length : Int)))) S (wN rfl) rfl rfl rfl rfl rfl (lb rfl) fun a S => ?_
   refine sN S fun a S => ?_
   exact lT (⟨decide (150 < (p0.Rows.length : Int)), Option.some.inj h, S.fix [] [] (by decide) rfl rfl rfl⟩)
  refine sField (b := b6) (off := 0) 1 1 S (wG 4 true 26 rfl rfl rfl a0) rfl rfl rfl rfl rfl (lb rfl) fun a S => ?_
  refine sLoad1 0 (.slice a5 p0.Rows.length a6) S (wG 4 true 26 rfl rfl rfl a0) rfl rfl rfl rfl rfl rfl (lb rfl) fun a S => ?_
  refine sLen S (wG 4 true 26 rfl rfl rfl a0) rfl Try.underlying22 rfl rfl (lb rfl) fun a S => ?_
  refine sBin _ S (wG 4 true 26 rfl rfl rfl a0) rfl rfl rfl (bLe _ _ _ _ .i64 (p0.Rows.length : Int) 100) rfl (lb rfl) fun a S => ?_
  refine sPickT (.bool (decide ((p0.Rows.length : Int) ≤ 100))) S (wN rfl) rfl rfl a0 rfl rfl (lb rfl) fun a S => ?_
  refine sM S fun a S => ?_
  rcases iS h with ⟨a4, h⟩ | ⟨a4, h⟩
  ·refine sSkN 4 10 false 32 S rfl rfl a4 rfl fun a S => ?_
   refine sPickT (.bool true) S (wN rfl) rfl rfl a4 rfl rfl (lb rfl) fun a S => ?_
   refine sN S fun a S => ?_
   exact lT (⟨true, Option.some.inj h, S.fix [] [] (by decide) rfl rfl rfl⟩)
  refine sField (b := b6) (off := 0) 1 1 S (wG 10 false 32 rfl rfl rfl a4) rfl rfl rfl rfl rfl (lb rfl) fun a S => ?_
  refine sLoad1 0 (.slice a5 p0.Rows.length a6) S (wG 10 false 32 rfl rfl rfl a4) rfl rfl rfl rfl rfl rfl (lb rfl) fun a S => ?_
  refine sLen S (wG 10 false 32 rfl rfl rfl a4) rfl Try.underlying22 rfl rfl (lb rfl) fun a S => ?_
  refine sBin _ S (wG 10 false 32 rfl rfl rfl a4) rfl rfl rfl (bGt _ _ _ _ .i64 (p0.Rows.length : Int) 150) rfl (lb rfl) fun a S => ?_
  refine sPickF (.bool (decide (150 < (p0.Rows.length : Int)))) S (wN rfl) rfl rfl a4 rfl rfl (lb rfl) fun a S => ?_
  refine sN S fun a S => ?_
  exact lT (⟨decide (150 < (p0.Rows.length : Int)), Option.some.inj h, S.fix [] [] (by decide) rfl rfl rfl⟩)
 refine sSeq (fun K9 aC => sRegion (sN S fun a S => ?_))
 refine lT (aC _ _ (wp_block ?_))
 obtain ⟨aJ, hl, au⟩ := bS h
 refine sLoop hl (fun s0 a w => match s0 with | a8 => St [] E [] w0 38 a w [(1, .pointer (some ⟨b6, 0, none⟩)), (3, iv a8)] [eBox b6 24 [iv p0.Start, .slice a5 p0.Rows.length a6]] [fRep (rL r_api_Row) (.slice a5 p0.Rows.length a6) p0.Rows]) (S.fix [0] [0] (by decide) rfl rfl rfl) ?_
 clear hl h
 intro a8 a w c0 hI h ag
 unfold raddleref26_Great_l1 at h
 dsimp only at h hI
 have S := hI
 refine sSeq (fun aK ah => ?_)
 obtain ⟨aG, h, aH⟩ := bS h
 refine sCut (fun a w => ∃ ai, ai = aG ∧ St [] E [] w0 38 a w [(1, .pointer (some ⟨b6, 0, none⟩)), (3, iv a8), (12, .bool ai)] [eBox b6 24 [iv p0.Start, .slice a5 p0.Rows.length a6]] [fRep (rL r_api_Row) (.slice a5 p0.Rows.length a6) p0.Rows]) ?_ (fun a w hI => ?_)
 ·refine sRegion (sM S fun a S => ?_)
  refine sField (b := b6) (off := 0) 1 1 S (wN rfl) rfl rfl rfl rfl rfl (lb rfl) fun a S => ?_
  refine sLoad1 0 (.slice a5 p0.Rows.length a6) S (wN rfl) rfl rfl rfl rfl rfl rfl (lb rfl) fun a S => ?_
  refine sLen S (wN rfl) rfl Try.underlying22 rfl rfl (lb rfl) fun a S => ?_
  refine sBin _ S (wN rfl) rfl rfl rfl (bLt _ _ _ _ .i64 a8 (p0.Rows.length : Int)) rfl (lb rfl) fun a S => ?_
  refine sM S fun a S => ?_
  rcases iS h with ⟨a7, h⟩ | ⟨a7, h⟩
  rotate_left
  ·refine sSkN 2 5 true 9 S rfl rfl a7 rfl fun a S => ?_
   refine sPickF (.bool false) S (wN rfl) rfl rfl a7 rfl rfl (lb rfl) fun a S => ?_
   exact lT (⟨false, Option.some.inj h, S.fix [0] [0] (by decide) rfl rfl rfl⟩)
  refine sMove (iv a8) S (wG 5 true 9 rfl rfl rfl a7) (.inl rfl) rfl rfl (lb rfl) fun a S => ?_
  refine sBin _ S (wG 5 true 9 rfl rfl rfl a7) rfl rfl rfl (bLt _ _ _ _ .i64 a8 150) rfl (lb rfl) fun a S => ?_
  refine sPickT (.bool (decide (a8 < 150))) S (wN rfl) rfl rfl a7 rfl rfl (lb rfl) fun a S => ?_
  exact lT (⟨decide (a8 < 150), Option.some.inj h, S.fix [0] [0] (by decide) rfl rfl rfl⟩)
 obtain ⟨ai, rfl, S⟩ := hI
 have h := aH
 try dsimp only at h
 rcases iS h with ⟨a9, h⟩ | ⟨a9, h⟩
 rotate_left
 ·refine sCondF S rfl a9 ?_
  obtain rfl := tS h
  obtain rfl := ag _ rfl
  have h := au
  try dsimp only at h
  exact wp_exit (xThen (xThen (xHit (leafT (⟨Option.some.inj h, S.fix [0] [0] (by decide) rfl rfl rfl⟩)))))
 refine sCondT S rfl a9 ?_
 refine wp_skip (leafT (ah _ _ ?_))
 refine sSeq (fun aL aj => wp_block ?_)
 refine sSeq (fun aM ak => sRegion (sField (b := b6) (off := 0) 1 1 S (wN rfl) rfl rfl rfl rfl rfl (lb rfl) fun a S => ?_))
 refine sLoad1 0 (.slice a5 p0.Rows.length a6) S (wN rfl) rfl rfl rfl rfl rfl rfl (lb rfl) fun a S => ?_
 refine sM S fun a S => ?_
 obtain ⟨aa, al, h⟩ := bS h
 obtain ⟨av, am, S⟩ := pIdx (P := Try.prog) (r := r_api_Row) (v := .slice a5 p0.Rows.length a6) (xs := p0.Rows) (j := a8) 22 65 0 S Try.underlying22 rfl rfl al
 refine sIdxV S (wN rfl) rfl rfl rfl am rfl (lb rfl) fun a S => ?_
 obtain ⟨aw, ao, S⟩ := pFld (P := Try.prog) (r := r_api_Row) (s2 := (rL r_api_Stitch)) (g := (·.Cells)) (q := av) (z := aa) 65 1 0 1 S rfl rfl comp_api_Row_Cells
 refine sFldV (q := av) S (wN rfl) rfl rfl ao rfl (lb rfl) fun a S => ?_
 obtain ⟨aI, S⟩ := pLoad (r := (rL r_api_Stitch)) (q := aw) (x := aa.Cells) 0 S rfl
 obtain ⟨ab, ac, _, rfl, _⟩ := S.mem.know (i := 1) (e := fRep (rL r_api_Stitch) (aI) aa.Cells) rfl
 refine sLoadV1 (vq := aw) 0 (.slice ab aa.Cells.length ac) S (wN rfl) rfl rfl rfl rfl rfl (lb rfl) fun a S => ?_
 obtain ⟨ax, ap, h⟩ := bS h
 have S1 := S.mem
 refine sCq [.slice ab aa.Cells.length ac] (.bool ax) S callee32 (S1.quiet [1] rfl) (fun E1 w1 S1 => c_raddleref25_Great E1 w1 aa.Cells (.slice ab aa.Cells.length ac) ax ap S1) fun a w S => ?_
 refine lT (ak _ _ ?_)
 rcases iS h with ⟨ae, h⟩ | ⟨ae, h⟩
 rotate_left
 ·refine sCondF S rfl ae ?_
  refine wp_skip (leafB (leafT (aj _ _ ?_)))
  refine sRegion (sM S fun a S => ?_)
  refine sBin _ S (wN rfl) rfl rfl rfl (bAdd _ _ _ _ a8 1) rfl (lb rfl) fun a S => ?_
  refine sN S fun a S => ?_
  exact lT (⟨w64 (a8 + 1), (Option.some.inj h).symm, (S.fix [0] [4] (by decide) rfl rfl rfl)⟩)
 refine sCondT S rfl ae ?_
 refine sSeq (fun aO aq => sRegion (sN S fun a S => ?_))
 refine lT (aq _ _ ?_)
 obtain rfl := tS h
 obtain rfl := ag _ rfl
 have h := au
 try dsimp only at h
 obtain rfl := tS h
 have h := g8
 try dsimp only at h
 obtain rfl := tS h
 exact wp_ret (rBlock (rThen (rThen (rBlock (rThen (sRet (.bool true) S (rsl1 rfl (rvT (t := 2) (v := .bool true) S rfl)) ⟨(), rfl, S.mem.sel [] [] (by decide) rfl rfl⟩))))))
theorem pars_short {s : api_Stitch} (h : okS s) (u : Nat) : ∀ ps, ps ∈ pars s u → ps.length ≤ 4 := by
 intro ps hps
 rcases knd h with ⟨b, rfl⟩ | ⟨b, rfl⟩ | rfl | ⟨b, a, h1, h2, rfl⟩ | ⟨b, a, h1, h2, rfl⟩ | ⟨b, a, h1, h2, rfl⟩ | ⟨k, b, a, c, hk, h1, h2, h3, h4, rfl⟩ | ⟨a, h1, h2, rfl⟩ | ⟨b, a, h1, h2, rfl⟩
 ·simp [pars] at hps; subst hps; simp
 ·simp [pars] at hps; subst hps; simp
 ·simp [pars] at hps; subst hps; simp
 ·simp [pars] at hps; subst hps; rw [ups_len]; omega
 ·simp [pars] at hps; subst hps; rw [List.length_reverse, ups_len]; omega
 ·simp [pars] at hps; obtain ⟨_, rfl⟩ := hps; simp
 ·have e : pars ⟨k, b, (a : Int), (c : Int)⟩ u = ((ups u (a + c)).drop a ++ (ups u (a + c)).take a).map fun x => [x] := by rcases hk with rfl | rfl <;> simp [pars]
  rw [e] at hps
  obtain ⟨x, hx, rfl⟩ := List.mem_map.1 hps
  simp
 ·simp [pars] at hps; obtain ⟨_, rfl⟩ := hps; simp
 ·simp [pars] at hps
structure Wfin (c : api_Chart) : Prop where
 inv : LInv c.Start.toNat (c.Rows.map faceR) c.Rows.length 0 (workC c).1
 rs : (workC c).2 = (List.range (c.Rows.length + 2)).map fun r => (off c.Start.toNat (c.Rows.map faceR) r : Int)
 ok : okF c.Start.toNat (c.Rows.map faceR)
 nr : c.Rows.length ≤ 100
 st : ((c.Start.toNat : Nat) : Int) = c.Start
 L : (workC c).1.L.length ≤ 20300
 B : (workC c).1.B.length ≤ 20300
 C : (workC c).1.C.length ≤ 720000
 par : ∀ l, l ∈ (workC c).1.L → l.Parents.length ≤ 4 ∧ l.Parents.Nodup
 once : once (workC c).1.L (workC c).1.B (workC c).1.u
 cinv : cinv (workC c).1.L (workC c).1.C (workC c).1.u
theorem wfin_of {c : api_Chart} (hk : chk c = 0) : Wfin c := by
 obtain ⟨hf, hl, hs⟩ := okF_of hk
 have hfl : (c.Rows.map faceR).length = c.Rows.length := List.length_map _
 obtain ⟨h1, ⟨h2, h3, h4⟩, h5⟩ := stC_all hf (fun k j z => (∀ l, l ∈ z.L → l.Parents.length ≤ 4 ∧ l.Parents.Nodup) ∧ once z.L z.B z.u ∧ cinv z.L z.C z.u) ⟨fun l hl => by
  simp only [zeroL, List.mem_map] at hl
  obtain ⟨_, _, rfl⟩ := hl; simp, once.start _, cinv.start _⟩ (fun k j hk hj z _ h => by
  have hok := (hf.2 k hk).1 _ (List.getElem_mem hj)
  refine ⟨fun l hl => ?_, h.2.1.step hok, h.2.2.step hok⟩
  simp only [stepW] at hl
  rcases List.mem_append.1 hl with hl | hl
  ·exact h.1 l hl
  ·simp only [mkL, List.mem_map] at hl
   obtain ⟨ps, hps, rfl⟩ := hl
   exact ⟨pars_short hok _ ps hps, (pars_bd hok _ ps hps).1⟩) (fun _ _ _ _ h => h) _ (Nat.le_refl _)
 have hbd := stC_bd hf _ (Nat.le_refl _)
 have hlen := h1.len
 have hu := h1.u
 have ho := off_le hf (r := c.Rows.length + 1) (by omega)
 have ho2 := off_le hf (r := c.Rows.length) (by omega)
 rw [← workC_eq hk] at h1 h2 h3 h4 h5 hbd hlen hu
 rw [hfl] at h1 hbd hlen hu h5
 have e1 : pm c.Start.toNat (c.Rows.map faceR) c.Rows.length 0 = off c.Start.toNat (c.Rows.map faceR) (c.Rows.length + 1) := by simp [pm, smN]
 have e2 : pu c.Start.toNat (c.Rows.map faceR) c.Rows.length 0 = off c.Start.toNat (c.Rows.map faceR) c.Rows.length := by simp [pu, smN]
 have hB := hbd.B
 have hC := hbd.C
 exact ⟨h1, h5, hf, hl, hs, by omega, by omega, by omega, h2, h3, h4⟩
theorem rgreatS_eq (l : List api_Stitch) : ∃ b, F_raddleref25_Great l = some b := by
 unfold F_raddleref25_Great
 by_cases h1 : (60 : Int) < (l.length : Int)
 ·simp only [dT h1, if_true]; repeat' split
  all_goals exact ⟨_, rfl⟩
 ·simp only [dF h1, Bool.false_eq_true, if_false]; repeat' split
  all_goals exact ⟨_, rfl⟩
theorem rgreat26_eq (c : api_Chart) : ∃ b, F_raddleref26_Great c = some b := by
 have key : ∃ t, whileO (raddleref26_Great_l1 c) 0 = some t ∧ (t = .inr () ∨ t = .inl true) := by
  refine loop_ix (Nat.min c.Rows.length 150) (fun _ => True) _ trivial ?_ ?_
  ·intro k hk _
   have h1 : k < c.Rows.length := Nat.lt_of_lt_of_le hk (Nat.min_le_left _ _)
   have h2 : k < 150 := Nat.lt_of_lt_of_le hk (Nat.min_le_right _ _)
   obtain ⟨b, hb⟩ := rgreatS_eq c.Rows[k].Cells
   unfold raddleref26_Great_l1
   simp only [dT (show (k : Int) < (c.Rows.length : Int) by omega), if_true, dT (show (k : Int) < 150 by omega), Option.bind_some, idxO_nat h1, hb, w64_succ (show k < 9223372036854775807 by omega)]
   cases b with
   | true => exact .inr ⟨_, rfl, .inr rfl⟩
   | false => exact .inl ⟨rfl, trivial⟩
  ·intro _
   refine ⟨.inr (), ?_, .inl rfl⟩
   unfold raddleref26_Great_l1
   by_cases h : c.Rows.length ≤ 150
   ·rw [show Nat.min c.Rows.length 150 = c.Rows.length from Nat.min_eq_left h]
    simp only [dF (show ¬ (c.Rows.length : Int) < (c.Rows.length : Int) by omega), Bool.false_eq_true, if_false, Option.bind_some]
   ·rw [show Nat.min c.Rows.length 150 = 150 from Nat.min_eq_right (by omega)]
    simp only [dT (show ((150 : Nat) : Int) < (c.Rows.length : Int) by omega), if_true, dF (show ¬ ((150 : Nat) : Int) < 150 by omega), Bool.false_eq_true, if_false, Option.bind_some]
 obtain ⟨t, h1, h2⟩ := key
 unfold F_raddleref26_Great
 rw [h1]
 rcases h2 with rfl | rfl
 ·simp only [Option.bind_some]
  by_cases h1 : (12 : Int) < (c.Rows.length : Int)
  ·by_cases h2 : (c.Rows.length : Int) ≤ 100
   ·simp only [dT h1, dT h2, if_true, Option.bind_some]; exact ⟨_, rfl⟩
   ·simp only [dT h1, dF h2, if_true, Bool.false_eq_true, if_false, Option.bind_some]; exact ⟨_, rfl⟩
  ·simp only [dF h1, Bool.false_eq_true, if_false, Option.bind_some]; exact ⟨_, rfl⟩
 ·exact ⟨_, rfl⟩
theorem LInv.rowL {S : Nat} {fs : List (List api_Stitch)} {z : Wk} (hf : okF S fs) (h : LInv S fs fs.length 0 z) {r i : Nat} (hr : r ≤ fs.length) (h0 : off S fs r ≤ i) (h1 : i < off S fs (r + 1)) :
 ∃ l, z.L[i]? = some l ∧ l.Row = (r : Int) ∧ ∀ p, p ∈ l.Parents → 1 ≤ r ∧ ((off S fs (r - 1) : Nat) : Int) ≤ p ∧ p < ((off S fs r : Nat) : Int) := by
 cases r with
 | zero =>
  have := h.zero i (by simpa [off, nR] using h1)
  exact ⟨_, this, rfl, fun p hp => by simp at hp⟩
 | succ r =>
  have hk : r < fs.length := by omega
  have hg : fs.getD r [] = fs[r] := by simp [List.getD_eq_getElem?_getD, List.getElem?_eq_getElem hk]
  have e := nR_succ (S := S) hk
  have e2 : off S fs (r + 1 + 1) = off S fs (r + 1) + smN mN fs[r] := by rw [show off S fs (r + 1 + 1) = off S fs (r + 1) + nR S fs (r + 1) from rfl, e]
  obtain ⟨j, hj, x, hx, ht⟩ := smN_find mN fs[r] (i - off S fs (r + 1)) (by omega)
  obtain ⟨pl, ps, _, hps, hl⟩ := h.old r j x hk hj (.inl hk) hx
  have hi : pm S fs r j + x = i := by simp only [pm, hg]; omega
  rw [hi] at hl
  refine ⟨_, hl, rfl, fun p hp => ⟨by omega, ?_⟩⟩
  have hb := (pars_bd ((hf.2 r hk).1 _ (List.getElem_mem hj)) (pu S fs r j) ps (List.mem_of_getElem? hps)).2 p hp
  have hle := pu_le hf hk hj
  have hge : off S fs r ≤ pu S fs r j := by simp only [pu]; omega
  rw [Nat.add_sub_cancel]
  omega
theorem row_of {S : Nat} {fs : List (List api_Stitch)} : ∀ (n i : Nat), i < off S fs n → ∃ r, r < n ∧ off S fs r ≤ i ∧ i < off S fs (r + 1)
 | 0, i, h => by simp [off] at h
 | n + 1, i, h => by
  by_cases h1 : i < off S fs n
  ·obtain ⟨r, a, b, c⟩ := row_of n i h1
   exact ⟨r, by omega, b, c⟩
  ·exact ⟨n, by omega, by omega, h⟩
def anc_raddlelaw27_LoopsCross_0 : List (List Nat) := [[], [], [1], [0, 1, 2], [0, 1, 2, 3], [0, 1, 2, 3, 4], [0, 1, 2, 3, 4], [0, 1, 2, 3, 4, 5, 6], [0, 1, 2, 3, 4, 5, 6, 7], [0, 1, 2, 3, 4, 5, 6, 7, 8], [0, 1, 2, 3, 4], [0, 1, 2, 3, 4], [0, 1, 2, 3, 4, 10, 11], [0, 1, 2, 3, 4, 10, 11, 12], [0, 1, 2, 3, 4, 10, 11, 12, 13], [0, 1, 2, 3, 4, 5, 6, 7, 8, 9, 10, 11, 12, 13, 14], [0, 1, 2, 3, 4, 5, 6, 7, 8, 9, 10, 11, 12, 13, 14, 15]]
def anc_raddlelaw27_LoopsCross_1 : List (List Nat) := [[], [], [0, 1], [0, 1, 2], [0, 1, 2, 3], [0, 1, 2, 3, 4], [0, 1, 2, 3, 4, 5], [0, 1, 2, 3, 4, 5, 6], [0, 1, 2, 3, 4, 5, 6, 7], [0, 1, 2, 3, 4, 5, 6, 7], [0, 1, 2, 3, 4, 5, 6, 7, 8, 9], [0, 1, 2, 3, 4, 5, 6, 7, 8, 9, 10], [0, 1, 2, 3, 4, 5, 6, 7, 8, 9, 10, 11], [0, 1, 2, 3, 4, 5, 6, 7, 8, 9, 10, 11, 12], [0, 1, 2, 3, 4, 5, 6, 7, 8, 9, 10, 11, 12, 13], [0, 1, 2, 3, 4, 5, 6, 7, 8, 9, 10, 11, 12, 13, 14], [0, 1, 2, 3, 4, 5, 6, 7, 8, 9, 10, 11, 12, 13, 14, 15], [0, 1, 2, 3, 4, 5, 6, 7, 8, 9, 10, 11, 12, 13, 14, 15, 16], [0, 1, 2, 3, 4, 5, 6, 7, 8, 9, 10, 11, 12, 13, 14, 15, 16], [0, 1, 2, 3, 4, 5, 6, 7, 8, 9, 10, 11, 12, 13, 14, 15, 16, 17, 18], [0, 1, 2, 3, 4, 5, 6, 7, 8, 9, 10, 11, 12, 13, 14, 15, 16, 17, 18, 19], [0, 1, 2, 3, 4, 5, 6, 7, 8, 9, 10, 11, 12, 13, 14, 15, 16, 17, 18, 19, 20], [0, 1, 2, 3, 4, 5, 6, 7, 8, 9, 10, 11, 12, 13, 14, 15, 16, 17, 18, 19, 20, 21], [0, 1, 2, 3, 4, 5, 6, 7, 8, 9, 10, 11, 12, 13, 14, 15, 16, 17, 18, 19, 20, 21, 22], [0, 1, 2, 3, 4, 5, 6, 7, 8, 9, 10, 11, 12, 13, 14, 15, 16], [0, 1, 2, 3, 4, 5, 6, 7, 8, 9, 10, 11, 12, 13, 14, 15, 16], [0, 1, 2, 3, 4, 5, 6, 7, 8, 9, 10, 11, 12, 13, 14, 15, 16, 24, 25], [0, 1, 2, 3, 4, 5, 6, 7, 8, 9, 10, 11, 12, 13, 14, 15, 16, 24, 25, 26], [0, 1, 2, 3, 4, 5, 6, 7, 8, 9, 10, 11, 12, 13, 14, 15, 16, 24, 25, 26, 27], [0, 1, 2, 3, 4, 5, 6, 7, 8, 9, 10, 11, 12, 13, 14, 15, 16, 24, 25, 26, 27, 28], [0, 1, 2, 3, 4, 5, 6, 7, 8, 9, 10, 11, 12, 13, 14, 15, 16, 24, 25, 26, 27, 28, 29], [0, 1, 2, 3, 4, 5, 6, 7, 8, 9, 10, 11, 12, 13, 14, 15, 16, 17, 18, 19, 20, 21, 22, 23, 24, 25, 26, 27, 28, 29, 30], [0, 1, 2, 3, 4, 5, 6, 7, 8, 9, 10, 11, 12, 13, 14, 15, 16, 17, 18, 19, 20, 21, 22, 23, 24, 25, 26, 27, 28, 29, 30, 31]]
def anc_raddlelaw27_LoopsCross_2 : List (List Nat) := [[], [0], [0, 1], [0, 1, 2], [0, 1, 2], [0, 1, 2, 3, 4], [0, 1, 2, 3, 4, 5], [0, 1, 2, 3, 4, 5, 6], [0, 1, 2], [0, 1, 2], [0, 1, 2, 8, 9], [0, 1, 2, 8, 9, 10], [0, 1, 2, 8, 9, 10, 11], [0, 1, 2, 3, 4, 5, 6, 7, 8, 9, 10, 11, 12], [0, 1, 2, 3, 4, 5, 6, 7, 8, 9, 10, 11, 12, 13]]
noncomputable def raddlelaw27_LoopsCross_l1 (a8 : ((List (Int × Int)) × Int)) (a9 : Int) (aa : Int) : (Int × Int) → Option ((Int × Int) ⊕ Int) := fun s0 => match s0 with
 | (a4, a5) =>
  if decide (a5 < (a8.1.length : Int)) then
   Option.bind (α := Int) (
    Option.bind (α := Bool) (
     (idxO a8.1 a5).bind fun a0 =>
     if ((a0.1 == a9) && ((a0.2 == aa) && true)) then
      some true
     else
      some ((a0.1 == aa) && ((a0.2 == a9) && true))) fun a6 =>
    if a6 then
     some (w64 (a4 + 1))
    else
     some a4) fun a7 =>
   some (.inl (a7, w64 (a5 + 1)))
  else
   some (.inr a4)
noncomputable def raddlelaw27_LoopsCross_l2 (a0 : ((List api_Loop) × Int)) (a7 : Int) (aj : ((List (Int × Int)) × Int)) : (Int × Int) → Option ((Int × Int) ⊕ (Bool ⊕ Int)) := fun s0 => match s0 with
 | (a8, a4) =>
  Option.bind (α := Bool) (
   if decide (a4 < (a0.1.length : Int)) then
    (idxO a0.1 a4).bind fun ak =>
    (idxO a0.1 a7).bind fun al =>
    some (ak.Row == al.Row)
   else
    some false) fun am =>
  if am then
   Option.bind (α := Int ⊕ Bool) (
    Option.bind (α := Bool) (
     (idxO a0.1 a7).bind fun a5 =>
     if (a5.Parents.length : Int) == 1 then
      (idxO a0.1 a4).bind fun a6 =>
      if (a6.Parents.length : Int) == 1 then
       (idxO a5.Parents 0).bind fun a9 =>
       (idxO a6.Parents 0).bind fun aa =>
       some (decide (aa < a9))
      else
       some false
     else
      some false) fun ab =>
    if ab then
     Option.bind (α := Int) (
      (whileO (raddlelaw27_LoopsCross_l1 aj a7 a4) (0, 0)).bind fun ac =>
       some ac) fun ae =>
     Option.bind (α := Bool) (
      if ae != 1 then
       some true
      else
       (idxO a0.1 a7).bind fun af =>
       (idxO a0.1 a4).bind fun ag =>
       some (af.Cell != ag.Cell)) fun ah =>
     if ah then
      some (.inr false)
     else
      some (.inl (w64 (a8 + 1)))
    else
     some (.inl a8)) fun z0 => match z0 with
    | .inl ai =>
     some (.inl (ai, w64 (a4 + 1)))
    | .inr z =>
     some (.inr (.inl z))
  else
   some (.inr (.inr a8))
noncomputable def raddlelaw27_LoopsCross_l3 (a4 : ((List api_Loop) × Int)) (a6 : ((List (Int × Int)) × Int)) : (Int × Int) → Option ((Int × Int) ⊕ (Bool ⊕ Int)) := fun s0 => match s0 with
 | (a5, a0) =>
  if decide (a0 < (a4.1.length : Int)) then
   Option.bind (α := Int ⊕ Bool) (
    (whileO (raddlelaw27_LoopsCross_l2 a4 a0 a6) (a5, w64 (a0 + 1))).bind fun z0 => match z0 with
     | .inl z =>
      some (.inr z)
     | .inr a7 =>
      some (.inl a7)) fun z0 => match z0 with
    | .inl a8 =>
     some (.inl (a8, w64 (a0 + 1)))
    | .inr z =>
     some (.inr (.inl z))
  else
   some (.inr (.inr a5))
noncomputable def F_raddlelaw27_LoopsCross (p0 : api_Chart) : Option Bool :=
 (F_raddlelaw27_alive).bind fun r8 =>
 Option.bind (α := Bool) (
  (F_raddleref26_Great p0).bind fun a6 =>
  if a6 then
   some true
  else
   (F_raddleref26_Check p0).bind fun a7 =>
   if a7 != 0 then
    some true
   else
    some (!r8)) fun a8 =>
 if a8 then
  some r8
 else
  (F_loops_Of p0).bind fun a4 =>
  (F_loops_Crossings p0).bind fun a0 =>
  Option.bind (α := Bool) (
   if a4.2 != 0 then
    some true
   else
    if a0.2 != 0 then
     some true
    else
     if decide (3000 < (a4.1.length : Int)) then
      some true
     else
      some (decide (3000 < (a0.1.length : Int)))) fun a9 =>
  if a9 then
   Option.bind (α := Bool) (
    if r8 then
     if a4.2 == 0 then
      some (a0.2 == 0)
     else
      some false
    else
     some false) fun aa =>
   some aa
  else
   Option.bind (α := Int ⊕ Bool) (
    (whileO (raddlelaw27_LoopsCross_l3 a4 a0) (0, 0)).bind fun z0 => match z0 with
     | .inl z =>
      some (.inr z)
     | .inr ab =>
      some (.inl ab)) fun z0 => match z0 with
    | .inl ac =>
     Option.bind (α := Bool) (
      if r8 then
       some (ac == (a0.1.length : Int))
      else
       some false) fun a5 =>
     some a5
    | .inr z =>
     some z
theorem c_raddlelaw27_LoopsCross (E : Nat → Prop) (w0 : World) (p0 : api_Chart) (v0 : Value) (r : Bool) (h : F_raddlelaw27_LoopsCross p0 = some r) (S : St0 E [] w0 w0 [] [fRep r_api_Chart (v0) p0]) :
 Calls Try.prog 4 #[v0] w0 (Ret (X := Unit) E [] w0 (fun _ => .bool r) (fun _ => []) (fun _ => [])) := by
 unfold F_raddlelaw27_LoopsCross at h
 obtain ⟨u1, rfl, dH⟩ := S.know (i := 0) (e := fRep r_api_Chart (v0) p0) rfl
 have S := S.learn (fRep (rL r_api_Row) u1 p0.Rows) dH
 obtain ⟨am, ao, _, rfl, _⟩ := dH
 refine sEnter (args := [.agg #[iv p0.Start, .slice am p0.Rows.length ao]]) 171 Try.func4 rfl rfl (by simp) S (fun a S => ?_)
 refine sSeq (fun K5 dP => sRegion (sBox (v := .agg #[iv p0.Start, .slice am p0.Rows.length ao]) S (wN rfl) rfl rfl [iv p0.Start, .slice am p0.Rows.length ao] rfl rfl (lb rfl) fun a b6 w S => ?_))
 refine sN S fun a S => ?_
 refine lT (dP _ _ (sSeq (fun K7 dQ => sRegion ?_)))
 obtain ⟨r8, dR, h⟩ := bS h
 have S1 := S.mem
 refine sCq [] (.bool r8) S callee20 (S1.quiet [] rfl) (fun E1 w1 S1 => c_raddlelaw27_alive E1 w1  r8 dR S1) fun a w S => ?_
 refine sN S fun a S => ?_
 refine lT (dQ _ _ (sSeq (fun ek cQ => ?_)))
 obtain ⟨dS, h, dU⟩ := bS h
 refine sCut (fun a w => ∃ cR, cR = dS ∧ St [] E [] w0 171 a w [(1, .pointer (some ⟨b6, 0, none⟩)), (3, .bool r8), (24, .bool cR)] [eBox b6 24 [iv p0.Start, .slice am p0.Rows.length ao]] [fRep (rL r_api_Row) (.slice am p0.Rows.length ao) p0.Rows]) ?_ (fun a w hI => ?_)
 ·refine sRegion (sLoadN (p := b6) (off := 0) (T := 24) (vs := [iv p0.Start, .slice am p0.Rows.length ao]) 0 [iv p0.Start, .slice am p0.Rows.length ao] S (wN rfl) rfl rfl rfl rfl rfl rfl rfl (lb rfl) fun a S => ?_)
  obtain ⟨dI, cS, h⟩ := bS h
  have S1 := S.mem
  refine sCq [.agg #[iv p0.Start, .slice am p0.Rows.length ao]] (.bool dI) S callee10 (S1.quiet [1] rfl) (fun E1 w1 S1 => c_raddleref26_Great E1 w1 p0 (.agg #[iv p0.Start, .slice am p0.Rows.length ao]) dI cS S1) fun a w S => ?_
  refine sM S fun a S => ?_
  rcases iS h with ⟨ax, h⟩ | ⟨ax, h⟩
  ·refine sSkN 3 2 false 16 S rfl rfl ax rfl fun a S => ?_
   refine sPickT (.bool true) S (wN rfl) rfl rfl ax rfl rfl (lb rfl) fun a S => ?_
   refine sM S fun a S => ?_
   refine sSkN 2 7 false 21 S rfl rfl rfl rfl fun a S => ?_
   refine sPickT (.bool true) S (wN rfl) rfl rfl rfl rfl rfl (lb rfl) fun a S => ?_
   exact lT (⟨true, Option.some.inj h, S.fix [0] [0] (by decide) rfl rfl rfl⟩)
  refine sLoadN (p := b6) (off := 0) (T := 24) (vs := [iv p0.Start, .slice am p0.Rows.length ao]) 0 [iv p0.Start, .slice am p0.Rows.length ao] S (wG 2 false 16 rfl rfl rfl ax) rfl rfl rfl rfl rfl rfl rfl (lb rfl) fun a S => ?_
  obtain ⟨cK, cT, h⟩ := bS h
  have S1 := S.mem
  refine sCallQ (X := Unit) (f := 21) (vs := [.agg #[iv p0.Start, .slice am p0.Rows.length ao]]) (val := fun _ => iv cK) S (wG 2 false 16 rfl rfl rfl ax) rfl callee21 rfl (S1.quiet [1] rfl) (fun E1 w1 S1 => c_raddleref26_Check E1 w1 p0 (.agg #[iv p0.Start, .slice am p0.Rows.length ao]) cK cT S1) rfl (lb rfl) fun _ a w S => ?_
  refine sBin _ S (wG 2 false 16 rfl rfl rfl ax) rfl rfl rfl (bNe _ _ _ _ .i64 cK 0) rfl (lb rfl) fun a S => ?_
  refine sPickF (.bool (cK != 0)) S (wN rfl) rfl rfl ax rfl rfl (lb rfl) fun a S => ?_
  refine sM S fun a S => ?_
  rcases iS h with ⟨aM, h⟩ | ⟨aM, h⟩
  ·refine sSkN 2 7 false 21 S rfl rfl aM rfl fun a S => ?_
   refine sPickT (.bool true) S (wN rfl) rfl rfl aM rfl rfl (lb rfl) fun a S => ?_
   exact lT (⟨true, Option.some.inj h, S.fix [0] [0] (by decide) rfl rfl rfl⟩)
  refine sMove (.bool r8) S (wG 7 false 21 rfl rfl rfl aM) (.inl rfl) rfl rfl (lb rfl) fun a S => ?_
  refine sNot (b := r8) S (wG 7 false 21 rfl rfl rfl aM) rfl rfl rfl (lb rfl) fun a S => ?_
  refine sPickF (.bool (!r8)) S (wN rfl) rfl rfl aM rfl rfl (lb rfl) fun a S => ?_
  exact lT (⟨!r8, Option.some.inj h, S.fix [0] [0] (by decide) rfl rfl rfl⟩)
 obtain ⟨cR, rfl, S⟩ := hI
 have h := dU
 try dsimp only at h
 rcases iS h with ⟨bE, h⟩ | ⟨bE, h⟩
 ·refine sCondT S rfl bE ?_
  refine sSeq (fun el cU => sRegion (sM S fun a S => ?_))
  refine sN S fun a S => ?_
  refine lT (cU _ _ ?_)
  obtain rfl := tS h
  exact wp_ret (rThen (sRet (.bool r8) S (rsl1 rfl (rvT (t := 2) (v := .bool r8) S rfl)) ⟨(), rfl, S.mem.sel [] [] (by decide) rfl rfl⟩))
 refine sCondF S rfl bE ?_
 refine wp_skip (leafT (cQ _ _ ?_))
 refine sSeq (fun en cV => sRegion (sLoadN (p := b6) (off := 0) (T := 24) (vs := [iv p0.Start, .slice am p0.Rows.length ao]) 0 [iv p0.Start, .slice am p0.Rows.length ao] S (wN rfl) rfl rfl rfl rfl rfl rfl rfl (lb rfl) fun a S => ?_))
 obtain ⟨a5, cW, h⟩ := bS h
 have S := S.learn (fRep r_api_Chart (.agg #[iv p0.Start, .slice am p0.Rows.length ao]) p0) ⟨_, rfl, S.mem.know (i := 0) (e := fRep (rL r_api_Row) (.slice am p0.Rows.length ao) p0.Rows) rfl⟩
 refine sCall (X := Value) (f := 11) (vs := [.agg #[iv p0.Start, .slice am p0.Rows.length ao]]) (val := c_loops_Of_val a5) (B' := fun _ => []) (D' := c_loops_Of_D a5) [] [eBox b6 24 [iv p0.Start, .slice am p0.Rows.length ao]] [fRep r_api_Chart (.agg #[iv p0.Start, .slice am p0.Rows.length ao]) p0] [0] [0] S (wN rfl) rfl callee11 rfl (by decide) rfl rfl (fun E1 w1 S1 => c_loops_Of E1 w1 p0 (.agg #[iv p0.Start, .slice am p0.Rows.length ao]) a5 cW S1) rfl (lb rfl) fun dV a w S => ?_
 obtain ⟨a0, a4, _, rfl, _⟩ := S.mem.know (i := 0) (e := fRep (rL r_api_Loop) (dV) a5.1) rfl
 refine sM S fun a S => ?_
 refine sExtract (vs := [.slice a0 a5.1.length a4, iv a5.2]) (.slice a0 a5.1.length a4) S (wN rfl) rfl rfl rfl rfl (lb rfl) fun a S => ?_
 refine sExtract (vs := [.slice a0 a5.1.length a4, iv a5.2]) (iv a5.2) S (wN rfl) rfl rfl rfl rfl (lb rfl) fun a S => ?_
 refine sN S fun a S => ?_
 refine sN S fun a S => ?_
 refine lT (cV _ _ (sSeq (fun eo cX => sRegion (sLoadN (p := b6) (off := 0) (T := 24) (vs := [iv p0.Start, .slice am p0.Rows.length ao]) 0 [iv p0.Start, .slice am p0.Rows.length ao] S (wN rfl) rfl rfl rfl rfl rfl rfl rfl (lb rfl) fun a S => ?_))))
 obtain ⟨a9, cY, h⟩ := bS h
 refine sCall (X := Value) (f := 15) (vs := [.agg #[iv p0.Start, .slice am p0.Rows.length ao]]) (val := c_loops_Crossings_val a9) (B' := fun _ => []) (D' := c_loops_Crossings_D a9) [] [eBox b6 24 [iv p0.Start, .slice am p0.Rows.length ao]] [fRep r_api_Chart (.agg #[iv p0.Start, .slice am p0.Rows.length ao]) p0] [0] [1] S (wN rfl) rfl callee15 rfl (by decide) rfl rfl (fun E1 w1 S1 => c_loops_Crossings E1 w1 p0 (.agg #[iv p0.Start, .slice am p0.Rows.length ao]) a9 cY S1) rfl (lb rfl) fun dW a w S => ?_
 obtain ⟨a7, a8, _, rfl, _⟩ := S.mem.know (i := 0) (e := fRep (rL r_A2_Int) (dW) a9.1) rfl
 refine sM S fun a S => ?_
 refine sExtract (vs := [.slice a7 a9.1.length a8, iv a9.2]) (.slice a7 a9.1.length a8) S (wN rfl) rfl rfl rfl rfl (lb rfl) fun a S => ?_
 refine sExtract (vs := [.slice a7 a9.1.length a8, iv a9.2]) (iv a9.2) S (wN rfl) rfl rfl rfl rfl (lb rfl) fun a S => ?_
 refine sN S fun a S => ?_
 refine sN S fun a S => ?_
 refine lT (cX _ _ (sSeq (fun ep cZ => ?_)))
 obtain ⟨dX, h, dY⟩ := bS h
 refine sCut (fun a w => ∃ d1, d1 = dX ∧ St [] E [] w0 171 a w [(3, .bool r8), (4, .slice a0 a5.1.length a4), (5, iv a5.2), (6, .slice a7 a9.1.length a8), (7, iv a9.2), (51, .bool d1)] [] [fRep (rL r_api_Loop) (.slice a0 a5.1.length a4) a5.1, fRep (rL r_A2_Int) (.slice a7 a9.1.length a8) a9.1]) ?_ (fun a w hI => ?_)
 ·refine sRegion (sM S fun a S => ?_)
  refine sBin _ S (wN rfl) rfl rfl rfl (bNe _ _ _ _ .i64 a5.2 0) rfl (lb rfl) fun a S => ?_
  refine sM S fun a S => ?_
  rcases iS h with ⟨aO, h⟩ | ⟨aO, h⟩
  ·refine sSkN 2 2 false 38 S rfl rfl aO rfl fun a S => ?_
   refine sPickT (.bool true) S (wN rfl) rfl rfl aO rfl rfl (lb rfl) fun a S => ?_
   refine sM S fun a S => ?_
   refine sSkN 3 6 false 42 S rfl rfl rfl rfl fun a S => ?_
   refine sPickT (.bool true) S (wN rfl) rfl rfl rfl rfl rfl (lb rfl) fun a S => ?_
   refine sM S fun a S => ?_
   refine sSkN 3 11 false 47 S rfl rfl rfl rfl fun a S => ?_
   refine sPickT (.bool true) S (wN rfl) rfl rfl rfl rfl rfl (lb rfl) fun a S => ?_
   exact lT (⟨true, Option.some.inj h, S.fix [] [1, 0] (by decide) rfl rfl rfl⟩)
  refine sMove (iv a9.2) S (wG 2 false 38 rfl rfl rfl aO) (.inl rfl) rfl rfl (lb rfl) fun a S => ?_
  refine sBin _ S (wG 2 false 38 rfl rfl rfl aO) rfl rfl rfl (bNe _ _ _ _ .i64 a9.2 0) rfl (lb rfl) fun a S => ?_
  refine sPickF (.bool (a9.2 != 0)) S (wN rfl) rfl rfl aO rfl rfl (lb rfl) fun a S => ?_
  refine sM S fun a S => ?_
  rcases iS h with ⟨ay, h⟩ | ⟨ay, h⟩
  ·refine sSkN 3 6 false 42 S rfl rfl ay rfl fun a S => ?_
   refine sPickT (.bool true) S (wN rfl) rfl rfl ay rfl rfl (lb rfl) fun a S => ?_
   refine sM S fun a S => ?_
   refine sSkN 3 11 false 47 S rfl rfl rfl rfl fun a S => ?_
   refine sPickT (.bool true) S (wN rfl) rfl rfl rfl rfl rfl (lb rfl) fun a S => ?_
   exact lT (⟨true, Option.some.inj h, S.fix [] [1, 0] (by decide) rfl rfl rfl⟩)
  refine sMove (.slice a0 a5.1.length a4) S (wG 6 false 42 rfl rfl rfl ay) (.inl rfl) rfl rfl (lb rfl) fun a S => ?_
  refine sLen S (wG 6 false 42 rfl rfl rfl ay) rfl Try.underlying26 rfl rfl (lb rfl) fun a S => ?_
  refine sBin _ S (wG 6 false 42 rfl rfl rfl ay) rfl rfl rfl (bGt _ _ _ _ .i64 (a5.1.length : Int) 3000) rfl (lb rfl) fun a S => ?_
  refine sPickF (.bool (decide (3000 < (a5.1.length : Int)))) S (wN rfl) rfl rfl ay rfl rfl (lb rfl) fun a S => ?_
  refine sM S fun a S => ?_
  rcases iS h with ⟨az, h⟩ | ⟨az, h⟩
  ·refine sSkN 3 11 false 47 S rfl rfl az rfl fun a S => ?_
   refine sPickT (.bool true) S (wN rfl) rfl rfl az rfl rfl (lb rfl) fun a S => ?_
   exact lT (⟨true, Option.some.inj h, S.fix [] [1, 0] (by decide) rfl rfl rfl⟩)
  refine sMove (.slice a7 a9.1.length a8) S (wG 11 false 47 rfl rfl rfl az) (.inl rfl) rfl rfl (lb rfl) fun a S => ?_
  refine sLen S (wG 11 false 47 rfl rfl rfl az) rfl Try.underlying37 rfl rfl (lb rfl) fun a S => ?_
  refine sBin _ S (wG 11 false 47 rfl rfl rfl az) rfl rfl rfl (bGt _ _ _ _ .i64 (a9.1.length : Int) 3000) rfl (lb rfl) fun a S => ?_
  refine sPickF (.bool (decide (3000 < (a9.1.length : Int)))) S (wN rfl) rfl rfl az rfl rfl (lb rfl) fun a S => ?_
  exact lT (⟨decide (3000 < (a9.1.length : Int)), Option.some.inj h, S.fix [] [1, 0] (by decide) rfl rfl rfl⟩)
 obtain ⟨d1, rfl, S⟩ := hI
 have h := dY
 try dsimp only at h
 rcases iS h with ⟨bG, h⟩ | ⟨bG, h⟩
 ·refine sCondT S rfl bG ?_
  obtain ⟨dZ, h, e0⟩ := bS h
  refine sCut (fun a w => ∃ bU, bU = dZ ∧ St [] E [] w0 171 a w [(2, .bool bU)] [] []) ?_ (fun a w hI => ?_)
  rotate_left
  ·obtain ⟨bU, rfl, S⟩ := hI
   have h := e0
   try dsimp only at h
   obtain rfl := tS h
   exact wp_ret (rThen (sRet (.bool bU) S (rsl1 rfl (rvT (t := 2) (v := .bool bU) S rfl)) ⟨(), rfl, S.mem.sel [] [] (by decide) rfl rfl⟩))
  refine sRegion (sM S fun a S => ?_)
  refine sM S fun a S => ?_
  rcases iS h with ⟨aP, h⟩ | ⟨aP, h⟩
  rotate_left
  ·refine sSkN 2 1 true 53 S rfl rfl aP rfl fun a S => ?_
   refine sPickF (.bool false) S (wN rfl) rfl rfl aP rfl rfl (lb rfl) fun a S => ?_
   refine sM S fun a S => ?_
   refine sSkN 2 5 true 57 S rfl rfl rfl rfl fun a S => ?_
   refine sPickF (.bool false) S (wN rfl) rfl rfl rfl rfl rfl (lb rfl) fun a S => ?_
   refine sN S fun a S => ?_
   exact lT (⟨false, Option.some.inj h, S.fix [] [] (by decide) rfl rfl rfl⟩)
  refine sMove (iv a5.2) S (wG 1 true 53 rfl rfl rfl aP) (.inl rfl) rfl rfl (lb rfl) fun a S => ?_
  refine sBin _ S (wG 1 true 53 rfl rfl rfl aP) rfl rfl rfl (bEq _ _ _ _ .i64 a5.2 0) rfl (lb rfl) fun a S => ?_
  refine sPickT (.bool (a5.2 == 0)) S (wN rfl) rfl rfl aP rfl rfl (lb rfl) fun a S => ?_
  refine sM S fun a S => ?_
  rcases iS h with ⟨aQ, h⟩ | ⟨aQ, h⟩
  rotate_left
  ·refine sSkN 2 5 true 57 S rfl rfl aQ rfl fun a S => ?_
   refine sPickF (.bool false) S (wN rfl) rfl rfl aQ rfl rfl (lb rfl) fun a S => ?_
   refine sN S fun a S => ?_
   exact lT (⟨false, Option.some.inj h, S.fix [] [] (by decide) rfl rfl rfl⟩)
  refine sMove (iv a9.2) S (wG 5 true 57 rfl rfl rfl aQ) (.inl rfl) rfl rfl (lb rfl) fun a S => ?_
  refine sBin _ S (wG 5 true 57 rfl rfl rfl aQ) rfl rfl rfl (bEq _ _ _ _ .i64 a9.2 0) rfl (lb rfl) fun a S => ?_
  refine sPickT (.bool (a9.2 == 0)) S (wN rfl) rfl rfl aQ rfl rfl (lb rfl) fun a S => ?_
  refine sN S fun a S => ?_
  exact lT (⟨a9.2 == 0, Option.some.inj h, S.fix [] [] (by decide) rfl rfl rfl⟩)
 refine sCondF S rfl bG ?_
 refine wp_skip (leafT (cZ _ _ ?_))
 refine sSeq (fun eq d3 => sRegion (sN S fun a S => ?_))
 refine lT (d3 _ _ ?_)
 obtain ⟨e6, h, dJ⟩ := bS h
 refine sCut (fun a w => ∃ bH, .inl bH = e6 ∧ St [] E [] w0 171 a w [(3, .bool r8), (6, .slice a7 a9.1.length a8), (8, iv bH)] [] [fRep (rL r_A2_Int) (.slice a7 a9.1.length a8) a9.1]) ?_ (fun a w hI => ?_)
 rotate_left
 ·obtain ⟨bH, rfl, S⟩ := hI
  have h := dJ
  try dsimp only at h
  obtain ⟨d4, h, d5⟩ := bS h
  refine sCut (fun a w => ∃ aR, aR = d4 ∧ St [] E [] w0 171 a w [(2, .bool aR)] [] []) ?_ (fun a w hI => ?_)
  rotate_left
  ·obtain ⟨aR, rfl, S⟩ := hI
   have h := d5
   try dsimp only at h
   obtain rfl := tS h
   exact wp_ret (sRet (.bool aR) S (rsl1 rfl (rvT (t := 2) (v := .bool aR) S rfl)) ⟨(), rfl, S.mem.sel [] [] (by decide) rfl rfl⟩)
  refine sRegion (sM S fun a S => ?_)
  refine sM S fun a S => ?_
  rcases iS h with ⟨ar, h⟩ | ⟨ar, h⟩
  rotate_left
  ·refine sSkN 4 1 true 165 S rfl rfl ar rfl fun a S => ?_
   refine sPickF (.bool false) S (wN rfl) rfl rfl ar rfl rfl (lb rfl) fun a S => ?_
   refine sN S fun a S => ?_
   exact lT (⟨false, Option.some.inj h, S.fix [] [] (by decide) rfl rfl rfl⟩)
  refine sMove (iv bH) S (wG 1 true 165 rfl rfl rfl ar) (.inl rfl) rfl rfl (lb rfl) fun a S => ?_
  refine sMove (.slice a7 a9.1.length a8) S (wG 1 true 165 rfl rfl rfl ar) (.inl rfl) rfl rfl (lb rfl) fun a S => ?_
  refine sLen S (wG 1 true 165 rfl rfl rfl ar) rfl Try.underlying37 rfl rfl (lb rfl) fun a S => ?_
  refine sBin _ S (wG 1 true 165 rfl rfl rfl ar) rfl rfl rfl (bEq _ _ _ _ .i64 bH (a9.1.length : Int)) rfl (lb rfl) fun a S => ?_
  refine sPickT (.bool (bH == (a9.1.length : Int))) S (wN rfl) rfl rfl ar rfl rfl (lb rfl) fun a S => ?_
  refine sN S fun a S => ?_
  exact lT (⟨bH == (a9.1.length : Int), Option.some.inj h, S.fix [] [] (by decide) rfl rfl rfl⟩)
 refine sSeq (fun er d6 => sRegion (sN S fun a S => ?_))
 refine lT (d6 _ _ (wp_block ?_))
 obtain ⟨es, hl, dK⟩ := bS h
 refine sLoop hl (fun s0 a w => match s0 with | (d7, ag) => St [] E [] w0 171 a w [(3, .bool r8), (4, .slice a0 a5.1.length a4), (6, .slice a7 a9.1.length a8), (8, iv d7), (9, iv ag)] [] [fRep (rL r_api_Loop) (.slice a0 a5.1.length a4) a5.1, fRep (rL r_A2_Int) (.slice a7 a9.1.length a8) a9.1]) (S.fix [] [0, 1] (by decide) rfl rfl rfl) ?_
 clear hl h
 intro s0 a w c0 hI h bV
 obtain ⟨d7, ag⟩ := s0
 unfold raddlelaw27_LoopsCross_l3 at h
 dsimp only at h hI
 have S := hI
 refine sSeq (fun et d8 => sSeq (fun ev d9 => sRegion (sM S fun a S => ?_)))
 refine sM S fun a S => ?_
 refine sLen S (wN rfl) rfl Try.underlying26 rfl rfl (lb rfl) fun a S => ?_
 refine sBin _ S (wN rfl) rfl rfl rfl (bLt _ _ _ _ .i64 ag (a5.1.length : Int)) rfl (lb rfl) fun a S => ?_
 refine lT (d9 _ _ ?_)
 rcases iS h with ⟨bI, h⟩ | ⟨bI, h⟩
 rotate_left
 ·refine sCondF S rfl bI ?_
  obtain rfl := tS h
  obtain rfl := bV _ rfl
  have h := dK
  try dsimp only at h
  exact wp_exit (xThen (xThen (xHit (leafT (⟨d7, Option.some.inj h, S.fix [] [1] (by decide) rfl rfl rfl⟩)))))
 refine sCondT S rfl bI ?_
 refine wp_skip (leafT (d8 _ _ ?_))
 obtain ⟨e7, h, dL⟩ := bS h
 refine sCut (fun a w => ∃ cL, .inl cL = e7 ∧ St [] E [] w0 171 a w [(3, .bool r8), (4, .slice a0 a5.1.length a4), (6, .slice a7 a9.1.length a8), (8, iv cL), (9, iv ag)] [] [fRep (rL r_api_Loop) (.slice a0 a5.1.length a4) a5.1, fRep (rL r_A2_Int) (.slice a7 a9.1.length a8) a9.1]) ?_ (fun a w hI => ?_)
 rotate_left
 ·obtain ⟨cL, rfl, S⟩ := hI
  have h := dL
  try dsimp only at h
  refine sRegion (sM S fun a S => ?_)
  refine sBin _ S (wN rfl) rfl rfl rfl (bAdd _ _ _ _ ag 1) rfl (lb rfl) fun a S => ?_
  refine sN S fun a S => ?_
  exact lT (⟨(cL, w64 (ag + 1)), (Option.some.inj h).symm, (S.fix [] [0, 1] (by decide) rfl rfl rfl)⟩)
 refine wp_block ?_
 refine sSeq (fun ew da => sRegion (sM S fun a S => ?_))
 refine sBin _ S (wN rfl) rfl rfl rfl (bAdd _ _ _ _ ag 1) rfl (lb rfl) fun a S => ?_
 refine sN S fun a S => ?_
 refine lT (da _ _ (wp_block ?_))
 obtain ⟨ex, hl, dM⟩ := bS h
 refine sLoop hl (fun s0 a w => match s0 with | (aw, af) => St [] E [] w0 171 a w [(3, .bool r8), (4, .slice a0 a5.1.length a4), (6, .slice a7 a9.1.length a8), (8, iv aw), (9, iv ag), (10, iv af)] [] [fRep (rL r_api_Loop) (.slice a0 a5.1.length a4) a5.1, fRep (rL r_A2_Int) (.slice a7 a9.1.length a8) a9.1]) (S.fix [] [0, 1] (by decide) rfl rfl rfl) ?_
 clear hl h
 intro s0 a w c0 hI h bW
 obtain ⟨aw, af⟩ := s0
 unfold raddlelaw27_LoopsCross_l2 at h
 dsimp only at h hI
 have S := hI
 refine sSeq (fun ey db => ?_)
 obtain ⟨ea, h, eb⟩ := bS h
 refine sCut (fun a w => ∃ dc, dc = ea ∧ St [] E [] w0 171 a w [(3, .bool r8), (4, .slice a0 a5.1.length a4), (6, .slice a7 a9.1.length a8), (8, iv aw), (9, iv ag), (10, iv af), (85, .bool dc)] [] [fRep (rL r_api_Loop) (.slice a0 a5.1.length a4) a5.1, fRep (rL r_A2_Int) (.slice a7 a9.1.length a8) a9.1]) ?_ (fun a w hI => ?_)
 ·rcases iS h with ⟨ah, h⟩ | ⟨ah, h⟩
  rotate_left
  ·refine sDraw (nf := []) (W := [(0, 69, iv af), (1, 70, .slice a0 a5.1.length a4), (2, 71, iv (a5.1.length : Int)), (3, 72, .bool (decide (af < (a5.1.length : Int)))), (4, 73, .bool (decide (af < (a5.1.length : Int)))), (5, 74, undef), (6, 75, undef), (7, 76, undef), (8, 77, undef), (9, 78, undef), (10, 79, undef), (11, 80, undef), (12, 81, undef), (13, 82, undef), (14, 83, undef), (15, 84, undef), (16, 85, .bool false)]) rfl S ?_
   refine node_by (A := anc_raddlelaw27_LoopsCross_0) 17 (by kernel_rfl) (by kernel_rfl) (by kernel_rfl) (by kernel_rfl) (by kernel_rfl) [0, 1, 2, 3, 4, 5, 6, 7, 8, 9, 10, 11, 12, 13, 14, 15, 16] (by kernel_rfl) (by decide) (by decide) (fF ?_ (fF ?_ (fF ?_ (fF ?_ (fF ?_ (fF ?_ (fF ?_ (fF ?_ (fF ?_ (fF ?_ (fF ?_ (fF ?_ (fF ?_ (fF ?_ (fF ?_ (fF ?_ (fF ?_ (trivial)))))))))))))))))) [(3, .bool r8), (4, .slice a0 a5.1.length a4), (6, .slice a7 a9.1.length a8), (8, iv aw), (9, iv ag), (10, iv af), (74, undef), (75, undef), (76, undef), (77, undef), (78, undef), (79, undef), (80, undef), (81, undef), (82, undef), (83, undef), (84, undef), (85, .bool false)] (fin_of [none, none, none, none, none, none, some 5, some 6, some 7, some 8, some 9, some 10, some 11, some 12, some 13, some 14, some 15, some 16] rfl (by kernel_rfl) (by kernel_rfl)) (fun _ a w S => ?_)
   ·exact fM 0 none rfl rfl rfl rfl (.inl rfl) rfl rfl rfl
   ·exact fM 1 none rfl rfl rfl rfl (.inl rfl) rfl rfl rfl
   ·refine fJ [(70, _)] 2 [some 1] fun G a w S => ?_
    exact sLen S (wN rfl) rfl Try.underlying26 rfl rfl (lb rfl) fun a S => leafL ⟨rfl, S⟩
   ·refine fJ [(69, _), (71, _)] 3 [some 0, some 2] fun G a w S => ?_
    exact sBin _ S (wN rfl) rfl rfl rfl (bLt _ _ _ _ .i64 af (a5.1.length : Int)) rfl (lb rfl) fun a S => leafL ⟨rfl, S⟩
   ·exact fM 4 (some 3) rfl rfl rfl rfl (.inl rfl) rfl rfl rfl
   ·refine fJ [(4, _), (73, _)] 5 [none, some 4] fun G a w S => ?_
    exact sSk S rfl rfl rfl ah rfl rfl fun a S => leafL ⟨rfl, S⟩
   ·refine fJ [(10, _), (73, _)] 6 [none, some 4] fun G a w S => ?_
    exact sSk S rfl rfl rfl ah rfl rfl fun a S => leafL ⟨rfl, S⟩
   ·refine fJ [(74, _), (75, _), (73, _)] 7 [some 5, some 6, some 4] fun G a w S => ?_
    exact sSk S rfl rfl rfl ah rfl rfl fun a S => leafL ⟨rfl, S⟩
   ·refine fJ [(76, _), (73, _)] 8 [some 7, some 4] fun G a w S => ?_
    exact sSk S rfl rfl rfl ah rfl rfl fun a S => leafL ⟨rfl, S⟩
   ·refine fJ [(77, _), (73, _)] 9 [some 8, some 4] fun G a w S => ?_
    exact sSk S rfl rfl rfl ah rfl rfl fun a S => leafL ⟨rfl, S⟩
   ·refine fJ [(4, _), (73, _)] 10 [none, some 4] fun G a w S => ?_
    exact sSk S rfl rfl rfl ah rfl rfl fun a S => leafL ⟨rfl, S⟩
   ·refine fJ [(9, _), (73, _)] 11 [none, some 4] fun G a w S => ?_
    exact sSk S rfl rfl rfl ah rfl rfl fun a S => leafL ⟨rfl, S⟩
   ·refine fJ [(79, _), (80, _), (73, _)] 12 [some 10, some 11, some 4] fun G a w S => ?_
    exact sSk S rfl rfl rfl ah rfl rfl fun a S => leafL ⟨rfl, S⟩
   ·refine fJ [(81, _), (73, _)] 13 [some 12, some 4] fun G a w S => ?_
    exact sSk S rfl rfl rfl ah rfl rfl fun a S => leafL ⟨rfl, S⟩
   ·refine fJ [(82, _), (73, _)] 14 [some 13, some 4] fun G a w S => ?_
    exact sSk S rfl rfl rfl ah rfl rfl fun a S => leafL ⟨rfl, S⟩
   ·refine fJ [(78, _), (83, _), (73, _)] 15 [some 9, some 14, some 4] fun G a w S => ?_
    exact sSk S rfl rfl rfl ah rfl rfl fun a S => leafL ⟨rfl, S⟩
   ·refine fJ [(73, _), (84, _)] 16 [some 4, some 15] fun G a w S => ?_
    exact sPickF (.bool false) S (wN rfl) rfl rfl ah rfl rfl (lb rfl) fun a S => leafL ⟨rfl, S⟩
   exact leafT (⟨false, Option.some.inj h, S.fix [] [0, 1] (by decide) rfl rfl rfl⟩)
  obtain ⟨aC, de, h⟩ := bS h
  obtain ⟨aG, df, h⟩ := bS h
  obtain ⟨cM, dg, S⟩ := pIdx (P := Try.prog) (r := r_api_Loop) (v := .slice a0 a5.1.length a4) (xs := a5.1) (j := af) 26 48 0 S Try.underlying26 rfl rfl de
  obtain ⟨cN, dh, S⟩ := pFld (P := Try.prog) (r := r_api_Loop) (s2 := (rI .i64)) (g := (·.Row)) (q := cM) (z := aC) 48 0 0 0 S rfl rfl comp_api_Loop_Row
  obtain ⟨dN, S⟩ := pLoad (r := (rI .i64)) (q := cN) (x := aC.Row) 0 S rfl
  obtain rfl : dN = iv aC.Row := S.mem.know (i := 1) (e := fRep (rI .i64) (dN) aC.Row) rfl
  obtain ⟨cO, di, S⟩ := pIdx (P := Try.prog) (r := r_api_Loop) (v := .slice a0 a5.1.length a4) (xs := a5.1) (j := ag) 26 48 4 S Try.underlying26 rfl rfl df
  obtain ⟨cP, dj, S⟩ := pFld (P := Try.prog) (r := r_api_Loop) (s2 := (rI .i64)) (g := (·.Row)) (q := cO) (z := aG) 48 0 0 0 S rfl rfl comp_api_Loop_Row
  obtain ⟨dO, S⟩ := pLoad (r := (rI .i64)) (q := cP) (x := aG.Row) 0 S rfl
  obtain rfl : dO = iv aG.Row := S.mem.know (i := 1) (e := fRep (rI .i64) (dO) aG.Row) rfl
  refine sDraw (nf := []) (W := [(0, 69, iv af), (1, 70, .slice a0 a5.1.length a4), (2, 71, iv (a5.1.length : Int)), (3, 72, .bool (decide (af < (a5.1.length : Int)))), (4, 73, .bool (decide (af < (a5.1.length : Int)))), (5, 74, .slice a0 a5.1.length a4), (6, 75, iv af), (7, 76, cM), (8, 77, cN), (9, 78, iv aC.Row), (10, 79, .slice a0 a5.1.length a4), (11, 80, iv ag), (12, 81, cO), (13, 82, cP), (14, 83, iv aG.Row), (15, 84, .bool (aC.Row == aG.Row)), (16, 85, .bool (aC.Row == aG.Row))]) rfl S ?_
  refine node_by (A := anc_raddlelaw27_LoopsCross_0) 17 (by kernel_rfl) (by kernel_rfl) (by kernel_rfl) (by kernel_rfl) (by kernel_rfl) [0, 1, 2, 3, 4, 5, 6, 7, 8, 9, 10, 11, 12, 13, 14, 15, 16] (by kernel_rfl) (by decide) (by decide) (fF ?_ (fF ?_ (fF ?_ (fF ?_ (fF ?_ (fF ?_ (fF ?_ (fF ?_ (fF ?_ (fF ?_ (fF ?_ (fF ?_ (fF ?_ (fF ?_ (fF ?_ (fF ?_ (fF ?_ (trivial)))))))))))))))))) [(3, .bool r8), (4, .slice a0 a5.1.length a4), (6, .slice a7 a9.1.length a8), (8, iv aw), (9, iv ag), (10, iv af), (74, .slice a0 a5.1.length a4), (75, iv af), (76, cM), (77, cN), (78, iv aC.Row), (79, .slice a0 a5.1.length a4), (80, iv ag), (81, cO), (82, cP), (83, iv aG.Row), (84, .bool (aC.Row == aG.Row)), (85, .bool (aC.Row == aG.Row))] (fin_of [none, none, none, none, none, none, some 5, some 6, some 7, some 8, some 9, some 10, some 11, some 12, some 13, some 14, some 15, some 16] rfl (by kernel_rfl) (by kernel_rfl)) (fun _ a w S => ?_)
  ·exact fM 0 none rfl rfl rfl rfl (.inl rfl) rfl rfl rfl
  ·exact fM 1 none rfl rfl rfl rfl (.inl rfl) rfl rfl rfl
  ·refine fJ [(70, _)] 2 [some 1] fun G a w S => ?_
   exact sLen S (wN rfl) rfl Try.underlying26 rfl rfl (lb rfl) fun a S => leafL ⟨rfl, S⟩
  ·refine fJ [(69, _), (71, _)] 3 [some 0, some 2] fun G a w S => ?_
   exact sBin _ S (wN rfl) rfl rfl rfl (bLt _ _ _ _ .i64 af (a5.1.length : Int)) rfl (lb rfl) fun a S => leafL ⟨rfl, S⟩
  ·exact fM 4 (some 3) rfl rfl rfl rfl (.inl rfl) rfl rfl rfl
  ·refine fJ [(4, _), (73, _)] 5 [none, some 4] fun G a w S => ?_
   exact sMove (.slice a0 a5.1.length a4) S (wG 4 true 73 rfl rfl rfl ah) (.inl rfl) rfl rfl (lb rfl) fun a S => leafL ⟨rfl, S⟩
  ·refine fJ [(10, _), (73, _)] 6 [none, some 4] fun G a w S => ?_
   exact sMove (iv af) S (wG 4 true 73 rfl rfl rfl ah) (.inl rfl) rfl rfl (lb rfl) fun a S => leafL ⟨rfl, S⟩
  ·refine fJ [(74, _), (75, _), (73, _)] 7 [some 5, some 6, some 4] fun G a w S => ?_
   exact sIdxV S (wG 4 true 73 rfl rfl rfl ah) rfl rfl rfl dg rfl (lb rfl) fun a S => leafL ⟨rfl, S⟩
  ·refine fJ [(76, _), (73, _)] 8 [some 7, some 4] fun G a w S => ?_
   exact sFldV (q := cM) S (wG 4 true 73 rfl rfl rfl ah) rfl rfl dh rfl (lb rfl) fun a S => leafL ⟨rfl, S⟩
  ·refine fJ [(77, _), (73, _)] 9 [some 8, some 4] fun G a w S => ?_
   exact sLoadV1 (vq := cN) 4 (iv aC.Row) S (wG 4 true 73 rfl rfl rfl ah) rfl rfl rfl rfl rfl (lb rfl) fun a S => leafL ⟨rfl, S⟩
  ·refine fJ [(4, _), (73, _)] 10 [none, some 4] fun G a w S => ?_
   exact sMove (.slice a0 a5.1.length a4) S (wG 4 true 73 rfl rfl rfl ah) (.inl rfl) rfl rfl (lb rfl) fun a S => leafL ⟨rfl, S⟩
  ·refine fJ [(9, _), (73, _)] 11 [none, some 4] fun G a w S => ?_
   exact sMove (iv ag) S (wG 4 true 73 rfl rfl rfl ah) (.inl rfl) rfl rfl (lb rfl) fun a S => leafL ⟨rfl, S⟩
  ·refine fJ [(79, _), (80, _), (73, _)] 12 [some 10, some 11, some 4] fun G a w S => ?_
   exact sIdxV S (wG 4 true 73 rfl rfl rfl ah) rfl rfl rfl di rfl (lb rfl) fun a S => leafL ⟨rfl, S⟩
  ·refine fJ [(81, _), (73, _)] 13 [some 12, some 4] fun G a w S => ?_
   exact sFldV (q := cO) S (wG 4 true 73 rfl rfl rfl ah) rfl rfl dj rfl (lb rfl) fun a S => leafL ⟨rfl, S⟩
  ·refine fJ [(82, _), (73, _)] 14 [some 13, some 4] fun G a w S => ?_
   exact sLoadV1 (vq := cP) 0 (iv aG.Row) S (wG 4 true 73 rfl rfl rfl ah) rfl rfl rfl rfl rfl (lb rfl) fun a S => leafL ⟨rfl, S⟩
  ·refine fJ [(78, _), (83, _), (73, _)] 15 [some 9, some 14, some 4] fun G a w S => ?_
   exact sBin _ S (wG 4 true 73 rfl rfl rfl ah) rfl rfl rfl (bEq _ _ _ _ .i64 aC.Row aG.Row) rfl (lb rfl) fun a S => leafL ⟨rfl, S⟩
  ·refine fJ [(73, _), (84, _)] 16 [some 4, some 15] fun G a w S => ?_
   exact sPickT (.bool (aC.Row == aG.Row)) S (wN rfl) rfl rfl ah rfl rfl (lb rfl) fun a S => leafL ⟨rfl, S⟩
  exact leafT (⟨aC.Row == aG.Row, Option.some.inj h, S.fix [] [8, 9] (by decide) rfl rfl rfl⟩)
 obtain ⟨dc, rfl, S⟩ := hI
 have h := eb
 try dsimp only at h
 rcases iS h with ⟨aS, h⟩ | ⟨aS, h⟩
 rotate_left
 ·refine sCondF S rfl aS ?_
  obtain rfl := tS h
  obtain rfl := bW _ rfl
  have h := dM
  try dsimp only at h
  exact wp_exit (xThen (xThen (xHit (leafB (leafT (⟨aw, Option.some.inj h, S.fix [] [0, 1] (by decide) rfl rfl rfl⟩))))))
 refine sCondT S rfl aS ?_
 refine wp_skip (leafT (db _ _ ?_))
 obtain ⟨dk, h, bX⟩ := bS h
 refine sCut (fun a w => ∃ bf, .inl bf = dk ∧ St [] E [] w0 171 a w [(3, .bool r8), (4, .slice a0 a5.1.length a4), (6, .slice a7 a9.1.length a8), (8, iv bf), (9, iv ag), (10, iv af)] [] [fRep (rL r_api_Loop) (.slice a0 a5.1.length a4) a5.1, fRep (rL r_A2_Int) (.slice a7 a9.1.length a8) a9.1]) ?_ (fun a w hI => ?_)
 rotate_left
 ·obtain ⟨bf, rfl, S⟩ := hI
  have h := bX
  try dsimp only at h
  refine sRegion (sM S fun a S => ?_)
  refine sBin _ S (wN rfl) rfl rfl rfl (bAdd _ _ _ _ af 1) rfl (lb rfl) fun a S => ?_
  refine sN S fun a S => ?_
  exact lT (⟨(bf, w64 (af + 1)), (Option.some.inj h).symm, (S.fix [] [0, 1] (by decide) rfl rfl rfl)⟩)
 refine wp_block ?_
 obtain ⟨dl, h, dm⟩ := bS h
 refine sCut (fun a w => ∃ bJ, bJ = dl ∧ St [] E [] w0 171 a w [(3, .bool r8), (4, .slice a0 a5.1.length a4), (6, .slice a7 a9.1.length a8), (8, iv aw), (9, iv ag), (10, iv af), (120, .bool bJ)] [] [fRep (rL r_api_Loop) (.slice a0 a5.1.length a4) a5.1, fRep (rL r_A2_Int) (.slice a7 a9.1.length a8) a9.1]) ?_ (fun a w hI => ?_)
 rotate_left
 ·obtain ⟨bJ, rfl, S⟩ := hI
  have h := dm
  try dsimp only at h
  rcases iS h with ⟨aT, h⟩ | ⟨aT, h⟩
  rotate_left
  ·refine sCondF S rfl aT ?_
   exact wp_skip (leafB (leafT (⟨aw, Option.some.inj h, S.fix [] [0, 1] (by decide) rfl rfl rfl⟩)))
  refine sCondT S rfl aT ?_
  refine sSeq (fun ec bY => sRegion (sM S fun a S => ?_))
  refine sBin _ S (wN rfl) rfl rfl rfl (bAdd _ _ _ _ aw 1) rfl (lb rfl) fun a S => ?_
  refine sN S fun a S => ?_
  refine lT (bY _ _ (sSeq (fun ed bZ => sRegion (sN S fun a S => ?_))))
  refine lT (bZ _ _ ?_)
  obtain ⟨dn, h, dp⟩ := bS h
  refine sCut (fun a w => ∃ au, au = dn ∧ St [] E [] w0 171 a w [(3, .bool r8), (4, .slice a0 a5.1.length a4), (6, .slice a7 a9.1.length a8), (8, iv (w64 (aw + 1))), (9, iv ag), (10, iv af), (11, iv au)] [] [fRep (rL r_api_Loop) (.slice a0 a5.1.length a4) a5.1, fRep (rL r_A2_Int) (.slice a7 a9.1.length a8) a9.1]) ?_ (fun a w hI => ?_)
  ·refine sSeq (fun ee c5 => sRegion (sN S fun a S => ?_))
   refine lT (c5 _ _ (wp_block ?_))
   obtain ⟨ef, hl, dr⟩ := bS h
   refine sLoop hl (fun s0 a w => match s0 with | (aA, av) => St [] E [] w0 171 a w [(3, .bool r8), (4, .slice a0 a5.1.length a4), (6, .slice a7 a9.1.length a8), (8, iv (w64 (aw + 1))), (9, iv ag), (10, iv af), (11, iv aA), (12, iv av)] [] [fRep (rL r_api_Loop) (.slice a0 a5.1.length a4) a5.1, fRep (rL r_A2_Int) (.slice a7 a9.1.length a8) a9.1]) (S.fix [] [0, 1] (by decide) rfl rfl rfl) ?_
   clear hl h
   intro s0 a w c0 hI h c6
   obtain ⟨aA, av⟩ := s0
   unfold raddlelaw27_LoopsCross_l1 at h
   dsimp only at h hI
   have S := hI
   refine sSeq (fun eh c7 => sSeq (fun ei c8 => sRegion (sM S fun a S => ?_)))
   refine sM S fun a S => ?_
   refine sLen S (wN rfl) rfl Try.underlying37 rfl rfl (lb rfl) fun a S => ?_
   refine sBin _ S (wN rfl) rfl rfl rfl (bLt _ _ _ _ .i64 av (a9.1.length : Int)) rfl (lb rfl) fun a S => ?_
   refine lT (c8 _ _ ?_)
   rcases iS h with ⟨aU, h⟩ | ⟨aU, h⟩
   rotate_left
   ·refine sCondF S rfl aU ?_
    obtain rfl := tS h
    obtain rfl := c6 _ rfl
    have h := dr
    try dsimp only at h
    exact wp_exit (xThen (xThen (xHit (leafT (⟨aA, Option.some.inj h, S.fix [] [0, 1] (by decide) rfl rfl rfl⟩)))))
   refine sCondT S rfl aU ?_
   refine wp_skip (leafT (c7 _ _ ?_))
   obtain ⟨dt, h, du⟩ := bS h
   refine sCut (fun a w => ∃ bg, bg = dt ∧ St [] E [] w0 171 a w [(3, .bool r8), (4, .slice a0 a5.1.length a4), (6, .slice a7 a9.1.length a8), (8, iv (w64 (aw + 1))), (9, iv ag), (10, iv af), (11, iv bg), (12, iv av)] [] [fRep (rL r_api_Loop) (.slice a0 a5.1.length a4) a5.1, fRep (rL r_A2_Int) (.slice a7 a9.1.length a8) a9.1]) ?_ (fun a w hI => ?_)
   rotate_left
   ·obtain ⟨bg, rfl, S⟩ := hI
    have h := du
    try dsimp only at h
    refine sRegion (sM S fun a S => ?_)
    refine sBin _ S (wN rfl) rfl rfl rfl (bAdd _ _ _ _ av 1) rfl (lb rfl) fun a S => ?_
    refine sN S fun a S => ?_
    exact lT (⟨(bg, w64 (av + 1)), (Option.some.inj h).symm, (S.fix [] [0, 1] (by decide) rfl rfl rfl)⟩)
   refine wp_block ?_
   obtain ⟨dv, h, dw⟩ := bS h
   refine sCut (fun a w => ∃ bK, bK = dv ∧ St [] E [] w0 171 a w [(3, .bool r8), (4, .slice a0 a5.1.length a4), (6, .slice a7 a9.1.length a8), (8, iv (w64 (aw + 1))), (9, iv ag), (10, iv af), (11, iv aA), (12, iv av), (146, .bool bK)] [] [fRep (rL r_api_Loop) (.slice a0 a5.1.length a4) a5.1, fRep (rL r_A2_Int) (.slice a7 a9.1.length a8) a9.1]) ?_ (fun a w hI => ?_)
   rotate_left
   ·obtain ⟨bK, rfl, S⟩ := hI
    have h := dw
    try dsimp only at h
    rcases iS h with ⟨aV, h⟩ | ⟨aV, h⟩
    rotate_left
    ·refine sCondF S rfl aV ?_
     exact wp_skip (leafB (leafT (⟨aA, Option.some.inj h, S.fix [] [0, 1] (by decide) rfl rfl rfl⟩)))
    refine sCondT S rfl aV ?_
    refine sRegion (sM S fun a S => ?_)
    refine sBin _ S (wN rfl) rfl rfl rfl (bAdd _ _ _ _ aA 1) rfl (lb rfl) fun a S => ?_
    refine sN S fun a S => ?_
    exact leafL (leafB (leafT (⟨w64 (aA + 1), Option.some.inj h, S.fix [] [0, 1] (by decide) rfl rfl rfl⟩)))
   refine sRegion (sM S fun a S => ?_)
   refine sM S fun a S => ?_
   obtain ⟨ai, bw, h⟩ := bS h
   obtain ⟨c9, ca, S⟩ := pIdx (P := Try.prog) (r := r_A2_Int) (v := .slice a7 a9.1.length a8) (xs := a9.1) (j := av) 37 49 1 S Try.underlying37 rfl rfl bw
   refine sIdxV S (wN rfl) rfl rfl rfl ca rfl (lb rfl) fun a S => ?_
   obtain ⟨cb, S⟩ := pLoad (r := r_A2_Int) (q := c9) (x := ai) 0 S rfl
   obtain rfl : cb = .agg #[iv ai.1, iv ai.2] := S.mem.know (i := 1) (e := fRep r_A2_Int (cb) ai) rfl
   refine sLoadVN (vq := c9) 0 [iv ai.1, iv ai.2] S (wN rfl) rfl rfl rfl rfl rfl rfl (lb rfl) fun a S => ?_
   refine sM S fun a S => ?_
   refine sM S fun a S => ?_
   refine sBuild [(0, iv ag), (1, iv af)] [iv ag, iv af] S (wN rfl) rfl rfl rfl rfl (lb rfl) fun a S => ?_
   refine sBin _ S (wN rfl) rfl rfl rfl (bEqV _ _ _ _ #[iv ai.1, iv ai.2] #[iv ag, iv af] ((ai.1 == ag) && ((ai.2 == af) && true)) (by kernel_rfl) (eqlV_of (by kernel_rfl))) rfl (lb rfl) fun a S => ?_
   refine sM S fun a S => ?_
   rcases iS h with ⟨aj, h⟩ | ⟨aj, h⟩
   ·refine sSkN 8 8 false 137 S rfl rfl aj rfl fun a S => ?_
    refine sPickT (.bool true) S (wN rfl) rfl rfl aj rfl rfl (lb rfl) fun a S => ?_
    exact lT (⟨true, Option.some.inj h, S.fix [] [3, 4] (by decide) rfl rfl rfl⟩)
   refine sMove (.slice a7 a9.1.length a8) S (wG 8 false 137 rfl rfl rfl aj) (.inl rfl) rfl rfl (lb rfl) fun a S => ?_
   refine sMove (iv av) S (wG 8 false 137 rfl rfl rfl aj) (.inl rfl) rfl rfl (lb rfl) fun a S => ?_
   obtain ⟨cc, cd, S⟩ := pIdx (P := Try.prog) (r := r_A2_Int) (v := .slice a7 a9.1.length a8) (xs := a9.1) (j := av) 37 49 4 S Try.underlying37 rfl rfl bw
   refine sIdxV S (wG 8 false 137 rfl rfl rfl aj) rfl rfl rfl cd rfl (lb rfl) fun a S => ?_
   obtain ⟨ce, S⟩ := pLoad (r := r_A2_Int) (q := cc) (x := ai) 0 S rfl
   obtain rfl : ce = .agg #[iv ai.1, iv ai.2] := S.mem.know (i := 1) (e := fRep r_A2_Int (ce) ai) rfl
   refine sLoadVN (vq := cc) 0 [iv ai.1, iv ai.2] S (wG 8 false 137 rfl rfl rfl aj) rfl rfl rfl rfl rfl rfl (lb rfl) fun a S => ?_
   refine sMove (iv af) S (wG 8 false 137 rfl rfl rfl aj) (.inl rfl) rfl rfl (lb rfl) fun a S => ?_
   refine sMove (iv ag) S (wG 8 false 137 rfl rfl rfl aj) (.inl rfl) rfl rfl (lb rfl) fun a S => ?_
   refine sBuild [(0, iv af), (1, iv ag)] [iv af, iv ag] S (wG 8 false 137 rfl rfl rfl aj) rfl rfl rfl rfl (lb rfl) fun a S => ?_
   refine sBin _ S (wG 8 false 137 rfl rfl rfl aj) rfl rfl rfl (bEqV _ _ _ _ #[iv ai.1, iv ai.2] #[iv af, iv ag] ((ai.1 == af) && ((ai.2 == ag) && true)) (by kernel_rfl) (eqlV_of (by kernel_rfl))) rfl (lb rfl) fun a S => ?_
   refine sPickF (.bool ((ai.1 == af) && ((ai.2 == ag) && true))) S (wN rfl) rfl rfl aj rfl rfl (lb rfl) fun a S => ?_
   exact lT (⟨((ai.1 == af) && ((ai.2 == ag) && true)), Option.some.inj h, S.fix [] [6, 7] (by decide) rfl rfl rfl⟩)
  obtain ⟨au, rfl, S⟩ := hI
  have h := dp
  try dsimp only at h
  obtain ⟨dx, h, dy⟩ := bS h
  refine sCut (fun a w => ∃ bL, bL = dx ∧ St [] E [] w0 171 a w [(3, .bool r8), (4, .slice a0 a5.1.length a4), (6, .slice a7 a9.1.length a8), (8, iv (w64 (aw + 1))), (9, iv ag), (10, iv af), (163, .bool bL)] [] [fRep (rL r_api_Loop) (.slice a0 a5.1.length a4) a5.1, fRep (rL r_A2_Int) (.slice a7 a9.1.length a8) a9.1]) ?_ (fun a w hI => ?_)
  rotate_left
  ·obtain ⟨bL, rfl, S⟩ := hI
   have h := dy
   try dsimp only at h
   rcases iS h with ⟨aW, h⟩ | ⟨aW, h⟩
   rotate_left
   ·refine sCondF S rfl aW ?_
    exact wp_skip (leafB (leafT (⟨w64 (aw + 1), Option.some.inj h, S.fix [] [0, 1] (by decide) rfl rfl rfl⟩)))
   refine sCondT S rfl aW ?_
   refine sSeq (fun ej cf => sRegion (sN S fun a S => ?_))
   refine lT (cf _ _ ?_)
   obtain rfl := tS h
   have h := bX
   try dsimp only at h
   obtain rfl := tS h
   obtain rfl := bW _ rfl
   have h := dM
   try dsimp only at h
   obtain rfl := tS h
   have h := dL
   try dsimp only at h
   obtain rfl := tS h
   obtain rfl := bV _ rfl
   have h := dK
   try dsimp only at h
   obtain rfl := tS h
   have h := dJ
   try dsimp only at h
   obtain rfl := tS h
   exact wp_ret (rBlock (rThen (rThen (rBlock (rBlock (rThen (rThen (rBlock (rThen (sRet (.bool false) S (rsl1 rfl (rvT (t := 2) (v := .bool false) S rfl)) ⟨(), rfl, S.mem.sel [] [] (by decide) rfl rfl⟩))))))))))
  rcases iS h with ⟨aa, h⟩ | ⟨aa, h⟩
  ·refine sDraw (nf := []) (W := [(0, 149, iv au), (1, 150, .bool (au != 1)), (2, 151, .bool (au != 1)), (3, 152, undef), (4, 153, undef), (5, 154, undef), (6, 155, undef), (7, 156, undef), (8, 157, undef), (9, 158, undef), (10, 159, undef), (11, 160, undef), (12, 161, undef), (13, 162, undef), (14, 163, .bool true)]) rfl S ?_
   refine node_by (A := anc_raddlelaw27_LoopsCross_2) 15 (by kernel_rfl) (by kernel_rfl) (by kernel_rfl) (by kernel_rfl) (by kernel_rfl) [0, 1, 2, 3, 4, 5, 6, 7, 8, 9, 10, 11, 12, 13, 14] (by kernel_rfl) (by decide) (by decide) (fF ?_ (fF ?_ (fF ?_ (fF ?_ (fF ?_ (fF ?_ (fF ?_ (fF ?_ (fF ?_ (fF ?_ (fF ?_ (fF ?_ (fF ?_ (fF ?_ (fF ?_ (trivial)))))))))))))))) [(3, .bool r8), (4, .slice a0 a5.1.length a4), (6, .slice a7 a9.1.length a8), (8, iv (w64 (aw + 1))), (9, iv ag), (10, iv af), (152, undef), (153, undef), (154, undef), (155, undef), (156, undef), (157, undef), (158, undef), (159, undef), (160, undef), (161, undef), (162, undef), (163, .bool true)] (fin_of [none, none, none, none, none, none, some 3, some 4, some 5, some 6, some 7, some 8, some 9, some 10, some 11, some 12, some 13, some 14] rfl (by kernel_rfl) (by kernel_rfl)) (fun _ a w S => ?_)
   ·exact fM 0 none rfl rfl rfl rfl (.inl rfl) rfl rfl rfl
   ·refine fJ [(149, _)] 1 [some 0] fun G a w S => ?_
    exact sBin _ S (wN rfl) rfl rfl rfl (bNe _ _ _ _ .i64 au 1) rfl (lb rfl) fun a S => leafL ⟨rfl, S⟩
   ·exact fM 2 (some 1) rfl rfl rfl rfl (.inl rfl) rfl rfl rfl
   ·refine fJ [(4, _), (151, _)] 3 [none, some 2] fun G a w S => ?_
    exact sSk S rfl rfl rfl aa rfl rfl fun a S => leafL ⟨rfl, S⟩
   ·refine fJ [(9, _), (151, _)] 4 [none, some 2] fun G a w S => ?_
    exact sSk S rfl rfl rfl aa rfl rfl fun a S => leafL ⟨rfl, S⟩
   ·refine fJ [(152, _), (153, _), (151, _)] 5 [some 3, some 4, some 2] fun G a w S => ?_
    exact sSk S rfl rfl rfl aa rfl rfl fun a S => leafL ⟨rfl, S⟩
   ·refine fJ [(154, _), (151, _)] 6 [some 5, some 2] fun G a w S => ?_
    exact sSk S rfl rfl rfl aa rfl rfl fun a S => leafL ⟨rfl, S⟩
   ·refine fJ [(155, _), (151, _)] 7 [some 6, some 2] fun G a w S => ?_
    exact sSk S rfl rfl rfl aa rfl rfl fun a S => leafL ⟨rfl, S⟩
   ·refine fJ [(4, _), (151, _)] 8 [none, some 2] fun G a w S => ?_
    exact sSk S rfl rfl rfl aa rfl rfl fun a S => leafL ⟨rfl, S⟩
   ·refine fJ [(10, _), (151, _)] 9 [none, some 2] fun G a w S => ?_
    exact sSk S rfl rfl rfl aa rfl rfl fun a S => leafL ⟨rfl, S⟩
   ·refine fJ [(157, _), (158, _), (151, _)] 10 [some 8, some 9, some 2] fun G a w S => ?_
    exact sSk S rfl rfl rfl aa rfl rfl fun a S => leafL ⟨rfl, S⟩
   ·refine fJ [(159, _), (151, _)] 11 [some 10, some 2] fun G a w S => ?_
    exact sSk S rfl rfl rfl aa rfl rfl fun a S => leafL ⟨rfl, S⟩
   ·refine fJ [(160, _), (151, _)] 12 [some 11, some 2] fun G a w S => ?_
    exact sSk S rfl rfl rfl aa rfl rfl fun a S => leafL ⟨rfl, S⟩
   ·refine fJ [(156, _), (161, _), (151, _)] 13 [some 7, some 12, some 2] fun G a w S => ?_
    exact sSk S rfl rfl rfl aa rfl rfl fun a S => leafL ⟨rfl, S⟩
   ·refine fJ [(151, _), (162, _)] 14 [some 2, some 13] fun G a w S => ?_
    exact sPickT (.bool true) S (wN rfl) rfl rfl aa rfl rfl (lb rfl) fun a S => leafL ⟨rfl, S⟩
   exact leafT (⟨true, Option.some.inj h, S.fix [] [0, 1] (by decide) rfl rfl rfl⟩)
  obtain ⟨ak, cg, h⟩ := bS h
  obtain ⟨al, ci, h⟩ := bS h
  obtain ⟨bh, cj, S⟩ := pIdx (P := Try.prog) (r := r_api_Loop) (v := .slice a0 a5.1.length a4) (xs := a5.1) (j := ag) 26 48 0 S Try.underlying26 rfl rfl cg
  obtain ⟨bi, ck, S⟩ := pFld (P := Try.prog) (r := r_api_Loop) (s2 := (rI .i64)) (g := (·.Cell)) (q := bh) (z := ak) 48 1 0 1 S rfl rfl comp_api_Loop_Cell
  obtain ⟨cl, S⟩ := pLoad (r := (rI .i64)) (q := bi) (x := ak.Cell) 0 S rfl
  obtain rfl : cl = iv ak.Cell := S.mem.know (i := 1) (e := fRep (rI .i64) (cl) ak.Cell) rfl
  obtain ⟨bj, cm, S⟩ := pIdx (P := Try.prog) (r := r_api_Loop) (v := .slice a0 a5.1.length a4) (xs := a5.1) (j := af) 26 48 4 S Try.underlying26 rfl rfl ci
  obtain ⟨bk, cn, S⟩ := pFld (P := Try.prog) (r := r_api_Loop) (s2 := (rI .i64)) (g := (·.Cell)) (q := bj) (z := al) 48 1 0 1 S rfl rfl comp_api_Loop_Cell
  obtain ⟨co, S⟩ := pLoad (r := (rI .i64)) (q := bk) (x := al.Cell) 0 S rfl
  obtain rfl : co = iv al.Cell := S.mem.know (i := 1) (e := fRep (rI .i64) (co) al.Cell) rfl
  refine sDraw (nf := []) (W := [(0, 149, iv au), (1, 150, .bool (au != 1)), (2, 151, .bool (au != 1)), (3, 152, .slice a0 a5.1.length a4), (4, 153, iv ag), (5, 154, bh), (6, 155, bi), (7, 156, iv ak.Cell), (8, 157, .slice a0 a5.1.length a4), (9, 158, iv af), (10, 159, bj), (11, 160, bk), (12, 161, iv al.Cell), (13, 162, .bool (ak.Cell != al.Cell)), (14, 163, .bool (ak.Cell != al.Cell))]) rfl S ?_
  refine node_by (A := anc_raddlelaw27_LoopsCross_2) 15 (by kernel_rfl) (by kernel_rfl) (by kernel_rfl) (by kernel_rfl) (by kernel_rfl) [0, 1, 2, 3, 4, 5, 6, 7, 8, 9, 10, 11, 12, 13, 14] (by kernel_rfl) (by decide) (by decide) (fF ?_ (fF ?_ (fF ?_ (fF ?_ (fF ?_ (fF ?_ (fF ?_ (fF ?_ (fF ?_ (fF ?_ (fF ?_ (fF ?_ (fF ?_ (fF ?_ (fF ?_ (trivial)))))))))))))))) [(3, .bool r8), (4, .slice a0 a5.1.length a4), (6, .slice a7 a9.1.length a8), (8, iv (w64 (aw + 1))), (9, iv ag), (10, iv af), (152, .slice a0 a5.1.length a4), (153, iv ag), (154, bh), (155, bi), (156, iv ak.Cell), (157, .slice a0 a5.1.length a4), (158, iv af), (159, bj), (160, bk), (161, iv al.Cell), (162, .bool (ak.Cell != al.Cell)), (163, .bool (ak.Cell != al.Cell))] (fin_of [none, none, none, none, none, none, some 3, some 4, some 5, some 6, some 7, some 8, some 9, some 10, some 11, some 12, some 13, some 14] rfl (by kernel_rfl) (by kernel_rfl)) (fun _ a w S => ?_)
  ·exact fM 0 none rfl rfl rfl rfl (.inl rfl) rfl rfl rfl
  ·refine fJ [(149, _)] 1 [some 0] fun G a w S => ?_
   exact sBin _ S (wN rfl) rfl rfl rfl (bNe _ _ _ _ .i64 au 1) rfl (lb rfl) fun a S => leafL ⟨rfl, S⟩
  ·exact fM 2 (some 1) rfl rfl rfl rfl (.inl rfl) rfl rfl rfl
  ·refine fJ [(4, _), (151, _)] 3 [none, some 2] fun G a w S => ?_
   exact sMove (.slice a0 a5.1.length a4) S (wG 2 false 151 rfl rfl rfl aa) (.inl rfl) rfl rfl (lb rfl) fun a S => leafL ⟨rfl, S⟩
  ·refine fJ [(9, _), (151, _)] 4 [none, some 2] fun G a w S => ?_
   exact sMove (iv ag) S (wG 2 false 151 rfl rfl rfl aa) (.inl rfl) rfl rfl (lb rfl) fun a S => leafL ⟨rfl, S⟩
  ·refine fJ [(152, _), (153, _), (151, _)] 5 [some 3, some 4, some 2] fun G a w S => ?_
   exact sIdxV S (wG 2 false 151 rfl rfl rfl aa) rfl rfl rfl cj rfl (lb rfl) fun a S => leafL ⟨rfl, S⟩
  ·refine fJ [(154, _), (151, _)] 6 [some 5, some 2] fun G a w S => ?_
   exact sFldV (q := bh) S (wG 2 false 151 rfl rfl rfl aa) rfl rfl ck rfl (lb rfl) fun a S => leafL ⟨rfl, S⟩
  ·refine fJ [(155, _), (151, _)] 7 [some 6, some 2] fun G a w S => ?_
   exact sLoadV1 (vq := bi) 4 (iv ak.Cell) S (wG 2 false 151 rfl rfl rfl aa) rfl rfl rfl rfl rfl (lb rfl) fun a S => leafL ⟨rfl, S⟩
  ·refine fJ [(4, _), (151, _)] 8 [none, some 2] fun G a w S => ?_
   exact sMove (.slice a0 a5.1.length a4) S (wG 2 false 151 rfl rfl rfl aa) (.inl rfl) rfl rfl (lb rfl) fun a S => leafL ⟨rfl, S⟩
  ·refine fJ [(10, _), (151, _)] 9 [none, some 2] fun G a w S => ?_
   exact sMove (iv af) S (wG 2 false 151 rfl rfl rfl aa) (.inl rfl) rfl rfl (lb rfl) fun a S => leafL ⟨rfl, S⟩
  ·refine fJ [(157, _), (158, _), (151, _)] 10 [some 8, some 9, some 2] fun G a w S => ?_
   exact sIdxV S (wG 2 false 151 rfl rfl rfl aa) rfl rfl rfl cm rfl (lb rfl) fun a S => leafL ⟨rfl, S⟩
  ·refine fJ [(159, _), (151, _)] 11 [some 10, some 2] fun G a w S => ?_
   exact sFldV (q := bj) S (wG 2 false 151 rfl rfl rfl aa) rfl rfl cn rfl (lb rfl) fun a S => leafL ⟨rfl, S⟩
  ·refine fJ [(160, _), (151, _)] 12 [some 11, some 2] fun G a w S => ?_
   exact sLoadV1 (vq := bk) 0 (iv al.Cell) S (wG 2 false 151 rfl rfl rfl aa) rfl rfl rfl rfl rfl (lb rfl) fun a S => leafL ⟨rfl, S⟩
  ·refine fJ [(156, _), (161, _), (151, _)] 13 [some 7, some 12, some 2] fun G a w S => ?_
   exact sBin _ S (wG 2 false 151 rfl rfl rfl aa) rfl rfl rfl (bNe _ _ _ _ .i64 ak.Cell al.Cell) rfl (lb rfl) fun a S => leafL ⟨rfl, S⟩
  ·refine fJ [(151, _), (162, _)] 14 [some 2, some 13] fun G a w S => ?_
   exact sPickF (.bool (ak.Cell != al.Cell)) S (wN rfl) rfl rfl aa rfl rfl (lb rfl) fun a S => leafL ⟨rfl, S⟩
  exact leafT (⟨ak.Cell != al.Cell, Option.some.inj h, S.fix [] [8, 9] (by decide) rfl rfl rfl⟩)
 obtain ⟨ae, aH, h⟩ := bS h
 rcases iS h with ⟨ab, h⟩ | ⟨ab, h⟩
 rotate_left
 ·obtain ⟨bM, cp, S⟩ := pIdx (P := Try.prog) (r := r_api_Loop) (v := .slice a0 a5.1.length a4) (xs := a5.1) (j := ag) 26 48 0 S Try.underlying26 rfl rfl aH
  obtain ⟨bN, cq, S⟩ := pFld (P := Try.prog) (r := r_api_Loop) (s2 := (rL (rI .i64))) (g := (·.Parents)) (q := bM) (z := ae) 48 2 0 2 S rfl rfl comp_api_Loop_Parents
  obtain ⟨dz, S⟩ := pLoad (r := (rL (rI .i64))) (q := bN) (x := ae.Parents) 0 S rfl
  obtain ⟨bx, bz, _, rfl, _⟩ := S.mem.know (i := 1) (e := fRep (rL (rI .i64)) (dz) ae.Parents) rfl
  refine sDraw (nf := []) (W := [(0, 88, .slice a0 a5.1.length a4), (1, 89, iv ag), (2, 90, bM), (3, 91, bN), (4, 92, .slice bx ae.Parents.length bz), (5, 93, iv (ae.Parents.length : Int)), (6, 94, .bool ((ae.Parents.length : Int) == 1)), (7, 95, .bool ((ae.Parents.length : Int) == 1)), (8, 96, undef), (9, 97, undef), (10, 98, undef), (11, 99, undef), (12, 100, undef), (13, 101, undef), (14, 102, undef), (15, 103, .bool false), (16, 104, .bool false), (17, 105, undef), (18, 106, undef), (19, 107, undef), (20, 108, undef), (21, 109, undef), (22, 110, undef), (23, 111, undef), (24, 112, undef), (25, 113, undef), (26, 114, undef), (27, 115, undef), (28, 116, undef), (29, 117, undef), (30, 118, undef), (31, 119, undef), (32, 120, .bool false)]) rfl S ?_
  refine node_by (A := anc_raddlelaw27_LoopsCross_1) 33 (by kernel_rfl) (by kernel_rfl) (by kernel_rfl) (by kernel_rfl) (by kernel_rfl) [0, 1, 2, 3, 4, 5, 6, 7, 8, 9, 10, 11, 12, 13, 14, 15, 16, 17, 18, 19, 20, 21, 22, 23, 24, 25, 26, 27, 28, 29, 30, 31, 32] (by kernel_rfl) (by decide) (by decide) (fF ?_ (fF ?_ (fF ?_ (fF ?_ (fF ?_ (fF ?_ (fF ?_ (fF ?_ (fF ?_ (fF ?_ (fF ?_ (fF ?_ (fF ?_ (fF ?_ (fF ?_ (fF ?_ (fF ?_ (fF ?_ (fF ?_ (fF ?_ (fF ?_ (fF ?_ (fF ?_ (fF ?_ (fF ?_ (fF ?_ (fF ?_ (fF ?_ (fF ?_ (fF ?_ (fF ?_ (fF ?_ (fF ?_ (trivial)))))))))))))))))))))))))))))))))) [(3, .bool r8), (4, .slice a0 a5.1.length a4), (6, .slice a7 a9.1.length a8), (8, iv aw), (9, iv ag), (10, iv af), (96, undef), (97, undef), (98, undef), (99, undef), (100, undef), (101, undef), (102, undef), (105, undef), (106, undef), (107, undef), (108, undef), (109, undef), (110, undef), (111, undef), (112, undef), (113, undef), (114, undef), (115, undef), (116, undef), (117, undef), (118, undef), (119, undef), (120, .bool false)] (fin_of [none, none, none, none, none, none, some 8, some 9, some 10, some 11, some 12, some 13, some 14, some 17, some 18, some 19, some 20, some 21, some 22, some 23, some 24, some 25, some 26, some 27, some 28, some 29, some 30, some 31, some 32] rfl (by kernel_rfl) (by kernel_rfl)) (fun _ a w S => ?_)
  ·exact fM 0 none rfl rfl rfl rfl (.inl rfl) rfl rfl rfl
  ·exact fM 1 none rfl rfl rfl rfl (.inl rfl) rfl rfl rfl
  ·refine fJ [(88, _), (89, _)] 2 [some 0, some 1] fun G a w S => ?_
   exact sIdxV S (wN rfl) rfl rfl rfl cp rfl (lb rfl) fun a S => leafL ⟨rfl, S⟩
  ·refine fJ [(90, _)] 3 [some 2] fun G a w S => ?_
   exact sFldV (q := bM) S (wN rfl) rfl rfl cq rfl (lb rfl) fun a S => leafL ⟨rfl, S⟩
  ·refine fJ [(91, _)] 4 [some 3] fun G a w S => ?_
   exact sLoadV1 (vq := bN) 0 (.slice bx ae.Parents.length bz) S (wN rfl) rfl rfl rfl rfl rfl (lb rfl) fun a S => leafL ⟨rfl, S⟩
  ·refine fJ [(92, _)] 5 [some 4] fun G a w S => ?_
   exact sLen S (wN rfl) rfl Try.underlying32 rfl rfl (lb rfl) fun a S => leafL ⟨rfl, S⟩
  ·refine fJ [(93, _)] 6 [some 5] fun G a w S => ?_
   exact sBin _ S (wN rfl) rfl rfl rfl (bEq _ _ _ _ .i64 (ae.Parents.length : Int) 1) rfl (lb rfl) fun a S => leafL ⟨rfl, S⟩
  ·exact fM 7 (some 6) rfl rfl rfl rfl (.inl rfl) rfl rfl rfl
  ·refine fJ [(4, _), (95, _)] 8 [none, some 7] fun G a w S => ?_
   exact sSk S rfl rfl rfl ab rfl rfl fun a S => leafL ⟨rfl, S⟩
  ·refine fJ [(10, _), (95, _)] 9 [none, some 7] fun G a w S => ?_
   exact sSk S rfl rfl rfl ab rfl rfl fun a S => leafL ⟨rfl, S⟩
  ·refine fJ [(96, _), (97, _), (95, _)] 10 [some 8, some 9, some 7] fun G a w S => ?_
   exact sSk S rfl rfl rfl ab rfl rfl fun a S => leafL ⟨rfl, S⟩
  ·refine fJ [(98, _), (95, _)] 11 [some 10, some 7] fun G a w S => ?_
   exact sSk S rfl rfl rfl ab rfl rfl fun a S => leafL ⟨rfl, S⟩
  ·refine fJ [(99, _), (95, _)] 12 [some 11, some 7] fun G a w S => ?_
   exact sSk S rfl rfl rfl ab rfl rfl fun a S => leafL ⟨rfl, S⟩
  ·refine fJ [(100, _), (95, _)] 13 [some 12, some 7] fun G a w S => ?_
   exact sSk S rfl rfl rfl ab rfl rfl fun a S => leafL ⟨rfl, S⟩
  ·refine fJ [(101, _), (95, _)] 14 [some 13, some 7] fun G a w S => ?_
   exact sSk S rfl rfl rfl ab rfl rfl fun a S => leafL ⟨rfl, S⟩
  ·refine fJ [(95, _), (102, _)] 15 [some 7, some 14] fun G a w S => ?_
   exact sPickF (.bool false) S (wN rfl) rfl rfl ab rfl rfl (lb rfl) fun a S => leafL ⟨rfl, S⟩
  ·exact fM 16 (some 15) rfl rfl rfl rfl (.inl rfl) rfl rfl rfl
  ·refine fJ [(4, _), (104, _)] 17 [none, some 16] fun G a w S => ?_
   exact sSk S rfl rfl rfl rfl rfl rfl fun a S => leafL ⟨rfl, S⟩
  ·refine fJ [(9, _), (104, _)] 18 [none, some 16] fun G a w S => ?_
   exact sSk S rfl rfl rfl rfl rfl rfl fun a S => leafL ⟨rfl, S⟩
  ·refine fJ [(105, _), (106, _), (104, _)] 19 [some 17, some 18, some 16] fun G a w S => ?_
   exact sSk S rfl rfl rfl rfl rfl rfl fun a S => leafL ⟨rfl, S⟩
  ·refine fJ [(107, _), (104, _)] 20 [some 19, some 16] fun G a w S => ?_
   exact sSk S rfl rfl rfl rfl rfl rfl fun a S => leafL ⟨rfl, S⟩
  ·refine fJ [(108, _), (104, _)] 21 [some 20, some 16] fun G a w S => ?_
   exact sSk S rfl rfl rfl rfl rfl rfl fun a S => leafL ⟨rfl, S⟩
  ·refine fJ [(109, _), (104, _)] 22 [some 21, some 16] fun G a w S => ?_
   exact sSk S rfl rfl rfl rfl rfl rfl fun a S => leafL ⟨rfl, S⟩
  ·refine fJ [(110, _), (104, _)] 23 [some 22, some 16] fun G a w S => ?_
   exact sSk S rfl rfl rfl rfl rfl rfl fun a S => leafL ⟨rfl, S⟩
  ·refine fJ [(4, _), (104, _)] 24 [none, some 16] fun G a w S => ?_
   exact sSk S rfl rfl rfl rfl rfl rfl fun a S => leafL ⟨rfl, S⟩
  ·refine fJ [(10, _), (104, _)] 25 [none, some 16] fun G a w S => ?_
   exact sSk S rfl rfl rfl rfl rfl rfl fun a S => leafL ⟨rfl, S⟩
  ·refine fJ [(112, _), (113, _), (104, _)] 26 [some 24, some 25, some 16] fun G a w S => ?_
   exact sSk S rfl rfl rfl rfl rfl rfl fun a S => leafL ⟨rfl, S⟩
  ·refine fJ [(114, _), (104, _)] 27 [some 26, some 16] fun G a w S => ?_
   exact sSk S rfl rfl rfl rfl rfl rfl fun a S => leafL ⟨rfl, S⟩
  ·refine fJ [(115, _), (104, _)] 28 [some 27, some 16] fun G a w S => ?_
   exact sSk S rfl rfl rfl rfl rfl rfl fun a S => leafL ⟨rfl, S⟩
  ·refine fJ [(116, _), (104, _)] 29 [some 28, some 16] fun G a w S => ?_
   exact sSk S rfl rfl rfl rfl rfl rfl fun a S => leafL ⟨rfl, S⟩
  ·refine fJ [(117, _), (104, _)] 30 [some 29, some 16] fun G a w S => ?_
   exact sSk S rfl rfl rfl rfl rfl rfl fun a S => leafL ⟨rfl, S⟩
  ·refine fJ [(111, _), (118, _), (104, _)] 31 [some 23, some 30, some 16] fun G a w S => ?_
   exact sSk S rfl rfl rfl rfl rfl rfl fun a S => leafL ⟨rfl, S⟩
  ·refine fJ [(104, _), (119, _)] 32 [some 16, some 31] fun G a w S => ?_
   exact sPickF (.bool false) S (wN rfl) rfl rfl rfl rfl rfl (lb rfl) fun a S => leafL ⟨rfl, S⟩
  exact leafT (⟨false, Option.some.inj h, S.fix [] [4, 5] (by decide) rfl rfl rfl⟩)
 obtain ⟨ac, aX, h⟩ := bS h
 rcases iS h with ⟨a6, h⟩ | ⟨a6, h⟩
 rotate_left
 ·obtain ⟨bO, cr, S⟩ := pIdx (P := Try.prog) (r := r_api_Loop) (v := .slice a0 a5.1.length a4) (xs := a5.1) (j := ag) 26 48 0 S Try.underlying26 rfl rfl aH
  obtain ⟨bP, ct, S⟩ := pFld (P := Try.prog) (r := r_api_Loop) (s2 := (rL (rI .i64))) (g := (·.Parents)) (q := bO) (z := ae) 48 2 0 2 S rfl rfl comp_api_Loop_Parents
  obtain ⟨dA, S⟩ := pLoad (r := (rL (rI .i64))) (q := bP) (x := ae.Parents) 0 S rfl
  obtain ⟨bA, bB, _, rfl, _⟩ := S.mem.know (i := 1) (e := fRep (rL (rI .i64)) (dA) ae.Parents) rfl
  obtain ⟨bl, cu, S⟩ := pIdx (P := Try.prog) (r := r_api_Loop) (v := .slice a0 a5.1.length a4) (xs := a5.1) (j := af) 26 48 4 S Try.underlying26 rfl rfl aX
  obtain ⟨bm, cv, S⟩ := pFld (P := Try.prog) (r := r_api_Loop) (s2 := (rL (rI .i64))) (g := (·.Parents)) (q := bl) (z := ac) 48 2 0 2 S rfl rfl comp_api_Loop_Parents
  obtain ⟨dB, S⟩ := pLoad (r := (rL (rI .i64))) (q := bm) (x := ac.Parents) 0 S rfl
  obtain ⟨aZ, ba, _, rfl, _⟩ := S.mem.know (i := 1) (e := fRep (rL (rI .i64)) (dB) ac.Parents) rfl
  refine sDraw (nf := []) (W := [(0, 88, .slice a0 a5.1.length a4), (1, 89, iv ag), (2, 90, bO), (3, 91, bP), (4, 92, .slice bA ae.Parents.length bB), (5, 93, iv (ae.Parents.length : Int)), (6, 94, .bool ((ae.Parents.length : Int) == 1)), (7, 95, .bool ((ae.Parents.length : Int) == 1)), (8, 96, .slice a0 a5.1.length a4), (9, 97, iv af), (10, 98, bl), (11, 99, bm), (12, 100, .slice aZ ac.Parents.length ba), (13, 101, iv (ac.Parents.length : Int)), (14, 102, .bool ((ac.Parents.length : Int) == 1)), (15, 103, .bool ((ac.Parents.length : Int) == 1)), (16, 104, .bool ((ac.Parents.length : Int) == 1)), (17, 105, undef), (18, 106, undef), (19, 107, undef), (20, 108, undef), (21, 109, undef), (22, 110, undef), (23, 111, undef), (24, 112, undef), (25, 113, undef), (26, 114, undef), (27, 115, undef), (28, 116, undef), (29, 117, undef), (30, 118, undef), (31, 119, undef), (32, 120, .bool false)]) rfl S ?_
  refine node_by (A := anc_raddlelaw27_LoopsCross_1) 33 (by kernel_rfl) (by kernel_rfl) (by kernel_rfl) (by kernel_rfl) (by kernel_rfl) [0, 1, 2, 3, 4, 5, 6, 7, 8, 9, 10, 11, 12, 13, 14, 15, 16, 17, 18, 19, 20, 21, 22, 23, 24, 25, 26, 27, 28, 29, 30, 31, 32] (by kernel_rfl) (by decide) (by decide) (fF ?_ (fF ?_ (fF ?_ (fF ?_ (fF ?_ (fF ?_ (fF ?_ (fF ?_ (fF ?_ (fF ?_ (fF ?_ (fF ?_ (fF ?_ (fF ?_ (fF ?_ (fF ?_ (fF ?_ (fF ?_ (fF ?_ (fF ?_ (fF ?_ (fF ?_ (fF ?_ (fF ?_ (fF ?_ (fF ?_ (fF ?_ (fF ?_ (fF ?_ (fF ?_ (fF ?_ (fF ?_ (fF ?_ (trivial)))))))))))))))))))))))))))))))))) [(3, .bool r8), (4, .slice a0 a5.1.length a4), (6, .slice a7 a9.1.length a8), (8, iv aw), (9, iv ag), (10, iv af), (96, .slice a0 a5.1.length a4), (97, iv af), (98, bl), (99, bm), (100, .slice aZ ac.Parents.length ba), (101, iv (ac.Parents.length : Int)), (102, .bool ((ac.Parents.length : Int) == 1)), (105, undef), (106, undef), (107, undef), (108, undef), (109, undef), (110, undef), (111, undef), (112, undef), (113, undef), (114, undef), (115, undef), (116, undef), (117, undef), (118, undef), (119, undef), (120, .bool false)] (fin_of [none, none, none, none, none, none, some 8, some 9, some 10, some 11, some 12, some 13, some 14, some 17, some 18, some 19, some 20, some 21, some 22, some 23, some 24, some 25, some 26, some 27, some 28, some 29, some 30, some 31, some 32] rfl (by kernel_rfl) (by kernel_rfl)) (fun _ a w S => ?_)
  ·exact fM 0 none rfl rfl rfl rfl (.inl rfl) rfl rfl rfl
  ·exact fM 1 none rfl rfl rfl rfl (.inl rfl) rfl rfl rfl
  ·refine fJ [(88, _), (89, _)] 2 [some 0, some 1] fun G a w S => ?_
   exact sIdxV S (wN rfl) rfl rfl rfl cr rfl (lb rfl) fun a S => leafL ⟨rfl, S⟩
  ·refine fJ [(90, _)] 3 [some 2] fun G a w S => ?_
   exact sFldV (q := bO) S (wN rfl) rfl rfl ct rfl (lb rfl) fun a S => leafL ⟨rfl, S⟩
  ·refine fJ [(91, _)] 4 [some 3] fun G a w S => ?_
   exact sLoadV1 (vq := bP) 4 (.slice bA ae.Parents.length bB) S (wN rfl) rfl rfl rfl rfl rfl (lb rfl) fun a S => leafL ⟨rfl, S⟩
  ·refine fJ [(92, _)] 5 [some 4] fun G a w S => ?_
   exact sLen S (wN rfl) rfl Try.underlying32 rfl rfl (lb rfl) fun a S => leafL ⟨rfl, S⟩
  ·refine fJ [(93, _)] 6 [some 5] fun G a w S => ?_
   exact sBin _ S (wN rfl) rfl rfl rfl (bEq _ _ _ _ .i64 (ae.Parents.length : Int) 1) rfl (lb rfl) fun a S => leafL ⟨rfl, S⟩
  ·exact fM 7 (some 6) rfl rfl rfl rfl (.inl rfl) rfl rfl rfl
  ·refine fJ [(4, _), (95, _)] 8 [none, some 7] fun G a w S => ?_
   exact sMove (.slice a0 a5.1.length a4) S (wG 7 true 95 rfl rfl rfl ab) (.inl rfl) rfl rfl (lb rfl) fun a S => leafL ⟨rfl, S⟩
  ·refine fJ [(10, _), (95, _)] 9 [none, some 7] fun G a w S => ?_
   exact sMove (iv af) S (wG 7 true 95 rfl rfl rfl ab) (.inl rfl) rfl rfl (lb rfl) fun a S => leafL ⟨rfl, S⟩
  ·refine fJ [(96, _), (97, _), (95, _)] 10 [some 8, some 9, some 7] fun G a w S => ?_
   exact sIdxV S (wG 7 true 95 rfl rfl rfl ab) rfl rfl rfl cu rfl (lb rfl) fun a S => leafL ⟨rfl, S⟩
  ·refine fJ [(98, _), (95, _)] 11 [some 10, some 7] fun G a w S => ?_
   exact sFldV (q := bl) S (wG 7 true 95 rfl rfl rfl ab) rfl rfl cv rfl (lb rfl) fun a S => leafL ⟨rfl, S⟩
  ·refine fJ [(99, _), (95, _)] 12 [some 11, some 7] fun G a w S => ?_
   exact sLoadV1 (vq := bm) 0 (.slice aZ ac.Parents.length ba) S (wG 7 true 95 rfl rfl rfl ab) rfl rfl rfl rfl rfl (lb rfl) fun a S => leafL ⟨rfl, S⟩
  ·refine fJ [(100, _), (95, _)] 13 [some 12, some 7] fun G a w S => ?_
   exact sLen S (wG 7 true 95 rfl rfl rfl ab) rfl Try.underlying32 rfl rfl (lb rfl) fun a S => leafL ⟨rfl, S⟩
  ·refine fJ [(101, _), (95, _)] 14 [some 13, some 7] fun G a w S => ?_
   exact sBin _ S (wG 7 true 95 rfl rfl rfl ab) rfl rfl rfl (bEq _ _ _ _ .i64 (ac.Parents.length : Int) 1) rfl (lb rfl) fun a S => leafL ⟨rfl, S⟩
  ·refine fJ [(95, _), (102, _)] 15 [some 7, some 14] fun G a w S => ?_
   exact sPickT (.bool ((ac.Parents.length : Int) == 1)) S (wN rfl) rfl rfl ab rfl rfl (lb rfl) fun a S => leafL ⟨rfl, S⟩
  ·exact fM 16 (some 15) rfl rfl rfl rfl (.inl rfl) rfl rfl rfl
  ·refine fJ [(4, _), (104, _)] 17 [none, some 16] fun G a w S => ?_
   exact sSk S rfl rfl rfl a6 rfl rfl fun a S => leafL ⟨rfl, S⟩
  ·refine fJ [(9, _), (104, _)] 18 [none, some 16] fun G a w S => ?_
   exact sSk S rfl rfl rfl a6 rfl rfl fun a S => leafL ⟨rfl, S⟩
  ·refine fJ [(105, _), (106, _), (104, _)] 19 [some 17, some 18, some 16] fun G a w S => ?_
   exact sSk S rfl rfl rfl a6 rfl rfl fun a S => leafL ⟨rfl, S⟩
  ·refine fJ [(107, _), (104, _)] 20 [some 19, some 16] fun G a w S => ?_
   exact sSk S rfl rfl rfl a6 rfl rfl fun a S => leafL ⟨rfl, S⟩
  ·refine fJ [(108, _), (104, _)] 21 [some 20, some 16] fun G a w S => ?_
   exact sSk S rfl rfl rfl a6 rfl rfl fun a S => leafL ⟨rfl, S⟩
  ·refine fJ [(109, _), (104, _)] 22 [some 21, some 16] fun G a w S => ?_
   exact sSk S rfl rfl rfl a6 rfl rfl fun a S => leafL ⟨rfl, S⟩
  ·refine fJ [(110, _), (104, _)] 23 [some 22, some 16] fun G a w S => ?_
   exact sSk S rfl rfl rfl a6 rfl rfl fun a S => leafL ⟨rfl, S⟩
  ·refine fJ [(4, _), (104, _)] 24 [none, some 16] fun G a w S => ?_
   exact sSk S rfl rfl rfl a6 rfl rfl fun a S => leafL ⟨rfl, S⟩
  ·refine fJ [(10, _), (104, _)] 25 [none, some 16] fun G a w S => ?_
   exact sSk S rfl rfl rfl a6 rfl rfl fun a S => leafL ⟨rfl, S⟩
  ·refine fJ [(112, _), (113, _), (104, _)] 26 [some 24, some 25, some 16] fun G a w S => ?_
   exact sSk S rfl rfl rfl a6 rfl rfl fun a S => leafL ⟨rfl, S⟩
  ·refine fJ [(114, _), (104, _)] 27 [some 26, some 16] fun G a w S => ?_
   exact sSk S rfl rfl rfl a6 rfl rfl fun a S => leafL ⟨rfl, S⟩
  ·refine fJ [(115, _), (104, _)] 28 [some 27, some 16] fun G a w S => ?_
   exact sSk S rfl rfl rfl a6 rfl rfl fun a S => leafL ⟨rfl, S⟩
  ·refine fJ [(116, _), (104, _)] 29 [some 28, some 16] fun G a w S => ?_
   exact sSk S rfl rfl rfl a6 rfl rfl fun a S => leafL ⟨rfl, S⟩
  ·refine fJ [(117, _), (104, _)] 30 [some 29, some 16] fun G a w S => ?_
   exact sSk S rfl rfl rfl a6 rfl rfl fun a S => leafL ⟨rfl, S⟩
  ·refine fJ [(111, _), (118, _), (104, _)] 31 [some 23, some 30, some 16] fun G a w S => ?_
   exact sSk S rfl rfl rfl a6 rfl rfl fun a S => leafL ⟨rfl, S⟩
  ·refine fJ [(104, _), (119, _)] 32 [some 16, some 31] fun G a w S => ?_
   exact sPickF (.bool false) S (wN rfl) rfl rfl a6 rfl rfl (lb rfl) fun a S => leafL ⟨rfl, S⟩
  exact leafT (⟨false, Option.some.inj h, S.fix [] [8, 9] (by decide) rfl rfl rfl⟩)
 obtain ⟨ap, cw, h⟩ := bS h
 obtain ⟨aq, cx, h⟩ := bS h
 obtain ⟨bQ, cy, S⟩ := pIdx (P := Try.prog) (r := r_api_Loop) (v := .slice a0 a5.1.length a4) (xs := a5.1) (j := ag) 26 48 0 S Try.underlying26 rfl rfl aH
 obtain ⟨bR, cz, S⟩ := pFld (P := Try.prog) (r := r_api_Loop) (s2 := (rL (rI .i64))) (g := (·.Parents)) (q := bQ) (z := ae) 48 2 0 2 S rfl rfl comp_api_Loop_Parents
 obtain ⟨dC, S⟩ := pLoad (r := (rL (rI .i64))) (q := bR) (x := ae.Parents) 0 S rfl
 obtain ⟨bC, bD, _, rfl, _⟩ := S.mem.know (i := 1) (e := fRep (rL (rI .i64)) (dC) ae.Parents) rfl
 obtain ⟨bn, cA, S⟩ := pIdx (P := Try.prog) (r := r_api_Loop) (v := .slice a0 a5.1.length a4) (xs := a5.1) (j := af) 26 48 4 S Try.underlying26 rfl rfl aX
 obtain ⟨bo, cB, S⟩ := pFld (P := Try.prog) (r := r_api_Loop) (s2 := (rL (rI .i64))) (g := (·.Parents)) (q := bn) (z := ac) 48 2 0 2 S rfl rfl comp_api_Loop_Parents
 obtain ⟨dD, S⟩ := pLoad (r := (rL (rI .i64))) (q := bo) (x := ac.Parents) 0 S rfl
 obtain ⟨bb, bc, _, rfl, _⟩ := S.mem.know (i := 1) (e := fRep (rL (rI .i64)) (dD) ac.Parents) rfl
 obtain ⟨bp, cC, S⟩ := pIdx (P := Try.prog) (r := r_api_Loop) (v := .slice a0 a5.1.length a4) (xs := a5.1) (j := ag) 26 48 8 S Try.underlying26 rfl rfl aH
 obtain ⟨bq, cD, S⟩ := pFld (P := Try.prog) (r := r_api_Loop) (s2 := (rL (rI .i64))) (g := (·.Parents)) (q := bp) (z := ae) 48 2 0 2 S rfl rfl comp_api_Loop_Parents
 obtain ⟨dE, S⟩ := pLoad (r := (rL (rI .i64))) (q := bq) (x := ae.Parents) 0 S rfl
 obtain ⟨aI, aJ, _, rfl, _⟩ := S.mem.know (i := 1) (e := fRep (rL (rI .i64)) (dE) ae.Parents) rfl
 obtain ⟨br, cE, S⟩ := pIdx (P := Try.prog) (r := (rI .i64)) (v := .slice aI ae.Parents.length aJ) (xs := ae.Parents) (j := 0) 32 3 1 S Try.underlying32 rfl rfl cw
 obtain ⟨cF, S⟩ := pLoad (r := (rI .i64)) (q := br) (x := ap) 0 S rfl
 obtain rfl : cF = iv ap := S.mem.know (i := 1) (e := fRep (rI .i64) (cF) ap) rfl
 obtain ⟨bt, cG, S⟩ := pIdx (P := Try.prog) (r := r_api_Loop) (v := .slice a0 a5.1.length a4) (xs := a5.1) (j := af) 26 48 15 S Try.underlying26 rfl rfl aX
 obtain ⟨bu, cH, S⟩ := pFld (P := Try.prog) (r := r_api_Loop) (s2 := (rL (rI .i64))) (g := (·.Parents)) (q := bt) (z := ac) 48 2 0 2 S rfl rfl comp_api_Loop_Parents
 obtain ⟨dG, S⟩ := pLoad (r := (rL (rI .i64))) (q := bu) (x := ac.Parents) 0 S rfl
 obtain ⟨aK, aL, _, rfl, _⟩ := S.mem.know (i := 1) (e := fRep (rL (rI .i64)) (dG) ac.Parents) rfl
 obtain ⟨bv, cI, S⟩ := pIdx (P := Try.prog) (r := (rI .i64)) (v := .slice aK ac.Parents.length aL) (xs := ac.Parents) (j := 0) 32 3 1 S Try.underlying32 rfl rfl cx
 obtain ⟨cJ, S⟩ := pLoad (r := (rI .i64)) (q := bv) (x := aq) 0 S rfl
 obtain rfl : cJ = iv aq := S.mem.know (i := 1) (e := fRep (rI .i64) (cJ) aq) rfl
 refine sDraw (nf := []) (W := [(0, 88, .slice a0 a5.1.length a4), (1, 89, iv ag), (2, 90, bQ), (3, 91, bR), (4, 92, .slice bC ae.Parents.length bD), (5, 93, iv (ae.Parents.length : Int)), (6, 94, .bool ((ae.Parents.length : Int) == 1)), (7, 95, .bool ((ae.Parents.length : Int) == 1)), (8, 96, .slice a0 a5.1.length a4), (9, 97, iv af), (10, 98, bn), (11, 99, bo), (12, 100, .slice bb ac.Parents.length bc), (13, 101, iv (ac.Parents.length : Int)), (14, 102, .bool ((ac.Parents.length : Int) == 1)), (15, 103, .bool ((ac.Parents.length : Int) == 1)), (16, 104, .bool ((ac.Parents.length : Int) == 1)), (17, 105, .slice a0 a5.1.length a4), (18, 106, iv ag), (19, 107, bp), (20, 108, bq), (21, 109, .slice aI ae.Parents.length aJ), (22, 110, br), (23, 111, iv ap), (24, 112, .slice a0 a5.1.length a4), (25, 113, iv af), (26, 114, bt), (27, 115, bu), (28, 116, .slice aK ac.Parents.length aL), (29, 117, bv), (30, 118, iv aq), (31, 119, .bool (decide (aq < ap))), (32, 120, .bool (decide (aq < ap)))]) rfl S ?_
 refine node_by (A := anc_raddlelaw27_LoopsCross_1) 33 (by kernel_rfl) (by kernel_rfl) (by kernel_rfl) (by kernel_rfl) (by kernel_rfl) [0, 1, 2, 3, 4, 5, 6, 7, 8, 9, 10, 11, 12, 13, 14, 15, 16, 17, 18, 19, 20, 21, 22, 23, 24, 25, 26, 27, 28, 29, 30, 31, 32] (by kernel_rfl) (by decide) (by decide) (fF ?_ (fF ?_ (fF ?_ (fF ?_ (fF ?_ (fF ?_ (fF ?_ (fF ?_ (fF ?_ (fF ?_ (fF ?_ (fF ?_ (fF ?_ (fF ?_ (fF ?_ (fF ?_ (fF ?_ (fF ?_ (fF ?_ (fF ?_ (fF ?_ (fF ?_ (fF ?_ (fF ?_ (fF ?_ (fF ?_ (fF ?_ (fF ?_ (fF ?_ (fF ?_ (fF ?_ (fF ?_ (fF ?_ (trivial)))))))))))))))))))))))))))))))))) [(3, .bool r8), (4, .slice a0 a5.1.length a4), (6, .slice a7 a9.1.length a8), (8, iv aw), (9, iv ag), (10, iv af), (96, .slice a0 a5.1.length a4), (97, iv af), (98, bn), (99, bo), (100, .slice bb ac.Parents.length bc), (101, iv (ac.Parents.length : Int)), (102, .bool ((ac.Parents.length : Int) == 1)), (105, .slice a0 a5.1.length a4), (106, iv ag), (107, bp), (108, bq), (109, .slice aI ae.Parents.length aJ), (110, br), (111, iv ap), (112, .slice a0 a5.1.length a4), (113, iv af), (114, bt), (115, bu), (116, .slice aK ac.Parents.length aL), (117, bv), (118, iv aq), (119, .bool (decide (aq < ap))), (120, .bool (decide (aq < ap)))] (fin_of [none, none, none, none, none, none, some 8, some 9, some 10, some 11, some 12, some 13, some 14, some 17, some 18, some 19, some 20, some 21, some 22, some 23, some 24, some 25, some 26, some 27, some 28, some 29, some 30, some 31, some 32] rfl (by kernel_rfl) (by kernel_rfl)) (fun _ a w S => ?_)
 ·exact fM 0 none rfl rfl rfl rfl (.inl rfl) rfl rfl rfl
 ·exact fM 1 none rfl rfl rfl rfl (.inl rfl) rfl rfl rfl
 ·refine fJ [(88, _), (89, _)] 2 [some 0, some 1] fun G a w S => ?_
  exact sIdxV S (wN rfl) rfl rfl rfl cy rfl (lb rfl) fun a S => leafL ⟨rfl, S⟩
 ·refine fJ [(90, _)] 3 [some 2] fun G a w S => ?_
  exact sFldV (q := bQ) S (wN rfl) rfl rfl cz rfl (lb rfl) fun a S => leafL ⟨rfl, S⟩
 ·refine fJ [(91, _)] 4 [some 3] fun G a w S => ?_
  exact sLoadV1 (vq := bR) 18 (.slice bC ae.Parents.length bD) S (wN rfl) rfl rfl rfl rfl rfl (lb rfl) fun a S => leafL ⟨rfl, S⟩
 ·refine fJ [(92, _)] 5 [some 4] fun G a w S => ?_
  exact sLen S (wN rfl) rfl Try.underlying32 rfl rfl (lb rfl) fun a S => leafL ⟨rfl, S⟩
 ·refine fJ [(93, _)] 6 [some 5] fun G a w S => ?_
  exact sBin _ S (wN rfl) rfl rfl rfl (bEq _ _ _ _ .i64 (ae.Parents.length : Int) 1) rfl (lb rfl) fun a S => leafL ⟨rfl, S⟩
 ·exact fM 7 (some 6) rfl rfl rfl rfl (.inl rfl) rfl rfl rfl
 ·refine fJ [(4, _), (95, _)] 8 [none, some 7] fun G a w S => ?_
  exact sMove (.slice a0 a5.1.length a4) S (wG 7 true 95 rfl rfl rfl ab) (.inl rfl) rfl rfl (lb rfl) fun a S => leafL ⟨rfl, S⟩
 ·refine fJ [(10, _), (95, _)] 9 [none, some 7] fun G a w S => ?_
  exact sMove (iv af) S (wG 7 true 95 rfl rfl rfl ab) (.inl rfl) rfl rfl (lb rfl) fun a S => leafL ⟨rfl, S⟩
 ·refine fJ [(96, _), (97, _), (95, _)] 10 [some 8, some 9, some 7] fun G a w S => ?_
  exact sIdxV S (wG 7 true 95 rfl rfl rfl ab) rfl rfl rfl cA rfl (lb rfl) fun a S => leafL ⟨rfl, S⟩
 ·refine fJ [(98, _), (95, _)] 11 [some 10, some 7] fun G a w S => ?_
  exact sFldV (q := bn) S (wG 7 true 95 rfl rfl rfl ab) rfl rfl cB rfl (lb rfl) fun a S => leafL ⟨rfl, S⟩
 ·refine fJ [(99, _), (95, _)] 12 [some 11, some 7] fun G a w S => ?_
  exact sLoadV1 (vq := bo) 14 (.slice bb ac.Parents.length bc) S (wG 7 true 95 rfl rfl rfl ab) rfl rfl rfl rfl rfl (lb rfl) fun a S => leafL ⟨rfl, S⟩
 ·refine fJ [(100, _), (95, _)] 13 [some 12, some 7] fun G a w S => ?_
  exact sLen S (wG 7 true 95 rfl rfl rfl ab) rfl Try.underlying32 rfl rfl (lb rfl) fun a S => leafL ⟨rfl, S⟩
 ·refine fJ [(101, _), (95, _)] 14 [some 13, some 7] fun G a w S => ?_
  exact sBin _ S (wG 7 true 95 rfl rfl rfl ab) rfl rfl rfl (bEq _ _ _ _ .i64 (ac.Parents.length : Int) 1) rfl (lb rfl) fun a S => leafL ⟨rfl, S⟩
 ·refine fJ [(95, _), (102, _)] 15 [some 7, some 14] fun G a w S => ?_
  exact sPickT (.bool ((ac.Parents.length : Int) == 1)) S (wN rfl) rfl rfl ab rfl rfl (lb rfl) fun a S => leafL ⟨rfl, S⟩
 ·exact fM 16 (some 15) rfl rfl rfl rfl (.inl rfl) rfl rfl rfl
 ·refine fJ [(4, _), (104, _)] 17 [none, some 16] fun G a w S => ?_
  exact sMove (.slice a0 a5.1.length a4) S (wG 16 true 104 rfl rfl rfl a6) (.inl rfl) rfl rfl (lb rfl) fun a S => leafL ⟨rfl, S⟩
 ·refine fJ [(9, _), (104, _)] 18 [none, some 16] fun G a w S => ?_
  exact sMove (iv ag) S (wG 16 true 104 rfl rfl rfl a6) (.inl rfl) rfl rfl (lb rfl) fun a S => leafL ⟨rfl, S⟩
 ·refine fJ [(105, _), (106, _), (104, _)] 19 [some 17, some 18, some 16] fun G a w S => ?_
  exact sIdxV S (wG 16 true 104 rfl rfl rfl a6) rfl rfl rfl cC rfl (lb rfl) fun a S => leafL ⟨rfl, S⟩
 ·refine fJ [(107, _), (104, _)] 20 [some 19, some 16] fun G a w S => ?_
  exact sFldV (q := bp) S (wG 16 true 104 rfl rfl rfl a6) rfl rfl cD rfl (lb rfl) fun a S => leafL ⟨rfl, S⟩
 ·refine fJ [(108, _), (104, _)] 21 [some 20, some 16] fun G a w S => ?_
  exact sLoadV1 (vq := bq) 10 (.slice aI ae.Parents.length aJ) S (wG 16 true 104 rfl rfl rfl a6) rfl rfl rfl rfl rfl (lb rfl) fun a S => leafL ⟨rfl, S⟩
 ·refine fJ [(109, _), (104, _)] 22 [some 21, some 16] fun G a w S => ?_
  exact sIdxV S (wG 16 true 104 rfl rfl rfl a6) rfl rfl rfl cE rfl (lb rfl) fun a S => leafL ⟨rfl, S⟩
 ·refine fJ [(110, _), (104, _)] 23 [some 22, some 16] fun G a w S => ?_
  exact sLoadV1 (vq := br) 7 (iv ap) S (wG 16 true 104 rfl rfl rfl a6) rfl rfl rfl rfl rfl (lb rfl) fun a S => leafL ⟨rfl, S⟩
 ·refine fJ [(4, _), (104, _)] 24 [none, some 16] fun G a w S => ?_
  exact sMove (.slice a0 a5.1.length a4) S (wG 16 true 104 rfl rfl rfl a6) (.inl rfl) rfl rfl (lb rfl) fun a S => leafL ⟨rfl, S⟩
 ·refine fJ [(10, _), (104, _)] 25 [none, some 16] fun G a w S => ?_
  exact sMove (iv af) S (wG 16 true 104 rfl rfl rfl a6) (.inl rfl) rfl rfl (lb rfl) fun a S => leafL ⟨rfl, S⟩
 ·refine fJ [(112, _), (113, _), (104, _)] 26 [some 24, some 25, some 16] fun G a w S => ?_
  exact sIdxV S (wG 16 true 104 rfl rfl rfl a6) rfl rfl rfl cG rfl (lb rfl) fun a S => leafL ⟨rfl, S⟩
 ·refine fJ [(114, _), (104, _)] 27 [some 26, some 16] fun G a w S => ?_
  exact sFldV (q := bt) S (wG 16 true 104 rfl rfl rfl a6) rfl rfl cH rfl (lb rfl) fun a S => leafL ⟨rfl, S⟩
 ·refine fJ [(115, _), (104, _)] 28 [some 27, some 16] fun G a w S => ?_
  exact sLoadV1 (vq := bu) 3 (.slice aK ac.Parents.length aL) S (wG 16 true 104 rfl rfl rfl a6) rfl rfl rfl rfl rfl (lb rfl) fun a S => leafL ⟨rfl, S⟩
 ·refine fJ [(116, _), (104, _)] 29 [some 28, some 16] fun G a w S => ?_
  exact sIdxV S (wG 16 true 104 rfl rfl rfl a6) rfl rfl rfl cI rfl (lb rfl) fun a S => leafL ⟨rfl, S⟩
 ·refine fJ [(117, _), (104, _)] 30 [some 29, some 16] fun G a w S => ?_
  exact sLoadV1 (vq := bv) 0 (iv aq) S (wG 16 true 104 rfl rfl rfl a6) rfl rfl rfl rfl rfl (lb rfl) fun a S => leafL ⟨rfl, S⟩
 ·refine fJ [(111, _), (118, _), (104, _)] 31 [some 23, some 30, some 16] fun G a w S => ?_
  exact sBin _ S (wG 16 true 104 rfl rfl rfl a6) rfl rfl rfl (bGt _ _ _ _ .i64 ap aq) rfl (lb rfl) fun a S => leafL ⟨rfl, S⟩
 ·refine fJ [(104, _), (119, _)] 32 [some 16, some 31] fun G a w S => ?_
  exact sPickT (.bool (decide (aq < ap))) S (wN rfl) rfl rfl a6 rfl rfl (lb rfl) fun a S => leafL ⟨rfl, S⟩
 exact leafT (⟨decide (aq < ap), Option.some.inj h, S.fix [] [22, 23] (by decide) rfl rfl rfl⟩)
def pq (P Q : List Int) : Bool := match P, Q with
 | [x], [y] => decide (y < x)
 | _, _ => false
theorem cond_eq (P Q : List Int) : (if ((P.length : Int) == 1) = true then (if ((Q.length : Int) == 1) = true then Option.bind (idxO P 0) fun x => Option.bind (idxO Q 0) fun y => some (decide (y < x)) else some false) else some false) = some (pq P Q) := by
 have one : ∀ (x y : Int) (l : List Int), (((x :: y :: l : List Int).length : Int) == 1) = false := fun x y l => bF (by simp only [List.length_cons]; omega)
 cases P with
 | nil => rfl
 | cons x P =>
  cases P with
  | cons y P => rw [one, if_neg (by simp)]; cases Q <;> rfl
  | nil =>
   cases Q with
   | nil => rfl
   | cons y Q =>
    cases Q with
    | cons u Q => rw [one]; rfl
    | nil => rfl
def invb (L : List api_Loop) (a b : Nat) : Bool := match L[a]?, L[b]? with
 | some l, some k => pq l.Parents k.Parents
 | _, _ => false
theorem pq_iff {P Q : List Int} : pq P Q = true ↔ ∃ x y, P = [x] ∧ Q = [y] ∧ y < x := by
 constructor
 ·intro h
  unfold pq at h
  split at h
  ·exact ⟨_, _, rfl, rfl, of_decide_eq_true h⟩
  ·cases h
 ·rintro ⟨x, y, rfl, rfl, h⟩
  exact decide_eq_true h
theorem invb_iff {L : List api_Loop} {a b : Nat} (h : a < b) : invb L a b = true ↔ inv L a b := by
 unfold invb inv
 constructor
 ·intro hi
  cases h1 : L[a]? with
  | none => rw [h1] at hi; cases hi
  | some l =>
   cases h2 : L[b]? with
   | none => rw [h1, h2] at hi; cases hi
   | some k =>
    rw [h1, h2] at hi
    obtain ⟨x, y, e1, e2, e3⟩ := pq_iff.1 hi
    exact ⟨h, l, k, x, y, rfl, rfl, e1, e2, e3⟩
 ·rintro ⟨_, l, k, x, y, h1, h2, e1, e2, e3⟩
  rw [h1, h2]
  exact pq_iff.2 ⟨x, y, e1, e2, e3⟩
theorem norm_eq {q : Int × Int} {a b : Nat} (h : a < b) : norm q = ((a : Int), (b : Int)) ↔ (q.1 = a ∧ q.2 = b) ∨ (q.1 = b ∧ q.2 = a) := by
 obtain ⟨x, y⟩ := q
 unfold norm
 split <;> simp only [Prod.mk.injEq] at * <;> omega
theorem found_loop {C : List (Int × Int)} (hC : C.length ≤ 1000000) {a b : Nat} (h : a < b) : whileO (raddlelaw27_LoopsCross_l1 (C, 0) (a : Int) (b : Int)) (0, 0) = some (((C.map norm).count ((a : Int), (b : Int)) : Nat) : Int) := by
 refine loop_sq (fun j => (((((C.take j).map norm).count ((a : Int), (b : Int)) : Nat) : Int), (j : Int))) C.length (by simp) ?_ ?_
 ·intro j hj
  have hle : (((C.take j).map norm).count ((a : Int), (b : Int))) ≤ C.length := by
   have := List.count_le_length (a := ((a : Int), (b : Int))) (l := (C.take j).map norm)
   rw [List.length_map, List.length_take] at this; omega
  unfold raddlelaw27_LoopsCross_l1
  simp only [dT (show (j : Int) < (C.length : Int) by omega), if_true]
  rw [idxO_nat hj, Option.bind_some, take_snoc _ hj, List.map_append, List.count_append, w64_succ (show j < 9223372036854775807 by omega)]
  have e : (if ((C[j].1 == (a : Int)) && ((C[j].2 == (b : Int)) && true)) = true then some true else some ((C[j].1 == (b : Int)) && ((C[j].2 == (a : Int)) && true))) = some (decide (norm C[j] = ((a : Int), (b : Int)))) := by
   by_cases h1 : C[j].1 = (a : Int) ∧ C[j].2 = (b : Int)
   ·rw [if_pos (by simp [h1.1, h1.2]), decide_eq_true ((norm_eq h).2 (.inl h1))]
   ·rw [if_neg (by simpa using h1)]
    by_cases h2 : C[j].1 = (b : Int) ∧ C[j].2 = (a : Int)
    ·rw [decide_eq_true ((norm_eq h).2 (.inr h2))]; simp [h2.1, h2.2]
    ·rw [decide_eq_false (fun e => ((norm_eq h).1 e).elim h1 h2)]
     congr 1
     simpa using h2
  rw [e, Option.bind_some]
  by_cases hn : norm C[j] = ((a : Int), (b : Int))
  ·rw [decide_eq_true hn, if_pos rfl]
   simp only [Option.bind_some, List.map_cons, List.map_nil, hn, List.count_singleton_self]
   rw [w64_succ (by omega)]
  ·rw [decide_eq_false hn, if_neg (by simp)]
   simp only [Option.bind_some, List.map_cons, List.map_nil]
   rw [show List.count ((a : Int), (b : Int)) [norm C[j]] = 0 from List.count_eq_zero.2 (by simp; exact fun e => hn e.symm)]
   rfl
 ·unfold raddlelaw27_LoopsCross_l1
  simp only [dF (show ¬ (C.length : Int) < (C.length : Int) by omega), Bool.false_eq_true, if_false, List.take_length]
def blk (L : List api_Loop) (a t : Nat) : List (Int × Int) := ((List.range' (a + 1) t).filter (invb L a)).map fun b : Nat => ((a : Int), (b : Int))
theorem blk_succ (L : List api_Loop) (a t : Nat) : blk L a (t + 1) = blk L a t ++ (if invb L a (a + 1 + t) = true then [((a : Int), ((a + 1 + t : Nat) : Int))] else []) := by
 unfold blk
 rw [List.range'_concat, Nat.one_mul, List.filter_append, List.map_append]
 congr 1
 by_cases h : invb L a (a + 1 + t) = true
 ·rw [if_pos h]; simp [h]
 ·rw [if_neg h]; simp [h]
theorem blk_len (L : List api_Loop) (a t : Nat) : (blk L a t).length ≤ t := by
 unfold blk
 rw [List.length_map]
 exact Nat.le_trans (List.length_filter_le _ _) (by simp)
theorem blk_mem {L : List api_Loop} {a t : Nat} {q : Int × Int} : q ∈ blk L a t ↔ ∃ b : Nat, a < b ∧ b < a + 1 + t ∧ invb L a b = true ∧ q = ((a : Int), (b : Int)) := by
 unfold blk
 simp only [List.mem_map, List.mem_filter, List.mem_range'_1]
 constructor
 ·rintro ⟨b, ⟨h1, h2⟩, rfl⟩; exact ⟨b, by omega, by omega, h2, rfl⟩
 ·rintro ⟨b, h1, h2, h3, rfl⟩; exact ⟨b, ⟨by omega, h3⟩, rfl⟩
theorem blk_nodup (L : List api_Loop) (a t : Nat) : (blk L a t).Nodup := by
 unfold blk
 rw [List.nodup_iff_pairwise_ne]
 refine List.pairwise_map.2 (List.Pairwise.imp ?_ (List.Pairwise.filter _ (List.pairwise_lt_range' (s := a + 1) (n := t))))
 intro x y h e
 simp only [Prod.mk.injEq] at e; omega
def plx (L : List api_Loop) (E : Nat → Nat) (a : Nat) : List (Int × Int) := ((List.range a).map fun i => blk L i (E i - (i + 1))).flatten
theorem plx_succ (L : List api_Loop) (E : Nat → Nat) (a : Nat) : plx L E (a + 1) = plx L E a ++ blk L a (E a - (a + 1)) := by
 unfold plx; rw [List.range_succ, List.map_append, List.flatten_append]; simp
theorem plx_mem {L : List api_Loop} {E : Nat → Nat} {a : Nat} {q : Int × Int} : q ∈ plx L E a ↔ ∃ i, i < a ∧ q ∈ blk L i (E i - (i + 1)) := by
 unfold plx
 simp only [List.mem_flatten, List.mem_map, List.mem_range]
 constructor
 ·rintro ⟨_, ⟨i, hi, rfl⟩, h⟩; exact ⟨i, hi, h⟩
 ·rintro ⟨i, hi, h⟩; exact ⟨_, ⟨i, hi, rfl⟩, h⟩
theorem plx_nodup (L : List api_Loop) (E : Nat → Nat) : ∀ a, (plx L E a).Nodup
 | 0 => by simp [plx]
 | a + 1 => by
  rw [plx_succ, List.nodup_append]
  refine ⟨plx_nodup L E a, blk_nodup _ _ _, fun x hx y hy e => ?_⟩
  subst e
  obtain ⟨i, hi, h⟩ := plx_mem.1 hx
  obtain ⟨b, _, _, _, rfl⟩ := blk_mem.1 h
  obtain ⟨b', _, _, _, e⟩ := blk_mem.1 hy
  simp only [Prod.mk.injEq] at e; omega
theorem law_LoopsCross' (ha : F_raddlelaw27_alive = some true) (c : api_Chart) (wc : wf_api_Chart c) : F_raddlelaw27_LoopsCross c = some true := by
 have hw := wfR_of wc
 obtain ⟨b, hb⟩ := rgreat26_eq c
 unfold F_raddlelaw27_LoopsCross
 rw [ha, Option.bind_some, hb, Option.bind_some, rchart_check_eq, Option.bind_some]
 cases b with
 | true => rfl
 | false =>
  by_cases hk : chk c = 0
  ·rw [hk]
   simp only [Bool.false_eq_true, if_false, show ((0 : Int) != 0) = false from rfl, Bool.not_true, Option.bind_some]
   obtain ⟨hI, _, hf, hnr, hs, hL, hB, hC, hpr, ho, hx⟩ := wfin_of hk
   have hfl : (c.Rows.map faceR).length = c.Rows.length := List.length_map _
   unfold F_loops_Of F_loops_Crossings
   rw [of_eq c hw, if_pos hk]
   unfold pieceOf
   simp only [Option.bind_some, show ((0 : Int) != 0) = false from rfl, Bool.false_eq_true, if_false]
   have hend : off c.Start.toNat (c.Rows.map faceR) (c.Rows.length + 1) = (workC c).1.L.length := by rw [hI.len]; simp [pm, smN]
   have hE0 : ∀ i : Nat, ∃ e : Nat, i < (workC c).1.L.length → i < e ∧ e ≤ (workC c).1.L.length ∧ (∀ b, i ≤ b → b < e → ∃ l k, (workC c).1.L[i]? = some l ∧ (workC c).1.L[b]? = some k ∧ k.Row = l.Row) ∧ (e < (workC c).1.L.length → ∃ l k, (workC c).1.L[i]? = some l ∧ (workC c).1.L[e]? = some k ∧ k.Row ≠ l.Row) ∧ (∀ b, e ≤ b → ¬ inv (workC c).1.L i b) := by
    intro i
    by_cases hi : i < (workC c).1.L.length
    ·rw [← hfl] at hI
     obtain ⟨r, hr1, hr2, hr3⟩ := row_of (S := c.Start.toNat) (fs := c.Rows.map faceR) (c.Rows.length + 1) i (by omega)
     have hmono := off_mono (S := c.Start.toNat) (fs := c.Rows.map faceR) (a := r + 1) (b := c.Rows.length + 1) (by omega)
     obtain ⟨l, hl, hRow, hpar⟩ := hI.rowL hf (r := r) (i := i) (by omega) hr2 hr3
     refine ⟨off c.Start.toNat (c.Rows.map faceR) (r + 1), fun _ => ⟨hr3, by omega, fun b h1 h2 => ?_, fun he => ?_, fun b hb => ?_⟩⟩
     ·obtain ⟨k, hk1, hk2, _⟩ := hI.rowL hf (r := r) (i := b) (by omega) (by omega) h2
      exact ⟨l, k, hl, hk1, by rw [hRow, hk2]⟩
     ·obtain ⟨r', hr1', hr2', hr3'⟩ := row_of (S := c.Start.toNat) (fs := c.Rows.map faceR) (c.Rows.length + 1) (off c.Start.toNat (c.Rows.map faceR) (r + 1)) (by omega)
      obtain ⟨k, hk1, hk2, _⟩ := hI.rowL hf (r := r') (by omega) hr2' hr3'
      refine ⟨l, k, hl, hk1, ?_⟩
      rw [hRow, hk2]
      intro e
      have : r' = r := by omega
      subst this; omega
     ·rintro ⟨_, l', k, x, y, g1, g2, g3, g4, g5⟩
      rw [hl] at g1; cases g1
      have hbl := (List.getElem?_eq_some_iff.1 g2).1
      obtain ⟨r', hr1', hr2', hr3'⟩ := row_of (S := c.Start.toNat) (fs := c.Rows.map faceR) (c.Rows.length + 1) b (by omega)
      obtain ⟨k', hk1, _, hpar'⟩ := hI.rowL hf (r := r') (i := b) (by omega) hr2' hr3'
      rw [g2] at hk1; cases hk1
      have p1 := hpar x (by rw [g3]; simp)
      have p2 := hpar' y (by rw [g4]; simp)
      have hrr : r + 1 ≤ r' := by
       rcases Nat.lt_or_ge r r' with h | h
       ·exact h
       ·have := off_mono (S := c.Start.toNat) (fs := c.Rows.map faceR) (a := r' + 1) (b := r + 1) (by omega)
        omega
      have := off_mono (S := c.Start.toNat) (fs := c.Rows.map faceR) (a := r) (b := r' - 1) (by omega)
      omega
    ·exact ⟨0, fun h => absurd h hi⟩
   obtain ⟨E, hE⟩ := Classical.axiomOfChoice hE0
   clear hE0 hend
   have hperm : (plx (workC c).1.L E (workC c).1.L.length).length = (workC c).1.C.length := by
    have hp : ((workC c).1.C.map norm).Perm (plx (workC c).1.L E (workC c).1.L.length) := by
     refine (List.perm_ext_iff_of_nodup hx.nd (plx_nodup _ _ _)).2 fun q => ?_
     rw [plx_mem]
     constructor
     ·intro hq
      obtain ⟨a, b, rfl, h1, h2⟩ := hx.bd q hq
      have hi := (hx.iff a b).1 hq
      obtain ⟨e1, e2, _, _, e5⟩ := hE a (by omega)
      have hbe : b < E a := by
       rcases Nat.lt_or_ge b (E a) with h | h
       ·exact h
       ·exact absurd hi (e5 b h)
      exact ⟨a, by omega, blk_mem.2 ⟨b, h1, by omega, (invb_iff h1).2 hi, rfl⟩⟩
     ·rintro ⟨i, hi, h⟩
      obtain ⟨b, h1, h2, h3, rfl⟩ := blk_mem.1 h
      exact (hx.iff i b).2 ((invb_iff h1).1 h3)
    have := hp.length_eq
    rw [List.length_map] at this
    exact this.symm
   generalize (workC c).1.L = L at *
   generalize (workC c).1.C = C at *
   by_cases hl3 : (3000 : Int) < (L.length : Int)
   ·rw [dT hl3]; rfl
   ·rw [dF hl3]
    by_cases hc3 : (3000 : Int) < (C.length : Int)
    ·rw [dT hc3]; rfl
    ·rw [dF hc3]
     simp only [Bool.false_eq_true, if_false, Option.bind_some]
     have hplen : ∀ a, a ≤ L.length → (plx L E a).length ≤ a * 3000 := by
      intro a
      induction a with
      | zero => intro _; simp [plx]
      | succ a ih =>
       intro h
       have h1 := ih (by omega)
       have h2 := blk_len L a (E a - (a + 1))
       have h3 := (hE a (by omega)).2.1
       rw [plx_succ, List.length_append]; omega
     have k3 : whileO (raddlelaw27_LoopsCross_l3 (L, 0) (C, 0)) (0, 0) = some (.inr ((C.length : Nat) : Int)) := by
      rw [← hperm]
      refine loop_sq (fun a => (((plx L E a).length : Int), (a : Int))) L.length (by simp [plx]) ?_ ?_
      ·intro a haL
       obtain ⟨e1, e2, e3, e4, e5⟩ := hE a haL
       have hpa := hplen a (by omega)
       have hpm : a * 3000 ≤ 3000 * 3000 := Nat.mul_le_mul_right _ (by omega)
       unfold raddlelaw27_LoopsCross_l3
       simp only [dT (show (a : Int) < (L.length : Int) by omega), if_true]
       rw [w64_succ (by omega)]
       have inner : whileO (raddlelaw27_LoopsCross_l2 (L, 0) (a : Int) (C, 0)) (((plx L E a).length : Int), ((a + 1 : Nat) : Int)) = some (.inr ((plx L E (a + 1)).length : Int)) := by
        rw [plx_succ, List.length_append]
        refine loop_sq (fun t => ((((plx L E a).length + (blk L a t).length : Nat) : Int), ((a + 1 + t : Nat) : Int))) (E a - (a + 1)) (by simp [blk]) ?_ ?_
        ·intro t ht
         have hbl := blk_len L a t
         have hblt : a + 1 + t < L.length := by omega
         obtain ⟨l, k, g1, g2, g3⟩ := e3 (a + 1 + t) (by omega) (by omega)
         have t1 := (List.getElem?_eq_some_iff.1 g1).2
         have t2 := (List.getElem?_eq_some_iff.1 g2).2
         have hinv : invb L a (a + 1 + t) = pq l.Parents k.Parents := by unfold invb; rw [g1, g2]
         unfold raddlelaw27_LoopsCross_l2
         simp only [dT (show ((a + 1 + t : Nat) : Int) < (L.length : Int) by omega), if_true]
         rw [idxO_nat hblt, idxO_nat haL, t1, t2]
         simp only [Option.bind_some]
         rw [bT g3, if_pos rfl]
         have hce := cond_eq l.Parents k.Parents
         rw [hce, Option.bind_some, blk_succ, hinv, show w64 (((a + 1 + t : Nat) : Int) + 1) = ((a + 1 + (t + 1) : Nat) : Int) by rw [w64_of (by omega) (by omega)]; omega]
         cases hpq : pq l.Parents k.Parents with
         | false => simp only [Bool.false_eq_true, if_false, Option.bind_some, List.append_nil]
         | true =>
          have hi : inv L a (a + 1 + t) := (invb_iff (by omega)).1 (by rw [hinv, hpq])
          have hmem := (hx.iff a (a + 1 + t)).2 hi
          have hcount : (C.map norm).count ((a : Int), ((a + 1 + t : Nat) : Int)) = 1 := by
           have h1 := (List.nodup_iff_count.1 hx.nd) ((a : Int), ((a + 1 + t : Nat) : Int))
           have h2 := List.count_pos_iff.2 hmem
           omega
          have hcell := hx.cell _ _ _ _ hi g1 g2
          simp only [if_true]
          rw [found_loop (by omega) (by omega), hcount]
          simp only [Option.bind_some]
          rw [nF (show ((1 : Nat) : Int) = 1 from rfl), if_neg (by simp), nF hcell]
          simp only [Option.bind_some, Bool.false_eq_true, if_false, List.length_append, List.length_cons, List.length_nil]
          rw [w64_of (by omega) (by omega)]
          congr 3
        ·have hE1 : a + 1 + (E a - (a + 1)) = E a := by omega
         rw [hE1]
         unfold raddlelaw27_LoopsCross_l2
         by_cases he : E a < L.length
         ·obtain ⟨l, k, g1, g2, g3⟩ := e4 he
          have t1 := (List.getElem?_eq_some_iff.1 g1).2
          have t2 := (List.getElem?_eq_some_iff.1 g2).2
          simp only [dT (show ((E a : Nat) : Int) < (L.length : Int) by omega), if_true]
          rw [idxO_nat he, idxO_nat haL, t1, t2]
          simp only [Option.bind_some]
          rw [bF g3, if_neg (by simp)]
         ·simp only [dF (show ¬ ((E a : Nat) : Int) < (L.length : Int) by omega), Bool.false_eq_true, if_false, Option.bind_some]
       rw [inner]
       simp only [Option.bind_some]
      ·unfold raddlelaw27_LoopsCross_l3
       simp only [dF (show ¬ (L.length : Int) < (L.length : Int) by omega), Bool.false_eq_true, if_false]
     rw [k3]
     simp
  ·simp only [nT hk, if_true, Bool.false_eq_true, if_false, Option.bind_some]
theorem law_LoopsCross (c : api_Chart) (wc : wf_api_Chart c) : F_raddlelaw27_LoopsCross c = some true := law_LoopsCross' k_raddlelaw27_alive c wc
namespace frameLoopsCross
open Go.ChangeShapes Go.WideShapes Go.ChangeAt Go.Joins
theorem own : ownKnob Try.prog.godebug = none := by kernel_rfl
theorem laidOut : laidOutB Try.prog = true := by kernel_rfl
theorem lifted (os : Os) (started : os.Started) (H : Type) (enc : TypeId × Value → H) :
 ReturnsInHanded {} Try.checked os 4 .any (Rows.loopsCrossSpec.pre6 enc Try.prog Try.f4 Rows.loopsCrossRow.domain false) (Rows.loopsCrossSpec.post enc Try.prog Try.f4 false true false false) := by
 refine returnsInHanded_of_change (C := Try.checked) own started (by kernel_rfl) Try.func4
  (ChangeSpec.witness6 (enc := enc) (C := Try.checked) false ⟨#[], #[.agg #[iv 0, .slice none 0 0]], []⟩ 8 (by kernel_rfl) (by kernel_rfl) (by kernel_rfl) (by kernel_rfl)) ?_
 intro W base args ds gs before hval0 hW hcnd _
 have hval : ∀ (j : Nat) t v, Try.f4.params[j]? = some t → args[j]? = some v → Value.okWide Try.prog W .any base t v := hval0
 have hW' := hW
 obtain ⟨p, q, hA0, hV, rfl, hfz, hnd⟩ := hW
 have hA : DataW.TrodAll enc Try.prog W 0 (fun _ => true) true Try.f4.params.toList args.toList ds p := hA0
 rw [Try.params4] at hA hval
 obtain ⟨v0, vs0, d0, ds0, p0, q0, hargs, rfl, rfl, h0, r0⟩ := trodAll_cons hA
 obtain ⟨rfl, rfl, rfl⟩ := trodAll_nil r0
 obtain rfl : args = #[v0] := by cases args; simp_all
 obtain ⟨rfl, rfl⟩ := trodVars_none hV
 have k0 := h0
 have lt0 : ∀ x ∈ p0, x.block < W.heap.size := by obtain ⟨m, hm⟩ := k0; exact DataW.trod_lt m _ _ _ hm
 obtain ⟨x0, rep0, wf0⟩ := top_agg Try.underlying24 aggr_api_Chart op_api_Chart (hval 0 _ v0 rfl rfl) h0
 clear hA0 hval0
 refine (c_raddlelaw27_LoopsCross (fun _ => False) W x0 v0 true (law_LoopsCross x0 wf0) (St0.start (by intro d hd; simp only [List.mem_cons, List.not_mem_nil, or_false] at hd; subst hd; exact rep0))).mono fun e W' hr => ?_
 obtain ⟨_, he, hS⟩ := hr
 have bel := hS.chg.below
 subst he
 exact ⟨_, rfl, _, _, _, [], _, [], hW', trodAll_mk1 (shut_bool Try.underlying4 _), (trodAll_cons_mk (Below.trod laidOut (by kernel_rfl) (of_decide_eq_true (by kernel_rfl)) k0 bel lt0) trodAll_mk0), rfl, bel.frame _, fun h => by cases h⟩
theorem over : Rows.loopsCrossRow.holds Try.pinned (OpenSpec.ofChange Rows.loopsCrossSpec) :=
 OpenClaim.holds_of_wide 4 Try.f4 rfl rfl rfl rfl rfl rfl rfl ⟨rfl, rfl, rfl, rfl, rfl⟩ rfl rfl rfl rfl rfl (by kernel_rfl) Try.func4 (by kernel_rfl)
  (of_decide_eq_true (by kernel_rfl)) (by unfold Func.isWrapper; first | (rw [if_pos (by decide +kernel)]; kernel_rfl) | (rw [if_neg (by decide +kernel)]; exact ⟨rfl, rfl⟩))
  (fun os started H enc _ => lifted os started H enc)
end frameLoopsCross
theorem loopsCross_holds : Rows.LoopsCrossSaid := frameLoopsCross.over
end Go.Proofs.Yticjoiolfibmlaa
