/- LoopsOnce: walks, tables, laws. -/
import Derived.Test.YticjoiolfibmlaaProg
import Derived.Test.YticjoiolfibmlaaRows
import Derived.Test.YticjoiolfibmlaaMLoopsOnce4
set_option linter.unusedVariables false
set_option linter.unusedSimpArgs false
set_option maxHeartbeats 4000000
set_option maxRecDepth 100000
namespace Go.Proofs.Yticjoiolfibmlaa
open Go.RowKit
noncomputable def raddleref26_Great_l1 (p0 : api_Chart) : Int → Option (Int ⊕ (Bool ⊕ Unit)) := fun s0 => match s0 with
 | a0 =>
  Option.bind (α := Bool) (
   if decide (a0 < (p0.Rows.length : Int)) then
    some (decide (a0 < 150))
   else
    some false) fun a4 =>
  if a4 then
   (idxO p0.Rows a0).bind fun a5 =>
   (F_raddleref25_Great a5.Cells).bind fun a6 =>
   if a6 then
    some (.inr (.inl true))
   else
    some (.inl (w64 (a0 + 1)))
  else
   some (.inr (.inr ()))
noncomputable def F_raddleref26_Great (p0 : api_Chart) : Option Bool :=
 Option.bind (α := Unit ⊕ Bool) (
  (whileO (raddleref26_Great_l1 p0) 0).bind fun z0 => match z0 with
   | .inl z =>
    some (.inr z)
   | .inr _ =>
    some (.inl ())) fun z0 => match z0 with
  | .inl _ =>
   Option.bind (α := Bool) (
    if decide (12 < (p0.Rows.length : Int)) then
     if decide ((p0.Rows.length : Int) ≤ 100) then
      some true
     else
      some (decide (150 < (p0.Rows.length : Int)))
    else
     some (decide (150 < (p0.Rows.length : Int)))) fun a0 =>
   some a0
  | .inr z =>
   some z
theorem c_raddleref26_Great (E : Nat → Prop) (w0 : World) (p0 : api_Chart) (v0 : Value) (r : Bool) (h : F_raddleref26_Great p0 = some r) (S : St0 E [] w0 w0 [] [fRep r_api_Chart (v0) p0]) :
 Calls Try.prog 10 #[v0] w0 (Ret (X := Unit) E [] w0 (fun _ => .bool r) (fun _ => []) (fun _ => [])) := by
 unfold F_raddleref26_Great at h
 obtain ⟨u1, rfl, ar⟩ := S.know (i := 0) (e := fRep r_api_Chart (v0) p0) rfl
 have S := S.learn (fRep (rL r_api_Row) u1 p0.Rows) ar
 obtain ⟨a5, a6, _, rfl, _⟩ := ar
 refine sEnter (args := [.agg #[iv p0.Start, .slice a5 p0.Rows.length a6]]) 38 Try.func10 rfl rfl (by simp) S (fun a S => ?_)
 refine sSeq (fun K5 ay => sRegion (sBox (v := .agg #[iv p0.Start, .slice a5 p0.Rows.length a6]) S (wN rfl) rfl rfl [iv p0.Start, .slice a5 p0.Rows.length a6] rfl rfl (lb rfl) fun a b6 w S => ?_))
 refine sN S fun a S => ?_
 refine lT (ay _ _ ?_)
 obtain ⟨t7, h, g8⟩ := bS h
 refine sCut (fun a w => .inl () = t7 ∧ St [] E [] w0 38 a w [(1, .pointer (some ⟨b6, 0, none⟩))] [eBox b6 24 [iv p0.Start, .slice a5 p0.Rows.length a6]] [fRep (rL r_api_Row) (.slice a5 p0.Rows.length a6) p0.Rows]) ?_ (fun a w hI => ?_)
 rotate_left
 ·obtain ⟨rfl, S⟩ := hI
  have h := g8
  try dsimp only at h
  obtain ⟨az, h, aA⟩ := bS h
  refine sCut (fun a w => ∃ af, af = az ∧ St [] E [] w0 38 a w [(2, .bool af)] [] []) ?_ (fun a w hI => ?_)
  rotate_left
  ·obtain ⟨af, rfl, S⟩ := hI
   have h := aA
   try dsimp only at h
   obtain rfl := tS h
   exact wp_ret (sRet (.bool af) S (rsl1 rfl (rvT (t := 2) (v := .bool af) S rfl)) ⟨(), rfl, S.mem.sel [] [] (by decide) rfl rfl⟩)
  refine sRegion (sField (b := b6) (off := 0) 1 1 S (wN rfl) rfl rfl rfl rfl rfl (lb rfl) fun a S => ?_)
  refine sLoad1 0 (.slice a5 p0.Rows.length a6) S (wN rfl) rfl rfl rfl rfl rfl rfl (lb rfl) fun a S => ?_
  refine sLen S (wN rfl) rfl Try.underlying22 rfl rfl (lb rfl) fun a S => ?_
  refine sBin _ S (wN rfl) rfl rfl rfl (bGt _ _ _ _ .i64 (p0.Rows.length : Int) 12) rfl (lb rfl) fun a S => ?_
  refine sM S fun a S => ?_
  rcases iS h with ⟨a0, h⟩ | ⟨a0, h⟩
  rotate_left
  ·refine sSkN 4 4 true 26 S rfl rfl a0 rfl fun a S => ?_
   refine sPickF (.bool false) S (wN rfl) rfl rfl a0 rfl rfl (lb rfl) fun a S => ?_
   refine sM S fun a S => ?_
   refine sField (b := b6) (off := 0) 1 1 S (wG 10 false 32 rfl rfl rfl rfl) rfl rfl rfl rfl rfl (lb rfl) fun a S => ?_
   refine sLoad1 0 (.slice a5 p0.Rows.length a6) S (wG 10 false 32 rfl rfl rfl rfl) rfl rfl rfl rfl rfl rfl (lb rfl) fun a S => ?_
   refine sLen S (wG 10 false 32 rfl rfl rfl rfl) rfl Try.underlying22 rfl rfl (lb rfl) fun a S => ?_
   refine sBin _ S (wG 10 false 32 rfl rfl rfl rfl) rfl rfl rfl (bGt _ _ _ _ .i64 (p0.Rows.length : Int) 150) rfl (lb rfl) fun a S => ?_
   refine sPickF (.bool (decide (150 < (p0.Rows.length : Int)))) S (wN rfl) rfl rfl rfl rfl rfl (lb rfl) fun a S => ?_
   refine sN S fun a S => ?_
   exact lT (⟨decide (150 < (p0.Rows.length : Int)), Option.some.inj h, S.fix [] [] (by decide) rfl rfl rfl⟩)
  refine sField (b := b6) (off := 0) 1 1 S (wG 4 true 26 rfl rfl rfl a0) rfl rfl rfl rfl rfl (lb rfl) fun a S => ?_
  refine sLoad1 0 (.slice a5 p0.Rows.length a6) S (wG 4 true 26 rfl rfl rfl a0) rfl rfl rfl rfl rfl rfl (lb rfl) fun a S => ?_
  refine sLen S (wG 4 true 26 rfl rfl rfl a0) rfl Try.underlying22 rfl rfl (lb rfl) fun a S => ?_
  refine sBin _ S (wG 4 true 26 rfl rfl rfl a0) rfl rfl rfl (bLe _ _ _ _ .i64 (p0.Rows.length : Int) 100) rfl (lb rfl) fun a S => ?_
  refine sPickT (.bool (decide ((p0.Rows.length : Int) ≤ 100))) S (wN rfl) rfl rfl a0 rfl rfl (lb rfl) fun a S => ?_
  refine sM S fun a S => ?_
  rcases iS h with ⟨a4, h⟩ | ⟨a4, h⟩
  ·refine sSkN 4 10 false 32 S rfl rfl a4 rfl fun a S => ?_
   refine sPickT (.bool true) S (wN rfl) rfl rfl a4 rfl rfl (lb rfl) fun a S => ?_
   refine sN S fun a S => ?_
   exact lT (⟨true, Option.some.inj h, S.fix [] [] (by decide) rfl rfl rfl⟩)
  refine sField (b := b6) (off := 0) 1 1 S (wG 10 false 32 rfl rfl rfl a4) rfl rfl rfl rfl rfl (lb rfl) fun a S => ?_
  refine sLoad1 0 (.slice a5 p0.Rows.length a6) S (wG 10 false 32 rfl rfl rfl a4) rfl rfl rfl rfl rfl rfl (lb rfl) fun a S => ?_
  refine sLen S (wG 10 false 32 rfl rfl rfl a4) rfl Try.underlying22 rfl rfl (lb rfl) fun a S => ?_
  refine sBin _ S (wG 10 false 32 rfl rfl rfl a4) rfl rfl rfl (bGt _ _ _ _ .i64 (p0.Rows.length : Int) 150) rfl (lb rfl) fun a S => ?_
  refine sPickF (.bool (decide (150 < (p0.Rows.length : Int)))) S (wN rfl) rfl rfl a4 rfl rfl (lb rfl) fun a S => ?_
  refine sN S fun a S => ?_
  exact lT (⟨decide (150 < (p0.Rows.length : Int)), Option.some.inj h, S.fix [] [] (by decide) rfl rfl rfl⟩)
 refine sSeq (fun K9 aC => sRegion (sN S fun a S => ?_))
 refine lT (aC _ _ (wp_block ?_))
 obtain ⟨aJ, hl, au⟩ := bS h
 refine sLoop hl (fun s0 a w => match s0 with | a8 => St [] E [] w0 38 a w [(1, .pointer (some ⟨b6, 0, none⟩)), (3, iv a8)] [eBox b6 24 [iv p0.Start, .slice a5 p0.Rows.length a6]] [fRep (rL r_api_Row) (.slice a5 p0.Rows.length a6) p0.Rows]) (S.fix [0] [0] (by decide) rfl rfl rfl) ?_
 clear hl h
 intro a8 a w c0 hI h ag
 unfold raddleref26_Great_l1 at h
 dsimp only at h hI
 have S := hI
 refine sSeq (fun aK ah => ?_)
 obtain ⟨aG, h, aH⟩ := bS h
 refine sCut (fun a w => ∃ ai, ai = aG ∧ St [] E [] w0 38 a w [(1, .pointer (some ⟨b6, 0, none⟩)), (3, iv a8), (12, .bool ai)] [eBox b6 24 [iv p0.Start, .slice a5 p0.Rows.length a6]] [fRep (rL r_api_Row) (.slice a5 p0.Rows.length a6) p0.Rows]) ?_ (fun a w hI => ?_)
 ·refine sRegion (sM S fun a S => ?_)
  refine sField (b := b6) (off := 0) 1 1 S (wN rfl) rfl rfl rfl rfl rfl (lb rfl) fun a S => ?_
  refine sLoad1 0 (.slice a5 p0.Rows.length a6) S (wN rfl) rfl rfl rfl rfl rfl rfl (lb rfl) fun a S => ?_
  refine sLen S (wN rfl) rfl Try.underlying22 rfl rfl (lb rfl) fun a S => ?_
  refine sBin _ S (wN rfl) rfl rfl rfl (bLt _ _ _ _ .i64 a8 (p0.Rows.length : Int)) rfl (lb rfl) fun a S => ?_
  refine sM S fun a S => ?_
  rcases iS h with ⟨a7, h⟩ | ⟨a7, h⟩
  rotate_left
  ·refine sSkN 2 5 true 9 S rfl rfl a7 rfl fun a S => ?_
   refine sPickF (.bool false) S (wN rfl) rfl rfl a7 rfl rfl (lb rfl) fun a S => ?_
   exact lT (⟨false, Option.some.inj h, S.fix [0] [0] (by decide) rfl rfl rfl⟩)
  refine sMove (iv a8) S (wG 5 true 9 rfl rfl rfl a7) (.inl rfl) rfl rfl (lb rfl) fun a S => ?_
  refine sBin _ S (wG 5 true 9 rfl rfl rfl a7) rfl rfl rfl (bLt _ _ _ _ .i64 a8 150) rfl (lb rfl) fun a S => ?_
  refine sPickT (.bool (decide (a8 < 150))) S (wN rfl) rfl rfl a7 rfl rfl (lb rfl) fun a S => ?_
  exact lT (⟨decide (a8 < 150), Option.some.inj h, S.fix [0] [0] (by decide) rfl rfl rfl⟩)
 obtain ⟨ai, rfl, S⟩ := hI
 have h := aH
 try dsimp only at h
 rcases iS h with ⟨a9, h⟩ | ⟨a9, h⟩
 rotate_left
 ·refine sCondF S rfl a9 ?_
  obtain rfl := tS h
  obtain rfl := ag _ rfl
  have h := au
  try dsimp only at h
  exact wp_exit (xThen (xThen (xHit (leafT (⟨Option.some.inj h, S.fix [0] [0] (by decide) rfl rfl rfl⟩)))))
 refine sCondT S rfl a9 ?_
 refine wp_skip (leafT (ah _ _ ?_))
 refine sSeq (fun aL aj => wp_block ?_)
 refine sSeq (fun aM ak => sRegion (sField (b := b6) (off := 0) 1 1 S (wN rfl) rfl rfl rfl rfl rfl (lb rfl) fun a S => ?_))
 refine sLoad1 0 (.slice a5 p0.Rows.length a6) S (wN rfl) rfl rfl rfl rfl rfl rfl (lb rfl) fun a S => ?_
 refine sM S fun a S => ?_
 obtain ⟨aa, al, h⟩ := bS h
 obtain ⟨av, am, S⟩ := pIdx (P := Try.prog) (r := r_api_Row) (v := .slice a5 p0.Rows.length a6) (xs := p0.Rows) (j := a8) 22 65 0 S Try.underlying22 rfl rfl al
 refine sIdxV S (wN rfl) rfl rfl rfl am rfl (lb rfl) fun a S => ?_
 obtain ⟨aw, ao, S⟩ := pFld (P := Try.prog) (r := r_api_Row) (s2 := (rL r_api_Stitch)) (g := (·.Cells)) (q := av) (z := aa) 65 1 0 1 S rfl rfl comp_api_Row_Cells
 refine sFldV (q := av) S (wN rfl) rfl rfl ao rfl (lb rfl) fun a S => ?_
 obtain ⟨aI, S⟩ := pLoad (r := (rL r_api_Stitch)) (q := aw) (x := aa.Cells) 0 S rfl
 obtain ⟨ab, ac, _, rfl, _⟩ := S.mem.know (i := 1) (e := fRep (rL r_api_Stitch) (aI) aa.Cells) rfl
 refine sLoadV1 (vq := aw) 0 (.slice ab aa.Cells.length ac) S (wN rfl) rfl rfl rfl rfl rfl (lb rfl) fun a S => ?_
 obtain ⟨ax, ap, h⟩ := bS h
 have S1 := S.mem
 refine sCq [.slice ab aa.Cells.length ac] (.bool ax) S callee32 (S1.quiet [1] rfl) (fun E1 w1 S1 => c_raddleref25_Great E1 w1 aa.Cells (.slice ab aa.Cells.length ac) ax ap S1) fun a w S => ?_
 refine lT (ak _ _ ?_)
 rcases iS h with ⟨ae, h⟩ | ⟨ae, h⟩
 rotate_left
 ·refine sCondF S rfl ae ?_
  refine wp_skip (leafB (leafT (aj _ _ ?_)))
  refine sRegion (sM S fun a S => ?_)
  refine sBin _ S (wN rfl) rfl rfl rfl (bAdd _ _ _ _ a8 1) rfl (lb rfl) fun a S => ?_
  refine sN S fun a S => ?_
  exact lT (⟨w64 (a8 + 1), (Option.some.inj h).symm, (S.fix [0] [4] (by decide) rfl rfl rfl)⟩)
 refine sCondT S rfl ae ?_
 refine sSeq (fun aO aq => sRegion (sN S fun a S => ?_))
 refine lT (aq _ _ ?_)
 obtain rfl := tS h
 obtain rfl := ag _ rfl
 have h := au
 try dsimp only at h
 obtain rfl := tS h
 have h := g8
 try dsimp only at h
 obtain rfl := tS h
 exact wp_ret (rBlock (rThen (rThen (rBlock (rThen (sRet (.bool true) S (rsl1 rfl (rvT (t := 2) (v := .bool true) S rfl)) ⟨(), rfl, S.mem.sel [] [] (by decide) rfl rfl⟩))))))
theorem pars_short {s : api_Stitch} (h : okS s) (u : Nat) : ∀ ps, ps ∈ pars s u → ps.length ≤ 4 := by
 intro ps hps
 rcases knd h with ⟨b, rfl⟩ | ⟨b, rfl⟩ | rfl | ⟨b, a, h1, h2, rfl⟩ | ⟨b, a, h1, h2, rfl⟩ | ⟨b, a, h1, h2, rfl⟩ | ⟨k, b, a, c, hk, h1, h2, h3, h4, rfl⟩ | ⟨a, h1, h2, rfl⟩ | ⟨b, a, h1, h2, rfl⟩
 ·simp [pars] at hps; subst hps; simp
 ·simp [pars] at hps; subst hps; simp
 ·simp [pars] at hps; subst hps; simp
 ·simp [pars] at hps; subst hps; rw [ups_len]; omega
 ·simp [pars] at hps; subst hps; rw [List.length_reverse, ups_len]; omega
 ·simp [pars] at hps; obtain ⟨_, rfl⟩ := hps; simp
 ·have e : pars ⟨k, b, (a : Int), (c : Int)⟩ u = ((ups u (a + c)).drop a ++ (ups u (a + c)).take a).map fun x => [x] := by rcases hk with rfl | rfl <;> simp [pars]
  rw [e] at hps
  obtain ⟨x, hx, rfl⟩ := List.mem_map.1 hps
  simp
 ·simp [pars] at hps; obtain ⟨_, rfl⟩ := hps; simp
 ·simp [pars] at hps
structure Wfin (c : api_Chart) : Prop where
 inv : LInv c.Start.toNat (c.Rows.map faceR) c.Rows.length 0 (workC c).1
 rs : (workC c).2 = (List.range (c.Rows.length + 2)).map fun r => (off c.Start.toNat (c.Rows.map faceR) r : Int)
 ok : okF c.Start.toNat (c.Rows.map faceR)
 nr : c.Rows.length ≤ 100
 st : ((c.Start.toNat : Nat) : Int) = c.Start
 L : (workC c).1.L.length ≤ 20300
 B : (workC c).1.B.length ≤ 20300
 C : (workC c).1.C.length ≤ 720000
 par : ∀ l, l ∈ (workC c).1.L → l.Parents.length ≤ 4 ∧ l.Parents.Nodup
 once : once (workC c).1.L (workC c).1.B (workC c).1.u
 cinv : cinv (workC c).1.L (workC c).1.C (workC c).1.u
theorem wfin_of {c : api_Chart} (hk : chk c = 0) : Wfin c := by
 obtain ⟨hf, hl, hs⟩ := okF_of hk
 have hfl : (c.Rows.map faceR).length = c.Rows.length := List.length_map _
 obtain ⟨h1, ⟨h2, h3, h4⟩, h5⟩ := stC_all hf (fun k j z => (∀ l, l ∈ z.L → l.Parents.length ≤ 4 ∧ l.Parents.Nodup) ∧ once z.L z.B z.u ∧ cinv z.L z.C z.u) ⟨fun l hl => by
  simp only [zeroL, List.mem_map] at hl
  obtain ⟨_, _, rfl⟩ := hl; simp, once.start _, cinv.start _⟩ (fun k j hk hj z _ h => by
  have hok := (hf.2 k hk).1 _ (List.getElem_mem hj)
  refine ⟨fun l hl => ?_, h.2.1.step hok, h.2.2.step hok⟩
  simp only [stepW] at hl
  rcases List.mem_append.1 hl with hl | hl
  ·exact h.1 l hl
  ·simp only [mkL, List.mem_map] at hl
   obtain ⟨ps, hps, rfl⟩ := hl
   exact ⟨pars_short hok _ ps hps, (pars_bd hok _ ps hps).1⟩) (fun _ _ _ _ h => h) _ (Nat.le_refl _)
 have hbd := stC_bd hf _ (Nat.le_refl _)
 have hlen := h1.len
 have hu := h1.u
 have ho := off_le hf (r := c.Rows.length + 1) (by omega)
 have ho2 := off_le hf (r := c.Rows.length) (by omega)
 rw [← workC_eq hk] at h1 h2 h3 h4 h5 hbd hlen hu
 rw [hfl] at h1 hbd hlen hu h5
 have e1 : pm c.Start.toNat (c.Rows.map faceR) c.Rows.length 0 = off c.Start.toNat (c.Rows.map faceR) (c.Rows.length + 1) := by simp [pm, smN]
 have e2 : pu c.Start.toNat (c.Rows.map faceR) c.Rows.length 0 = off c.Start.toNat (c.Rows.map faceR) c.Rows.length := by simp [pu, smN]
 have hB := hbd.B
 have hC := hbd.C
 exact ⟨h1, h5, hf, hl, hs, by omega, by omega, by omega, h2, h3, h4⟩
theorem rgreatS_eq (l : List api_Stitch) : ∃ b, F_raddleref25_Great l = some b := by
 unfold F_raddleref25_Great
 by_cases h1 : (60 : Int) < (l.length : Int)
 ·simp only [dT h1, if_true]; repeat' split
  all_goals exact ⟨_, rfl⟩
 ·simp only [dF h1, Bool.false_eq_true, if_false]; repeat' split
  all_goals exact ⟨_, rfl⟩
theorem rgreat26_eq (c : api_Chart) : ∃ b, F_raddleref26_Great c = some b := by
 have key : ∃ t, whileO (raddleref26_Great_l1 c) 0 = some t ∧ (t = .inr () ∨ t = .inl true) := by
  refine loop_ix (Nat.min c.Rows.length 150) (fun _ => True) _ trivial ?_ ?_
  ·intro k hk _
   have h1 : k < c.Rows.length := Nat.lt_of_lt_of_le hk (Nat.min_le_left _ _)
   have h2 : k < 150 := Nat.lt_of_lt_of_le hk (Nat.min_le_right _ _)
   obtain ⟨b, hb⟩ := rgreatS_eq c.Rows[k].Cells
   unfold raddleref26_Great_l1
   simp only [dT (show (k : Int) < (c.Rows.length : Int) by omega), if_true, dT (show (k : Int) < 150 by omega), Option.bind_some, idxO_nat h1, hb, w64_succ (show k < 9223372036854775807 by omega)]
   cases b with
   | true => exact .inr ⟨_, rfl, .inr rfl⟩
   | false => exact .inl ⟨rfl, trivial⟩
  ·intro _
   refine ⟨.inr (), ?_, .inl rfl⟩
   unfold raddleref26_Great_l1
   by_cases h : c.Rows.length ≤ 150
   ·rw [show Nat.min c.Rows.length 150 = c.Rows.length from Nat.min_eq_left h]
    simp only [dF (show ¬ (c.Rows.length : Int) < (c.Rows.length : Int) by omega), Bool.false_eq_true, if_false, Option.bind_some]
   ·rw [show Nat.min c.Rows.length 150 = 150 from Nat.min_eq_right (by omega)]
    simp only [dT (show ((150 : Nat) : Int) < (c.Rows.length : Int) by omega), if_true, dF (show ¬ ((150 : Nat) : Int) < 150 by omega), Bool.false_eq_true, if_false, Option.bind_some]
 obtain ⟨t, h1, h2⟩ := key
 unfold F_raddleref26_Great
 rw [h1]
 rcases h2 with rfl | rfl
 ·simp only [Option.bind_some]
  by_cases h1 : (12 : Int) < (c.Rows.length : Int)
  ·by_cases h2 : (c.Rows.length : Int) ≤ 100
   ·simp only [dT h1, dT h2, if_true, Option.bind_some]; exact ⟨_, rfl⟩
   ·simp only [dT h1, dF h2, if_true, Bool.false_eq_true, if_false, Option.bind_some]; exact ⟨_, rfl⟩
  ·simp only [dF h1, Bool.false_eq_true, if_false, Option.bind_some]; exact ⟨_, rfl⟩
 ·exact ⟨_, rfl⟩
def anc_loops_Row_0 : List (List Nat) := [[], [0], [], [0, 1, 2], [0, 1, 2, 3], [], [5], [], [7], [5, 6, 7, 8], [5, 6, 7, 8, 9], [0, 1, 2, 3, 4], [0, 1, 2, 3, 4, 5, 6, 7, 8, 9, 10, 11], [0, 1, 2, 3, 4, 5, 6, 7, 8, 9, 10, 11, 12]]
noncomputable def F_loops_Row (p0 : api_Chart) (p1 : Int) : Option (Int × Int × Int) :=
 (F_loops_of p0).bind fun r8 =>
 if r8.2 != 0 then
  some (0, 0, r8.2)
 else
  Option.bind (α := Bool) (
   if decide (p1 < 0) then
    some true
   else
    some (decide ((p0.Rows.length : Int) < p1))) fun a0 =>
  if a0 then
   some (0, 0, 2)
  else
   (idxO r8.1.rows p1).bind fun a4 =>
   (idxO r8.1.rows (w64 (p1 + 1))).bind fun a5 =>
   some (a4, a5, 0)
theorem c_loops_Row (E : Nat → Prop) (w0 : World) (p0 : api_Chart) (v0 : Value) (p1 : Int) (r : (Int × Int × Int)) (h : F_loops_Row p0 p1 = some r) (S : St0 E [] w0 w0 [] [fRep r_api_Chart (v0) p0]) :
 Calls Try.prog 22 #[v0, iv p1] w0 (Ret (X := Unit) E [] w0 (fun _ => .tuple #[.int .i64 r.1, .int .i64 r.2.1, .int .i64 r.2.2]) (fun _ => []) (fun _ => [])) := by
 unfold F_loops_Row at h
 obtain ⟨u1, rfl, aI⟩ := S.know (i := 0) (e := fRep r_api_Chart (v0) p0) rfl
 have S := S.learn (fRep (rL r_api_Row) u1 p0.Rows) aI
 obtain ⟨ac, ae, _, rfl, _⟩ := aI
 refine sEnter (args := [.agg #[iv p0.Start, .slice ac p0.Rows.length ae], iv p1]) 36 Try.func22 rfl rfl (by simp) S (fun a S => ?_)
 refine sSeq (fun K5 aL => sRegion (sBox (v := .agg #[iv p0.Start, .slice ac p0.Rows.length ae]) S (wN rfl) rfl rfl [iv p0.Start, .slice ac p0.Rows.length ae] rfl rfl (lb rfl) fun a b6 w S => ?_))
 refine sN S fun a S => ?_
 refine sN S fun a S => ?_
 refine sN S fun a S => ?_
 refine lT (aL _ _ (sSeq (fun K7 aM => sRegion (sLoadN (p := b6) (off := 0) (T := 24) (vs := [iv p0.Start, .slice ac p0.Rows.length ae]) 0 [iv p0.Start, .slice ac p0.Rows.length ae] S (wN rfl) rfl rfl rfl rfl rfl rfl rfl (lb rfl) fun a S => ?_))))
 obtain ⟨r8, aO, h⟩ := bS h
 refine sCall (X := Value) (f := 33) (vs := [.agg #[iv p0.Start, .slice ac p0.Rows.length ae]]) (val := c_loops_of_val r8) (B' := fun _ => []) (D' := c_loops_of_D r8) [] [eBox b6 24 [iv p0.Start, .slice ac p0.Rows.length ae]] [fRep r_api_Chart (.agg #[iv p0.Start, .slice ac p0.Rows.length ae]) p0] [0] [1] S (wN rfl) rfl callee33 rfl (by decide) rfl rfl (fun E1 w1 S1 => c_loops_of E1 w1 p0 (.agg #[iv p0.Start, .slice ac p0.Rows.length ae]) r8 aO S1) rfl (lb rfl) fun aP a w S => ?_
 obtain ⟨aQ, aR, aS, aT, rfl, ak, al, am, ao⟩ := S.mem.know (i := 0) (e := fRep r_loops_piece (aP) r8.1) rfl
 have S := S.learn (fRep (rL r_api_Loop) aQ r8.1.loops) ak
 obtain ⟨a6, a7, _, rfl, _⟩ := ak
 have S := S.learn (fRep (rL (rI .i64)) aR r8.1.rows) al
 obtain ⟨a0, a4, _, rfl, _⟩ := al
 have S := S.learn (fRep (rL (rI .i64)) aS r8.1.bound) am
 obtain ⟨a8, a9, _, rfl, _⟩ := am
 have S := S.learn (fRep (rL r_A2_Int) aT r8.1.cross) ao
 obtain ⟨aa, ab, _, rfl, _⟩ := ao
 refine sM S fun a S => ?_
 refine sExtract (vs := [.agg #[.slice a6 r8.1.loops.length a7, .slice a0 r8.1.rows.length a4, .slice a8 r8.1.bound.length a9, .slice aa r8.1.cross.length ab, iv r8.1.next], iv r8.2]) (.agg #[.slice a6 r8.1.loops.length a7, .slice a0 r8.1.rows.length a4, .slice a8 r8.1.bound.length a9, .slice aa r8.1.cross.length ab, iv r8.1.next]) S (wN rfl) rfl rfl rfl rfl (lb rfl) fun a S => ?_
 refine sExtract (vs := [.agg #[.slice a6 r8.1.loops.length a7, .slice a0 r8.1.rows.length a4, .slice a8 r8.1.bound.length a9, .slice aa r8.1.cross.length ab, iv r8.1.next], iv r8.2]) (iv r8.2) S (wN rfl) rfl rfl rfl rfl (lb rfl) fun a S => ?_
 refine sAlloc (.agg #[.slice none 0 0, .slice none 0 0, .slice none 0 0, .slice none 0 0, iv 0]) S (wN rfl) rfl rfl [.slice none 0 0, .slice none 0 0, .slice none 0 0, .slice none 0 0, iv 0] rfl rfl (lb rfl) fun a ah w S => ?_
 refine sStore (p := ah) (off := 0) (T := 73) (vs := [.slice none 0 0, .slice none 0 0, .slice none 0 0, .slice none 0 0, iv 0]) (v := .agg #[.slice a6 r8.1.loops.length a7, .slice a0 r8.1.rows.length a4, .slice a8 r8.1.bound.length a9, .slice aa r8.1.cross.length ab, iv r8.1.next]) 0 [.slice a6 r8.1.loops.length a7, .slice a0 r8.1.rows.length a4, .slice a8 r8.1.bound.length a9, .slice aa r8.1.cross.length ab, iv r8.1.next] S (wN rfl) rfl rfl rfl rfl rfl rfl rfl (by simp) rfl fun a w S => ?_
 refine sN S fun a S => ?_
 refine lT (aM _ _ (sSeq (fun aW ap => sSeq (fun aX aq => sRegion (sM S fun a S => ?_)))))
 refine sBin _ S (wN rfl) rfl rfl rfl (bNe _ _ _ _ .i64 r8.2 0) rfl (lb rfl) fun a S => ?_
 refine lT (aq _ _ ?_)
 rcases iS h with ⟨ai, h⟩ | ⟨ai, h⟩
 ·refine sCondT S rfl ai ?_
  refine sSeq (fun aZ ar => sRegion (sM S fun a S => ?_))
  refine sN S fun a S => ?_
  refine sN S fun a S => ?_
  refine sN S fun a S => ?_
  refine lT (ar _ _ ?_)
  obtain rfl := tS h
  exact wp_ret (rThen (sRet (.tuple #[iv 0, iv 0, iv r8.2]) S (rsl3 rfl (rvT (t := 4) (v := iv 0) S rfl) (rvT (t := 5) (v := iv 0) S rfl) (rvT (t := 6) (v := iv r8.2) S rfl)) ⟨(), rfl, S.mem.sel [] [] (by decide) rfl rfl⟩))
 refine sCondF S rfl ai ?_
 refine wp_skip (leafT (ap _ _ ?_))
 refine sSeq (fun ba au => ?_)
 obtain ⟨aU, h, aV⟩ := bS h
 refine sCut (fun a w => ∃ av, av = aU ∧ St [] E [] w0 36 a w [(1, iv p1), (7, .pointer (some ⟨ah, 0, none⟩)), (24, .bool av)] [eBox ah 73 [.slice a6 r8.1.loops.length a7, .slice a0 r8.1.rows.length a4, .slice a8 r8.1.bound.length a9, .slice aa r8.1.cross.length ab, iv r8.1.next]] [fRep (rL r_api_Loop) (.slice a6 r8.1.loops.length a7) r8.1.loops, fRep (rL (rI .i64)) (.slice a0 r8.1.rows.length a4) r8.1.rows, fRep (rL (rI .i64)) (.slice a8 r8.1.bound.length a9) r8.1.bound, fRep (rL r_A2_Int) (.slice aa r8.1.cross.length ab) r8.1.cross]) ?_ (fun a w hI => ?_)
 ·refine sRegion (sM S fun a S => ?_)
  refine sBin _ S (wN rfl) rfl rfl rfl (bLt _ _ _ _ .i64 p1 0) rfl (lb rfl) fun a S => ?_
  refine sM S fun a S => ?_
  rcases iS h with ⟨a5, h⟩ | ⟨a5, h⟩
  ·refine sSkN 5 2 false 18 S rfl rfl a5 rfl fun a S => ?_
   refine sPickT (.bool true) S (wN rfl) rfl rfl a5 rfl rfl (lb rfl) fun a S => ?_
   exact lT (⟨true, Option.some.inj h, S.fix [0] [3, 2, 1, 0] (by decide) rfl rfl rfl⟩)
  refine sMove (iv p1) S (wG 2 false 18 rfl rfl rfl a5) (.inl rfl) rfl rfl (lb rfl) fun a S => ?_
  refine sField (b := b6) (off := 0) 1 1 S (wG 2 false 18 rfl rfl rfl a5) rfl rfl rfl rfl rfl (lb rfl) fun a S => ?_
  refine sLoad1 1 (.slice ac p0.Rows.length ae) S (wG 2 false 18 rfl rfl rfl a5) rfl rfl rfl rfl rfl rfl (lb rfl) fun a S => ?_
  refine sLen S (wG 2 false 18 rfl rfl rfl a5) rfl Try.underlying22 rfl rfl (lb rfl) fun a S => ?_
  refine sBin _ S (wG 2 false 18 rfl rfl rfl a5) rfl rfl rfl (bGt _ _ _ _ .i64 p1 (p0.Rows.length : Int)) rfl (lb rfl) fun a S => ?_
  refine sPickF (.bool (decide ((p0.Rows.length : Int) < p1))) S (wN rfl) rfl rfl a5 rfl rfl (lb rfl) fun a S => ?_
  exact lT (⟨decide ((p0.Rows.length : Int) < p1), Option.some.inj h, S.fix [0] [3, 2, 1, 0] (by decide) rfl rfl rfl⟩)
 obtain ⟨av, rfl, S⟩ := hI
 have h := aV
 try dsimp only at h
 rcases iS h with ⟨aj, h⟩ | ⟨aj, h⟩
 ·refine sCondT S rfl aj ?_
  refine sSeq (fun bb aw => sRegion (sN S fun a S => ?_))
  refine sN S fun a S => ?_
  refine sN S fun a S => ?_
  refine lT (aw _ _ ?_)
  obtain rfl := tS h
  exact wp_ret (rThen (sRet (.tuple #[iv 0, iv 0, iv 2]) S (rsl3 rfl (rvT (t := 4) (v := iv 0) S rfl) (rvT (t := 5) (v := iv 0) S rfl) (rvT (t := 6) (v := iv 2) S rfl)) ⟨(), rfl, S.mem.sel [] [] (by decide) rfl rfl⟩))
 refine sCondF S rfl aj ?_
 refine wp_skip (leafT (au _ _ ?_))
 refine sSeq (fun bc ax => ?_)
 obtain ⟨af, ay, h⟩ := bS h
 obtain ⟨ag, az, h⟩ := bS h
 obtain ⟨aA, aC, S⟩ := pIdx (P := Try.prog) (r := (rI .i64)) (v := .slice a0 r8.1.rows.length a4) (xs := r8.1.rows) (j := p1) 32 3 1 S Try.underlying32 rfl rfl ay
 obtain ⟨aJ, S⟩ := pLoad (r := (rI .i64)) (q := aA) (x := af) 0 S rfl
 obtain rfl : aJ = iv af := S.mem.know (i := 1) (e := fRep (rI .i64) (aJ) af) rfl
 obtain ⟨aG, aH, S⟩ := pIdx (P := Try.prog) (r := (rI .i64)) (v := .slice a0 r8.1.rows.length a4) (xs := r8.1.rows) (j := w64 (p1 + 1)) 32 3 4 S Try.underlying32 rfl rfl az
 obtain ⟨aK, S⟩ := pLoad (r := (rI .i64)) (q := aG) (x := ag) 0 S rfl
 obtain rfl : aK = iv ag := S.mem.know (i := 1) (e := fRep (rI .i64) (aK) ag) rfl
 refine sDraw (nf := []) (W := [(0, 25, .pointer (some ⟨ah, 1, none⟩)), (1, 26, .slice a0 r8.1.rows.length a4), (2, 27, iv p1), (3, 28, aA), (4, 29, iv af), (5, 30, .pointer (some ⟨ah, 1, none⟩)), (6, 31, .slice a0 r8.1.rows.length a4), (7, 32, iv p1), (8, 33, iv (w64 (p1 + 1))), (9, 34, aG), (10, 35, iv ag), (11, 4, iv af), (12, 5, iv ag), (13, 6, iv 0)]) rfl S ?_
 refine node_by (A := anc_loops_Row_0) 14 (by kernel_rfl) (by kernel_rfl) (by kernel_rfl) (by kernel_rfl) (by kernel_rfl) [0, 1, 2, 3, 4, 5, 6, 7, 8, 9, 10, 11, 12, 13] (by kernel_rfl) (by decide) (by decide) (fF ?_ (fF ?_ (fF ?_ (fF ?_ (fF ?_ (fF ?_ (fF ?_ (fF ?_ (fF ?_ (fF ?_ (fF ?_ (fF ?_ (fF ?_ (fF ?_ (trivial))))))))))))))) [(4, iv af), (5, iv ag), (6, iv 0)] (fin_of [some 11, some 12, some 13] rfl (by kernel_rfl) (by kernel_rfl)) (fun _ a w S => ?_)
 ·refine fJ [(7, _)] 0 [none] fun G a w S => ?_
  exact sField (b := ah) (off := 0) 1 1 S (wN rfl) rfl rfl rfl rfl rfl (lb rfl) fun a S => leafL ⟨rfl, S⟩
 ·refine fJ [(25, _)] 1 [some 0] fun G a w S => ?_
  exact sLoad1 0 (.slice a0 r8.1.rows.length a4) S (wN rfl) rfl rfl rfl rfl rfl rfl (lb rfl) fun a S => leafL ⟨rfl, S⟩
 ·exact fM 2 none rfl rfl rfl rfl (.inl rfl) rfl rfl rfl
 ·refine fJ [(26, _), (27, _)] 3 [some 1, some 2] fun G a w S => ?_
  exact sIdxV S (wN rfl) rfl rfl rfl aC rfl (lb rfl) fun a S => leafL ⟨rfl, S⟩
 ·refine fJ [(28, _)] 4 [some 3] fun G a w S => ?_
  exact sLoadV1 (vq := aA) 3 (iv af) S (wN rfl) rfl rfl rfl rfl rfl (lb rfl) fun a S => leafL ⟨rfl, S⟩
 ·refine fJ [(7, _)] 5 [none] fun G a w S => ?_
  exact sField (b := ah) (off := 0) 1 1 S (wN rfl) rfl rfl rfl rfl rfl (lb rfl) fun a S => leafL ⟨rfl, S⟩
 ·refine fJ [(30, _)] 6 [some 5] fun G a w S => ?_
  exact sLoad1 0 (.slice a0 r8.1.rows.length a4) S (wN rfl) rfl rfl rfl rfl rfl rfl (lb rfl) fun a S => leafL ⟨rfl, S⟩
 ·exact fM 7 none rfl rfl rfl rfl (.inl rfl) rfl rfl rfl
 ·refine fJ [(32, _)] 8 [some 7] fun G a w S => ?_
  exact sBin _ S (wN rfl) rfl rfl rfl (bAdd _ _ _ _ p1 1) rfl (lb rfl) fun a S => leafL ⟨rfl, S⟩
 ·refine fJ [(31, _), (33, _)] 9 [some 6, some 8] fun G a w S => ?_
  exact sIdxV S (wN rfl) rfl rfl rfl aH rfl (lb rfl) fun a S => leafL ⟨rfl, S⟩
 ·refine fJ [(34, _)] 10 [some 9] fun G a w S => ?_
  exact sLoadV1 (vq := aG) 0 (iv ag) S (wN rfl) rfl rfl rfl rfl rfl (lb rfl) fun a S => leafL ⟨rfl, S⟩
 ·exact fM 11 (some 4) rfl rfl rfl rfl (.inr rfl) rfl rfl rfl
 ·exact fM 12 (some 10) rfl rfl rfl rfl (.inr rfl) rfl rfl rfl
 ·refine fJ [] 13 [] fun G a w S => ?_
  exact sN S fun a S => leafL ⟨rfl, S⟩
 refine leafT (ax _ _ ?_)
 obtain rfl := tS h
 exact wp_ret (sRet (.tuple #[iv af, iv ag, iv 0]) S (rsl3 rfl (rvT (t := 4) (v := iv af) S rfl) (rvT (t := 5) (v := iv ag) S rfl) (rvT (t := 6) (v := iv 0) S rfl)) ⟨(), rfl, S.mem.sel [] [] (by decide) rfl rfl⟩)
noncomputable def slices_Index___int_int__l1 (p0 : (List Int)) (p1 : Int) : Int → Option (Int ⊕ (Int ⊕ Unit)) := fun s0 => match s0 with
 | s7 =>
  if decide (s7 < (p0.length : Int)) then
   (idxO p0 s7).bind fun a0 =>
   if p1 == a0 then
    some (.inr (.inl s7))
   else
    some (.inl (w64 (s7 + 1)))
  else
   some (.inr (.inr ()))
noncomputable def F_slices_Index___int_int_ (p0 : (List Int)) (p1 : Int) : Option Int :=
 Option.bind (α := Unit ⊕ Int) (
  (whileO (slices_Index___int_int__l1 p0 p1) 0).bind fun z0 => match z0 with
   | .inl z =>
    some (.inr z)
   | .inr _ =>
    some (.inl ())) fun z0 => match z0 with
  | .inl _ =>
   some (-1)
  | .inr z =>
   some z
theorem c_slices_Index___int_int_ (E : Nat → Prop) (w0 : World) (p0 : (List Int)) (v0 : Value) (p1 : Int) (r : Int) (h : F_slices_Index___int_int_ p0 p1 = some r) (S : St0 E [] w0 w0 [] [fRep (rL (rI .i64)) (v0) p0]) :
 Calls Try.prog 50 #[v0, iv p1] w0 (Ret (X := Unit) E [] w0 (fun _ => .int .i64 r) (fun _ => []) (fun _ => [])) := by
 unfold F_slices_Index___int_int_ at h
 obtain ⟨a6, a7, _, rfl, _⟩ := S.know (i := 0) (e := fRep (rL (rI .i64)) (v0) p0) rfl
 refine sEnter (args := [.slice a6 p0.length a7, iv p1]) 19 Try.func50 rfl rfl (by simp) S (fun a S => ?_)
 refine sSeq (fun K3 al => sRegion (sN S fun a S => ?_))
 refine lT (al _ _ ?_)
 obtain ⟨t4, h, g5⟩ := bS h
 refine sCut (fun a w => .inl () = t4 ∧ St [] E [] w0 19 a w [] [] []) ?_ (fun a w hI => ?_)
 rotate_left
 ·obtain ⟨rfl, S⟩ := hI
  have h := g5
  try dsimp only at h
  refine sSeq (fun ao a8 => sRegion (sN S fun a S => ?_))
  refine lT (a8 _ _ ?_)
  obtain rfl := tS h
  exact wp_ret (sRet (iv (-1)) S (rsl1 rfl (rvT (t := 4) (v := iv (-1)) S rfl)) ⟨(), rfl, S.mem.sel [] [] (by decide) rfl rfl⟩)
 refine sSeq (fun K6 am => sRegion (sM S fun a S => ?_))
 refine sLen S (wN rfl) rfl Try.underlying32 rfl rfl (lb rfl) fun a S => ?_
 refine sM S fun a S => ?_
 refine lT (am _ _ (wp_block ?_))
 obtain ⟨ap, hl, g9⟩ := bS h
 refine sLoop hl (fun s0 a w => match s0 with | s7 => St [] E [] w0 19 a w [(0, .slice a6 p0.length a7), (1, iv p1), (7, iv (p0.length : Int)), (8, iv s7)] [] [fRep (rL (rI .i64)) (.slice a6 p0.length a7) p0]) (S.fix [] [0] (by decide) rfl rfl rfl) ?_
 clear hl h
 intro s7 a w c0 hI h ai
 unfold slices_Index___int_int__l1 at h
 dsimp only at h hI
 have S := hI
 refine sSeq (fun aq a9 => sRegion (sBin _ S (wN rfl) rfl rfl rfl (bLt _ _ _ _ .i64 s7 (p0.length : Int)) rfl (lb rfl) fun a S => ?_))
 refine lT (a9 _ _ (sSeq (fun ar aa => ?_)))
 rcases iS h with ⟨a0, h⟩ | ⟨a0, h⟩
 rotate_left
 ·refine sCondF S rfl a0 ?_
  obtain rfl := tS h
  obtain rfl := ai _ rfl
  have h := g9
  try dsimp only at h
  exact wp_exit (xThen (xThen (xHit (leafT (⟨Option.some.inj h, S.fix [] [] (by decide) rfl rfl rfl⟩)))))
 refine sCondT S rfl a0 ?_
 refine wp_skip (leafT (aa _ _ ?_))
 refine sSeq (fun au ab => wp_block ?_)
 refine sSeq (fun av ac => sRegion (sM S fun a S => ?_))
 refine sN S fun a S => ?_
 refine lT (ac _ _ (sSeq (fun aw ae => sRegion (sM S fun a S => ?_))))
 refine sM S fun a S => ?_
 refine sM S fun a S => ?_
 obtain ⟨a5, af, h⟩ := bS h
 obtain ⟨aj, ag, S⟩ := pIdx (P := Try.prog) (r := (rI .i64)) (v := .slice a6 p0.length a7) (xs := p0) (j := s7) 32 3 0 S Try.underlying32 rfl rfl af
 refine sIdxV S (wN rfl) rfl rfl rfl ag rfl (lb rfl) fun a S => ?_
 obtain ⟨ak, S⟩ := pLoad (r := (rI .i64)) (q := aj) (x := a5) 0 S rfl
 obtain rfl : ak = iv a5 := S.mem.know (i := 1) (e := fRep (rI .i64) (ak) a5) rfl
 refine sLoadV1 (vq := aj) 0 (iv a5) S (wN rfl) rfl rfl rfl rfl rfl (lb rfl) fun a S => ?_
 refine sBin _ S (wN rfl) rfl rfl rfl (bEq _ _ _ _ .i64 p1 a5) rfl (lb rfl) fun a S => ?_
 refine lT (ae _ _ ?_)
 rcases iS h with ⟨a4, h⟩ | ⟨a4, h⟩
 rotate_left
 ·refine sCondF S rfl a4 ?_
  refine wp_skip (leafB (leafT (ab _ _ ?_)))
  refine sRegion (sBin _ S (wN rfl) rfl rfl rfl (bAdd _ _ _ _ s7 1) rfl (lb rfl) fun a S => ?_)
  refine sM S fun a S => ?_
  exact lT (⟨w64 (s7 + 1), (Option.some.inj h).symm, (S.fix [] [3] (by decide) rfl rfl rfl)⟩)
 refine sCondT S rfl a4 ?_
 refine sSeq (fun ax ah => sRegion (sM S fun a S => ?_))
 refine sN S fun a S => ?_
 refine lT (ah _ _ ?_)
 obtain rfl := tS h
 obtain rfl := ai _ rfl
 have h := g9
 try dsimp only at h
 obtain rfl := tS h
 have h := g5
 try dsimp only at h
 obtain rfl := tS h
 exact wp_ret (rBlock (rThen (rThen (rBlock (rThen (sRet (iv s7) S (rsl1 rfl (rvT (t := 4) (v := iv s7) S rfl)) ⟨(), rfl, S.mem.sel [] [] (by decide) rfl rfl⟩))))))
noncomputable def F_slices_Contains___int_int_ (p0 : (List Int)) (p1 : Int) : Option Bool :=
 (F_slices_Index___int_int_ p0 p1).bind fun r5 =>
 some (decide (0 ≤ r5))
theorem c_slices_Contains___int_int_ (E : Nat → Prop) (w0 : World) (p0 : (List Int)) (v0 : Value) (p1 : Int) (r : Bool) (h : F_slices_Contains___int_int_ p0 p1 = some r) (S : St0 E [] w0 w0 [] [fRep (rL (rI .i64)) (v0) p0]) :
 Calls Try.prog 37 #[v0, iv p1] w0 (Ret (X := Unit) E [] w0 (fun _ => .bool r) (fun _ => []) (fun _ => [])) := by
 unfold F_slices_Contains___int_int_ at h
 obtain ⟨a0, a4, _, rfl, _⟩ := S.know (i := 0) (e := fRep (rL (rI .i64)) (v0) p0) rfl
 refine sEnter (args := [.slice a0 p0.length a4, iv p1]) 9 Try.func37 rfl rfl (by simp) S (fun a S => ?_)
 refine sSeq (fun K3 a5 => sRegion (sN S fun a S => ?_))
 refine lT (a5 _ _ (sSeq (fun K4 a6 => sRegion (sM S fun a S => ?_))))
 refine sM S fun a S => ?_
 obtain ⟨r5, a7, h⟩ := bS h
 have S1 := S.mem
 refine sCq [.slice a0 p0.length a4, iv p1] (iv r5) S callee50 (S1.quiet [0] rfl) (fun E1 w1 S1 => c_slices_Index___int_int_ E1 w1 p0 (.slice a0 p0.length a4) p1 r5 a7 S1) fun a w S => ?_
 refine sBin _ S (wN rfl) rfl rfl rfl (bGe _ _ _ _ .i64 r5 0) rfl (lb rfl) fun a S => ?_
 refine sN S fun a S => ?_
 refine lT (a6 _ _ ?_)
 obtain rfl := tS h
 exact wp_ret (sRet (.bool (decide (0 ≤ r5))) S (rsl1 rfl (rvT (t := 4) (v := .bool (decide (0 ≤ r5))) S rfl)) ⟨(), rfl, S.mem.sel [] [] (by decide) rfl rfl⟩)
noncomputable def loops_Kids_l1 (r8 : (loops_piece × Int)) (p1 : Int) : (List Int × Int) → Option ((List Int × Int) ⊕ List Int) := fun s0 => match s0 with
 | (a4, a0) =>
  if decide (a0 < (r8.1.loops.length : Int)) then
   Option.bind (α := List Int) (
    (idxO r8.1.loops a0).bind fun a5 =>
    (F_slices_Contains___int_int_ a5.Parents p1).bind fun a6 =>
    if a6 then
     (appO a4 ([a0] : List Int)).bind fun a7 =>
     some a7
    else
     some a4) fun a8 =>
   some (.inl (a8, w64 (a0 + 1)))
  else
   some (.inr a4)
noncomputable def F_loops_Kids (p0 : api_Chart) (p1 : Int) : Option ((List Int) × Int) :=
 (F_loops_of p0).bind fun r8 =>
 if r8.2 != 0 then
  some (([] : (List Int)), r8.2)
 else
  Option.bind (α := Bool) (
   if decide (p1 < 0) then
    some true
   else
    some (decide ((r8.1.loops.length : Int) ≤ p1))) fun a0 =>
  if a0 then
   some (([] : (List Int)), 2)
  else
   Option.bind (α := List Int) (
    (whileO (loops_Kids_l1 r8 p1) (([] : List Int), 0)).bind fun a4 =>
     some a4) fun a5 =>
   some (a5, 0)
def c_loops_Kids_val (r : ((List Int) × Int)) (x : Value) : Value := .tuple #[x, .int .i64 r.2]
def c_loops_Kids_D (r : ((List Int) × Int)) (x : Value) : List Fact := [fRep (rL (rI .i64)) x r.1]
theorem c_loops_Kids (E : Nat → Prop) (w0 : World) (p0 : api_Chart) (v0 : Value) (p1 : Int) (r : ((List Int) × Int)) (h : F_loops_Kids p0 p1 = some r) (S : St0 E [] w0 w0 [] [fRep r_api_Chart (v0) p0]) :
 Calls Try.prog 24 #[v0, iv p1] w0 (Ret (X := Value) E [] w0 (c_loops_Kids_val r) (fun _ => []) (c_loops_Kids_D r)) := by
 unfold F_loops_Kids at h
 obtain ⟨u1, rfl, bj⟩ := S.know (i := 0) (e := fRep r_api_Chart (v0) p0) rfl
 have S := S.learn (fRep (rL r_api_Row) u1 p0.Rows) bj
 obtain ⟨am, ao, _, rfl, _⟩ := bj
 refine sEnter (args := [.agg #[iv p0.Start, .slice am p0.Rows.length ao], iv p1]) 46 Try.func24 rfl rfl (by simp) S (fun a S => ?_)
 refine sSeq (fun K5 bn => sRegion (sBox (v := .agg #[iv p0.Start, .slice am p0.Rows.length ao]) S (wN rfl) rfl rfl [iv p0.Start, .slice am p0.Rows.length ao] rfl rfl (lb rfl) fun a b6 w S => ?_))
 refine sN S fun a S => ?_
 refine sN S fun a S => ?_
 refine lT (bn _ _ (sSeq (fun K7 bo => sRegion (sLoadN (p := b6) (off := 0) (T := 24) (vs := [iv p0.Start, .slice am p0.Rows.length ao]) 0 [iv p0.Start, .slice am p0.Rows.length ao] S (wN rfl) rfl rfl rfl rfl rfl rfl rfl (lb rfl) fun a S => ?_))))
 obtain ⟨r8, bp, h⟩ := bS h
 refine sCall (X := Value) (f := 33) (vs := [.agg #[iv p0.Start, .slice am p0.Rows.length ao]]) (val := c_loops_of_val r8) (B' := fun _ => []) (D' := c_loops_of_D r8) [] [eBox b6 24 [iv p0.Start, .slice am p0.Rows.length ao]] [fRep r_api_Chart (.agg #[iv p0.Start, .slice am p0.Rows.length ao]) p0] [0] [1] S (wN rfl) rfl callee33 rfl (by decide) rfl rfl (fun E1 w1 S1 => c_loops_of E1 w1 p0 (.agg #[iv p0.Start, .slice am p0.Rows.length ao]) r8 bp S1) rfl (lb rfl) fun bq a w S => ?_
 obtain ⟨br, bt, bu, bv, rfl, az, aA, aC, aG⟩ := S.mem.know (i := 0) (e := fRep r_loops_piece (bq) r8.1) rfl
 have S := S.learn (fRep (rL r_api_Loop) br r8.1.loops) az
 obtain ⟨a0, a4, _, rfl, _⟩ := az
 have S := S.learn (fRep (rL (rI .i64)) bt r8.1.rows) aA
 obtain ⟨a7, a8, _, rfl, _⟩ := aA
 have S := S.learn (fRep (rL (rI .i64)) bu r8.1.bound) aC
 obtain ⟨a9, aa, _, rfl, _⟩ := aC
 have S := S.learn (fRep (rL r_A2_Int) bv r8.1.cross) aG
 obtain ⟨ab, ac, _, rfl, _⟩ := aG
 refine sM S fun a S => ?_
 refine sExtract (vs := [.agg #[.slice a0 r8.1.loops.length a4, .slice a7 r8.1.rows.length a8, .slice a9 r8.1.bound.length aa, .slice ab r8.1.cross.length ac, iv r8.1.next], iv r8.2]) (.agg #[.slice a0 r8.1.loops.length a4, .slice a7 r8.1.rows.length a8, .slice a9 r8.1.bound.length aa, .slice ab r8.1.cross.length ac, iv r8.1.next]) S (wN rfl) rfl rfl rfl rfl (lb rfl) fun a S => ?_
 refine sExtract (vs := [.agg #[.slice a0 r8.1.loops.length a4, .slice a7 r8.1.rows.length a8, .slice a9 r8.1.bound.length aa, .slice ab r8.1.cross.length ac, iv r8.1.next], iv r8.2]) (iv r8.2) S (wN rfl) rfl rfl rfl rfl (lb rfl) fun a S => ?_
 refine sAlloc (.agg #[.slice none 0 0, .slice none 0 0, .slice none 0 0, .slice none 0 0, iv 0]) S (wN rfl) rfl rfl [.slice none 0 0, .slice none 0 0, .slice none 0 0, .slice none 0 0, iv 0] rfl rfl (lb rfl) fun a aH w S => ?_
 refine sStore (p := aH) (off := 0) (T := 73) (vs := [.slice none 0 0, .slice none 0 0, .slice none 0 0, .slice none 0 0, iv 0]) (v := .agg #[.slice a0 r8.1.loops.length a4, .slice a7 r8.1.rows.length a8, .slice a9 r8.1.bound.length aa, .slice ab r8.1.cross.length ac, iv r8.1.next]) 0 [.slice a0 r8.1.loops.length a4, .slice a7 r8.1.rows.length a8, .slice a9 r8.1.bound.length aa, .slice ab r8.1.cross.length ac, iv r8.1.next] S (wN rfl) rfl rfl rfl rfl rfl rfl rfl (by simp) rfl fun a w S => ?_
 refine sN S fun a S => ?_
 refine lT (bo _ _ (sSeq (fun bI aJ => sSeq (fun bJ aK => sRegion (sM S fun a S => ?_)))))
 refine sBin _ S (wN rfl) rfl rfl rfl (bNe _ _ _ _ .i64 r8.2 0) rfl (lb rfl) fun a S => ?_
 refine lT (aK _ _ ?_)
 rcases iS h with ⟨au, h⟩ | ⟨au, h⟩
 ·refine sCondT S rfl au ?_
  refine sSeq (fun bK aL => sRegion (sM S fun a S => ?_))
  refine sN S fun a S => ?_
  refine sN S fun a S => ?_
  refine lT (aL _ _ ?_)
  obtain rfl := tS h
  have S := S.learn (fRep (rL (rI .i64)) (.slice none 0 0) ([] : (List Int))) (rL_nil _ _ _)
  exact wp_ret (rThen (sRet (.tuple #[.slice none 0 0, iv r8.2]) S (rsl2 rfl (rvT (t := 4) (v := .slice none 0 0) S rfl) (rvT (t := 5) (v := iv r8.2) S rfl)) ⟨(.slice none 0 0), rfl, S.mem.sel [] [0] (by decide) rfl rfl⟩))
 refine sCondF S rfl au ?_
 refine wp_skip (leafT (aJ _ _ ?_))
 refine sSeq (fun bL aM => ?_)
 obtain ⟨bw, h, bx⟩ := bS h
 refine sCut (fun a w => ∃ aO, aO = bw ∧ St [] E [] w0 46 a w [(1, iv p1), (6, .pointer (some ⟨aH, 0, none⟩)), (27, .bool aO)] [eBox aH 73 [.slice a0 r8.1.loops.length a4, .slice a7 r8.1.rows.length a8, .slice a9 r8.1.bound.length aa, .slice ab r8.1.cross.length ac, iv r8.1.next]] [fRep (rL r_api_Loop) (.slice a0 r8.1.loops.length a4) r8.1.loops, fRep (rL (rI .i64)) (.slice a7 r8.1.rows.length a8) r8.1.rows, fRep (rL (rI .i64)) (.slice a9 r8.1.bound.length aa) r8.1.bound, fRep (rL r_A2_Int) (.slice ab r8.1.cross.length ac) r8.1.cross]) ?_ (fun a w hI => ?_)
 ·refine sRegion (sM S fun a S => ?_)
  refine sBin _ S (wN rfl) rfl rfl rfl (bLt _ _ _ _ .i64 p1 0) rfl (lb rfl) fun a S => ?_
  refine sM S fun a S => ?_
  rcases iS h with ⟨a5, h⟩ | ⟨a5, h⟩
  ·refine sSkN 5 2 false 21 S rfl rfl a5 rfl fun a S => ?_
   refine sPickT (.bool true) S (wN rfl) rfl rfl a5 rfl rfl (lb rfl) fun a S => ?_
   exact lT (⟨true, Option.some.inj h, S.fix [0] [3, 2, 1, 0] (by decide) rfl rfl rfl⟩)
  refine sMove (iv p1) S (wG 2 false 21 rfl rfl rfl a5) (.inl rfl) rfl rfl (lb rfl) fun a S => ?_
  refine sField (b := aH) (off := 0) 0 0 S (wG 2 false 21 rfl rfl rfl a5) rfl rfl rfl rfl rfl (lb rfl) fun a S => ?_
  refine sLoad1 0 (.slice a0 r8.1.loops.length a4) S (wG 2 false 21 rfl rfl rfl a5) rfl rfl rfl rfl rfl rfl (lb rfl) fun a S => ?_
  refine sLen S (wG 2 false 21 rfl rfl rfl a5) rfl Try.underlying26 rfl rfl (lb rfl) fun a S => ?_
  refine sBin _ S (wG 2 false 21 rfl rfl rfl a5) rfl rfl rfl (bGe _ _ _ _ .i64 p1 (r8.1.loops.length : Int)) rfl (lb rfl) fun a S => ?_
  refine sPickF (.bool (decide ((r8.1.loops.length : Int) ≤ p1))) S (wN rfl) rfl rfl a5 rfl rfl (lb rfl) fun a S => ?_
  exact lT (⟨decide ((r8.1.loops.length : Int) ≤ p1), Option.some.inj h, S.fix [0] [3, 2, 1, 0] (by decide) rfl rfl rfl⟩)
 obtain ⟨aO, rfl, S⟩ := hI
 have h := bx
 try dsimp only at h
 rcases iS h with ⟨av, h⟩ | ⟨av, h⟩
 ·refine sCondT S rfl av ?_
  refine sSeq (fun bM aP => sRegion (sN S fun a S => ?_))
  refine sN S fun a S => ?_
  refine lT (aP _ _ ?_)
  obtain rfl := tS h
  have S := S.learn (fRep (rL (rI .i64)) (.slice none 0 0) ([] : (List Int))) (rL_nil _ _ _)
  exact wp_ret (rThen (sRet (.tuple #[.slice none 0 0, iv 2]) S (rsl2 rfl (rvT (t := 4) (v := .slice none 0 0) S rfl) (rvT (t := 5) (v := iv 2) S rfl)) ⟨(.slice none 0 0), rfl, S.mem.sel [] [0] (by decide) rfl rfl⟩))
 refine sCondF S rfl av ?_
 refine wp_skip (leafT (aM _ _ ?_))
 refine sSeq (fun bN aQ => sRegion (sN S fun a S => ?_))
 refine lT (aQ _ _ ?_)
 obtain ⟨bz, h, bA⟩ := bS h
 refine sCut (fun a w => ∃ al, al = bz ∧ ∃ ae, ∃ af, St [] E [] w0 46 a w [(8, .slice ae al.length af)] [eRow (rI .i64) 3 (.slice ae al.length af) al] []) ?_ (fun a w hI => ?_)
 rotate_left
 ·obtain ⟨al, rfl, ae, af, S⟩ := hI
  have h := bA
  try dsimp only at h
  refine sSeq (fun bO aR => sRegion (sM S fun a S => ?_))
  refine sN S fun a S => ?_
  refine sN S fun a S => ?_
  refine lT (aR _ _ ?_)
  obtain rfl := tS h
  have S := S.shutR (r := (rI .i64)) (T := 3) (v := .slice ae al.length af) (xs := al) 0 rfl
  exact wp_ret (sRet (.tuple #[.slice ae al.length af, iv 0]) S (rsl2 rfl (rvT (t := 4) (v := .slice ae al.length af) S rfl) (rvT (t := 5) (v := iv 0) S rfl)) ⟨(.slice ae al.length af), rfl, S.mem.sel [] [0] (by decide) rfl rfl⟩)
 refine sSeq (fun bP aS => sRegion (sField (b := aH) (off := 0) 0 0 S (wN rfl) rfl rfl rfl rfl rfl (lb rfl) fun a S => ?_))
 refine sLoad1 0 (.slice a0 r8.1.loops.length a4) S (wN rfl) rfl rfl rfl rfl rfl rfl (lb rfl) fun a S => ?_
 refine sLen S (wN rfl) rfl Try.underlying26 rfl rfl (lb rfl) fun a S => ?_
 refine sM S fun a S => ?_
 refine lT (aS _ _ (wp_block ?_))
 have S := S.nilRow (rI .i64) 3 (α := Int)
 obtain ⟨bQ, hl, bB⟩ := bS h
 refine sLoop hl (fun s0 a w => match s0 with | (ar, ag) => ∃ ah, ∃ ai, St [] E [] w0 46 a w [(1, iv p1), (8, .slice ah ar.length ai), (29, .slice a0 r8.1.loops.length a4), (30, iv (r8.1.loops.length : Int)), (31, iv ag)] [eRow (rI .i64) 3 (.slice ah ar.length ai) ar] [fRep (rL r_api_Loop) (.slice a0 r8.1.loops.length a4) r8.1.loops]) ⟨none, 0, S.fix [0] [0] (by decide) rfl rfl rfl⟩ ?_
 clear hl h
 intro s0 a w c0 hI h aT
 obtain ⟨ar, ag⟩ := s0
 unfold loops_Kids_l1 at h
 dsimp only at h hI
 obtain ⟨ah, ai, S⟩ := hI
 refine sSeq (fun bR aU => sRegion (sBin _ S (wN rfl) rfl rfl rfl (bLt _ _ _ _ .i64 ag (r8.1.loops.length : Int)) rfl (lb rfl) fun a S => ?_))
 refine lT (aU _ _ (sSeq (fun bU aV => ?_)))
 rcases iS h with ⟨aw, h⟩ | ⟨aw, h⟩
 rotate_left
 ·refine sCondF S rfl aw ?_
  obtain rfl := tS h
  obtain rfl := aT _ rfl
  have h := bB
  try dsimp only at h
  exact wp_exit (xThen (xThen (xHit (leafT (⟨ar, Option.some.inj h, ah, ai, S.fix [0] [] (by decide) rfl rfl rfl⟩)))))
 refine sCondT S rfl aw ?_
 refine wp_skip (leafT (aV _ _ ?_))
 obtain ⟨bC, h, bD⟩ := bS h
 refine sCut (fun a w => ∃ ay, ay = bC ∧ ∃ ap, ∃ aq, St [] E [] w0 46 a w [(1, iv p1), (8, .slice ap ay.length aq), (29, .slice a0 r8.1.loops.length a4), (30, iv (r8.1.loops.length : Int)), (31, iv ag)] [eRow (rI .i64) 3 (.slice ap ay.length aq) ay] [fRep (rL r_api_Loop) (.slice a0 r8.1.loops.length a4) r8.1.loops]) ?_ (fun a w hI => ?_)
 rotate_left
 ·obtain ⟨ay, rfl, ap, aq, S⟩ := hI
  have h := bD
  try dsimp only at h
  refine sRegion (sBin _ S (wN rfl) rfl rfl rfl (bAdd _ _ _ _ ag 1) rfl (lb rfl) fun a S => ?_)
  refine sM S fun a S => ?_
  exact lT (⟨(ay, w64 (ag + 1)), (Option.some.inj h).symm, ⟨ap, aq, S.fix [0] [0] (by decide) rfl rfl rfl⟩⟩)
 refine wp_block ?_
 refine sSeq (fun bV aW => sRegion (sM S fun a S => ?_))
 obtain ⟨a6, aX, h⟩ := bS h
 obtain ⟨bk, aZ, S⟩ := pIdx (P := Try.prog) (r := r_api_Loop) (v := .slice a0 r8.1.loops.length a4) (xs := r8.1.loops) (j := ag) 26 48 0 S Try.underlying26 rfl rfl aX
 refine sIdxV S (wN rfl) rfl rfl rfl aZ rfl (lb rfl) fun a S => ?_
 obtain ⟨bE, S⟩ := pLoad (r := r_api_Loop) (q := bk) (x := a6) 0 S rfl
 obtain ⟨bG, rfl, aI⟩ := S.mem.know (i := 1) (e := fRep r_api_Loop (bE) a6) rfl
 have S := S.learn (fRep (rL (rI .i64)) bG a6.Parents) aI
 obtain ⟨aj, ak, _, rfl, _⟩ := aI
 refine sLoadVN (vq := bk) 1 [iv a6.Row, iv a6.Cell, .slice aj a6.Parents.length ak, .bool a6.Purl] S (wN rfl) rfl rfl rfl rfl rfl rfl (lb rfl) fun a S => ?_
 refine sAlloc (.agg #[iv 0, iv 0, .slice none 0 0, .bool false]) S (wN rfl) rfl rfl [iv 0, iv 0, .slice none 0 0, .bool false] rfl rfl (lb rfl) fun a bl w S => ?_
 refine sN S fun a S => ?_
 refine sStore (p := bl) (off := 0) (T := 48) (vs := [iv 0, iv 0, .slice none 0 0, .bool false]) (v := .agg #[iv a6.Row, iv a6.Cell, .slice aj a6.Parents.length ak, .bool a6.Purl]) 0 [iv a6.Row, iv a6.Cell, .slice aj a6.Parents.length ak, .bool a6.Purl] S (wN rfl) rfl rfl rfl rfl rfl rfl rfl (by simp) rfl fun a w S => ?_
 refine lT (aW _ _ (sSeq (fun bW ba => sRegion (sField (b := bl) (off := 0) 2 2 S (wN rfl) rfl rfl rfl rfl rfl (lb rfl) fun a S => ?_))))
 refine sLoad1 0 (.slice aj a6.Parents.length ak) S (wN rfl) rfl rfl rfl rfl rfl rfl (lb rfl) fun a S => ?_
 refine sM S fun a S => ?_
 obtain ⟨bm, bb, h⟩ := bS h
 have S1 := S.mem
 refine sCq [.slice aj a6.Parents.length ak, iv p1] (.bool bm) S callee37 (S1.quiet [0] rfl) (fun E1 w1 S1 => c_slices_Contains___int_int_ E1 w1 a6.Parents (.slice aj a6.Parents.length ak) p1 bm bb S1) fun a w S => ?_
 refine lT (ba _ _ ?_)
 rcases iS h with ⟨ax, h⟩ | ⟨ax, h⟩
 rotate_left
 ·refine sCondF S rfl ax ?_
  exact wp_skip (leafB (leafT (⟨ar, Option.some.inj h, ah, ai, S.fix [1] [4] (by decide) rfl rfl rfl⟩)))
 refine sCondT S rfl ax ?_
 refine sRegion (sM S fun a S => ?_)
 refine sM S fun a S => ?_
 refine sLit (r := (rI .i64)) (T := 3) (xs := ([ag] : List Int)) [(0, iv ag)] 1 [iv ag] [iv ag] (iv 0) 8 S (wN rfl) rfl rfl Try.underlying32 rfl (by decide) (by decide) (by kernel_rfl) rfl (fun E1 w1 hE => All.cons rfl (All.nil _ _ _)) rfl rfl (lb rfl) fun a w bc bf S => ?_
 obtain ⟨bH, bg, h⟩ := bS h
 refine sApp (r := (rI .i64)) (T := 3) (xs := ar) (ys := ([ag] : List Int)) (v := .slice ah ar.length ai) (u := .slice bc ([ag] : List Int).length bf) 2 (iv 0) 8 S (wN rfl) rfl Try.underlying32 rfl rfl (by decide) rfl rfl rfl (src_R (T := 3) 0 S.mem rfl) bg rfl (lb rfl) fun a w bh bi S => ?_
 refine sN S fun a S => ?_
 exact leafL (leafB (leafT (⟨bH, Option.some.inj h, bh, bi, S.fix [0] [4] (by decide) rfl rfl rfl⟩)))
theorem contains_eq (l : List Int) (x : Int) (hl : l.length ≤ 1000000) : F_slices_Contains___int_int_ l x = some (decide (x ∈ l)) := by
 have hw := loop_idx (B := slices_Index___int_int__l1 l x) l (fun y => x == y) (fun k => Sum.inl (k : Int)) (.inr ()) (fun k hk => by
  unfold slices_Index___int_int__l1
  simp only [dT (show (k : Int) < (l.length : Int) by omega), if_true, idxO_nat hk, Option.bind_some, w64_succ (show k < 9223372036854775807 by omega)]
  split <;> rfl) (by
  unfold slices_Index___int_int__l1
  simp only [dF (show ¬ (l.length : Int) < (l.length : Int) by omega), Bool.false_eq_true, if_false])
 unfold F_slices_Contains___int_int_ F_slices_Index___int_int_
 rw [hw]
 have hm : l.findIdx (fun y => x == y) < l.length ↔ x ∈ l := by
  rw [List.findIdx_lt_length]
  constructor
  ·rintro ⟨y, hy, e⟩
   have : x = y := by simpa using e
   rw [this]; exact hy
  ·intro h; exact ⟨x, h, by simp⟩
 by_cases h : x ∈ l
 ·rw [if_pos (hm.2 h)]
  simp only [Option.bind_some]
  rw [dT (show (0 : Int) ≤ ((l.findIdx fun y => x == y : Nat) : Int) by omega), dT h]
 ·rw [if_neg (fun e => h (hm.1 e))]
  simp only [Option.bind_some]
  rw [dF h]; rfl
def kl (L : List api_Loop) (i : Int) : List Int := (kidsL L i).map fun k : Nat => (k : Int)
theorem kids_take {L : List api_Loop} {k : Nat} (hk : k < L.length) (i : Int) : kidsL (L.take (k + 1)) i = kidsL (L.take k) i ++ (if i ∈ L[k].Parents then [k] else []) := by
 rw [take_snoc _ hk]
 simp only [kidsL, parL_app, kidsP_append, Nat.zero_add]
 have : (parL (L.take k)).length = k := by simp [parL]; omega
 rw [this]
 simp [parL, kidsP]
theorem kids_len (L : List api_Loop) (i : Int) : (kidsL L i).length ≤ L.length := by
 have h : ∀ (P : List (List Int)) (o : Nat), (kidsP o P i).length ≤ P.length := by
  intro P
  induction P with
  | nil => intro o; simp [kidsP]
  | cons p P ih =>
   intro o
   have := ih (o + 1)
   simp only [kidsP, List.length_append, List.length_cons]
   split <;> simp <;> omega
 have := h (parL L) 0
 simpa [kidsL, parL] using this
theorem take_kids_len {L : List api_Loop} (k : Nat) (i : Int) (hL : L.length ≤ 100000) : (kidsL (L.take k) i).length ≤ 100000 := by
 have := kids_len (L.take k) i
 have h2 : (L.take k).length ≤ L.length := by simp; omega
 omega
theorem kids_eq {c : api_Chart} (hw : wfR c.Rows) (i : Int) : F_loops_Kids c i = some (if chk c = 0 then (if 0 ≤ i ∧ i < ((workC c).1.L.length : Int) then (kl (workC c).1.L i, 0) else ([], 2)) else ([], chk c)) := by
 unfold F_loops_Kids
 rw [of_eq c hw, Option.bind_some]
 by_cases hk : chk c = 0
 ·obtain ⟨_, _, _, _, _, hL, _, _, hp, _, _⟩ := wfin_of hk
  rw [if_pos hk, if_pos hk]
  unfold pieceOf
  dsimp only
  simp only [show ((0 : Int) != 0) = false from rfl, Bool.false_eq_true, if_false]
  by_cases h0 : i < 0
  ·rw [dT h0, if_pos rfl, Option.bind_some, if_pos rfl, if_neg (by omega)]
  ·rw [dF h0, if_neg (by simp), Option.bind_some]
   by_cases h1 : ((workC c).1.L.length : Int) ≤ i
   ·rw [dT h1, if_pos rfl, if_neg (by omega)]
   ·rw [dF h1, if_neg (by simp), if_pos (by omega)]
    have key : whileO (loops_Kids_l1 (⟨(workC c).1.L, (workC c).2, (workC c).1.B, (workC c).1.C, ((workC c).1.u : Int)⟩, 0) i) (([] : List Int), 0) = some (kl (workC c).1.L i) := by
     generalize (workC c).1.L = L at *
     refine loop_sq (fun k => (kl (L.take k) i, (k : Int))) L.length (by simp [kl, kidsL, parL, kidsP]) ?_ ?_
     ·intro k hk
      have hb := take_kids_len k i (show L.length ≤ 100000 by omega)
      unfold loops_Kids_l1
      simp only [dT (show (k : Int) < (L.length : Int) by omega), if_true]
      rw [idxO_nat hk, Option.bind_some, contains_eq _ _ (by have := (hp _ (List.getElem_mem hk)).1; omega), Option.bind_some, w64_succ (by omega)]
      unfold kl
      rw [kids_take hk]
      by_cases hm : i ∈ L[k].Parents
      ·rw [dT hm, if_pos rfl, if_pos hm, appO_of (by simp; omega), Option.bind_some]; simp
      ·rw [dF hm, if_neg (by simp), if_neg hm]; simp
     ·unfold loops_Kids_l1
      simp only [dF (show ¬ (L.length : Int) < (L.length : Int) by omega), Bool.false_eq_true, if_false, List.take_length]
    rw [key]; rfl
 ·rw [if_neg hk, if_neg hk]
  simp only [nT hk, if_true]
def rowOf (c : api_Chart) (i : Int) : Int × Int × Int := if chk c = 0 then (if 0 ≤ i ∧ i ≤ (c.Rows.length : Int) then (((off c.Start.toNat (c.Rows.map faceR) i.toNat : Nat) : Int), ((off c.Start.toNat (c.Rows.map faceR) (i.toNat + 1) : Nat) : Int), 0) else (0, 0, 2)) else (0, 0, chk c)
theorem rs_idx {c : api_Chart} (hk : chk c = 0) {k : Nat} (h : k ≤ c.Rows.length + 1) : idxO (workC c).2 (k : Int) = some ((off c.Start.toNat (c.Rows.map faceR) k : Nat) : Int) := by
 rw [(wfin_of hk).rs, idxO_nat (by simp; omega)]; simp
theorem row_eq {c : api_Chart} (hw : wfR c.Rows) (i : Int) : F_loops_Row c i = some (rowOf c i) := by
 unfold F_loops_Row rowOf
 rw [of_eq c hw, Option.bind_some]
 by_cases hk : chk c = 0
 ·rw [if_pos hk, if_pos hk]
  have hnr := (wfin_of hk).nr
  unfold pieceOf
  dsimp only
  simp only [show ((0 : Int) != 0) = false from rfl, Bool.false_eq_true, if_false]
  by_cases h0 : i < 0
  ·rw [dT h0, if_pos rfl, Option.bind_some, if_pos rfl, if_neg (by omega)]
  ·rw [dF h0, if_neg (by simp), Option.bind_some]
   by_cases h1 : (c.Rows.length : Int) < i
   ·rw [dT h1, if_pos rfl, if_neg (by omega)]
   ·obtain ⟨k, rfl⟩ := Int.eq_ofNat_of_zero_le (show 0 ≤ i by omega)
    rw [dF h1, if_neg (by simp), if_pos (by omega), rs_idx hk (by omega), Option.bind_some, w64_succ (by omega), rs_idx hk (by omega), Option.bind_some, Int.toNat_natCast]
 ·rw [if_neg hk, if_neg hk]
  simp only [nT hk, if_true]
noncomputable def chart_Counts_l2  : List Int → (Int × chart_count) → Option (List Int ⊕ Empty) := fun s0 x0 => match s0, x0 with
 | a0, (a6, a4) =>
  (appO a0 ([a4.after] : List Int)).bind fun a5 =>
  some (.inl a5)
noncomputable def F_chart_Counts (p0 : api_Chart) : Option ((List Int) × Int) :=
 (F_chart_Check p0).bind fun r9 =>
 if r9 != 0 then
  some (([] : (List Int)), r9)
 else
  (F_chart_counted p0).bind fun a0 =>
  (I_chart_counted_1 a0 _ _ (chart_Counts_l2) ([p0.Start] : List Int)).bind fun z0 => match z0 with
   | .inl a4 =>
    some (a4, 0)
   | .inr z0 =>
    nomatch z0
def c_chart_Counts_val (r : ((List Int) × Int)) (x : Value) : Value := .tuple #[x, .int .i64 r.2]
def c_chart_Counts_D (r : ((List Int) × Int)) (x : Value) : List Fact := [fRep (rL (rI .i64)) x r.1]
theorem c_chart_Counts (E : Nat → Prop) (w0 : World) (p0 : api_Chart) (v0 : Value) (r : ((List Int) × Int)) (h : F_chart_Counts p0 = some r) (S : St0 E [] w0 w0 [] [fRep r_api_Chart (v0) p0]) :
 Calls Try.prog 31 #[v0] w0 (Ret (X := Value) E [] w0 (c_chart_Counts_val r) (fun _ => []) (c_chart_Counts_D r)) := by
 unfold F_chart_Counts at h
 obtain ⟨u1, rfl, aA⟩ := S.know (i := 0) (e := fRep r_api_Chart (v0) p0) rfl
 have S := S.learn (fRep (rL r_api_Row) u1 p0.Rows) aA
 obtain ⟨a9, aa, _, rfl, _⟩ := aA
 refine sEnterM (args := [.agg #[iv p0.Start, .slice a9 p0.Rows.length aa]]) 26 Try.func31 rfl rfl (by simp) S (fun a S => ?_)
 refine sSeq (fun K5 aJ => sRegion (sBox (v := .agg #[iv p0.Start, .slice a9 p0.Rows.length aa]) S (wN rfl) rfl rfl [iv p0.Start, .slice a9 p0.Rows.length aa] rfl rfl (lb rfl) fun a b6 w S => ?_))
 refine sN S fun a S => ?_
 refine sN S fun a S => ?_
 refine lT (aJ _ _ (sSeq (fun K7 aK => sSeq (fun K8 aL => sRegion (sLoadN (p := b6) (off := 0) (T := 24) (vs := [iv p0.Start, .slice a9 p0.Rows.length aa]) 0 [iv p0.Start, .slice a9 p0.Rows.length aa] S (wN rfl) rfl rfl rfl rfl rfl rfl rfl (lb rfl) fun a S => ?_)))))
 obtain ⟨r9, al, h⟩ := bS h
 have S1 := S.mem
 refine sCq [.agg #[iv p0.Start, .slice a9 p0.Rows.length aa]] (iv r9) S callee39 (S1.quiet [1] rfl) (fun E1 w1 S1 => c_chart_Check E1 w1 p0 (.agg #[iv p0.Start, .slice a9 p0.Rows.length aa]) r9 al S1) fun a w S => ?_
 refine sN S fun a S => ?_
 refine lT (aL _ _ (sSeq (fun aM am => sRegion (sM S fun a S => ?_))))
 refine sBin _ S (wN rfl) rfl rfl rfl (bNe _ _ _ _ .i64 r9 0) rfl (lb rfl) fun a S => ?_
 refine lT (am _ _ ?_)
 rcases iS h with ⟨ac, h⟩ | ⟨ac, h⟩
 ·refine sCondT S rfl ac ?_
  refine sSeq (fun aO ao => sRegion (sM S fun a S => ?_))
  refine sN S fun a S => ?_
  refine sN S fun a S => ?_
  refine lT (ao _ _ ?_)
  obtain rfl := tS h
  have S := S.learn (fRep (rL (rI .i64)) (.slice none 0 0) ([] : (List Int))) (rL_nil _ _ _)
  exact wp_ret (rThen (sRetM0 (.tuple #[.slice none 0 0, iv r9]) S (rsl2 rfl (rvT (t := 2) (v := .slice none 0 0) S rfl) (rvT (t := 3) (v := iv r9) S rfl)) ⟨(.slice none 0 0), rfl, S.mem.sel [] [0] (by decide) rfl rfl⟩))
 refine sCondF S rfl ac ?_
 refine wp_skip (leafT (aK _ _ ?_))
 refine sSeq (fun aP ap => sRegion (sField (b := b6) (off := 0) 0 0 S (wN rfl) rfl rfl rfl rfl rfl (lb rfl) fun a S => ?_))
 refine sLoad1 0 (iv p0.Start) S (wN rfl) rfl rfl rfl rfl rfl rfl (lb rfl) fun a S => ?_
 refine sLit (r := (rI .i64)) (T := 3) (xs := ([p0.Start] : List Int)) [(0, iv p0.Start)] 1 [iv p0.Start] [iv p0.Start] (iv 0) 8 S (wN rfl) rfl rfl Try.underlying32 rfl (by decide) (by decide) (by kernel_rfl) rfl (fun E1 w1 hE => All.cons rfl (All.nil _ _ _)) rfl rfl (lb rfl) fun a w a7 a8 S => ?_
 refine sAlloc (.slice none 0 0) S (wN rfl) rfl rfl [.slice none 0 0] rfl rfl (lb rfl) fun a ab w S => ?_
 refine sStore (p := ab) (off := 0) (T := 32) (vs := [.slice none 0 0]) (v := .slice a7 ([p0.Start] : List Int).length a8) 0 [.slice a7 ([p0.Start] : List Int).length a8] S (wN rfl) rfl rfl rfl rfl rfl rfl rfl (by simp) rfl fun a w S => ?_
 refine lT (ap _ _ (sSeq (fun aQ aq => sSeq (fun aR ar => sRegion (sLoadN (p := b6) (off := 0) (T := 24) (vs := [iv p0.Start, .slice a9 p0.Rows.length aa]) 2 [iv p0.Start, .slice a9 p0.Rows.length aa] S (wN rfl) rfl rfl rfl rfl rfl rfl rfl (lb rfl) fun a S => ?_)))))
 obtain ⟨ae, au, h⟩ := bS h
 refine sCall (X := Value) (f := 42) (vs := [.agg #[iv p0.Start, .slice a9 p0.Rows.length aa]]) (val := c_chart_counted_val ae) (B' := fun _ => []) (D' := c_chart_counted_D ae) [] [eBox ab 32 [.slice a7 ([p0.Start] : List Int).length a8], eRow (rI .i64) 3 (.slice a7 ([p0.Start] : List Int).length a8) ([p0.Start] : List Int), eBox b6 24 [iv p0.Start, .slice a9 p0.Rows.length aa]] [fRep r_api_Chart (.agg #[iv p0.Start, .slice a9 p0.Rows.length aa]) p0] [0, 1, 2] [1] S (wN rfl) rfl callee42 rfl (by decide) rfl rfl (fun E1 w1 S1 => c_chart_counted E1 w1 p0 (.agg #[iv p0.Start, .slice a9 p0.Rows.length aa]) ae au S1) rfl (lb rfl) fun aj a w S => ?_
 refine lT (ar _ _ (wp_block ?_))
 obtain ⟨aS, af, ak⟩ := bS h
 replace S : St [] E [] w0 26 a w [(5, .pointer (some ⟨ab, 0, none⟩)), (17, .func (.func 52) #[] #[aj])] [eBox ab 32 [.slice a7 ([p0.Start] : List Int).length a8], eRow (rI .i64) 3 (.slice a7 ([p0.Start] : List Int).length a8) ([p0.Start] : List Int)] [fPtr r_api_Chart (aj) ae] := S.fix [0, 1] [0] (by decide) rfl rfl rfl
 refine sRange2 (B := chart_Counts_l2) (fun s0 L D => match s0 with | a5 => ∃ a0, ∃ a4, L = [eBox ab 32 [.slice a0 a5.length a4], eRow (rI .i64) 3 (.slice a0 a5.length a4) a5] ∧ D = [fPtr r_api_Chart (aj) ae]) (fun _ _ _ _ => False) [0] S af rfl callee52 (it_chart_counted_1 ae aj) rfl (by decide) (by decide) ⟨a7, a8, rfl, rfl⟩ ?_ ?_ ?_
 ·intro E l0 a5 aC a6 aG aH b L D K a w0 hK hIL hB S
  clear af ak h hK
  unfold chart_Counts_l2 at hB
  dsimp only at hB hIL
  obtain ⟨a0, a4, rfl, rfl⟩ := hIL
  have h := hB
  clear hB
  obtain rfl : aG = iv aC := S.mem.know (i := 0) (e := fRep (rI .i64) (aG) aC) rfl
  obtain rfl : aH = .agg #[iv a6.before, iv a6.after, iv a6.e] := S.mem.know (i := 1) (e := fRep r_chart_count (aH) a6) rfl
  refine sRegionR (by repeat (first | exact roundU_out | exact it_out | exact lo_false | refine lo_then ?_ | refine lo_block ?_)) rfl ?_
  refine sAlloc (.agg #[iv 0, iv 0, iv 0]) S (wN rfl) rfl rfl [iv 0, iv 0, iv 0] rfl rfl (lb rfl) fun a aI w S => ?_
  refine sStore (p := aI) (off := 0) (T := 89) (vs := [iv 0, iv 0, iv 0]) (v := .agg #[iv a6.before, iv a6.after, iv a6.e]) 0 [iv a6.before, iv a6.after, iv a6.e] S (wN rfl) rfl rfl rfl rfl rfl rfl rfl (by simp) rfl fun a w S => ?_
  refine lT (⟨_, _, _, S, fun K a w0 hK S => ?_⟩)
  refine wpIn_block ?_
  refine sRegionR (by repeat (first | exact roundU_out | exact it_out | exact lo_false | refine lo_then ?_ | refine lo_block ?_)) rfl ?_
  refine sLoad1 1 (.slice a0 a5.length a4) S (wN rfl) rfl rfl rfl rfl rfl rfl (lb rfl) fun a S => ?_
  refine sField (b := aI) (off := 0) 1 1 S (wN rfl) rfl rfl rfl rfl rfl (lb rfl) fun a S => ?_
  refine sLoad1 0 (iv a6.after) S (wN rfl) rfl rfl rfl rfl rfl rfl (lb rfl) fun a S => ?_
  refine sLit (r := (rI .i64)) (T := 3) (xs := ([a6.after] : List Int)) [(0, iv a6.after)] 1 [iv a6.after] [iv a6.after] (iv 0) 8 S (wN rfl) rfl rfl Try.underlying32 rfl (by decide) (by decide) (by kernel_rfl) rfl (fun E1 w1 hE => All.cons rfl (All.nil _ _ _)) rfl rfl (lb rfl) fun a w av aw S => ?_
  obtain ⟨ax, ay, h⟩ := bS h
  refine sApp (r := (rI .i64)) (T := 3) (xs := a5) (ys := ([a6.after] : List Int)) (v := .slice a0 a5.length a4) (u := .slice av ([a6.after] : List Int).length aw) 3 (iv 0) 8 S (wN rfl) rfl Try.underlying32 rfl rfl (by decide) rfl rfl rfl (src_R (T := 3) 0 S.mem rfl) ay rfl (lb rfl) fun a w ag ah S => ?_
  refine sStore (p := ab) (off := 0) (T := 32) (vs := [.slice a0 a5.length a4]) (v := .slice ag ax.length ah) 3 [.slice ag ax.length ah] S (wN rfl) rfl rfl rfl rfl rfl rfl rfl (by simp) rfl fun a w S => ?_
  exact leafL (leafB (rnN ax _ _ [] (Option.some.inj h) ⟨ag, ah, rfl, rfl⟩ (S.fix [0, 1] [2] (by decide) rfl rfl rfl)))
 ·intro ai a5 L D a w hr hIL S
  clear h
  obtain rfl := hr
  dsimp only at ak hIL
  obtain ⟨a0, a4, rfl, rfl⟩ := hIL
  have h := ak
  clear ak af
  replace S : St [mark ai] E [] w0 26 a w [(5, .pointer (some ⟨ab, 0, none⟩)), (17, .func (.func 52) #[] #[aj])] [eBox ab 32 [.slice a0 a5.length a4], eRow (rI .i64) 3 (.slice a0 a5.length a4) a5, eDef ai] [fPtr r_api_Chart (aj) ae] := S
  refine leafB (leafT (aq _ _ ?_))
  refine sSeq (fun aT az => sRegion (sLoad1 0 (.slice a0 a5.length a4) S (wN rfl) rfl rfl rfl rfl rfl rfl (lb rfl) fun a S => ?_))
  refine sN S fun a S => ?_
  refine sN S fun a S => ?_
  refine lT (az _ _ (wp_ret (sRetM1 2 S rfl (fun a w S => ?_))))
  obtain rfl := tS h
  have S := S.shutR (r := (rI .i64)) (T := 3) (v := .slice a0 a5.length a4) (xs := a5) 1 rfl
  exact sFin (.tuple #[.slice a0 a5.length a4, iv 0]) S (rsl2 rfl (rvT (t := 2) (v := .slice a0 a5.length a4) S rfl) (rvT (t := 3) (v := iv 0) S rfl)) ⟨(.slice a0 a5.length a4), rfl, S.mem.sel [] [0] (by decide) rfl rfl⟩
 ·intro ai c0 t0 L D a w hr hIX S
  clear h
  exact hIX.elim
def RB (rows : List api_Row) : Prop := rows.length ≤ 1000000 ∧ ∀ r, r ∈ rows → r.Cells.length ≤ 1000000
theorem chk_RB {c : api_Chart} (h : chk c = 0) : RB c.Rows := by
 obtain ⟨h1, _, _, h4⟩ := chk_ok h
 exact ⟨by omega, fun r hr => by have := (allS_ok (chkR_mem h4 r hr)).1; omega⟩
def cnts : Int → List api_Row → List Int
 | n, [] => [n]
 | n, r :: rs => n :: cnts (sm madeS r.Cells) rs
theorem cnts_len : ∀ (n : Int) (rs : List api_Row), (cnts n rs).length = rs.length + 1
 | _, [] => rfl
 | n, r :: rs => by simp [cnts, cnts_len (sm madeS r.Cells) rs]
theorem counts_fold : ∀ (rs : List api_Row) (i : Nat) (n : Int) (s : List Int), chkR n rs = 0 → s.length + rs.length ≤ 1000000 → foldO chart_Counts_l2 s (ctl i n rs) = some (.inl (s ++ (cnts n rs).drop 1))
 | [], i, n, s, _, _ => by simp [ctl, cnts, foldO]
 | r :: rs, i, n, s, h, hl => by
  obtain ⟨h1, h2, h3⟩ := chkR_cons.1 h
  have hl' : s.length + rs.length + 1 ≤ 1000000 := by simpa [Nat.add_assoc] using hl
  have ih := counts_fold rs (i + 1) (sm madeS r.Cells) (s ++ [sm madeS r.Cells]) h3 (by simp; omega)
  have hst : chart_Counts_l2 s ((i : Int), ⟨n, sm madeS r.Cells, 0⟩) = some (.inl (s ++ [sm madeS r.Cells])) := by
   have ha : appO s [sm madeS r.Cells] = some (s ++ [sm madeS r.Cells]) := appO_of (by simp; omega)
   unfold chart_Counts_l2
   simp only [ha, Option.bind_some]
  simp only [ctl, h1, h2, ne_eq, not_true_eq_false, if_false]
  simp only [foldO, hst, Option.bind_some, ih]
  cases rs with
  | nil => simp [cnts]
  | cons a b => simp [cnts]
theorem counts_eq (c : api_Chart) (hw : wfR c.Rows) (h : chk c = 0) : F_chart_Counts c = some (cnts c.Start c.Rows, 0) := by
 have hb := chk_RB h
 obtain ⟨h1, h2, h3, h4⟩ := chk_ok h
 unfold F_chart_Counts F_chart_counted
 simp only [chart_check_eq c hw, h, Option.bind_some, bne_self_eq_false, Bool.false_eq_true, if_false]
 rw [chcount_eq c hw (by omega), counts_fold c.Rows 0 c.Start _ h4 (by simp; omega)]
 cases hr : c.Rows with
 | nil => rfl
 | cons a b => rfl
noncomputable def raddleref27_Has_l1 (p0 : (List Int)) (p1 : Int) : Int → Option (Int ⊕ (Bool ⊕ Unit)) := fun s0 => match s0 with
 | s7 =>
  if decide (s7 < (p0.length : Int)) then
   (idxO p0 s7).bind fun a0 =>
   if a0 == p1 then
    some (.inr (.inl true))
   else
    some (.inl (w64 (s7 + 1)))
  else
   some (.inr (.inr ()))
noncomputable def F_raddleref27_Has (p0 : (List Int)) (p1 : Int) : Option Bool :=
 Option.bind (α := Unit ⊕ Bool) (
  (whileO (raddleref27_Has_l1 p0 p1) 0).bind fun z0 => match z0 with
   | .inl z =>
    some (.inr z)
   | .inr _ =>
    some (.inl ())) fun z0 => match z0 with
  | .inl _ =>
   some false
  | .inr z =>
   some z
theorem c_raddleref27_Has (E : Nat → Prop) (w0 : World) (p0 : (List Int)) (v0 : Value) (p1 : Int) (r : Bool) (h : F_raddleref27_Has p0 p1 = some r) (S : St0 E [] w0 w0 [] [fRep (rL (rI .i64)) (v0) p0]) :
 Calls Try.prog 27 #[v0, iv p1] w0 (Ret (X := Unit) E [] w0 (fun _ => .bool r) (fun _ => []) (fun _ => [])) := by
 unfold F_raddleref27_Has at h
 obtain ⟨a6, a7, _, rfl, _⟩ := S.know (i := 0) (e := fRep (rL (rI .i64)) (v0) p0) rfl
 refine sEnter (args := [.slice a6 p0.length a7, iv p1]) 18 Try.func27 rfl rfl (by simp) S (fun a S => ?_)
 refine sSeq (fun K3 ak => sRegion (sN S fun a S => ?_))
 refine lT (ak _ _ ?_)
 obtain ⟨t4, h, g5⟩ := bS h
 refine sCut (fun a w => .inl () = t4 ∧ St [] E [] w0 18 a w [] [] []) ?_ (fun a w hI => ?_)
 rotate_left
 ·obtain ⟨rfl, S⟩ := hI
  have h := g5
  try dsimp only at h
  refine sSeq (fun am a8 => sRegion (sN S fun a S => ?_))
  refine lT (a8 _ _ ?_)
  obtain rfl := tS h
  exact wp_ret (sRet (.bool false) S (rsl1 rfl (rvT (t := 4) (v := .bool false) S rfl)) ⟨(), rfl, S.mem.sel [] [] (by decide) rfl rfl⟩)
 refine sSeq (fun K6 al => sRegion (sN S fun a S => ?_))
 refine lT (al _ _ (wp_block ?_))
 obtain ⟨ao, hl, g9⟩ := bS h
 refine sLoop hl (fun s0 a w => match s0 with | s7 => St [] E [] w0 18 a w [(0, .slice a6 p0.length a7), (1, iv p1), (5, iv s7)] [] [fRep (rL (rI .i64)) (.slice a6 p0.length a7) p0]) (S.fix [] [0] (by decide) rfl rfl rfl) ?_
 clear hl h
 intro s7 a w c0 hI h ah
 unfold raddleref27_Has_l1 at h
 dsimp only at h hI
 have S := hI
 refine sSeq (fun ap a9 => sSeq (fun aq aa => sRegion (sM S fun a S => ?_)))
 refine sM S fun a S => ?_
 refine sLen S (wN rfl) rfl Try.underlying32 rfl rfl (lb rfl) fun a S => ?_
 refine sBin _ S (wN rfl) rfl rfl rfl (bLt _ _ _ _ .i64 s7 (p0.length : Int)) rfl (lb rfl) fun a S => ?_
 refine lT (aa _ _ ?_)
 rcases iS h with ⟨a0, h⟩ | ⟨a0, h⟩
 rotate_left
 ·refine sCondF S rfl a0 ?_
  obtain rfl := tS h
  obtain rfl := ah _ rfl
  have h := g9
  try dsimp only at h
  exact wp_exit (xThen (xThen (xHit (leafT (⟨Option.some.inj h, S.fix [] [] (by decide) rfl rfl rfl⟩)))))
 refine sCondT S rfl a0 ?_
 refine wp_skip (leafT (a9 _ _ ?_))
 refine sSeq (fun ar ab => wp_block ?_)
 refine sSeq (fun au ac => sRegion (sM S fun a S => ?_))
 refine sM S fun a S => ?_
 obtain ⟨a5, ae, h⟩ := bS h
 obtain ⟨ai, af, S⟩ := pIdx (P := Try.prog) (r := (rI .i64)) (v := .slice a6 p0.length a7) (xs := p0) (j := s7) 32 3 0 S Try.underlying32 rfl rfl ae
 refine sIdxV S (wN rfl) rfl rfl rfl af rfl (lb rfl) fun a S => ?_
 obtain ⟨aj, S⟩ := pLoad (r := (rI .i64)) (q := ai) (x := a5) 0 S rfl
 obtain rfl : aj = iv a5 := S.mem.know (i := 1) (e := fRep (rI .i64) (aj) a5) rfl
 refine sLoadV1 (vq := ai) 0 (iv a5) S (wN rfl) rfl rfl rfl rfl rfl (lb rfl) fun a S => ?_
 refine sM S fun a S => ?_
 refine sBin _ S (wN rfl) rfl rfl rfl (bEq _ _ _ _ .i64 a5 p1) rfl (lb rfl) fun a S => ?_
 refine lT (ac _ _ ?_)
 rcases iS h with ⟨a4, h⟩ | ⟨a4, h⟩
 rotate_left
 ·refine sCondF S rfl a4 ?_
  refine wp_skip (leafB (leafT (ab _ _ ?_)))
  refine sRegion (sM S fun a S => ?_)
  refine sBin _ S (wN rfl) rfl rfl rfl (bAdd _ _ _ _ s7 1) rfl (lb rfl) fun a S => ?_
  refine sN S fun a S => ?_
  exact lT (⟨w64 (s7 + 1), (Option.some.inj h).symm, (S.fix [] [3] (by decide) rfl rfl rfl)⟩)
 refine sCondT S rfl a4 ?_
 refine sSeq (fun av ag => sRegion (sN S fun a S => ?_))
 refine lT (ag _ _ ?_)
 obtain rfl := tS h
 obtain rfl := ah _ rfl
 have h := g9
 try dsimp only at h
 obtain rfl := tS h
 have h := g5
 try dsimp only at h
 obtain rfl := tS h
 exact wp_ret (rBlock (rThen (rThen (rBlock (rThen (sRet (.bool true) S (rsl1 rfl (rvT (t := 4) (v := .bool true) S rfl)) ⟨(), rfl, S.mem.sel [] [] (by decide) rfl rfl⟩))))))
theorem nR_cons (S : Nat) (f : List api_Stitch) (fs : List (List api_Stitch)) (i : Nat) : nR S (f :: fs) (i + 1) = nR (smN mN f) fs i := by
 unfold nR
 by_cases e : i = 0
 ·subst e; simp
 ·obtain ⟨m, rfl⟩ : ∃ m, i = m + 1 := ⟨i - 1, by omega⟩
  simp
theorem cnts_get : ∀ (rs : List api_Row) (S : Nat) (r : Nat), chkR (S : Int) rs = 0 → r ≤ rs.length → (cnts (S : Int) rs)[r]? = some ((nR S (rs.map faceR) r : Nat) : Int)
 | [], S, r, _, hr => by
  have e : r = 0 := by simpa using hr
  subst e; simp [cnts, nR]
 | q :: rs, S, 0, _, _ => by simp [cnts, nR]
 | q :: rs, S, r + 1, h, hr => by
  obtain ⟨a1, a2, a3⟩ := chkR_cons.1 h
  have hf : allS (faceR q) = 0 ∧ sm madeS (faceR q) = sm madeS q.Cells := by
   unfold faceR
   split
   ·exact ⟨(turned_ok a1).1, (turned_ok a1).2.2⟩
   ·exact ⟨a1, rfl⟩
  have hm := smN_made (allS_ok hf.1).2.1
  have e : sm madeS q.Cells = ((smN mN (faceR q) : Nat) : Int) := by omega
  rw [List.map_cons, nR_cons]
  simp only [cnts, List.getElem?_cons_succ]
  rw [e]
  exact cnts_get rs _ r (by rw [← e]; exact a3) (by simpa using hr)
theorem LInv.rowL {S : Nat} {fs : List (List api_Stitch)} {z : Wk} (hf : okF S fs) (h : LInv S fs fs.length 0 z) {r i : Nat} (hr : r ≤ fs.length) (h0 : off S fs r ≤ i) (h1 : i < off S fs (r + 1)) :
 ∃ l, z.L[i]? = some l ∧ l.Row = (r : Int) ∧ ∀ p, p ∈ l.Parents → 1 ≤ r ∧ ((off S fs (r - 1) : Nat) : Int) ≤ p ∧ p < ((off S fs r : Nat) : Int) := by
 cases r with
 | zero =>
  have := h.zero i (by simpa [off, nR] using h1)
  exact ⟨_, this, rfl, fun p hp => by simp at hp⟩
 | succ r =>
  have hk : r < fs.length := by omega
  have hg : fs.getD r [] = fs[r] := by simp [List.getD_eq_getElem?_getD, List.getElem?_eq_getElem hk]
  have e := nR_succ (S := S) hk
  have e2 : off S fs (r + 1 + 1) = off S fs (r + 1) + smN mN fs[r] := by rw [show off S fs (r + 1 + 1) = off S fs (r + 1) + nR S fs (r + 1) from rfl, e]
  obtain ⟨j, hj, x, hx, ht⟩ := smN_find mN fs[r] (i - off S fs (r + 1)) (by omega)
  obtain ⟨pl, ps, _, hps, hl⟩ := h.old r j x hk hj (.inl hk) hx
  have hi : pm S fs r j + x = i := by simp only [pm, hg]; omega
  rw [hi] at hl
  refine ⟨_, hl, rfl, fun p hp => ⟨by omega, ?_⟩⟩
  have hb := (pars_bd ((hf.2 r hk).1 _ (List.getElem_mem hj)) (pu S fs r j) ps (List.mem_of_getElem? hps)).2 p hp
  have hle := pu_le hf hk hj
  have hge : off S fs r ≤ pu S fs r j := by simp only [pu]; omega
  rw [Nat.add_sub_cancel]
  omega
theorem row_of {S : Nat} {fs : List (List api_Stitch)} : ∀ (n i : Nat), i < off S fs n → ∃ r, r < n ∧ off S fs r ≤ i ∧ i < off S fs (r + 1)
 | 0, i, h => by simp [off] at h
 | n + 1, i, h => by
  by_cases h1 : i < off S fs n
  ·obtain ⟨r, a, b, c⟩ := row_of n i h1
   exact ⟨r, by omega, b, c⟩
  ·exact ⟨n, by omega, by omega, h⟩
theorem has_eq (l : List Int) (x : Int) (hl : l.length ≤ 1000000) : F_raddleref27_Has l x = some (decide (x ∈ l)) := by
 have hw := loop_idx (B := raddleref27_Has_l1 l x) l (fun y => y == x) (fun _ => Sum.inl true) (.inr ()) (fun k hk => by
  unfold raddleref27_Has_l1
  simp only [dT (show (k : Int) < (l.length : Int) by omega), if_true, idxO_nat hk, Option.bind_some, w64_succ (show k < 9223372036854775807 by omega)]
  split <;> rfl) (by
  unfold raddleref27_Has_l1
  simp only [dF (show ¬ (l.length : Int) < (l.length : Int) by omega), Bool.false_eq_true, if_false])
 unfold F_raddleref27_Has
 rw [hw]
 have hm : l.findIdx (fun y => y == x) < l.length ↔ x ∈ l := by
  rw [List.findIdx_lt_length]
  constructor
  ·rintro ⟨y, hy, e⟩
   have : y = x := by simpa using e
   rw [← this]; exact hy
  ·intro h; exact ⟨x, h, by simp⟩
 by_cases h : x ∈ l
 ·rw [if_pos (hm.2 h), dT h]; rfl
 ·rw [if_neg (fun e => h (hm.1 e)), dF h]; rfl
end Go.Proofs.Yticjoiolfibmlaa
