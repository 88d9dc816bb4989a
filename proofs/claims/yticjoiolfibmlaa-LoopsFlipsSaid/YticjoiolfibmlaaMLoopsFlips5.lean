/- LoopsFlips: walks, tables, laws. -/
import Derived.Test.YticjoiolfibmlaaProg
import Derived.Test.YticjoiolfibmlaaRows
import Derived.Test.YticjoiolfibmlaaMLoopsFlips4
set_option linter.unusedVariables false
set_option linter.unusedSimpArgs false
set_option maxHeartbeats 4000000
set_option maxRecDepth 100000
namespace Go.Proofs.Yticjoiolfibmlaa
open Go.RowKit
theorem cellsW_snoc (R : Nat) : ∀ (l : List api_Stitch) (k : Nat) (z : Wk) (s : api_Stitch), cellsW R k (l ++ [s]) z = stepW R (k + l.length) s (cellsW R k l z)
 | [], k, z, s => rfl
 | t :: l, k, z, s => by
  simp only [List.cons_append, cellsW, List.length_cons]
  rw [cellsW_snoc R l (k + 1) _ s]
  congr 1; omega
theorem rowsW_snoc : ∀ (fs : List (List api_Stitch)) (i : Nat) (z : Wk × List Int) (f : List api_Stitch), rowsW i (fs ++ [f]) z = (cellsW (i + fs.length + 1) 0 f (rowsW i fs z).1, (rowsW i fs z).2 ++ [((cellsW (i + fs.length + 1) 0 f (rowsW i fs z).1).L.length : Int)])
 | [], i, z, f => rfl
 | g :: fs, i, z, f => by
  simp only [List.cons_append, rowsW, List.length_cons]
  rw [rowsW_snoc fs (i + 1) _ f]
  have e : i + 1 + fs.length + 1 = i + (fs.length + 1) + 1 := by omega
  rw [e]
theorem cells_ind {R : Nat} {l : List api_Stitch} {z : Wk} (P : Nat → Wk → Prop) (h0 : P 0 z) (step : ∀ (j : Nat) (hj : j < l.length) (y : Wk), P j y → P (j + 1) (stepW R j l[j] y)) : P l.length (cellsW R 0 l z) := by
 have key : ∀ k, k ≤ l.length → P k (cellsW R 0 (l.take k) z) := by
  intro k
  induction k with
  | zero => intro _; exact h0
  | succ k ih =>
   intro hk
   rw [List.take_succ_eq_append_getElem (by omega), cellsW_snoc]
   have := step k (by omega) _ (ih (by omega))
   rwa [Nat.zero_add, List.length_take, Nat.min_eq_left (by omega)]
 have := key l.length (Nat.le_refl _)
 rwa [List.take_length] at this
theorem smN_append (g : api_Stitch → Nat) (l k : List api_Stitch) : smN g (l ++ k) = smN g l + smN g k := by
 induction l with
 | nil => simp [smN]
 | cons s l ih => simp only [List.cons_append, smN, ih]; omega
theorem smN_take (g : api_Stitch → Nat) (l : List api_Stitch) {k : Nat} (h : k < l.length) : smN g (l.take (k + 1)) = smN g (l.take k) + g l[k] := by
 rw [List.take_succ_eq_append_getElem h, smN_append]; simp [smN]
theorem smN_take_le (g : api_Stitch → Nat) (l : List api_Stitch) (k : Nat) : smN g (l.take k) ≤ smN g l := by
 have h := smN_append g (l.take k) (l.drop k)
 rw [List.take_append_drop] at h
 omega
theorem smN_find (g : api_Stitch → Nat) : ∀ (l : List api_Stitch) (t : Nat), t < smN g l → ∃ (j : Nat) (hj : j < l.length) (x : Nat), x < g l[j] ∧ t = smN g (l.take j) + x
 | [], t, h => by simp [smN] at h
 | s :: l, t, h => by
  by_cases h1 : t < g s
  ·exact ⟨0, by simp, t, h1, by simp [smN]⟩
  ·simp only [smN] at h
   obtain ⟨j, hj, x, hx, e⟩ := smN_find g l (t - g s) (by omega)
   exact ⟨j + 1, by simp; omega, x, by simpa using hx, by simp only [List.take_succ_cons, smN]; omega⟩
def nR (S : Nat) (fs : List (List api_Stitch)) (i : Nat) : Nat := if i = 0 then S else smN mN (fs.getD (i - 1) [])
def off (S : Nat) (fs : List (List api_Stitch)) : Nat → Nat
 | 0 => 0
 | r + 1 => off S fs r + nR S fs r
def okF (S : Nat) (fs : List (List api_Stitch)) : Prop := S ≤ 200 ∧ ∀ (i : Nat) (h : i < fs.length), allOk fs[i] ∧ fs[i].length ≤ 200 ∧ smN mN fs[i] ≤ 200 ∧ smN uN fs[i] = nR S fs i
theorem off_mono {S : Nat} {fs : List (List api_Stitch)} {a b : Nat} (h : a ≤ b) : off S fs a ≤ off S fs b := by
 induction b with
 | zero => rw [show a = 0 by omega]; exact Nat.le_refl _
 | succ b ih =>
  by_cases e : a = b + 1
  ·rw [e]; exact Nat.le_refl _
  ·have := ih (by omega); simp only [off]; omega
theorem nR_le {S : Nat} {fs : List (List api_Stitch)} (h : okF S fs) {i : Nat} (hi : i ≤ fs.length) : nR S fs i ≤ 200 := by
 unfold nR
 split
 ·exact h.1
 ·have hl : i - 1 < fs.length := by omega
  have := (h.2 (i - 1) hl).2.2.1
  simpa [List.getD_eq_getElem?_getD, List.getElem?_eq_getElem hl] using this
theorem off_le {S : Nat} {fs : List (List api_Stitch)} (h : okF S fs) {r : Nat} (hr : r ≤ fs.length + 1) : off S fs r ≤ 200 * r := by
 induction r with
 | zero => exact Nat.le_refl _
 | succ r ih => have := ih (by omega); have := nR_le h (i := r) (by omega); simp only [off]; omega
theorem nR_succ {S : Nat} {fs : List (List api_Stitch)} {i : Nat} (hi : i < fs.length) : nR S fs (i + 1) = smN mN fs[i] := by
 simp [nR, List.getD_eq_getElem?_getD, List.getElem?_eq_getElem hi]
def pm (S : Nat) (fs : List (List api_Stitch)) (r j : Nat) : Nat := off S fs (r + 1) + smN mN ((fs.getD r []).take j)
def pu (S : Nat) (fs : List (List api_Stitch)) (r j : Nat) : Nat := off S fs r + smN uN ((fs.getD r []).take j)
def isL (l : Option api_Loop) (R K : Nat) (s : api_Stitch) (u x : Nat) : Prop := ∃ pl ps, (s.Kind ≠ 8 → pl = s.Purl) ∧ (pars s u)[x]? = some ps ∧ l = some ⟨(R : Int), (K : Int), ps, pl⟩
structure LInv (S : Nat) (fs : List (List api_Stitch)) (k j : Nat) (z : Wk) : Prop where
 len : z.L.length = pm S fs k j
 u : z.u = pu S fs k j
 zero : ∀ i, i < S → z.L[i]? = some ⟨0, (i : Int), [], false⟩
 old : ∀ (r t x : Nat) (h : r < fs.length) (ht : t < fs[r].length), r < k ∨ r = k ∧ t < j → x < mN (fs[r][t]) → isL z.L[pm S fs r t + x]? (r + 1) t (fs[r][t]) (pu S fs r t) x
theorem isL_left {l : List api_Loop} {m : List api_Loop} {i R K u x : Nat} {s : api_Stitch} (h : isL l[i]? R K s u x) : isL (l ++ m)[i]? R K s u x := by
 obtain ⟨pl, ps, h1, h2, h3⟩ := h
 refine ⟨pl, ps, h1, h2, ?_⟩
 rw [List.getElem?_append_left (List.getElem?_eq_some_iff.1 h3).1]; exact h3
theorem LInv.step {S : Nat} {fs : List (List api_Stitch)} {k j : Nat} {z : Wk} (hf : okF S fs) (hk : k < fs.length) (hj : j < fs[k].length) (h : LInv S fs k j z) : LInv S fs k (j + 1) (stepW (k + 1) j (fs[k][j]) z) := by
 have hg : fs.getD k [] = fs[k] := by simp [List.getD_eq_getElem?_getD, List.getElem?_eq_getElem hk]
 have hok : okS (fs[k][j]) := (hf.2 k hk).1 _ (List.getElem_mem _)
 have hlen := pars_len hok z.u
 refine ⟨?_, ?_, ?_, ?_⟩
 ·simp only [stepW, List.length_append, mkL_len, hlen, h.len, pm, hg]
  rw [smN_take mN _ hj]; omega
 ·simp only [stepW, h.u, pu, hg]
  rw [smN_take uN _ hj]; omega
 ·intro i hi
  have := h.zero i hi
  simp only [stepW]
  rw [List.getElem?_append_left (List.getElem?_eq_some_iff.1 this).1]; exact this
 ·intro r t x hr ht hlt hx
  by_cases e : r < k ∨ r = k ∧ t < j
  ·exact isL_left (h.old r t x hr ht e hx)
  ·obtain ⟨rfl, rfl⟩ : r = k ∧ t = j := by omega
   simp only [stepW]
   rw [← h.len, List.getElem?_append_right (by omega), Nat.add_sub_cancel_left, ← h.u]
   have hx' : x < (pars (fs[r][t]) z.u).length := by rw [hlen]; exact hx
   refine ⟨side z.L (fs[r][t]) z.u, (pars (fs[r][t]) z.u)[x], fun hn => by simp [side, hn], List.getElem?_eq_getElem hx', ?_⟩
   simp only [mkL, List.getElem?_map, List.getElem?_eq_getElem hx', Option.map_some]
theorem LInv.row {S : Nat} {fs : List (List api_Stitch)} {k : Nat} {z : Wk} (hf : okF S fs) (hk : k < fs.length) (h : LInv S fs k fs[k].length z) : LInv S fs (k + 1) 0 z := by
 have hg : fs.getD k [] = fs[k] := by simp [List.getD_eq_getElem?_getD, List.getElem?_eq_getElem hk]
 refine ⟨?_, ?_, h.zero, ?_⟩
 ·have e := nR_succ (S := S) hk
  rw [h.len]; simp only [pm, hg, List.take_length, off, e, List.take_zero, smN]; omega
 ·have e := (hf.2 k hk).2.2.2
  rw [h.u]; simp only [pu, hg, List.take_length, off, e, List.take_zero, smN]; omega
 ·intro r t x hr ht hlt hx
  refine h.old r t x hr ht ?_ hx
  rcases hlt with h1 | ⟨_, h1⟩
  ·by_cases e : r < k
   ·exact .inl e
   ·obtain rfl : r = k := by omega
    exact .inr ⟨rfl, ht⟩
  ·omega
theorem LInv.start (S : Nat) (fs : List (List api_Stitch)) : LInv S fs 0 0 ⟨zeroL S, [], [], 0⟩ := by
 refine ⟨?_, ?_, ?_, ?_⟩
 ·simp [zeroL, pm, off, smN, nR]
 ·simp [pu, off, smN]
 ·intro i hi; simp [zeroL, hi]
 ·intro r t x hr ht hlt; omega
noncomputable def F_raddleref26_Seen (p0 : api_Row) : Option (List api_Stitch) :=
 if p0.Back then
  (F_raddleref25_Turned p0.Cells).bind fun a0 =>
  some a0
 else
  (appO ([] : List api_Stitch) p0.Cells).bind fun a8 =>
  some a8
def c_raddleref26_Seen_val (r : (List api_Stitch)) (x : Value) : Value := x
def c_raddleref26_Seen_D (r : (List api_Stitch)) (x : Value) : List Fact := [fRep (rL r_api_Stitch) x r]
theorem c_raddleref26_Seen (E : Nat → Prop) (w0 : World) (p0 : api_Row) (v0 : Value) (r : (List api_Stitch)) (h : F_raddleref26_Seen p0 = some r) (S : St0 E [] w0 w0 [] [fRep r_api_Row (v0) p0]) :
 Calls Try.prog 28 #[v0] w0 (Ret (X := Value) E [] w0 (c_raddleref26_Seen_val r) (fun _ => []) (c_raddleref26_Seen_D r)) := by
 unfold F_raddleref26_Seen at h
 obtain ⟨u1, rfl, ao⟩ := S.know (i := 0) (e := fRep r_api_Row (v0) p0) rfl
 have S := S.learn (fRep (rL r_api_Stitch) u1 p0.Cells) ao
 obtain ⟨a0, a8, _, rfl, _⟩ := ao
 refine sEnter (args := [.agg #[.bool p0.Back, .slice a0 p0.Cells.length a8]]) 12 Try.func28 rfl rfl (by simp) S (fun a S => ?_)
 refine sSeq (fun K5 ap => sRegion (sBox (v := .agg #[.bool p0.Back, .slice a0 p0.Cells.length a8]) S (wN rfl) rfl rfl [.bool p0.Back, .slice a0 p0.Cells.length a8] rfl rfl (lb rfl) fun a b6 w S => ?_))
 refine sN S fun a S => ?_
 refine lT (ap _ _ (sSeq (fun K7 aq => sSeq (fun K8 ar => sRegion (sField (b := b6) (off := 0) 0 0 S (wN rfl) rfl rfl rfl rfl rfl (lb rfl) fun a S => ?_)))))
 refine sLoad1 0 (.bool p0.Back) S (wN rfl) rfl rfl rfl rfl rfl rfl (lb rfl) fun a S => ?_
 refine lT (ar _ _ ?_)
 rcases iS h with ⟨ag, h⟩ | ⟨ag, h⟩
 ·refine sCondT S rfl ag ?_
  refine sSeq (fun av ah => sRegion (sField (b := b6) (off := 0) 1 1 S (wN rfl) rfl rfl rfl rfl rfl (lb rfl) fun a S => ?_))
  refine sLoad1 0 (.slice a0 p0.Cells.length a8) S (wN rfl) rfl rfl rfl rfl rfl rfl (lb rfl) fun a S => ?_
  obtain ⟨ab, ai, h⟩ := bS h
  refine sCall (X := Value) (f := 41) (vs := [.slice a0 p0.Cells.length a8]) (val := c_raddleref25_Turned_val ab) (B' := fun _ => []) (D' := c_raddleref25_Turned_D ab) [] [eBox b6 65 [.bool p0.Back, .slice a0 p0.Cells.length a8]] [fRep (rL r_api_Stitch) (.slice a0 p0.Cells.length a8) p0.Cells] [0] [0] S (wN rfl) rfl callee41 rfl (by decide) rfl rfl (fun E1 w1 S1 => c_raddleref25_Turned E1 w1 p0.Cells (.slice a0 p0.Cells.length a8) ab ai S1) rfl (lb rfl) fun au a w S => ?_
  obtain ⟨ac, ae, _, rfl, _⟩ := S.mem.know (i := 0) (e := fRep (rL r_api_Stitch) (au) ab) rfl
  refine sN S fun a S => ?_
  refine lT (ah _ _ ?_)
  obtain rfl := tS h
  exact wp_ret (rThen (sRet (.slice ac ab.length ae) S (rsl1 rfl (rvT (t := 2) (v := .slice ac ab.length ae) S rfl)) ⟨(.slice ac ab.length ae), rfl, S.mem.sel [] [0] (by decide) rfl rfl⟩))
 refine sCondF S rfl ag ?_
 refine wp_skip (leafT (aq _ _ ?_))
 refine sSeq (fun aw aj => sRegion (sLit0 (α := api_Stitch) r_api_Stitch (T := 61) S (wN rfl) rfl Try.underlying62 rfl rfl (lb rfl) fun a w ak al S => ?_))
 refine sField (b := b6) (off := 0) 1 1 S (wN rfl) rfl rfl rfl rfl rfl (lb rfl) fun a S => ?_
 refine sLoad1 1 (.slice a0 p0.Cells.length a8) S (wN rfl) rfl rfl rfl rfl rfl rfl (lb rfl) fun a S => ?_
 obtain ⟨af, am, h⟩ := bS h
 refine sApp (r := r_api_Stitch) (T := 61) (xs := ([] : List api_Stitch)) (ys := p0.Cells) (v := .slice ak ([] : List api_Stitch).length al) (u := .slice a0 p0.Cells.length a8) 0 (.agg #[.int .u8 0, .bool false, iv 0, iv 0]) 24 S (wN rfl) rfl Try.underlying62 rfl rfl (by decide) rfl rfl rfl (src_D 0 S.mem rfl) am rfl (lb rfl) fun a w a9 aa S => ?_
 refine sN S fun a S => ?_
 refine lT (aj _ _ ?_)
 obtain rfl := tS h
 have S := S.shutR (r := r_api_Stitch) (T := 61) (v := .slice a9 af.length aa) (xs := af) 0 rfl
 exact wp_ret (sRet (.slice a9 af.length aa) S (rsl1 rfl (rvT (t := 2) (v := .slice a9 af.length aa) S rfl)) ⟨(.slice a9 af.length aa), rfl, S.mem.sel [] [0] (by decide) rfl rfl⟩)
theorem loop_sq {S τ : Type} {B : S → Option (S ⊕ τ)} {s0 : S} (c : Nat → S) (n : Nat) {t : τ} (h0 : s0 = c 0) (h : ∀ k, k < n → B (c k) = some (.inl (c (k + 1)))) (hn : B (c n) = some (.inr t)) : whileO B s0 = some t := by
 subst h0; exact loop_seq c n h hn
theorem take_snoc {α : Type} (l : List α) {k : Nat} (h : k < l.length) : l.take (k + 1) = l.take k ++ [l[k]] := List.take_succ_eq_append_getElem h
theorem add_eq (p : loops_piece) (l : api_Loop) (ps : List (List Int)) (h : p.loops.length + ps.length ≤ 1000000) : F_loops_piece_add_s1 p l ps = some ⟨p.loops ++ ps.map (fun q => ⟨l.Row, l.Cell, q, l.Purl⟩), p.rows, p.bound, p.cross, p.next⟩ := by
 have key : whileO (loops_piece_add_s1_l1 ps l) (0, p.loops, l.Parents) = some (p.loops ++ ps.map (fun q => (⟨l.Row, l.Cell, q, l.Purl⟩ : api_Loop))) := by
  refine loop_sq (fun k => ((k : Int), p.loops ++ (ps.take k).map (fun q => (⟨l.Row, l.Cell, q, l.Purl⟩ : api_Loop)), if k = 0 then l.Parents else ps.getD (k - 1) [])) ps.length (by simp) ?_ ?_
  ·intro k hk
   unfold loops_piece_add_s1_l1
   simp only [dT (show (k : Int) < (ps.length : Int) by omega), if_true, idxO_nat hk, Option.bind_some, w64_succ (show k < 9223372036854775807 by omega)]
   have e3 : (if k + 1 = 0 then l.Parents else ps.getD (k + 1 - 1) []) = ps[k] := by simp [List.getD_eq_getElem?_getD, List.getElem?_eq_getElem hk]
   rw [appO_of (by simp; omega), Option.bind_some, take_snoc _ hk, e3, List.map_append, List.append_assoc]; rfl
  ·unfold loops_piece_add_s1_l1
   simp only [dF (show ¬ (ps.length : Int) < (ps.length : Int) by omega), Bool.false_eq_true, if_false, List.take_length]
 unfold F_loops_piece_add_s1
 rw [key]; rfl
theorem set_ups (u k : Nat) {i : Nat} (hi : i < k) : (ups u i ++ List.replicate (k - i) (0 : Int)).set i ((u + i : Nat) : Int) = ups u (i + 1) ++ List.replicate (k - (i + 1)) 0 := by
 obtain ⟨m, hm⟩ : ∃ m, k - i = m + 1 := ⟨k - i - 1, by omega⟩
 rw [hm, List.replicate_succ, List.set_append_right _ _ (by rw [ups_len]; exact Nat.le_refl _), ups_len, Nat.sub_self, List.set_cons_zero, ups_succ, List.append_assoc, show k - (i + 1) = m by omega]
 rfl
theorem take_eq {p : loops_piece} {u k : Nat} (hu : p.next = (u : Int)) (hb : u + k ≤ 1000000) : F_loops_piece_take_s3 p (k : Int) = some (ups u k, ⟨p.loops, p.rows, p.bound, p.cross, ((u + k : Nat) : Int)⟩) := by
 have key : whileO (loops_piece_take_s3_l1 (List.replicate k 0) p) (List.replicate k 0, 0) = some (ups u k) := by
  refine loop_sq (fun i => (ups u i ++ List.replicate (k - i) (0 : Int), (i : Int))) k (by simp [ups]) ?_ ?_
  ·intro i hi
   unfold loops_piece_take_s3_l1
   have hlen : (ups u i ++ List.replicate (k - i) (0 : Int)).length = k := by simp [ups_len]; omega
   simp only [dT (show (i : Int) < ((List.replicate k (0 : Int)).length : Int) by rw [List.length_replicate]; omega), if_true]
   rw [idxO_nat (by rw [hlen]; exact hi), Option.bind_some, hu, show w64 ((u : Int) + (i : Int)) = ((u + i : Nat) : Int) by rw [w64_of (by omega) (by omega)]; omega, setO_nat (by rw [hlen]; exact hi), Option.bind_some, set_ups u k hi, w64_succ (by omega)]
  ·unfold loops_piece_take_s3_l1
   simp only [dF (show ¬ (k : Int) < ((List.replicate k (0 : Int)).length : Int) by rw [List.length_replicate]; omega), Bool.false_eq_true, if_false, Nat.sub_self, List.replicate_zero, List.append_nil]
 unfold F_loops_piece_take_s3
 rw [makeO_of rfl (by omega), Option.bind_some, key, hu, show w64 ((u : Int) + (k : Int)) = ((u + k : Nat) : Int) by rw [w64_of (by omega) (by omega)]; omega]
 rfl
theorem uses_one {p : api_Stitch} (hp : okS p) : F_stitch_Uses [p] = some (usedS p, 0) := by
 have hb := okS_bd hp
 have h0 : allS [p] = 0 := by
  have h1 := usedS_bd hp
  have h2 := madeS_bd hp
  have ho : allOk [p] := fun q hq => by simp at hq; subst hq; exact hp
  unfold allS
  rw [if_neg (by simp), if_pos ho, if_neg (by simp [sm]; omega)]
 rw [uses_eq (l := [p]) (fun q hq => by simp at hq; subst hq; unfold wfS; omega), if_pos h0]
 simp [sm]
theorem concat_eq (x y : List Int) (h : x.length + y.length ≤ 1000000) : F_slices_Concat___int_int_ [x, y] = some (x ++ y) := by
 have k1 : whileO (slices_Concat___int_int__l1 [x, y]) (0, 0) = some (((x.length + y.length : Nat) : Int)) := by
  rw [whileO_step (s' := (((x.length : Nat) : Int), ((0 + 1 : Nat) : Int))), whileO_step (s' := (((x.length + y.length : Nat) : Int), ((1 + 1 : Nat) : Int))), whileO_done]
  ·unfold slices_Concat___int_int__l1; simp
  ·unfold slices_Concat___int_int__l1
   dsimp only
   rw [dT (show ((0 + 1 : Nat) : Int) < (([x, y] : List (List Int)).length : Int) by simp), if_pos rfl, idxO_nat (show 0 + 1 < ([x, y] : List (List Int)).length by simp), Option.bind_some]
   simp only [List.getElem_cons_succ, List.getElem_cons_zero]
   simp only [show w64 ((x.length : Int) + (y.length : Int)) = ((x.length + y.length : Nat) : Int) by rw [w64_of (by omega) (by omega)]; omega, dF (show ¬ ((x.length + y.length : Nat) : Int) < 0 by omega), w64_succ (show 0 + 1 < 9223372036854775807 by omega), Bool.false_eq_true, if_false]
  ·unfold slices_Concat___int_int__l1
   dsimp only
   rw [dT (show (0 : Int) < (([x, y] : List (List Int)).length : Int) by simp), if_pos rfl, show (0 : Int) = ((0 : Nat) : Int) from rfl, idxO_nat (show 0 < ([x, y] : List (List Int)).length by simp), Option.bind_some]
   simp only [List.getElem_cons_zero]
   simp only [show w64 (((0 : Nat) : Int) + (x.length : Int)) = ((x.length : Nat) : Int) by rw [w64_of (by omega) (by omega)]; omega, dF (show ¬ ((x.length : Nat) : Int) < ((0 : Nat) : Int) by omega), w64_succ (show 0 < 9223372036854775807 by omega), Bool.false_eq_true, if_false]
 have k2 : F_slices_Grow___int_int__s1 ((x.length + y.length : Nat) : Int) = some [] := by
  unfold F_slices_Grow___int_int__s1
  rw [dF (by omega), show w64 (((x.length + y.length : Nat) : Int) - w64 ((0 : Int) - 0)) = ((x.length + y.length : Nat) : Int) by rw [show w64 ((0 : Int) - 0) = 0 from rfl, w64_of (by omega) (by omega)]; omega]
  by_cases h0 : (0 : Int) < ((x.length + y.length : Nat) : Int)
  ·rw [dT h0]
   simp only [Bool.false_eq_true, if_false, if_true]
   rw [show appZ ((x.length + y.length : Nat) : Int) (0 : Int) = some (List.replicate (x.length + y.length) 0) by unfold appZ lim; rw [if_pos (by omega)]; rfl, Option.bind_some, sliceO_of (lo := 0) (hi := 0) (l := 0) (k := 0) rfl rfl (Nat.le_refl _) (Nat.zero_le _)]; rfl
  ·rw [dF h0]; rfl
 have k3 : whileO (slices_Concat___int_int__l2 [x, y]) (([] : List Int), 0) = some (x ++ y) := by
  rw [whileO_step (s' := (x, ((0 + 1 : Nat) : Int))), whileO_step (s' := (x ++ y, ((1 + 1 : Nat) : Int))), whileO_done]
  ·unfold slices_Concat___int_int__l2; simp
  ·unfold slices_Concat___int_int__l2
   dsimp only
   rw [dT (show ((0 + 1 : Nat) : Int) < (([x, y] : List (List Int)).length : Int) by simp), if_pos rfl, idxO_nat (show 0 + 1 < ([x, y] : List (List Int)).length by simp), Option.bind_some]
   simp only [List.getElem_cons_succ, List.getElem_cons_zero]
   rw [appO_of (by omega), Option.bind_some, w64_succ (by omega)]
  ·unfold slices_Concat___int_int__l2
   dsimp only
   rw [dT (show (0 : Int) < (([x, y] : List (List Int)).length : Int) by simp), if_pos rfl, show (0 : Int) = ((0 : Nat) : Int) from rfl, idxO_nat (show 0 < ([x, y] : List (List Int)).length by simp), Option.bind_some]
   simp only [List.getElem_cons_zero]
   rw [appO_of (by simp; omega), Option.bind_some, w64_succ (by omega)]; rfl
 unfold F_slices_Concat___int_int_
 rw [k1, Option.bind_some, Option.bind_some, k2, Option.bind_some, k3]; rfl
theorem rev2_eq (a b : Int) : F_slices_Reverse___int_int__s1 (a, b) = some (b, a) := by
 have h1 : w64 (((2 : Nat) : Int) - 1) = 1 := rfl
 have i1 : idxO ([a, b] : List Int) 1 = some b := idxO_nat (k := 1) (by simp)
 have i0 : idxO ([a, b] : List Int) 0 = some a := idxO_nat (k := 0) (by simp)
 have i2 : idxO ([b, b] : List Int) 1 = some b := idxO_nat (k := 1) (by simp)
 have key : whileO slices_Reverse___int_int__s1_l1 (0, 1, a, b) = some (b, a) := by
  rw [whileO_step (s' := (1, 0, b, a)), whileO_done]
  ·unfold slices_Reverse___int_int__s1_l1; simp
  ·unfold slices_Reverse___int_int__s1_l1
   simp [i0, i1, i2]
   decide
 unfold F_slices_Reverse___int_int__s1
 rw [h1, key]; rfl
def rv (l : List Int) (i : Nat) : List Int := (List.range l.length).map fun k => if k < i ∨ l.length - 1 - i < k then l.getD (l.length - 1 - k) 0 else l.getD k 0
theorem rv_len (l : List Int) (i : Nat) : (rv l i).length = l.length := by simp [rv]
theorem rv_get {l : List Int} {i k : Nat} (h : k < (rv l i).length) : (rv l i)[k] = if k < i ∨ l.length - 1 - i < k then l.getD (l.length - 1 - k) 0 else l.getD k 0 := by simp [rv]
theorem rv_step {l : List Int} {i : Nat} (hi : 2 * i + 1 < l.length) : ((rv l i).set i (l.getD (l.length - 1 - i) 0)).set (l.length - 1 - i) (l.getD i 0) = rv l (i + 1) := by
 apply List.ext_getElem (by simp [rv])
 intro k h1 h2
 rw [rv_len] at h2
 rw [List.getElem_set, List.getElem_set, rv_get, rv_get]
 by_cases e1 : l.length - 1 - i = k
 ·rw [if_pos e1, if_pos (.inr (by omega)), show l.length - 1 - k = i by omega]
 ·rw [if_neg e1]
  by_cases e2 : i = k
  ·rw [if_pos e2, if_pos (.inl (by omega)), show l.length - 1 - k = l.length - 1 - i by omega]
  ·rw [if_neg e2]
   by_cases e3 : k < i ∨ l.length - 1 - i < k
   ·rw [if_pos e3, if_pos (by omega)]
   ·rw [if_neg e3, if_neg (by omega)]
theorem rv_zero (l : List Int) : rv l 0 = l := by
 apply List.ext_getElem (rv_len l 0)
 intro k h1 h2
 rw [rv_get, if_neg (by omega)]
 simp [h2]
theorem rv_end (l : List Int) : rv l (l.length / 2) = l.reverse := by
 apply List.ext_getElem (by simp [rv])
 intro k h1 h2
 rw [rv_len] at h1
 rw [rv_get, List.getElem_reverse]
 by_cases e : k < l.length / 2 ∨ l.length - 1 - l.length / 2 < k
 ·rw [if_pos e]
  simp [List.getD_eq_getElem?_getD, List.getElem?_eq_getElem (show l.length - 1 - k < l.length by omega)]
 ·rw [if_neg e]
  have e2 : l.length - 1 - k = k := by omega
  simp [List.getD_eq_getElem?_getD, List.getElem?_eq_getElem h1, e2]
theorem reverse_eq (l : List Int) (h : l.length ≤ 1000000) : F_slices_Reverse___int_int__s0 l = some l.reverse := by
 have key : whileO slices_Reverse___int_int__s0_l1 (l, 0, w64 ((l.length : Int) - 1)) = some l.reverse := by
  rw [← rv_end l]
  refine loop_sq (fun i => (rv l i, (i : Int), (l.length : Int) - 1 - (i : Int))) (l.length / 2) (by show (l, (0 : Int), w64 ((l.length : Int) - 1)) = (rv l 0, ((0 : Nat) : Int), (l.length : Int) - 1 - ((0 : Nat) : Int)); rw [rv_zero, w64_of (by omega) (by omega)]; simp) ?_ ?_
  ·intro i hi
   unfold slices_Reverse___int_int__s0_l1
   have hj : (l.length : Int) - 1 - (i : Int) = ((l.length - 1 - i : Nat) : Int) := by omega
   simp only [dT (show (i : Int) < (l.length : Int) - 1 - (i : Int) by omega), if_true]
   rw [idxO_of hj (by rw [rv_len]; omega), Option.bind_some, idxO_nat (by rw [rv_len]; omega), Option.bind_some, rv_get, rv_get, if_neg (by omega), if_neg (by omega), setO_nat (by rw [rv_len]; omega), Option.bind_some, hj,
    idxO_nat (by rw [List.length_set, rv_len]; omega), Option.bind_some, setO_nat (by rw [List.length_set, rv_len]; omega), Option.bind_some, rv_step (by omega), w64_succ (by omega), w64_of (by omega) (by omega)]
   congr 3
   simp only [Prod.mk.injEq, true_and]
   omega
  ·unfold slices_Reverse___int_int__s0_l1
   simp only [dF (show ¬ ((l.length / 2 : Nat) : Int) < (l.length : Int) - 1 - ((l.length / 2 : Nat) : Int) by omega), Bool.false_eq_true, if_false]
 unfold F_slices_Reverse___int_int__s0
 rw [key, Option.bind_some]
 simp [keepO]
def crow (k : Int) (n a c i : Nat) (m : Nat) : List (Int × Int) := (List.range m).map fun j => if k = 7 then (((n + j : Nat) : Int), ((n + c + i : Nat) : Int)) else (((n + c + i : Nat) : Int), ((n + j : Nat) : Int))
theorem crow_succ (k : Int) (n a c i m : Nat) : crow k n a c i (m + 1) = crow k n a c i m ++ [if k = 7 then (((n + m : Nat) : Int), ((n + c + i : Nat) : Int)) else (((n + c + i : Nat) : Int), ((n + m : Nat) : Int))] := by simp [crow, List.range_succ]
theorem crow_len (k : Int) (n a c i m : Nat) : (crow k n a c i m).length = m := by simp [crow]
theorem cable_eq {p : loops_piece} {l : api_Loop} {k : Int} {b : Bool} {a c u : Nat} (hk : k = 6 ∨ k = 7) (ha : a ≤ 6) (hc : c ≤ 6) (hl : p.loops.length ≤ 100000) (hx : p.cross.length ≤ 900000) :
 F_loops_piece_cable_s1 p l ⟨k, b, (a : Int), (c : Int)⟩ (ups u (a + c)) = some ⟨p.loops ++ (pars ⟨k, b, (a : Int), (c : Int)⟩ u).map (fun q => ⟨l.Row, l.Cell, q, l.Purl⟩), p.rows, p.bound, p.cross ++ crs ⟨k, b, (a : Int), (c : Int)⟩ p.loops.length, p.next⟩ := by
 have e : pars ⟨k, b, (a : Int), (c : Int)⟩ u = ((ups u (a + c)).drop a ++ (ups u (a + c)).take a).map fun x => [x] := by rcases hk with rfl | rfl <;> simp [pars]
 generalize hr : (ups u (a + c)).drop a ++ (ups u (a + c)).take a = r at e
 have hrl : r.length = a + c := by rw [← hr, List.length_append, List.length_drop, List.length_take, ups_len]; omega
 have k1 : whileO (loops_piece_cable_s1_l1 r l) (0, p.loops, p.rows, p.bound, p.cross, p.next) = some (p.loops ++ (r.map fun x => [x]).map (fun q => (⟨l.Row, l.Cell, q, l.Purl⟩ : api_Loop)), p.rows, p.bound, p.cross, p.next) := by
  refine loop_sq (fun i => ((i : Int), p.loops ++ ((r.take i).map fun x => [x]).map (fun q => (⟨l.Row, l.Cell, q, l.Purl⟩ : api_Loop)), p.rows, p.bound, p.cross, p.next)) r.length (by simp) ?_ ?_
  ·intro i hi
   unfold loops_piece_cable_s1_l1
   simp only [dT (show (i : Int) < (r.length : Int) by omega), if_true]
   rw [idxO_nat hi, Option.bind_some, add_eq _ _ _ (by simp; omega), Option.bind_some, w64_succ (by omega), take_snoc _ hi, List.map_append, List.map_append, List.append_assoc]
   rfl
  ·unfold loops_piece_cable_s1_l1
   simp only [dF (show ¬ (r.length : Int) < (r.length : Int) by omega), Bool.false_eq_true, if_false, List.take_length]
 generalize hn : p.loops.length = n at *
 have k2 : ∀ (i : Nat) (X : List (Int × Int)), i < a → X.length ≤ 950000 → whileO (loops_piece_cable_s1_l2 ⟨k, b, (a : Int), (c : Int)⟩ p (i : Int)) (0, X) = some (X ++ crow k n a c i c) := by
  intro i X hi hX
  refine loop_sq (fun j => ((j : Int), X ++ crow k n a c i j)) c (by simp [crow]) ?_ ?_
  ·intro j hj
   unfold loops_piece_cable_s1_l2
   rw [hn]
   simp only [dT (show (j : Int) < (c : Int) by omega), if_true]
   rw [show w64 ((n : Int) + (c : Int)) = ((n + c : Nat) : Int) by rw [w64_of (by omega) (by omega)]; omega, show w64 (((n + c : Nat) : Int) + (i : Int)) = ((n + c + i : Nat) : Int) by rw [w64_of (by omega) (by omega)]; omega, show w64 ((n : Int) + (j : Int)) = ((n + j : Nat) : Int) by rw [w64_of (by omega) (by omega)]; omega, rev2_eq, crow_succ, w64_succ (by omega)]
   rcases hk with rfl | rfl
   ·simp only [show ((6 : Int) == 7) = false from rfl, show ((6 : Int) = 7) = False by simp, Bool.false_eq_true, if_false, Option.bind_some]
    rw [appO_of (by simp [crow_len]; omega), Option.bind_some, List.append_assoc]
   ·simp only [show ((7 : Int) == 7) = true from rfl, if_true, Option.bind_some]
    rw [appO_of (by simp [crow_len]; omega), Option.bind_some, List.append_assoc]
  ·unfold loops_piece_cable_s1_l2
   simp only [dF (show ¬ (c : Int) < (c : Int) by omega), Bool.false_eq_true, if_false]
 have hlen : ∀ i, i ≤ a → ((List.range i).map fun x => crow k n a c x c).flatten.length = i * c := by
  intro i _
  induction i with
  | zero => simp
  | succ i ih => rw [List.range_succ, List.map_append, List.flatten_append, List.length_append, ih (by omega)]; simp [crow_len, Nat.add_mul]
 have k3 : whileO (loops_piece_cable_s1_l3 ⟨k, b, (a : Int), (c : Int)⟩ p) (0, p.cross) = some (p.cross ++ ((List.range a).map fun x => crow k n a c x c).flatten) := by
  refine loop_sq (fun i => ((i : Int), p.cross ++ ((List.range i).map fun x => crow k n a c x c).flatten)) a (by simp) ?_ ?_
  ·intro i hi
   have hm : i * c ≤ 6 * 6 := Nat.mul_le_mul (by omega) hc
   unfold loops_piece_cable_s1_l3
   simp only [dT (show (i : Int) < (a : Int) by omega), if_true]
   rw [k2 i _ hi (by rw [List.length_append, hlen i (by omega)]; omega), List.range_succ, w64_succ (by omega)]
   simp
  ·unfold loops_piece_cable_s1_l3
   simp only [dF (show ¬ (a : Int) < (a : Int) by omega), Bool.false_eq_true, if_false]
 have e2 : crs ⟨k, b, (a : Int), (c : Int)⟩ n = ((List.range a).map fun x => crow k n a c x c).flatten := by simp [crs, hk, crow]
 unfold F_loops_piece_cable_s1
 have hul : (ups u (a + c)).length = a + c := ups_len _ _
 rw [sliceO_of (l := a) (k := a + c) rfl (by rw [hul]) (by omega) (by omega), Option.bind_some, sliceO_of (lo := 0) (l := 0) (k := a) rfl rfl (Nat.zero_le _) (by omega), Option.bind_some]
 rw [List.take_of_length_le (show (ups u (a + c)).length ≤ a + c by omega), List.drop_zero, concat_eq _ _ (by simp [ups_len]; omega), Option.bind_some, hr, k1]
 simp only [Option.bind_some]
 rw [k3, e, e2]
 rfl
theorem work_eq {p : loops_piece} {s : api_Stitch} (R K u : Nat) (h : okS s) (hu : p.next = (u : Int)) (hl : p.loops.length ≤ 100000) (hb : p.bound.length ≤ 100000) (hx : p.cross.length ≤ 900000) (hul : u + uN s ≤ p.loops.length) :
 F_loops_piece_work_s1 p (R : Int) (K : Int) s = some ⟨p.loops ++ mkL R K (side p.loops s u) (pars s u), p.rows, p.bound ++ offB s u, p.cross ++ crs s p.loops.length, ((u + uN s : Nat) : Int)⟩ := by
 have hub := usedS_bd h
 have ht : F_loops_piece_take_s3 p (usedS s) = some (ups u (uN s), ⟨p.loops, p.rows, p.bound, p.cross, ((u + uN s : Nat) : Int)⟩) := by
  rw [show usedS s = ((uN s : Nat) : Int) by unfold uN; omega]
  exact take_eq hu (by omega)
 unfold F_loops_piece_work_s1
 rw [uses_one h, Option.bind_some, ht, Option.bind_some]
 have clone1 : F_slices_Clone___int_int__s0 (ups u 1) = some (ups u 1) := by
  unfold F_slices_Clone___int_int__s0
  rw [appO_of (by simp [ups_len]), Option.bind_some]; rfl
 rcases knd h with ⟨b, rfl⟩ | ⟨b, rfl⟩ | rfl | ⟨b, a, h1, h2, rfl⟩ | ⟨b, a, h1, h2, rfl⟩ | ⟨b, a, h1, h2, rfl⟩ | ⟨k, b, a, c, hk, h1, h2, h3, h4, rfl⟩ | ⟨a, h1, h2, rfl⟩ | ⟨b, a, h1, h2, rfl⟩
 ·have e : uN ⟨1, b, 0, 0⟩ = 1 := by simp [uN, usedS]
  rw [e]
  simp only [show ((1 : Int) == 2) = false from rfl, show ((1 : Int) == 9) = false from rfl, show ((1 : Int) == 1) = true from rfl, Bool.false_eq_true, if_false, if_true, Option.bind_some]
  rw [add_eq _ _ _ (by simp; omega), Option.bind_some]
  simp [mkL, pars, offB, crs, side, ups]
 ·have e : uN ⟨8, b, 0, 0⟩ = 1 := by simp [uN, usedS]
  rw [e] at hul ⊢
  have hlt : u < p.loops.length := by omega
  simp only [show ((8 : Int) == 2) = false from rfl, show ((8 : Int) == 9) = false from rfl, show ((8 : Int) == 1) = false from rfl, show ((8 : Int) == 8) = true from rfl, Bool.false_eq_true, if_false, if_true, Option.bind_some]
  rw [show idxO (ups u 1) 0 = some ((u : Nat) : Int) from rfl, Option.bind_some, idxO_nat hlt, Option.bind_some, add_eq _ _ _ (by simp; omega), Option.bind_some]
  simp [mkL, pars, offB, crs, side, ups, List.getElem?_eq_getElem hlt]
 ·have e : uN ⟨2, false, 0, 0⟩ = 0 := by simp [uN, usedS]
  rw [e]
  simp only [show ((2 : Int) == 2) = true from rfl, if_true, Option.bind_some, show ¬ ((1 : Int) < 0) by omega, if_false]
  rw [makeO_of (n := 1) (k := 1) rfl (by omega), Option.bind_some, add_eq _ _ _ (by simp; omega), Option.bind_some]
  simp [mkL, pars, offB, crs, side]
 ·have e : uN ⟨3, b, (a : Int), 0⟩ = a := by simp [uN, usedS]
  rw [e]
  simp only [show ((3 : Int) == 2) = false from rfl, show ((3 : Int) == 9) = false from rfl, show ((3 : Int) == 1) = false from rfl, show ((3 : Int) == 8) = false from rfl, show ((3 : Int) == 4) = false from rfl, show ((3 : Int) == 3) = true from rfl, Bool.false_eq_true, if_false, if_true, Option.bind_some]
  rw [add_eq _ _ _ (by simp; omega), Option.bind_some]
  simp [mkL, pars, offB, crs, side]
 ·have e : uN ⟨4, b, (a : Int), 0⟩ = a := by simp [uN, usedS]
  rw [e]
  simp only [show ((4 : Int) == 2) = false from rfl, show ((4 : Int) == 9) = false from rfl, show ((4 : Int) == 1) = false from rfl, show ((4 : Int) == 8) = false from rfl, show ((4 : Int) == 4) = true from rfl, Bool.false_eq_true, if_false, if_true, Option.bind_some]
  rw [reverse_eq _ (by rw [ups_len]; omega), Option.bind_some, add_eq _ _ _ (by simp; omega), Option.bind_some]
  simp [mkL, pars, offB, crs, side]
 ·have e : uN ⟨5, b, (a : Int), 0⟩ = 1 := by simp [uN, usedS]
  rw [e]
  simp only [show ((5 : Int) == 2) = false from rfl, show ((5 : Int) == 9) = false from rfl, show ((5 : Int) == 1) = false from rfl, show ((5 : Int) == 8) = false from rfl, show ((5 : Int) == 4) = false from rfl, show ((5 : Int) == 3) = false from rfl, show ((5 : Int) == 5) = true from rfl, Bool.false_eq_true, if_false, if_true, Option.bind_some]
  have key : whileO (loops_piece_work_s1_l1 ⟨5, b, (a : Int), 0⟩ (ups u 1, ⟨p.loops, p.rows, p.bound, p.cross, ((u + 1 : Nat) : Int)⟩) (R : Int) (K : Int)) (0, p.loops, p.rows, p.bound, p.cross, ((u + 1 : Nat) : Int)) = some (p.loops ++ List.replicate a ⟨(R : Int), (K : Int), ups u 1, b⟩, p.rows, p.bound, p.cross, ((u + 1 : Nat) : Int)) := by
   refine loop_sq (fun i => ((i : Int), p.loops ++ List.replicate i (⟨(R : Int), (K : Int), ups u 1, b⟩ : api_Loop), p.rows, p.bound, p.cross, ((u + 1 : Nat) : Int))) a (by simp) ?_ ?_
   ·intro i hi
    unfold loops_piece_work_s1_l1
    simp only [dT (show (i : Int) < (a : Int) by omega), if_true]
    rw [clone1, Option.bind_some, add_eq _ _ _ (by simp; omega), Option.bind_some, w64_succ (by omega), List.replicate_succ']
    simp
   ·unfold loops_piece_work_s1_l1
    simp only [dF (show ¬ (a : Int) < (a : Int) by omega), Bool.false_eq_true, if_false]
  rw [key]
  simp [mkL, pars, offB, crs, side, ups]
 ·have e : uN ⟨k, b, (a : Int), (c : Int)⟩ = a + c := by rcases hk with rfl | rfl <;> simp [uN, usedS] <;> omega
  rw [e]
  have ht : ∀ q : Int, q ≠ 6 → q ≠ 7 → (k == q) = false := by intro q h6 h7; rcases hk with rfl | rfl <;> simp <;> omega
  simp only [ht 2 (by omega) (by omega), ht 9 (by omega) (by omega), ht 1 (by omega) (by omega), ht 8 (by omega) (by omega), ht 4 (by omega) (by omega), ht 3 (by omega) (by omega), ht 5 (by omega) (by omega), ht 10 (by omega) (by omega), Bool.false_eq_true, if_false, Option.bind_some]
  rw [cable_eq hk h2 h4 (by simpa using hl) (by simpa using hx), Option.bind_some]
  have e1 : offB ⟨k, b, (a : Int), (c : Int)⟩ u = [] := by rcases hk with rfl | rfl <;> simp [offB]
  have e2 : side p.loops ⟨k, b, (a : Int), (c : Int)⟩ u = b := by rcases hk with rfl | rfl <;> simp [side]
  rw [e1, e2, List.append_nil]
  rfl
 ·have e : uN ⟨9, false, (a : Int), 0⟩ = 0 := by simp [uN, usedS]
  rw [e]
  simp only [show ((9 : Int) == 2) = false from rfl, show ((9 : Int) == 9) = true from rfl, Bool.false_eq_true, if_false, if_true, Option.bind_some]
  rw [makeO_of (k := a) (by split <;> omega) (by omega), Option.bind_some, add_eq _ _ _ (by simp; omega), Option.bind_some]
  simp [mkL, pars, offB, crs, side]
 ·have e : uN ⟨10, b, (a : Int), 0⟩ = a := by simp [uN, usedS]
  rw [e]
  simp only [show ((10 : Int) == 2) = false from rfl, show ((10 : Int) == 9) = false from rfl, show ((10 : Int) == 1) = false from rfl, show ((10 : Int) == 8) = false from rfl, show ((10 : Int) == 4) = false from rfl, show ((10 : Int) == 3) = false from rfl, show ((10 : Int) == 5) = false from rfl, show ((10 : Int) == 10) = true from rfl, Bool.false_eq_true, if_false, if_true, Option.bind_some]
  rw [appO_of (by simp [ups_len]; omega), Option.bind_some]
  simp [mkL, pars, offB, crs, side]
def kidsP : Nat → List (List Int) → Int → List Nat
 | _, [], _ => []
 | o, p :: P, i => (if i ∈ p then [o] else []) ++ kidsP (o + 1) P i
theorem kidsP_append (i : Int) (Q : List (List Int)) : ∀ (P : List (List Int)) (o : Nat), kidsP o (P ++ Q) i = kidsP o P i ++ kidsP (o + P.length) Q i
 | [], o => by simp [kidsP]
 | p :: P, o => by
  simp only [List.cons_append, kidsP, List.length_cons]
  rw [kidsP_append i Q P (o + 1), List.append_assoc]
  congr 3; omega
theorem kidsP_none {i : Int} : ∀ (P : List (List Int)) (o : Nat), (∀ p, p ∈ P → i ∉ p) → kidsP o P i = []
 | [], o, _ => rfl
 | p :: P, o, h => by
  simp only [kidsP]
  rw [if_neg (h p (by simp)), kidsP_none P (o + 1) fun q hq => h q (by simp [hq])]; rfl
theorem kidsP_rep (u : Int) : ∀ (n o : Nat), kidsP o (List.replicate n [u]) u = List.range' o n
 | 0, o => rfl
 | n + 1, o => by
  simp only [List.replicate_succ, kidsP, List.mem_singleton, if_true]
  rw [kidsP_rep u n (o + 1), List.range'_succ]; rfl
theorem kidsP_single {i : Int} : ∀ (Q : List Int) (o : Nat), Q.Nodup → i ∈ Q → ∃ x, x < Q.length ∧ kidsP o (Q.map fun x => [x]) i = List.range' (o + x) 1
 | [], o, _, h => by simp at h
 | q :: Q, o, hn, h => by
  simp only [List.map_cons, kidsP]
  rw [List.nodup_cons] at hn
  by_cases e : i = q
  ·subst e
   refine ⟨0, by simp, ?_⟩
   rw [if_pos (by simp), kidsP_none _ _ (by
    intro p hp
    obtain ⟨y, hy, rfl⟩ := List.mem_map.1 hp
    intro hi
    simp at hi
    exact hn.1 (hi ▸ hy))]
   rfl
  ·obtain ⟨x, hx, hk⟩ := kidsP_single Q (o + 1) hn.2 (by simpa [e] using h)
   refine ⟨x + 1, by simp; omega, ?_⟩
   rw [if_neg (by simpa using e), hk]
   simp only [List.nil_append]
   congr 1; omega
theorem kids_new {s : api_Stitch} (h : okS s) (u o : Nat) {i : Int} (h0 : (u : Int) ≤ i) (h1 : i < ((u + uN s : Nat) : Int)) :
 (s.Kind = 10 ∧ i ∈ offB s u) ∨ (s.Kind ≠ 10 ∧ ∃ a m, 1 ≤ m ∧ a + m ≤ mN s ∧ kidsP o (pars s u) i = List.range' (o + a) m) := by
 have one : ∀ p : List Int, i ∈ p → kidsP o [p] i = List.range' (o + 0) 1 := fun p hp => by simp [kidsP, hp, List.range'_succ]
 rcases knd h with ⟨b, rfl⟩ | ⟨b, rfl⟩ | rfl | ⟨b, a, h2, h3, rfl⟩ | ⟨b, a, h2, h3, rfl⟩ | ⟨b, a, h2, h3, rfl⟩ | ⟨k, b, a, c, hk, h2, h3, h4, h5, rfl⟩ | ⟨a, h2, h3, rfl⟩ | ⟨b, a, h2, h3, rfl⟩
 ·have e : i = (u : Int) := by simp [uN, usedS] at h1; omega
  exact .inr ⟨by simp, 0, 1, by omega, by simp [mN, madeS], one _ (by simp [e])⟩
 ·have e : i = (u : Int) := by simp [uN, usedS] at h1; omega
  exact .inr ⟨by simp, 0, 1, by omega, by simp [mN, madeS], one _ (by simp [e])⟩
 ·simp [uN, usedS] at h1; omega
 ·refine .inr ⟨by simp, 0, 1, by omega, by simp [mN, madeS], ?_⟩
  have e : pars ⟨3, b, (a : Int), 0⟩ u = [ups u a] := by simp [pars]
  rw [e]; exact one _ (ups_mem.2 ⟨h0, by simpa [uN, usedS] using h1⟩)
 ·refine .inr ⟨by simp, 0, 1, by omega, by simp [mN, madeS], ?_⟩
  have e : pars ⟨4, b, (a : Int), 0⟩ u = [(ups u a).reverse] := by simp [pars]
  rw [e]; exact one _ (List.mem_reverse.2 (ups_mem.2 ⟨h0, by simpa [uN, usedS] using h1⟩))
 ·have e : i = (u : Int) := by simp [uN, usedS] at h1; omega
  refine .inr ⟨by simp, 0, a, by omega, by simp [mN, madeS], ?_⟩
  have e2 : pars ⟨5, b, (a : Int), 0⟩ u = List.replicate a [(u : Int)] := by simp [pars]
  rw [e2, e]; exact kidsP_rep _ _ _
 ·have e : pars ⟨k, b, (a : Int), (c : Int)⟩ u = ((ups u (a + c)).drop a ++ (ups u (a + c)).take a).map fun x => [x] := by rcases hk with rfl | rfl <;> simp [pars]
  have e2 : uN ⟨k, b, (a : Int), (c : Int)⟩ = a + c := by rcases hk with rfl | rfl <;> simp [uN, usedS] <;> omega
  have e3 : mN ⟨k, b, (a : Int), (c : Int)⟩ = a + c := by rcases hk with rfl | rfl <;> simp [mN, madeS] <;> omega
  have hp : ((ups u (a + c)).drop a ++ (ups u (a + c)).take a).Perm (ups u (a + c)) := List.perm_append_comm.trans (by rw [List.take_append_drop])
  rw [e2] at h1
  obtain ⟨x, hx, hx2⟩ := kidsP_single (i := i) _ o (hp.nodup_iff.2 (ups_nodup _ _)) (hp.mem_iff.2 (ups_mem.2 ⟨h0, h1⟩))
  rw [hp.length_eq, ups_len] at hx
  refine .inr ⟨by rcases hk with rfl | rfl <;> simp, x, 1, by omega, by rw [e3]; omega, ?_⟩
  rw [e]; exact hx2
 ·simp [uN, usedS] at h1; omega
 ·exact .inl ⟨rfl, by simp only [offB, if_true]; exact ups_mem.2 ⟨h0, by simpa [uN, usedS] using h1⟩⟩
theorem offB_mem {s : api_Stitch} (h : okS s) {u : Nat} {i : Int} (hi : i ∈ offB s u) : s.Kind = 10 ∧ (u : Int) ≤ i ∧ i < ((u + uN s : Nat) : Int) := by
 unfold offB at hi
 split at hi
 ·rename_i hk
  refine ⟨hk, ?_⟩
  have hb := okS_bd h
  have := ups_mem.1 hi
  have e : uN s = s.A.toNat := by simp [uN, usedS, hk]
  rw [e]; exact this
 ·simp at hi
def parL (L : List api_Loop) : List (List Int) := L.map fun l => l.Parents
def kidsL (L : List api_Loop) (i : Int) : List Nat := kidsP 0 (parL L) i
theorem parL_mk (R K : Nat) (pl : Bool) (ps : List (List Int)) : parL (mkL R K pl ps) = ps := by simp [parL, mkL, List.map_map, Function.comp_def]
theorem parL_app (L M : List api_Loop) : parL (L ++ M) = parL L ++ parL M := by simp [parL]
structure once (L : List api_Loop) (B : List Int) (u : Nat) : Prop where
 below : ∀ i : Int, 0 ≤ i → i < (u : Int) → (i ∈ B ∧ kidsL L i = []) ∨ (i ∉ B ∧ ∃ a m, 1 ≤ m ∧ a + m ≤ L.length ∧ kidsL L i = List.range' a m ∧ ∃ K, ∀ j, a ≤ j → j < a + m → ∃ l, L[j]? = some l ∧ l.Cell = K)
 above : ∀ i : Int, (u : Int) ≤ i → i ∉ B ∧ kidsL L i = []
 lo : ∀ i : Int, i < 0 → i ∉ B ∧ kidsL L i = []
theorem once.step {R K : Nat} {s : api_Stitch} {z : Wk} (hs : okS s) (h : once z.L z.B z.u) : once (stepW R K s z).L (stepW R K s z).B (stepW R K s z).u := by
 have hk : ∀ i, kidsL (stepW R K s z).L i = kidsL z.L i ++ kidsP z.L.length (pars s z.u) i := by
  intro i
  simp only [kidsL, stepW, parL_app, parL_mk, kidsP_append]
  congr 2; simp [parL]
 have hp := pars_bd hs z.u
 have hno : ∀ i : Int, i < (z.u : Int) ∨ ((z.u + uN s : Nat) : Int) ≤ i → kidsP z.L.length (pars s z.u) i = [] := by
  intro i hi
  refine kidsP_none _ _ fun p hp1 hm => ?_
  have := (hp p hp1).2 i hm
  omega
 have hnb : ∀ i : Int, i < (z.u : Int) ∨ ((z.u + uN s : Nat) : Int) ≤ i → i ∉ offB s z.u := by
  intro i hi hm
  have := offB_mem hs hm
  omega
 refine ⟨?_, ?_, ?_⟩
 ·intro i h0 h1
  rw [hk]
  simp only [stepW] at h1 ⊢
  by_cases hlt : i < (z.u : Int)
  ·rw [hno i (.inl hlt), List.append_nil]
   rcases h.below i h0 hlt with ⟨h2, h3⟩ | ⟨h2, a, m, h3, h4, h5, Kc, h6⟩
   ·exact .inl ⟨List.mem_append_left _ h2, h3⟩
   ·refine .inr ⟨fun hm => ?_, a, m, h3, by simp; omega, h5, Kc, fun j hj1 hj2 => ?_⟩
    ·rcases List.mem_append.1 hm with hm | hm
     ·exact h2 hm
     ·exact hnb i (.inl hlt) hm
    ·obtain ⟨l, hl, hc⟩ := h6 j hj1 hj2
     exact ⟨l, by rw [List.getElem?_append_left (by omega)]; exact hl, hc⟩
  ·obtain ⟨h2, h3⟩ := h.above i (by omega)
   rw [h3, List.nil_append]
   rcases kids_new hs z.u z.L.length (i := i) (by omega) h1 with ⟨hk10, hm⟩ | ⟨hk10, a, m, h4, h5, h6⟩
   ·refine .inl ⟨List.mem_append_right _ hm, ?_⟩
    have : pars s z.u = [] := by
     have e := pars_len hs z.u
     have e2 : mN s = 0 := by simp [mN, madeS, hk10]
     exact List.eq_nil_of_length_eq_zero (by omega)
    rw [this]; rfl
   ·refine .inr ⟨fun hm => ?_, z.L.length + a, m, h4, by simp [mkL_len, pars_len hs]; omega, h6, (K : Int), fun j hj1 hj2 => ?_⟩
    ·rcases List.mem_append.1 hm with hm | hm
     ·exact h2 hm
     ·exact hk10 (offB_mem hs hm).1
    ·have hj : j - z.L.length < (pars s z.u).length := by rw [pars_len hs]; omega
     refine ⟨⟨(R : Int), (K : Int), (pars s z.u)[j - z.L.length], side z.L s z.u⟩, ?_, rfl⟩
     rw [List.getElem?_append_right (by omega)]
     simp only [mkL, List.getElem?_map, List.getElem?_eq_getElem hj, Option.map_some]
 ·intro i hi
  simp only [stepW] at hi
  obtain ⟨h2, h3⟩ := h.above i (by omega)
  rw [hk, h3, hno i (.inr (by omega))]
  refine ⟨fun hm => ?_, rfl⟩
  simp only [stepW] at hm
  rcases List.mem_append.1 hm with hm | hm
  ·exact h2 hm
  ·exact hnb i (.inr (by omega)) hm
 ·intro i hi
  obtain ⟨h2, h3⟩ := h.lo i hi
  rw [hk, h3, hno i (.inl (by omega))]
  refine ⟨fun hm => ?_, rfl⟩
  simp only [stepW] at hm
  rcases List.mem_append.1 hm with hm | hm
  ·exact h2 hm
  ·exact hnb i (.inl (by omega)) hm
theorem once.start (S : Nat) : once (zeroL S) [] 0 := by
 have h : ∀ i : Int, kidsL (zeroL S) i = [] := by
  intro i
  refine kidsP_none _ _ fun p hp hm => ?_
  simp only [parL, zeroL, List.map_map, List.mem_map] at hp
  obtain ⟨_, _, rfl⟩ := hp
  simp at hm
 exact ⟨fun i h0 h1 => by omega, fun i _ => ⟨by simp, h i⟩, fun i _ => ⟨by simp, h i⟩⟩
def norm (p : Int × Int) : Int × Int := if p.1 ≤ p.2 then p else (p.2, p.1)
theorem pars_x {k : Int} {b : Bool} {a c u i : Nat} (hk : k = 6 ∨ k = 7) (hi : i < a + c) : (pars ⟨k, b, (a : Int), (c : Int)⟩ u)[i]? = some [((u + (if i < c then a + i else i - c) : Nat) : Int)] := by
 have e : pars ⟨k, b, (a : Int), (c : Int)⟩ u = ((ups u (a + c)).drop a ++ (ups u (a + c)).take a).map fun x => [x] := by rcases hk with rfl | rfl <;> simp [pars]
 have hd : ((ups u (a + c)).drop a).length = c := by rw [List.length_drop, ups_len]; omega
 rw [e, List.getElem?_map]
 by_cases h : i < c
 ·rw [List.getElem?_append_left (by rw [hd]; exact h), List.getElem?_drop, List.getElem?_eq_getElem (by rw [ups_len]; omega), ups_get, if_pos h]; rfl
 ·rw [List.getElem?_append_right (by rw [hd]; omega), hd, List.getElem?_take_of_lt (by omega), List.getElem?_eq_getElem (by rw [ups_len]; omega), ups_get, if_neg h]; rfl
def inv (L : List api_Loop) (a b : Nat) : Prop := a < b ∧ ∃ l k x y, L[a]? = some l ∧ L[b]? = some k ∧ l.Parents = [x] ∧ k.Parents = [y] ∧ y < x
theorem crs_x {k : Int} {b : Bool} {a c n : Nat} (hk : k = 6 ∨ k = 7) : (crs ⟨k, b, (a : Int), (c : Int)⟩ n).map norm = ((List.range a).map fun i => (List.range c).map fun j => (((n + j : Nat) : Int), ((n + c + i : Nat) : Int))).flatten := by
 have e : crs ⟨k, b, (a : Int), (c : Int)⟩ n = ((List.range a).map fun i => (List.range c).map fun j => if k = 7 then (((n + j : Nat) : Int), ((n + c + i : Nat) : Int)) else (((n + c + i : Nat) : Int), ((n + j : Nat) : Int))).flatten := by
  simp [crs, hk]
 rw [e, List.map_flatten, List.map_map]
 congr 1
 apply List.map_congr_left
 intro i _
 simp only [Function.comp, List.map_map]
 apply List.map_congr_left
 intro j hj
 have hj := List.mem_range.1 hj
 simp only [Function.comp, norm]
 rcases hk with rfl | rfl
 ·simp only [show ((6 : Int) = 7) = False by simp, if_false]; rw [if_neg (by omega)]
 ·simp only [if_true]; rw [if_pos (by omega)]
theorem crs_mem {k : Int} {b : Bool} {a c n : Nat} (hk : k = 6 ∨ k = 7) {q : Int × Int} : q ∈ (crs ⟨k, b, (a : Int), (c : Int)⟩ n).map norm ↔ ∃ i j : Nat, i < a ∧ j < c ∧ q = (((n + j : Nat) : Int), ((n + c + i : Nat) : Int)) := by
 rw [crs_x hk]
 simp only [List.mem_flatten, List.mem_map, List.mem_range]
 constructor
 ·rintro ⟨_, ⟨i, hi, rfl⟩, h⟩
  simp only [List.mem_map, List.mem_range] at h
  obtain ⟨j, hj, rfl⟩ := h
  exact ⟨i, j, hi, hj, rfl⟩
 ·rintro ⟨i, j, hi, hj, rfl⟩
  exact ⟨_, ⟨i, hi, rfl⟩, by simp only [List.mem_map, List.mem_range]; exact ⟨j, hj, rfl⟩⟩
theorem nodup_grid {α : Type} (f : Nat → Nat → α) (hf : ∀ i j i' j', f i j = f i' j' → i = i' ∧ j = j') (c : Nat) : ∀ a, ((List.range a).map fun i => (List.range c).map fun j => f i j).flatten.Nodup
 | 0 => by simp
 | a + 1 => by
  rw [List.range_succ, List.map_append, List.flatten_append, List.nodup_append]
  refine ⟨nodup_grid f hf c a, ?_, ?_⟩
  ·simp only [List.map_cons, List.map_nil, List.flatten_cons, List.flatten_nil, List.append_nil]
   rw [List.nodup_iff_pairwise_ne]
   refine List.pairwise_map.2 (List.Pairwise.imp ?_ (List.pairwise_lt_range (n := c)))
   intro x y h e
   have := (hf _ _ _ _ e).2; omega
  ·intro x hx y hy e
   subst e
   simp only [List.mem_flatten, List.mem_map, List.mem_range] at hx hy
   obtain ⟨_, ⟨i, hi, rfl⟩, hx⟩ := hx
   obtain ⟨_, ⟨i', hi', rfl⟩, hy⟩ := hy
   simp only [List.mem_map, List.mem_range] at hx hy
   obtain ⟨j, _, rfl⟩ := hx
   obtain ⟨j', _, e⟩ := hy
   simp at hi'
   have := (hf _ _ _ _ e).1; omega
theorem cross_new {s : api_Stitch} (h : okS s) (u n : Nat) : ((crs s n).map norm).Nodup ∧ ∀ a b : Nat, (((n + a : Nat) : Int), ((n + b : Nat) : Int)) ∈ (crs s n).map norm ↔ a < b ∧ ∃ x y, (pars s u)[a]? = some [x] ∧ (pars s u)[b]? = some [y] ∧ y < x := by
 have short : (pars s u).length ≤ 1 → crs s n = [] → ((crs s n).map norm).Nodup ∧ ∀ a b : Nat, (((n + a : Nat) : Int), ((n + b : Nat) : Int)) ∈ (crs s n).map norm ↔ a < b ∧ ∃ x y, (pars s u)[a]? = some [x] ∧ (pars s u)[b]? = some [y] ∧ y < x := by
  intro hl hc
  rw [hc]
  refine ⟨by simp, fun a b => ⟨fun h => by simp at h, ?_⟩⟩
  rintro ⟨hab, x, y, _, h2, _⟩
  have := (List.getElem?_eq_some_iff.1 h2).1
  omega
 have hl := pars_len h u
 rcases knd h with ⟨b, rfl⟩ | ⟨b, rfl⟩ | rfl | ⟨b, a, h2, h3, rfl⟩ | ⟨b, a, h2, h3, rfl⟩ | ⟨b, a, h2, h3, rfl⟩ | ⟨k, b, a, c, hk, h2, h3, h4, h5, rfl⟩ | ⟨a, h2, h3, rfl⟩ | ⟨b, a, h2, h3, rfl⟩
 ·exact short (by simp [pars]) (by simp [crs])
 ·exact short (by simp [pars]) (by simp [crs])
 ·exact short (by simp [pars]) (by simp [crs])
 ·exact short (by simp [pars]) (by simp [crs])
 ·exact short (by simp [pars]) (by simp [crs])
 ·have e : crs ⟨5, b, (a : Int), 0⟩ n = [] := by simp [crs]
  have e2 : pars ⟨5, b, (a : Int), 0⟩ u = List.replicate a [(u : Int)] := by simp [pars]
  rw [e, e2]
  refine ⟨by simp, fun i j => ⟨fun h => by simp at h, ?_⟩⟩
  rintro ⟨_, x, y, h5, h6, h7⟩
  rw [List.getElem?_replicate] at h5 h6
  split at h5
  ·split at h6
   ·simp at h5 h6; omega
   ·cases h6
  ·cases h5
 ·have e3 : mN ⟨k, b, (a : Int), (c : Int)⟩ = a + c := by rcases hk with rfl | rfl <;> simp [mN, madeS] <;> omega
  refine ⟨?_, fun i j => ?_⟩
  ·rw [crs_x hk]
   refine nodup_grid _ (fun i j i' j' e => ?_) c a
   simp only [Prod.mk.injEq] at e
   omega
  ·rw [crs_mem hk]
   constructor
   ·rintro ⟨p, q, hp, hq, e⟩
    simp only [Prod.mk.injEq] at e
    obtain ⟨rfl, rfl⟩ : i = q ∧ j = c + p := by omega
    refine ⟨by omega, _, _, pars_x hk (by omega), pars_x hk (by omega), ?_⟩
    rw [if_pos hq, if_neg (by omega)]
    omega
   ·rintro ⟨hij, x, y, h6, h7, h8⟩
    have l1 := (List.getElem?_eq_some_iff.1 h7).1
    rw [hl, e3] at l1
    rw [pars_x hk (by omega)] at h6 h7
    simp only [Option.some.injEq, List.cons.injEq, and_true] at h6 h7
    subst h6 h7
    by_cases c1 : i < c
    ·by_cases c2 : j < c
     ·rw [if_pos c1, if_pos c2] at h8; omega
     ·exact ⟨j - c, i, by omega, c1, by rw [Prod.mk.injEq]; exact ⟨rfl, by omega⟩⟩
    ·rw [if_neg c1, if_neg (show ¬ j < c by omega)] at h8; omega
 ·have e : crs ⟨9, false, (a : Int), 0⟩ n = [] := by simp [crs]
  have e2 : pars ⟨9, false, (a : Int), 0⟩ u = List.replicate a [] := by simp [pars]
  rw [e, e2]
  refine ⟨by simp, fun i j => ⟨fun h => by simp at h, ?_⟩⟩
  rintro ⟨_, x, y, h5, _⟩
  rw [List.getElem?_replicate] at h5
  split at h5 <;> simp at h5
 ·exact short (by simp [pars]) (by simp [crs])
theorem crs_ge {s : api_Stitch} (h : okS s) {n : Nat} {q : Int × Int} (hq : q ∈ (crs s n).map norm) : ∃ a b : Nat, q = (((n + a : Nat) : Int), ((n + b : Nat) : Int)) ∧ a < b ∧ b < mN s := by
 rcases knd h with ⟨b, rfl⟩ | ⟨b, rfl⟩ | rfl | ⟨b, a, h2, h3, rfl⟩ | ⟨b, a, h2, h3, rfl⟩ | ⟨b, a, h2, h3, rfl⟩ | ⟨k, b, a, c, hk, h2, h3, h4, h5, rfl⟩ | ⟨a, h2, h3, rfl⟩ | ⟨b, a, h2, h3, rfl⟩
 ·simp [crs] at hq
 ·simp [crs] at hq
 ·simp [crs] at hq
 ·simp [crs] at hq
 ·simp [crs] at hq
 ·simp [crs] at hq
 ·have e3 : mN ⟨k, b, (a : Int), (c : Int)⟩ = a + c := by rcases hk with rfl | rfl <;> simp [mN, madeS] <;> omega
  obtain ⟨i, j, hi, hj, rfl⟩ := (crs_mem hk).1 hq
  exact ⟨j, c + i, by rw [Prod.mk.injEq]; exact ⟨rfl, by omega⟩, by omega, by rw [e3]; omega⟩
 ·simp [crs] at hq
 ·simp [crs] at hq
structure cinv (L : List api_Loop) (C : List (Int × Int)) (u : Nat) : Prop where
 par : ∀ l, l ∈ L → ∀ p, p ∈ l.Parents → 0 ≤ p ∧ p < (u : Int)
 nd : (C.map norm).Nodup
 bd : ∀ q, q ∈ C.map norm → ∃ a b : Nat, q = ((a : Int), (b : Int)) ∧ a < b ∧ b < L.length
 iff : ∀ a b : Nat, (((a : Nat) : Int), ((b : Nat) : Int)) ∈ C.map norm ↔ inv L a b
 cell : ∀ a b l k, inv L a b → L[a]? = some l → L[b]? = some k → l.Cell = k.Cell
theorem cinv.step {R K : Nat} {s : api_Stitch} {z : Wk} (hs : okS s) (h : cinv z.L z.C z.u) : cinv (stepW R K s z).L (stepW R K s z).C (stepW R K s z).u := by
 have hp := pars_bd hs z.u
 have hl := pars_len hs z.u
 have hget : ∀ b l, z.L.length ≤ b → (stepW R K s z).L[b]? = some l → ∃ ps, (pars s z.u)[b - z.L.length]? = some ps ∧ l.Parents = ps ∧ l.Cell = (K : Int) := by
  intro b l hb hg
  simp only [stepW] at hg
  rw [List.getElem?_append_right hb] at hg
  simp only [mkL, List.getElem?_map, Option.map_eq_some_iff] at hg
  obtain ⟨ps, h1, rfl⟩ := hg
  exact ⟨ps, h1, rfl, rfl⟩
 have hold : ∀ b, b < z.L.length → (stepW R K s z).L[b]? = z.L[b]? := fun b hb => by simp only [stepW]; rw [List.getElem?_append_left hb]
 obtain ⟨hn1, hn2⟩ := cross_new hs z.u z.L.length
 have hinv : ∀ a b, inv (stepW R K s z).L a b ↔ inv z.L a b ∨ ∃ i j, a = z.L.length + i ∧ b = z.L.length + j ∧ i < j ∧ ∃ x y, (pars s z.u)[i]? = some [x] ∧ (pars s z.u)[j]? = some [y] ∧ y < x := by
  intro a b
  constructor
  ·rintro ⟨hab, l, k, x, y, h1, h2, h3, h4, h5⟩
   by_cases hb : b < z.L.length
   ·rw [hold a (by omega)] at h1
    rw [hold b hb] at h2
    exact .inl ⟨hab, l, k, x, y, h1, h2, h3, h4, h5⟩
   ·obtain ⟨pb, g1, g2, _⟩ := hget b k (by omega) h2
    by_cases ha : a < z.L.length
    ·rw [hold a ha] at h1
     have e1 := (h.par l (List.mem_of_getElem? h1) x (by rw [h3]; simp)).2
     have e2 := (hp pb (List.mem_of_getElem? g1)).2 y (by rw [← g2, h4]; simp)
     omega
    ·obtain ⟨pa, f1, f2, _⟩ := hget a l (by omega) h1
     refine .inr ⟨a - z.L.length, b - z.L.length, by omega, by omega, by omega, x, y, ?_, ?_, h5⟩
     ·rw [f1, ← f2, h3]
     ·rw [g1, ← g2, h4]
  ·rintro (⟨hab, l, k, x, y, h1, h2, h3, h4, h5⟩ | ⟨i, j, rfl, rfl, hij, x, y, h1, h2, h3⟩)
   ·exact ⟨hab, l, k, x, y, by rw [hold a (List.getElem?_eq_some_iff.1 h1).1]; exact h1, by rw [hold b (List.getElem?_eq_some_iff.1 h2).1]; exact h2, h3, h4, h5⟩
   ·refine ⟨by omega, ⟨R, K, [x], side z.L s z.u⟩, ⟨R, K, [y], side z.L s z.u⟩, x, y, ?_, ?_, rfl, rfl, h3⟩
    ·simp only [stepW]; rw [List.getElem?_append_right (by omega), Nat.add_sub_cancel_left]; simp only [mkL, List.getElem?_map, h1, Option.map_some]
    ·simp only [stepW]; rw [List.getElem?_append_right (by omega), Nat.add_sub_cancel_left]; simp only [mkL, List.getElem?_map, h2, Option.map_some]
 refine ⟨?_, ?_, ?_, ?_, ?_⟩
 ·intro l hm p hpm
  simp only [stepW] at hm ⊢
  rcases List.mem_append.1 hm with hm | hm
  ·have := h.par l hm p hpm; omega
  ·simp only [mkL, List.mem_map] at hm
   obtain ⟨ps, h1, rfl⟩ := hm
   have := (hp ps h1).2 p hpm; omega
 ·simp only [stepW, List.map_append]
  rw [List.nodup_append]
  refine ⟨h.nd, hn1, fun x hx y hy e => ?_⟩
  subst e
  obtain ⟨a, b, rfl, _, hb⟩ := h.bd x hx
  obtain ⟨i, j, e, _, _⟩ := crs_ge hs hy
  simp only [Prod.mk.injEq] at e
  omega
 ·intro q hq
  simp only [stepW, List.map_append, List.mem_append, List.length_append, mkL_len, hl] at hq ⊢
  rcases hq with hq | hq
  ·obtain ⟨a, b, rfl, h1, h2⟩ := h.bd q hq; exact ⟨a, b, rfl, h1, by omega⟩
  ·obtain ⟨a, b, rfl, h1, h2⟩ := crs_ge hs hq; exact ⟨_, _, rfl, by omega, by omega⟩
 ·intro a b
  rw [hinv]
  simp only [stepW, List.map_append, List.mem_append]
  rw [h.iff a b]
  constructor
  ·rintro (h1 | h1)
   ·exact .inl h1
   ·obtain ⟨i, j, e, _, _⟩ := crs_ge hs h1
    simp only [Prod.mk.injEq] at e
    obtain ⟨rfl, rfl⟩ : a = z.L.length + i ∧ b = z.L.length + j := by omega
    obtain ⟨hij, hx⟩ := (hn2 i j).1 h1
    exact .inr ⟨i, j, rfl, rfl, hij, hx⟩
  ·rintro (h1 | ⟨i, j, rfl, rfl, hij, hx⟩)
   ·exact .inl h1
   ·exact .inr ((hn2 i j).2 ⟨hij, hx⟩)
 ·intro a b l k hi h1 h2
  rcases (hinv a b).1 hi with h3 | ⟨i, j, rfl, rfl, _, _⟩
  ·have hb : b < z.L.length := by obtain ⟨_, _, _, _, _, _, g, _⟩ := h3; exact (List.getElem?_eq_some_iff.1 g).1
   rw [hold a (by have := h3.1; omega)] at h1
   rw [hold b hb] at h2
   exact h.cell a b l k h3 h1 h2
  ·obtain ⟨_, _, _, e1⟩ := hget _ l (by omega) h1
   obtain ⟨_, _, _, e2⟩ := hget _ k (by omega) h2
   rw [e1, e2]
theorem cinv.start (S : Nat) : cinv (zeroL S) [] 0 := by
 have hp : ∀ l, l ∈ zeroL S → l.Parents = [] := by
  intro l hl
  simp only [zeroL, List.mem_map] at hl
  obtain ⟨_, _, rfl⟩ := hl; rfl
 have hi : ∀ a b, ¬ inv (zeroL S) a b := by
  rintro a b ⟨_, l, _, x, _, h1, _, h3, _⟩
  rw [hp l (List.mem_of_getElem? h1)] at h3; cases h3
 exact ⟨fun l hl p hpm => by rw [hp l hl] at hpm; simp at hpm, by simp, fun q hq => by simp at hq, fun a b => ⟨fun h => by simp at h, fun h => absurd h (hi a b)⟩, fun a b l k h => absurd h (hi a b)⟩
theorem cells_all {R : Nat} {l : List api_Stitch} {z : Wk} (P : Nat → Wk → Prop) (h0 : P 0 z) (step : ∀ (j : Nat) (hj : j < l.length) (y : Wk), P j y → P (j + 1) (stepW R j l[j] y)) : ∀ k, k ≤ l.length → P k (cellsW R 0 (l.take k) z) := by
 intro k
 induction k with
 | zero => intro _; exact h0
 | succ k ih =>
  intro hk
  rw [List.take_succ_eq_append_getElem (by omega), cellsW_snoc]
  have := step k (by omega) _ (ih (by omega))
  rwa [Nat.zero_add, List.length_take, Nat.min_eq_left (by omega)]
theorem rows_all {fs : List (List api_Stitch)} {z : Wk × List Int} (P : Nat → Wk × List Int → Prop) (h0 : P 0 z)
 (step : ∀ (i : Nat) (hi : i < fs.length) (y : Wk × List Int), P i y → P (i + 1) (cellsW (i + 1) 0 fs[i] y.1, y.2 ++ [((cellsW (i + 1) 0 fs[i] y.1).L.length : Int)])) : ∀ k, k ≤ fs.length → P k (rowsW 0 (fs.take k) z) := by
 intro k
 induction k with
 | zero => intro _; exact h0
 | succ k ih =>
  intro hk
  rw [List.take_succ_eq_append_getElem (by omega), rowsW_snoc]
  have := step k (by omega) _ (ih (by omega))
  rwa [Nat.zero_add, List.length_take, Nat.min_eq_left (by omega)]
theorem offs_snoc (S : Nat) (fs : List (List api_Stitch)) (k : Nat) : ((List.range (k + 2)).map fun r => (off S fs r : Int)) ++ [(off S fs (k + 2) : Int)] = (List.range (k + 1 + 2)).map fun r => (off S fs r : Int) := by
 rw [List.range_succ (n := k + 1 + 1), List.map_append]; rfl
structure Bd (k j : Nat) (z : Wk) : Prop where
 B : z.B.length ≤ z.u
 C : z.C.length ≤ 36 * (200 * k + j)
theorem offB_len {s : api_Stitch} (u : Nat) : (offB s u).length ≤ uN s := by
 unfold offB
 split
 ·rename_i h; rw [ups_len]; simp [uN, usedS, h]
 ·simp
theorem crs_len {s : api_Stitch} (h : okS s) (n : Nat) : (crs s n).length ≤ 36 := by
 rcases knd h with ⟨b, rfl⟩ | ⟨b, rfl⟩ | rfl | ⟨b, a, h2, h3, rfl⟩ | ⟨b, a, h2, h3, rfl⟩ | ⟨b, a, h2, h3, rfl⟩ | ⟨k, b, a, c, hk, h2, h3, h4, h5, rfl⟩ | ⟨a, h2, h3, rfl⟩ | ⟨b, a, h2, h3, rfl⟩
 ·simp [crs]
 ·simp [crs]
 ·simp [crs]
 ·simp [crs]
 ·simp [crs]
 ·simp [crs]
 ·have e : ((crs ⟨k, b, (a : Int), (c : Int)⟩ n).map norm).length = a * c := by
   rw [crs_x hk]
   have : ∀ m, ((List.range m).map fun i => (List.range c).map fun j => (((n + j : Nat) : Int), ((n + c + i : Nat) : Int))).flatten.length = m * c := by
    intro m
    induction m with
    | zero => simp
    | succ m ih => rw [List.range_succ, List.map_append, List.flatten_append, List.length_append, ih]; simp [Nat.add_mul]
   exact this a
  rw [List.length_map] at e
  have := Nat.mul_le_mul h3 h5
  omega
 ·simp [crs]
 ·simp [crs]
theorem Bd.step {k j R K : Nat} {s : api_Stitch} {z : Wk} (hs : okS s) (h : Bd k j z) : Bd k (j + 1) (stepW R K s z) := by
 have h1 := offB_len (s := s) z.u
 have h2 := crs_len hs z.L.length
 have := h.B
 have := h.C
 exact ⟨by simp only [stepW, List.length_append]; omega, by simp only [stepW, List.length_append]; omega⟩
def stC (S : Nat) (fs : List (List api_Stitch)) (k : Nat) : Wk × List Int := rowsW 0 (fs.take k) (⟨zeroL S, [], [], 0⟩, [0, (S : Int)])
theorem stC_all {S : Nat} {fs : List (List api_Stitch)} (hf : okF S fs) (P : Nat → Nat → Wk → Prop) (h0 : P 0 0 ⟨zeroL S, [], [], 0⟩)
 (step : ∀ (k j : Nat) (hk : k < fs.length) (hj : j < fs[k].length) (z : Wk), LInv S fs k j z → P k j z → P k (j + 1) (stepW (k + 1) j (fs[k][j]) z))
 (row : ∀ (k : Nat) (hk : k < fs.length) (z : Wk), LInv S fs (k + 1) 0 z → P k fs[k].length z → P (k + 1) 0 z) :
 ∀ k, k ≤ fs.length → LInv S fs k 0 (stC S fs k).1 ∧ P k 0 (stC S fs k).1 ∧ (stC S fs k).2 = (List.range (k + 2)).map fun r => (off S fs r : Int) := by
 refine rows_all (fun k z => LInv S fs k 0 z.1 ∧ P k 0 z.1 ∧ z.2 = (List.range (k + 2)).map fun r => (off S fs r : Int)) ⟨LInv.start S fs, h0, by simp [off, nR, List.range_succ]⟩ ?_
 rintro k hk ⟨z, rs⟩ ⟨h1, h2, h3⟩
 simp only at h1 h2 h3
 have hc : LInv S fs k fs[k].length (cellsW (k + 1) 0 fs[k] z) ∧ P k fs[k].length (cellsW (k + 1) 0 fs[k] z) :=
  cells_ind (fun j y => LInv S fs k j y ∧ P k j y) ⟨h1, h2⟩ fun j hj y hy => ⟨hy.1.step hf hk hj, step k j hk hj y hy.1 hy.2⟩
 have hr := hc.1.row hf hk
 refine ⟨hr, row k hk _ hr hc.2, ?_⟩
 simp only
 rw [h3, hr.len, ← offs_snoc]
 simp [pm, smN]
theorem stC_cells {S : Nat} {fs : List (List api_Stitch)} (hf : okF S fs) {k : Nat} (hk : k < fs.length) (P : Nat → Wk → Prop) (h0 : P 0 (stC S fs k).1)
 (step : ∀ (j : Nat) (hj : j < fs[k].length) (z : Wk), LInv S fs k j z → P j z → P (j + 1) (stepW (k + 1) j (fs[k][j]) z)) :
 ∀ j, j ≤ fs[k].length → LInv S fs k j (cellsW (k + 1) 0 (fs[k].take j) (stC S fs k).1) ∧ P j (cellsW (k + 1) 0 (fs[k].take j) (stC S fs k).1) := by
 have hz := (stC_all hf (fun _ _ _ => True) trivial (fun _ _ _ _ _ _ _ => trivial) (fun _ _ _ _ _ => trivial) k (by omega)).1
 exact cells_all (fun j y => LInv S fs k j y ∧ P j y) ⟨hz, h0⟩ fun j hj y hy => ⟨hy.1.step hf hk hj, step j hj y hy.1 hy.2⟩
theorem stC_succ {S : Nat} {fs : List (List api_Stitch)} {k : Nat} (hk : k < fs.length) : stC S fs (k + 1) = (cellsW (k + 1) 0 fs[k] (stC S fs k).1, (stC S fs k).2 ++ [((cellsW (k + 1) 0 fs[k] (stC S fs k).1).L.length : Int)]) := by
 unfold stC
 rw [List.take_succ_eq_append_getElem hk, rowsW_snoc, Nat.zero_add, List.length_take, Nat.min_eq_left (by omega)]
theorem stC_bd {S : Nat} {fs : List (List api_Stitch)} (hf : okF S fs) (k : Nat) (hk : k ≤ fs.length) : Bd k 0 (stC S fs k).1 := by
 refine (stC_all hf (fun k j z => Bd k j z) ⟨by simp, by simp⟩ ?_ ?_ k hk).2.1
 ·intro k j hk hj z _ h
  exact h.step ((hf.2 k hk).1 _ (List.getElem_mem _))
 ·intro k hk z _ h
  have := (hf.2 k hk).2.1
  exact ⟨h.B, Nat.le_trans h.C (by omega)⟩
theorem pu_le {S : Nat} {fs : List (List api_Stitch)} (hf : okF S fs) {k j : Nat} (hk : k < fs.length) (hj : j < fs[k].length) : pu S fs k j + uN (fs[k][j]) ≤ off S fs (k + 1) := by
 have hg : fs.getD k [] = fs[k] := by simp [List.getD_eq_getElem?_getD, List.getElem?_eq_getElem hk]
 have h1 := smN_take uN fs[k] hj
 have h2 := smN_take_le uN fs[k] (j + 1)
 have h3 := (hf.2 k hk).2.2.2
 simp only [pu, hg, off]
 omega
theorem pm_le {S : Nat} {fs : List (List api_Stitch)} (hf : okF S fs) {k j : Nat} (hk : k < fs.length) : off S fs (k + 1) ≤ pm S fs k j ∧ pm S fs k j ≤ off S fs (k + 2) := by
 have hg : fs.getD k [] = fs[k] := by simp [List.getD_eq_getElem?_getD, List.getElem?_eq_getElem hk]
 have h2 := smN_take_le mN fs[k] j
 have h3 := nR_succ (S := S) hk
 simp only [pm, hg, off, h3]
 omega
theorem cells_at (R : Nat) (l : List api_Stitch) (z : Wk) {j : Nat} (hj : j < l.length) : cellsW R 0 (l.take (j + 1)) z = stepW R j l[j] (cellsW R 0 (l.take j) z) := by
 rw [List.take_succ_eq_append_getElem hj, cellsW_snoc, Nat.zero_add, List.length_take, Nat.min_eq_left (by omega)]
theorem row_loop {S : Nat} {fs : List (List api_Stitch)} (hf : okF S fs) (hfl : fs.length ≤ 100) {k : Nat} (hk : k < fs.length) (e : Int) (rs : List Int) :
 whileO (loops_of_l2 (fs[k], e) (k : Int)) (0, (stC S fs k).1.L, rs, (stC S fs k).1.B, (stC S fs k).1.C, ((stC S fs k).1.u : Int)) =
  some ((stC S fs (k + 1)).1.L, rs, (stC S fs (k + 1)).1.B, (stC S fs (k + 1)).1.C, ((stC S fs (k + 1)).1.u : Int)) := by
 have hall := stC_cells hf hk (fun j z => Bd k j z) (stC_bd hf k (by omega)) fun j hj z _ h => h.step ((hf.2 k hk).1 _ (List.getElem_mem _))
 have hlen := (hf.2 k hk).2.1
 rw [stC_succ hk]
 generalize stC S fs k = z at hall
 refine loop_sq (fun j => ((j : Int), (cellsW (k + 1) 0 (fs[k].take j) z.1).L, rs, (cellsW (k + 1) 0 (fs[k].take j) z.1).B, (cellsW (k + 1) 0 (fs[k].take j) z.1).C, ((cellsW (k + 1) 0 (fs[k].take j) z.1).u : Int))) fs[k].length (by simp [cellsW]) ?_ ?_
 ·intro j hj
  obtain ⟨hL, hB⟩ := hall j (by omega)
  have h1 := pu_le hf hk hj
  have h2 := pm_le hf hk (j := j)
  have h3 := off_le hf (r := k + 2) (by omega)
  have h4 := off_mono (S := S) (fs := fs) (a := k + 1) (b := k + 2) (by omega)
  have h5 := hB.B
  have h6 := hB.C
  have h7 := hL.len
  have h8 := hL.u
  unfold loops_of_l2
  simp only [dT (show (j : Int) < (fs[k].length : Int) by omega), if_true]
  rw [idxO_nat hj, Option.bind_some, w64_succ (by omega), work_eq (k + 1) j (cellsW (k + 1) 0 (fs[k].take j) z.1).u ((hf.2 k hk).1 _ (List.getElem_mem _)) rfl (by simp only; omega) (by simp only; omega) (by simp only; omega) (by simp only; omega), Option.bind_some, w64_succ (by omega), cells_at (k + 1) fs[k] z.1 hj]
  rfl
 ·unfold loops_of_l2
  simp only [dF (show ¬ (fs[k].length : Int) < (fs[k].length : Int) by omega), Bool.false_eq_true, if_false, List.take_length]
theorem face_eq {c : api_Chart} (hw : wfR c.Rows) (hk : chk c = 0) {i : Nat} (hi : i < c.Rows.length) : F_chart_Face c (i : Int) = some (faceR c.Rows[i], 0) := by
 have hrows := chk_ok hk
 have hall := chkR_mem hrows.2.2.2 _ (List.getElem_mem hi)
 have hlen := (allS_ok hall).1
 unfold F_chart_Face
 rw [chart_check_eq c hw, Option.bind_some, hk]
 simp only [show ((0 : Int) != 0) = false from rfl, Bool.false_eq_true, if_false, dF (show ¬ (i : Int) < 0 by omega), dF (show ¬ (c.Rows.length : Int) ≤ (i : Int) by omega), Option.bind_some]
 rw [idxO_nat hi, Option.bind_some]
 unfold faceR
 by_cases hb : c.Rows[i].Back = true
 ·rw [if_pos hb, if_pos hb, turn_eq (hw _ (List.getElem_mem hi)), if_pos hall]; rfl
 ·rw [if_neg hb, if_neg hb]
  unfold F_slices_Clone___api_Stitch_api_Stitch_
  rw [appO_of (by simp; omega), Option.bind_some]; rfl
theorem okF_of {c : api_Chart} (hk : chk c = 0) : okF c.Start.toNat (c.Rows.map faceR) ∧ c.Rows.length ≤ 100 ∧ ((c.Start.toNat : Nat) : Int) = c.Start := by
 obtain ⟨h1, h2, h3, h4⟩ := chk_ok hk
 have hface : ∀ r : api_Row, allS r.Cells = 0 → allS (faceR r) = 0 ∧ sm usedS (faceR r) = sm usedS r.Cells ∧ sm madeS (faceR r) = sm madeS r.Cells := by
  intro r hr
  unfold faceR
  split
  ·exact turned_ok hr
  ·exact ⟨hr, rfl, rfl⟩
 have key : ∀ (rs : List api_Row) (S : Nat), S ≤ 200 → chkR (S : Int) rs = 0 → okF S (rs.map faceR) := by
  intro rs
  induction rs with
  | nil => intro S hS _; exact ⟨hS, fun i h => absurd h (by simp)⟩
  | cons r rs ih =>
   intro S hS hc
   obtain ⟨a1, a2, a3⟩ := chkR_cons.1 hc
   obtain ⟨b1, b2, b3⟩ := hface r a1
   obtain ⟨c1, c2, c3, c4⟩ := allS_ok b1
   have u1 := smN_used c2
   have m1 := smN_made c2
   have hm : ((smN mN (faceR r) : Nat) : Int) = sm madeS r.Cells := by omega
   have ih := ih (smN mN (faceR r)) (by omega) (by rw [hm]; exact a3)
   refine ⟨hS, fun i hi => ?_⟩
   cases i with
   | zero =>
    simp only [List.map_cons, List.getElem_cons_zero]
    refine ⟨c2, c1, by omega, ?_⟩
    simp only [nR, if_true]; omega
   | succ i =>
    have hi' : i < (rs.map faceR).length := by simpa using hi
    have := ih.2 i hi'
    simp only [List.map_cons, List.getElem_cons_succ]
    refine ⟨this.1, this.2.1, this.2.2.1, ?_⟩
    rw [this.2.2.2]
    unfold nR
    by_cases e : i = 0
    ·subst e; simp
    ·obtain ⟨m, rfl⟩ : ∃ m, i = m + 1 := ⟨i - 1, by omega⟩
     simp
 have e : ((c.Start.toNat : Nat) : Int) = c.Start := by omega
 exact ⟨key c.Rows c.Start.toNat (by omega) (by rw [e]; exact h4), h1, e⟩
theorem workC_eq {c : api_Chart} (hk : chk c = 0) : workC c = stC c.Start.toNat (c.Rows.map faceR) (c.Rows.map faceR).length := by
 have e := (okF_of hk).2.2
 unfold workC stC
 rw [List.take_length, e]
theorem zeroL_succ (i : Nat) : zeroL (i + 1) = zeroL i ++ [⟨0, (i : Int), [], false⟩] := by simp [zeroL, List.range_succ]
def pieceOf (z : Wk × List Int) : loops_piece := ⟨z.1.L, z.2, z.1.B, z.1.C, (z.1.u : Int)⟩
theorem of_eq (c : api_Chart) (hw : wfR c.Rows) : F_loops_of c = some (if chk c = 0 then (pieceOf (workC c), 0) else (⟨[], [], [], [], 0⟩, chk c)) := by
 unfold F_loops_of
 rw [chart_check_eq c hw, Option.bind_some]
 by_cases hk : chk c = 0
 ·rw [if_pos hk, hk]
  simp only [show ((0 : Int) != 0) = false from rfl, Bool.false_eq_true, if_false]
  obtain ⟨hf, hl, hs⟩ := okF_of hk
  rw [workC_eq hk]
  generalize hS : c.Start.toNat = S at *
  generalize hfs : c.Rows.map faceR = fs at *
  have hfl : fs.length = c.Rows.length := by rw [← hfs, List.length_map]
  have k1 : whileO (loops_of_l1 c) (0, ([] : List api_Loop)) = some (zeroL S) := by
   refine loop_sq (fun i => ((i : Int), zeroL i)) S (by simp [zeroL]) ?_ ?_
   ·intro i hi
    unfold loops_of_l1
    simp only [dT (show (i : Int) < c.Start by omega), if_true]
    have := hf.1
    rw [appO_of (by simp [zeroL]; omega), Option.bind_some, zeroL_succ, w64_succ (by omega)]
   ·unfold loops_of_l1
    simp only [dF (show ¬ (S : Int) < c.Start by omega), Bool.false_eq_true, if_false]
  have k3 : whileO (loops_of_l3 c) (0, zeroL S, ([0, c.Start] : List Int), ([] : List Int), ([] : List (Int × Int)), 0) =
   some ((stC S fs fs.length).1.L, (stC S fs fs.length).2, (stC S fs fs.length).1.B, (stC S fs fs.length).1.C, ((stC S fs fs.length).1.u : Int)) := by
   refine loop_sq (fun k => ((k : Int), (stC S fs k).1.L, (stC S fs k).2, (stC S fs k).1.B, (stC S fs k).1.C, ((stC S fs k).1.u : Int))) fs.length (by simp [stC, rowsW, hs]) ?_ ?_
   ·intro k hk'
    have hk2 : k < c.Rows.length := by omega
    have hfk : fs[k] = faceR c.Rows[k] := by simp [← hfs]
    have hrs := (stC_all hf (fun _ _ _ => True) trivial (fun _ _ _ _ _ _ _ => trivial) (fun _ _ _ _ _ => trivial) k (by omega)).2.2
    unfold loops_of_l3
    simp only [dT (show (k : Int) < (c.Rows.length : Int) by omega), if_true]
    rw [face_eq hw hk hk2, Option.bind_some, ← hfk, row_loop hf (by omega) hk' 0 _]
    simp only [Option.bind_some]
    rw [appO_of (by rw [hrs]; simp; omega), w64_succ (by omega)]
    simp only [Option.bind_some]
    rw [stC_succ hk']
   ·unfold loops_of_l3
    simp only [dF (show ¬ (fs.length : Int) < (c.Rows.length : Int) by omega), Bool.false_eq_true, if_false]
  rw [k1]
  simp only [Option.bind_some]
  rw [k3]
  rfl
 ·rw [if_neg hk, nT hk, if_pos rfl]
theorem rseen_eq {r : api_Row} (h : allS r.Cells = 0) : F_raddleref26_Seen r = some (faceR r) := by
 have hl := (allS_ok h).1
 unfold F_raddleref26_Seen faceR
 by_cases hb : r.Back = true
 ·rw [if_pos hb, if_pos hb, rturned_eq (by omega)]; rfl
 ·rw [if_neg hb, if_neg hb, appO_of (by simp; omega)]; rfl
noncomputable def F_raddleref25_Great (p0 : (List api_Stitch)) : Option Bool :=
 Option.bind (α := Bool) (
  if decide (60 < (p0.length : Int)) then
   if decide ((p0.length : Int) ≤ 200) then
    some true
   else
    some (decide (300 < (p0.length : Int)))
  else
   some (decide (300 < (p0.length : Int)))) fun o4 =>
 some o4
theorem c_raddleref25_Great (E : Nat → Prop) (w0 : World) (p0 : (List api_Stitch)) (v0 : Value) (r : Bool) (h : F_raddleref25_Great p0 = some r) (S : St0 E [] w0 w0 [] [fRep (rL r_api_Stitch) (v0) p0]) :
 Calls Try.prog 32 #[v0] w0 (Ret (X := Unit) E [] w0 (fun _ => .bool r) (fun _ => []) (fun _ => [])) := by
 unfold F_raddleref25_Great at h
 obtain ⟨a9, aa, _, rfl, _⟩ := S.know (i := 0) (e := fRep (rL r_api_Stitch) (v0) p0) rfl
 refine sEnter (args := [.slice a9 p0.length aa]) 16 Try.func32 rfl rfl (by simp) S (fun a S => ?_)
 refine sSeq (fun K3 ab => sRegion (sN S fun a S => ?_))
 refine lT (ab _ _ ?_)
 obtain ⟨t5, h, g6⟩ := bS h
 refine sCut (fun a w => ∃ o4, o4 = t5 ∧ St [] E [] w0 16 a w [(2, .bool o4)] [] []) ?_ (fun a w hI => ?_)
 rotate_left
 ·obtain ⟨o4, rfl, S⟩ := hI
  have h := g6
  try dsimp only at h
  obtain rfl := tS h
  exact wp_ret (sRet (.bool o4) S (rsl1 rfl (rvT (t := 2) (v := .bool o4) S rfl)) ⟨(), rfl, S.mem.sel [] [] (by decide) rfl rfl⟩)
 refine sRegion (sM S fun a S => ?_)
 refine sLen S (wN rfl) rfl Try.underlying62 rfl rfl (lb rfl) fun a S => ?_
 refine sBin _ S (wN rfl) rfl rfl rfl (bGt _ _ _ _ .i64 (p0.length : Int) 60) rfl (lb rfl) fun a S => ?_
 refine sM S fun a S => ?_
 rcases iS h with ⟨a0, h⟩ | ⟨a0, h⟩
 rotate_left
 ·refine sSkN 3 3 true 6 S rfl rfl a0 rfl fun a S => ?_
  refine sPickF (.bool false) S (wN rfl) rfl rfl a0 rfl rfl (lb rfl) fun a S => ?_
  refine sM S fun a S => ?_
  refine sMove (.slice a9 p0.length aa) S (wG 8 false 11 rfl rfl rfl rfl) (.inl rfl) rfl rfl (lb rfl) fun a S => ?_
  refine sLen S (wG 8 false 11 rfl rfl rfl rfl) rfl Try.underlying62 rfl rfl (lb rfl) fun a S => ?_
  refine sBin _ S (wG 8 false 11 rfl rfl rfl rfl) rfl rfl rfl (bGt _ _ _ _ .i64 (p0.length : Int) 300) rfl (lb rfl) fun a S => ?_
  refine sPickF (.bool (decide (300 < (p0.length : Int)))) S (wN rfl) rfl rfl rfl rfl rfl (lb rfl) fun a S => ?_
  refine sN S fun a S => ?_
  exact lT (⟨decide (300 < (p0.length : Int)), Option.some.inj h, S.fix [] [] (by decide) rfl rfl rfl⟩)
 refine sMove (.slice a9 p0.length aa) S (wG 3 true 6 rfl rfl rfl a0) (.inl rfl) rfl rfl (lb rfl) fun a S => ?_
 refine sLen S (wG 3 true 6 rfl rfl rfl a0) rfl Try.underlying62 rfl rfl (lb rfl) fun a S => ?_
 refine sBin _ S (wG 3 true 6 rfl rfl rfl a0) rfl rfl rfl (bLe _ _ _ _ .i64 (p0.length : Int) 200) rfl (lb rfl) fun a S => ?_
 refine sPickT (.bool (decide ((p0.length : Int) ≤ 200))) S (wN rfl) rfl rfl a0 rfl rfl (lb rfl) fun a S => ?_
 refine sM S fun a S => ?_
 rcases iS h with ⟨a8, h⟩ | ⟨a8, h⟩
 ·refine sSkN 3 8 false 11 S rfl rfl a8 rfl fun a S => ?_
  refine sPickT (.bool true) S (wN rfl) rfl rfl a8 rfl rfl (lb rfl) fun a S => ?_
  refine sN S fun a S => ?_
  exact lT (⟨true, Option.some.inj h, S.fix [] [] (by decide) rfl rfl rfl⟩)
 refine sMove (.slice a9 p0.length aa) S (wG 8 false 11 rfl rfl rfl a8) (.inl rfl) rfl rfl (lb rfl) fun a S => ?_
 refine sLen S (wG 8 false 11 rfl rfl rfl a8) rfl Try.underlying62 rfl rfl (lb rfl) fun a S => ?_
 refine sBin _ S (wG 8 false 11 rfl rfl rfl a8) rfl rfl rfl (bGt _ _ _ _ .i64 (p0.length : Int) 300) rfl (lb rfl) fun a S => ?_
 refine sPickF (.bool (decide (300 < (p0.length : Int)))) S (wN rfl) rfl rfl a8 rfl rfl (lb rfl) fun a S => ?_
 refine sN S fun a S => ?_
 exact lT (⟨decide (300 < (p0.length : Int)), Option.some.inj h, S.fix [] [] (by decide) rfl rfl rfl⟩)
noncomputable def raddleref26_Great_l1 (p0 : api_Chart) : Int → Option (Int ⊕ (Bool ⊕ Unit)) := fun s0 => match s0 with
 | a0 =>
  Option.bind (α := Bool) (
   if decide (a0 < (p0.Rows.length : Int)) then
    some (decide (a0 < 150))
   else
    some false) fun a8 =>
  if a8 then
   (idxO p0.Rows a0).bind fun a9 =>
   (F_raddleref25_Great a9.Cells).bind fun aa =>
   if aa then
    some (.inr (.inl true))
   else
    some (.inl (w64 (a0 + 1)))
  else
   some (.inr (.inr ()))
noncomputable def F_raddleref26_Great (p0 : api_Chart) : Option Bool :=
 Option.bind (α := Unit ⊕ Bool) (
  (whileO (raddleref26_Great_l1 p0) 0).bind fun z0 => match z0 with
   | .inl z =>
    some (.inr z)
   | .inr _ =>
    some (.inl ())) fun z0 => match z0 with
  | .inl _ =>
   Option.bind (α := Bool) (
    if decide (12 < (p0.Rows.length : Int)) then
     if decide ((p0.Rows.length : Int) ≤ 100) then
      some true
     else
      some (decide (150 < (p0.Rows.length : Int)))
    else
     some (decide (150 < (p0.Rows.length : Int)))) fun a0 =>
   some a0
  | .inr z =>
   some z
theorem c_raddleref26_Great (E : Nat → Prop) (w0 : World) (p0 : api_Chart) (v0 : Value) (r : Bool) (h : F_raddleref26_Great p0 = some r) (S : St0 E [] w0 w0 [] [fRep r_api_Chart (v0) p0]) :
 Calls Try.prog 10 #[v0] w0 (Ret (X := Unit) E [] w0 (fun _ => .bool r) (fun _ => []) (fun _ => [])) := by
 unfold F_raddleref26_Great at h
 obtain ⟨u1, rfl, ax⟩ := S.know (i := 0) (e := fRep r_api_Chart (v0) p0) rfl
 have S := S.learn (fRep (rL r_api_Row) u1 p0.Rows) ax
 obtain ⟨a9, aa, _, rfl, _⟩ := ax
 refine sEnter (args := [.agg #[iv p0.Start, .slice a9 p0.Rows.length aa]]) 38 Try.func10 rfl rfl (by simp) S (fun a S => ?_)
 refine sSeq (fun K5 aG => sRegion (sBox (v := .agg #[iv p0.Start, .slice a9 p0.Rows.length aa]) S (wN rfl) rfl rfl [iv p0.Start, .slice a9 p0.Rows.length aa] rfl rfl (lb rfl) fun a b6 w S => ?_))
 refine sN S fun a S => ?_
 refine lT (aG _ _ ?_)
 obtain ⟨t7, h, g8⟩ := bS h
 refine sCut (fun a w => .inl () = t7 ∧ St [] E [] w0 38 a w [(1, .pointer (some ⟨b6, 0, none⟩))] [eBox b6 24 [iv p0.Start, .slice a9 p0.Rows.length aa]] [fRep (rL r_api_Row) (.slice a9 p0.Rows.length aa) p0.Rows]) ?_ (fun a w hI => ?_)
 rotate_left
 ·obtain ⟨rfl, S⟩ := hI
  have h := g8
  try dsimp only at h
  obtain ⟨aH, h, aI⟩ := bS h
  refine sCut (fun a w => ∃ aj, aj = aH ∧ St [] E [] w0 38 a w [(2, .bool aj)] [] []) ?_ (fun a w hI => ?_)
  rotate_left
  ·obtain ⟨aj, rfl, S⟩ := hI
   have h := aI
   try dsimp only at h
   obtain rfl := tS h
   exact wp_ret (sRet (.bool aj) S (rsl1 rfl (rvT (t := 2) (v := .bool aj) S rfl)) ⟨(), rfl, S.mem.sel [] [] (by decide) rfl rfl⟩)
  refine sRegion (sField (b := b6) (off := 0) 1 1 S (wN rfl) rfl rfl rfl rfl rfl (lb rfl) fun a S => ?_)
  refine sLoad1 0 (.slice a9 p0.Rows.length aa) S (wN rfl) rfl rfl rfl rfl rfl rfl (lb rfl) fun a S => ?_
  refine sLen S (wN rfl) rfl Try.underlying22 rfl rfl (lb rfl) fun a S => ?_
  refine sBin _ S (wN rfl) rfl rfl rfl (bGt _ _ _ _ .i64 (p0.Rows.length : Int) 12) rfl (lb rfl) fun a S => ?_
  refine sM S fun a S => ?_
  rcases iS h with ⟨a0, h⟩ | ⟨a0, h⟩
  rotate_left
  ·refine sSkN 4 4 true 26 S rfl rfl a0 rfl fun a S => ?_
   refine sPickF (.bool false) S (wN rfl) rfl rfl a0 rfl rfl (lb rfl) fun a S => ?_
   refine sM S fun a S => ?_
   refine sField (b := b6) (off := 0) 1 1 S (wG 10 false 32 rfl rfl rfl rfl) rfl rfl rfl rfl rfl (lb rfl) fun a S => ?_
   refine sLoad1 0 (.slice a9 p0.Rows.length aa) S (wG 10 false 32 rfl rfl rfl rfl) rfl rfl rfl rfl rfl rfl (lb rfl) fun a S => ?_
   refine sLen S (wG 10 false 32 rfl rfl rfl rfl) rfl Try.underlying22 rfl rfl (lb rfl) fun a S => ?_
   refine sBin _ S (wG 10 false 32 rfl rfl rfl rfl) rfl rfl rfl (bGt _ _ _ _ .i64 (p0.Rows.length : Int) 150) rfl (lb rfl) fun a S => ?_
   refine sPickF (.bool (decide (150 < (p0.Rows.length : Int)))) S (wN rfl) rfl rfl rfl rfl rfl (lb rfl) fun a S => ?_
   refine sN S fun a S => ?_
   exact lT (⟨decide (150 < (p0.Rows.length : Int)), Option.some.inj h, S.fix [] [] (by decide) rfl rfl rfl⟩)
  refine sField (b := b6) (off := 0) 1 1 S (wG 4 true 26 rfl rfl rfl a0) rfl rfl rfl rfl rfl (lb rfl) fun a S => ?_
  refine sLoad1 0 (.slice a9 p0.Rows.length aa) S (wG 4 true 26 rfl rfl rfl a0) rfl rfl rfl rfl rfl rfl (lb rfl) fun a S => ?_
  refine sLen S (wG 4 true 26 rfl rfl rfl a0) rfl Try.underlying22 rfl rfl (lb rfl) fun a S => ?_
  refine sBin _ S (wG 4 true 26 rfl rfl rfl a0) rfl rfl rfl (bLe _ _ _ _ .i64 (p0.Rows.length : Int) 100) rfl (lb rfl) fun a S => ?_
  refine sPickT (.bool (decide ((p0.Rows.length : Int) ≤ 100))) S (wN rfl) rfl rfl a0 rfl rfl (lb rfl) fun a S => ?_
  refine sM S fun a S => ?_
  rcases iS h with ⟨a8, h⟩ | ⟨a8, h⟩
  ·refine sSkN 4 10 false 32 S rfl rfl a8 rfl fun a S => ?_
   refine sPickT (.bool true) S (wN rfl) rfl rfl a8 rfl rfl (lb rfl) fun a S => ?_
   refine sN S fun a S => ?_
   exact lT (⟨true, Option.some.inj h, S.fix [] [] (by decide) rfl rfl rfl⟩)
  refine sField (b := b6) (off := 0) 1 1 S (wG 10 false 32 rfl rfl rfl a8) rfl rfl rfl rfl rfl (lb rfl) fun a S => ?_
  refine sLoad1 0 (.slice a9 p0.Rows.length aa) S (wG 10 false 32 rfl rfl rfl a8) rfl rfl rfl rfl rfl rfl (lb rfl) fun a S => ?_
  refine sLen S (wG 10 false 32 rfl rfl rfl a8) rfl Try.underlying22 rfl rfl (lb rfl) fun a S => ?_
  refine sBin _ S (wG 10 false 32 rfl rfl rfl a8) rfl rfl rfl (bGt _ _ _ _ .i64 (p0.Rows.length : Int) 150) rfl (lb rfl) fun a S => ?_
  refine sPickF (.bool (decide (150 < (p0.Rows.length : Int)))) S (wN rfl) rfl rfl a8 rfl rfl (lb rfl) fun a S => ?_
  refine sN S fun a S => ?_
  exact lT (⟨decide (150 < (p0.Rows.length : Int)), Option.some.inj h, S.fix [] [] (by decide) rfl rfl rfl⟩)
 refine sSeq (fun K9 aJ => sRegion (sN S fun a S => ?_))
 refine lT (aJ _ _ (wp_block ?_))
 obtain ⟨aO, hl, ay⟩ := bS h
 refine sLoop hl (fun s0 a w => match s0 with | ac => St [] E [] w0 38 a w [(1, .pointer (some ⟨b6, 0, none⟩)), (3, iv ac)] [eBox b6 24 [iv p0.Start, .slice a9 p0.Rows.length aa]] [fRep (rL r_api_Row) (.slice a9 p0.Rows.length aa) p0.Rows]) (S.fix [0] [0] (by decide) rfl rfl rfl) ?_
 clear hl h
 intro ac a w c0 hI h ak
 unfold raddleref26_Great_l1 at h
 dsimp only at h hI
 have S := hI
 refine sSeq (fun aP al => ?_)
 obtain ⟨aK, h, aL⟩ := bS h
 refine sCut (fun a w => ∃ am, am = aK ∧ St [] E [] w0 38 a w [(1, .pointer (some ⟨b6, 0, none⟩)), (3, iv ac), (12, .bool am)] [eBox b6 24 [iv p0.Start, .slice a9 p0.Rows.length aa]] [fRep (rL r_api_Row) (.slice a9 p0.Rows.length aa) p0.Rows]) ?_ (fun a w hI => ?_)
 ·refine sRegion (sM S fun a S => ?_)
  refine sField (b := b6) (off := 0) 1 1 S (wN rfl) rfl rfl rfl rfl rfl (lb rfl) fun a S => ?_
  refine sLoad1 0 (.slice a9 p0.Rows.length aa) S (wN rfl) rfl rfl rfl rfl rfl rfl (lb rfl) fun a S => ?_
  refine sLen S (wN rfl) rfl Try.underlying22 rfl rfl (lb rfl) fun a S => ?_
  refine sBin _ S (wN rfl) rfl rfl rfl (bLt _ _ _ _ .i64 ac (p0.Rows.length : Int)) rfl (lb rfl) fun a S => ?_
  refine sM S fun a S => ?_
  rcases iS h with ⟨ab, h⟩ | ⟨ab, h⟩
  rotate_left
  ·refine sSkN 2 5 true 9 S rfl rfl ab rfl fun a S => ?_
   refine sPickF (.bool false) S (wN rfl) rfl rfl ab rfl rfl (lb rfl) fun a S => ?_
   exact lT (⟨false, Option.some.inj h, S.fix [0] [0] (by decide) rfl rfl rfl⟩)
  refine sMove (iv ac) S (wG 5 true 9 rfl rfl rfl ab) (.inl rfl) rfl rfl (lb rfl) fun a S => ?_
  refine sBin _ S (wG 5 true 9 rfl rfl rfl ab) rfl rfl rfl (bLt _ _ _ _ .i64 ac 150) rfl (lb rfl) fun a S => ?_
  refine sPickT (.bool (decide (ac < 150))) S (wN rfl) rfl rfl ab rfl rfl (lb rfl) fun a S => ?_
  exact lT (⟨decide (ac < 150), Option.some.inj h, S.fix [0] [0] (by decide) rfl rfl rfl⟩)
 obtain ⟨am, rfl, S⟩ := hI
 have h := aL
 try dsimp only at h
 rcases iS h with ⟨ae, h⟩ | ⟨ae, h⟩
 rotate_left
 ·refine sCondF S rfl ae ?_
  obtain rfl := tS h
  obtain rfl := ak _ rfl
  have h := ay
  try dsimp only at h
  exact wp_exit (xThen (xThen (xHit (leafT (⟨Option.some.inj h, S.fix [0] [0] (by decide) rfl rfl rfl⟩)))))
 refine sCondT S rfl ae ?_
 refine wp_skip (leafT (al _ _ ?_))
 refine sSeq (fun aQ ao => wp_block ?_)
 refine sSeq (fun aR ap => sRegion (sField (b := b6) (off := 0) 1 1 S (wN rfl) rfl rfl rfl rfl rfl (lb rfl) fun a S => ?_))
 refine sLoad1 0 (.slice a9 p0.Rows.length aa) S (wN rfl) rfl rfl rfl rfl rfl rfl (lb rfl) fun a S => ?_
 refine sM S fun a S => ?_
 obtain ⟨af, aq, h⟩ := bS h
 obtain ⟨az, ar, S⟩ := pIdx (P := Try.prog) (r := r_api_Row) (v := .slice a9 p0.Rows.length aa) (xs := p0.Rows) (j := ac) 22 65 0 S Try.underlying22 rfl rfl aq
 refine sIdxV S (wN rfl) rfl rfl rfl ar rfl (lb rfl) fun a S => ?_
 obtain ⟨aA, au, S⟩ := pFld (P := Try.prog) (r := r_api_Row) (s2 := (rL r_api_Stitch)) (g := (·.Cells)) (q := az) (z := af) 65 1 0 1 S rfl rfl comp_api_Row_Cells
 refine sFldV (q := az) S (wN rfl) rfl rfl au rfl (lb rfl) fun a S => ?_
 obtain ⟨aM, S⟩ := pLoad (r := (rL r_api_Stitch)) (q := aA) (x := af.Cells) 0 S rfl
 obtain ⟨ag, ah, _, rfl, _⟩ := S.mem.know (i := 1) (e := fRep (rL r_api_Stitch) (aM) af.Cells) rfl
 refine sLoadV1 (vq := aA) 0 (.slice ag af.Cells.length ah) S (wN rfl) rfl rfl rfl rfl rfl (lb rfl) fun a S => ?_
 obtain ⟨aC, av, h⟩ := bS h
 have S1 := S.mem
 refine sCq [.slice ag af.Cells.length ah] (.bool aC) S callee32 (S1.quiet [1] rfl) (fun E1 w1 S1 => c_raddleref25_Great E1 w1 af.Cells (.slice ag af.Cells.length ah) aC av S1) fun a w S => ?_
 refine lT (ap _ _ ?_)
 rcases iS h with ⟨ai, h⟩ | ⟨ai, h⟩
 rotate_left
 ·refine sCondF S rfl ai ?_
  refine wp_skip (leafB (leafT (ao _ _ ?_)))
  refine sRegion (sM S fun a S => ?_)
  refine sBin _ S (wN rfl) rfl rfl rfl (bAdd _ _ _ _ ac 1) rfl (lb rfl) fun a S => ?_
  refine sN S fun a S => ?_
  exact lT (⟨w64 (ac + 1), (Option.some.inj h).symm, (S.fix [0] [4] (by decide) rfl rfl rfl)⟩)
 refine sCondT S rfl ai ?_
 refine sSeq (fun aS aw => sRegion (sN S fun a S => ?_))
 refine lT (aw _ _ ?_)
 obtain rfl := tS h
 obtain rfl := ak _ rfl
 have h := ay
 try dsimp only at h
 obtain rfl := tS h
 have h := g8
 try dsimp only at h
 obtain rfl := tS h
 exact wp_ret (rBlock (rThen (rThen (rBlock (rThen (sRet (.bool true) S (rsl1 rfl (rvT (t := 2) (v := .bool true) S rfl)) ⟨(), rfl, S.mem.sel [] [] (by decide) rfl rfl⟩))))))
theorem pars_short {s : api_Stitch} (h : okS s) (u : Nat) : ∀ ps, ps ∈ pars s u → ps.length ≤ 4 := by
 intro ps hps
 rcases knd h with ⟨b, rfl⟩ | ⟨b, rfl⟩ | rfl | ⟨b, a, h1, h2, rfl⟩ | ⟨b, a, h1, h2, rfl⟩ | ⟨b, a, h1, h2, rfl⟩ | ⟨k, b, a, c, hk, h1, h2, h3, h4, rfl⟩ | ⟨a, h1, h2, rfl⟩ | ⟨b, a, h1, h2, rfl⟩
 ·simp [pars] at hps; subst hps; simp
 ·simp [pars] at hps; subst hps; simp
 ·simp [pars] at hps; subst hps; simp
 ·simp [pars] at hps; subst hps; rw [ups_len]; omega
 ·simp [pars] at hps; subst hps; rw [List.length_reverse, ups_len]; omega
 ·simp [pars] at hps; obtain ⟨_, rfl⟩ := hps; simp
 ·have e : pars ⟨k, b, (a : Int), (c : Int)⟩ u = ((ups u (a + c)).drop a ++ (ups u (a + c)).take a).map fun x => [x] := by rcases hk with rfl | rfl <;> simp [pars]
  rw [e] at hps
  obtain ⟨x, hx, rfl⟩ := List.mem_map.1 hps
  simp
 ·simp [pars] at hps; obtain ⟨_, rfl⟩ := hps; simp
 ·simp [pars] at hps
structure Wfin (c : api_Chart) : Prop where
 inv : LInv c.Start.toNat (c.Rows.map faceR) c.Rows.length 0 (workC c).1
 rs : (workC c).2 = (List.range (c.Rows.length + 2)).map fun r => (off c.Start.toNat (c.Rows.map faceR) r : Int)
 ok : okF c.Start.toNat (c.Rows.map faceR)
 nr : c.Rows.length ≤ 100
 st : ((c.Start.toNat : Nat) : Int) = c.Start
 L : (workC c).1.L.length ≤ 20300
 B : (workC c).1.B.length ≤ 20300
 C : (workC c).1.C.length ≤ 720000
 par : ∀ l, l ∈ (workC c).1.L → l.Parents.length ≤ 4 ∧ l.Parents.Nodup
 once : once (workC c).1.L (workC c).1.B (workC c).1.u
 cinv : cinv (workC c).1.L (workC c).1.C (workC c).1.u
theorem wfin_of {c : api_Chart} (hk : chk c = 0) : Wfin c := by
 obtain ⟨hf, hl, hs⟩ := okF_of hk
 have hfl : (c.Rows.map faceR).length = c.Rows.length := List.length_map _
 obtain ⟨h1, ⟨h2, h3, h4⟩, h5⟩ := stC_all hf (fun k j z => (∀ l, l ∈ z.L → l.Parents.length ≤ 4 ∧ l.Parents.Nodup) ∧ once z.L z.B z.u ∧ cinv z.L z.C z.u) ⟨fun l hl => by
  simp only [zeroL, List.mem_map] at hl
  obtain ⟨_, _, rfl⟩ := hl; simp, once.start _, cinv.start _⟩ (fun k j hk hj z _ h => by
  have hok := (hf.2 k hk).1 _ (List.getElem_mem hj)
  refine ⟨fun l hl => ?_, h.2.1.step hok, h.2.2.step hok⟩
  simp only [stepW] at hl
  rcases List.mem_append.1 hl with hl | hl
  ·exact h.1 l hl
  ·simp only [mkL, List.mem_map] at hl
   obtain ⟨ps, hps, rfl⟩ := hl
   exact ⟨pars_short hok _ ps hps, (pars_bd hok _ ps hps).1⟩) (fun _ _ _ _ h => h) _ (Nat.le_refl _)
 have hbd := stC_bd hf _ (Nat.le_refl _)
 have hlen := h1.len
 have hu := h1.u
 have ho := off_le hf (r := c.Rows.length + 1) (by omega)
 have ho2 := off_le hf (r := c.Rows.length) (by omega)
 rw [← workC_eq hk] at h1 h2 h3 h4 h5 hbd hlen hu
 rw [hfl] at h1 hbd hlen hu h5
 have e1 : pm c.Start.toNat (c.Rows.map faceR) c.Rows.length 0 = off c.Start.toNat (c.Rows.map faceR) (c.Rows.length + 1) := by simp [pm, smN]
 have e2 : pu c.Start.toNat (c.Rows.map faceR) c.Rows.length 0 = off c.Start.toNat (c.Rows.map faceR) c.Rows.length := by simp [pu, smN]
 have hB := hbd.B
 have hC := hbd.C
 exact ⟨h1, h5, hf, hl, hs, by omega, by omega, by omega, h2, h3, h4⟩
theorem rgreatS_eq (l : List api_Stitch) : ∃ b, F_raddleref25_Great l = some b := by
 unfold F_raddleref25_Great
 by_cases h1 : (60 : Int) < (l.length : Int)
 ·simp only [dT h1, if_true]; repeat' split
  all_goals exact ⟨_, rfl⟩
 ·simp only [dF h1, Bool.false_eq_true, if_false]; repeat' split
  all_goals exact ⟨_, rfl⟩
theorem rgreat26_eq (c : api_Chart) : ∃ b, F_raddleref26_Great c = some b := by
 have key : ∃ t, whileO (raddleref26_Great_l1 c) 0 = some t ∧ (t = .inr () ∨ t = .inl true) := by
  refine loop_ix (Nat.min c.Rows.length 150) (fun _ => True) _ trivial ?_ ?_
  ·intro k hk _
   have h1 : k < c.Rows.length := Nat.lt_of_lt_of_le hk (Nat.min_le_left _ _)
   have h2 : k < 150 := Nat.lt_of_lt_of_le hk (Nat.min_le_right _ _)
   obtain ⟨b, hb⟩ := rgreatS_eq c.Rows[k].Cells
   unfold raddleref26_Great_l1
   simp only [dT (show (k : Int) < (c.Rows.length : Int) by omega), if_true, dT (show (k : Int) < 150 by omega), Option.bind_some, idxO_nat h1, hb, w64_succ (show k < 9223372036854775807 by omega)]
   cases b with
   | true => exact .inr ⟨_, rfl, .inr rfl⟩
   | false => exact .inl ⟨rfl, trivial⟩
  ·intro _
   refine ⟨.inr (), ?_, .inl rfl⟩
   unfold raddleref26_Great_l1
   by_cases h : c.Rows.length ≤ 150
   ·rw [show Nat.min c.Rows.length 150 = c.Rows.length from Nat.min_eq_left h]
    simp only [dF (show ¬ (c.Rows.length : Int) < (c.Rows.length : Int) by omega), Bool.false_eq_true, if_false, Option.bind_some]
   ·rw [show Nat.min c.Rows.length 150 = 150 from Nat.min_eq_right (by omega)]
    simp only [dT (show ((150 : Nat) : Int) < (c.Rows.length : Int) by omega), if_true, dF (show ¬ ((150 : Nat) : Int) < 150 by omega), Bool.false_eq_true, if_false, Option.bind_some]
 obtain ⟨t, h1, h2⟩ := key
 unfold F_raddleref26_Great
 rw [h1]
 rcases h2 with rfl | rfl
 ·simp only [Option.bind_some]
  by_cases h1 : (12 : Int) < (c.Rows.length : Int)
  ·by_cases h2 : (c.Rows.length : Int) ≤ 100
   ·simp only [dT h1, dT h2, if_true, Option.bind_some]; exact ⟨_, rfl⟩
   ·simp only [dT h1, dF h2, if_true, Bool.false_eq_true, if_false, Option.bind_some]; exact ⟨_, rfl⟩
  ·simp only [dF h1, Bool.false_eq_true, if_false, Option.bind_some]; exact ⟨_, rfl⟩
 ·exact ⟨_, rfl⟩
def anc_loops_Row_0 : List (List Nat) := [[], [0], [], [0, 1, 2], [0, 1, 2, 3], [], [5], [], [7], [5, 6, 7, 8], [5, 6, 7, 8, 9], [0, 1, 2, 3, 4], [0, 1, 2, 3, 4, 5, 6, 7, 8, 9, 10, 11], [0, 1, 2, 3, 4, 5, 6, 7, 8, 9, 10, 11, 12]]
noncomputable def F_loops_Row (p0 : api_Chart) (p1 : Int) : Option (Int × Int × Int) :=
 (F_loops_of p0).bind fun r8 =>
 if r8.2 != 0 then
  some (0, 0, r8.2)
 else
  Option.bind (α := Bool) (
   if decide (p1 < 0) then
    some true
   else
    some (decide ((p0.Rows.length : Int) < p1))) fun a0 =>
  if a0 then
   some (0, 0, 2)
  else
   (idxO r8.1.rows p1).bind fun a8 =>
   (idxO r8.1.rows (w64 (p1 + 1))).bind fun a9 =>
   some (a8, a9, 0)
theorem c_loops_Row (E : Nat → Prop) (w0 : World) (p0 : api_Chart) (v0 : Value) (p1 : Int) (r : (Int × Int × Int)) (h : F_loops_Row p0 p1 = some r) (S : St0 E [] w0 w0 [] [fRep r_api_Chart (v0) p0]) :
 Calls Try.prog 22 #[v0, iv p1] w0 (Ret (X := Unit) E [] w0 (fun _ => .tuple #[.int .i64 r.1, .int .i64 r.2.1, .int .i64 r.2.2]) (fun _ => []) (fun _ => [])) := by
 unfold F_loops_Row at h
 obtain ⟨u1, rfl, aM⟩ := S.know (i := 0) (e := fRep r_api_Chart (v0) p0) rfl
 have S := S.learn (fRep (rL r_api_Row) u1 p0.Rows) aM
 obtain ⟨ah, ai, _, rfl, _⟩ := aM
 refine sEnter (args := [.agg #[iv p0.Start, .slice ah p0.Rows.length ai], iv p1]) 36 Try.func22 rfl rfl (by simp) S (fun a S => ?_)
 refine sSeq (fun K5 aQ => sRegion (sBox (v := .agg #[iv p0.Start, .slice ah p0.Rows.length ai]) S (wN rfl) rfl rfl [iv p0.Start, .slice ah p0.Rows.length ai] rfl rfl (lb rfl) fun a b6 w S => ?_))
 refine sN S fun a S => ?_
 refine sN S fun a S => ?_
 refine sN S fun a S => ?_
 refine lT (aQ _ _ (sSeq (fun K7 aR => sRegion (sLoadN (p := b6) (off := 0) (T := 24) (vs := [iv p0.Start, .slice ah p0.Rows.length ai]) 0 [iv p0.Start, .slice ah p0.Rows.length ai] S (wN rfl) rfl rfl rfl rfl rfl rfl rfl (lb rfl) fun a S => ?_))))
 obtain ⟨r8, aS, h⟩ := bS h
 refine sCall (X := Value) (f := 33) (vs := [.agg #[iv p0.Start, .slice ah p0.Rows.length ai]]) (val := c_loops_of_val r8) (B' := fun _ => []) (D' := c_loops_of_D r8) [] [eBox b6 24 [iv p0.Start, .slice ah p0.Rows.length ai]] [fRep r_api_Chart (.agg #[iv p0.Start, .slice ah p0.Rows.length ai]) p0] [0] [1] S (wN rfl) rfl callee33 rfl (by decide) rfl rfl (fun E1 w1 S1 => c_loops_of E1 w1 p0 (.agg #[iv p0.Start, .slice ah p0.Rows.length ai]) r8 aS S1) rfl (lb rfl) fun aT a w S => ?_
 obtain ⟨aU, aV, aW, aX, rfl, ap, aq, ar, au⟩ := S.mem.know (i := 0) (e := fRep r_loops_piece (aT) r8.1) rfl
 have S := S.learn (fRep (rL r_api_Loop) aU r8.1.loops) ap
 obtain ⟨aa, ab, _, rfl, _⟩ := ap
 have S := S.learn (fRep (rL (rI .i64)) aV r8.1.rows) aq
 obtain ⟨a0, a8, _, rfl, _⟩ := aq
 have S := S.learn (fRep (rL (rI .i64)) aW r8.1.bound) ar
 obtain ⟨ac, ae, _, rfl, _⟩ := ar
 have S := S.learn (fRep (rL r_A2_Int) aX r8.1.cross) au
 obtain ⟨af, ag, _, rfl, _⟩ := au
 refine sM S fun a S => ?_
 refine sExtract (vs := [.agg #[.slice aa r8.1.loops.length ab, .slice a0 r8.1.rows.length a8, .slice ac r8.1.bound.length ae, .slice af r8.1.cross.length ag, iv r8.1.next], iv r8.2]) (.agg #[.slice aa r8.1.loops.length ab, .slice a0 r8.1.rows.length a8, .slice ac r8.1.bound.length ae, .slice af r8.1.cross.length ag, iv r8.1.next]) S (wN rfl) rfl rfl rfl rfl (lb rfl) fun a S => ?_
 refine sExtract (vs := [.agg #[.slice aa r8.1.loops.length ab, .slice a0 r8.1.rows.length a8, .slice ac r8.1.bound.length ae, .slice af r8.1.cross.length ag, iv r8.1.next], iv r8.2]) (iv r8.2) S (wN rfl) rfl rfl rfl rfl (lb rfl) fun a S => ?_
 refine sAlloc (.agg #[.slice none 0 0, .slice none 0 0, .slice none 0 0, .slice none 0 0, iv 0]) S (wN rfl) rfl rfl [.slice none 0 0, .slice none 0 0, .slice none 0 0, .slice none 0 0, iv 0] rfl rfl (lb rfl) fun a al w S => ?_
 refine sStore (p := al) (off := 0) (T := 73) (vs := [.slice none 0 0, .slice none 0 0, .slice none 0 0, .slice none 0 0, iv 0]) (v := .agg #[.slice aa r8.1.loops.length ab, .slice a0 r8.1.rows.length a8, .slice ac r8.1.bound.length ae, .slice af r8.1.cross.length ag, iv r8.1.next]) 0 [.slice aa r8.1.loops.length ab, .slice a0 r8.1.rows.length a8, .slice ac r8.1.bound.length ae, .slice af r8.1.cross.length ag, iv r8.1.next] S (wN rfl) rfl rfl rfl rfl rfl rfl rfl (by simp) rfl fun a w S => ?_
 refine sN S fun a S => ?_
 refine lT (aR _ _ (sSeq (fun bb av => sSeq (fun bc aw => sRegion (sM S fun a S => ?_)))))
 refine sBin _ S (wN rfl) rfl rfl rfl (bNe _ _ _ _ .i64 r8.2 0) rfl (lb rfl) fun a S => ?_
 refine lT (aw _ _ ?_)
 rcases iS h with ⟨am, h⟩ | ⟨am, h⟩
 ·refine sCondT S rfl am ?_
  refine sSeq (fun bf ax => sRegion (sM S fun a S => ?_))
  refine sN S fun a S => ?_
  refine sN S fun a S => ?_
  refine sN S fun a S => ?_
  refine lT (ax _ _ ?_)
  obtain rfl := tS h
  exact wp_ret (rThen (sRet (.tuple #[iv 0, iv 0, iv r8.2]) S (rsl3 rfl (rvT (t := 4) (v := iv 0) S rfl) (rvT (t := 5) (v := iv 0) S rfl) (rvT (t := 6) (v := iv r8.2) S rfl)) ⟨(), rfl, S.mem.sel [] [] (by decide) rfl rfl⟩))
 refine sCondF S rfl am ?_
 refine wp_skip (leafT (av _ _ ?_))
 refine sSeq (fun bg ay => ?_)
 obtain ⟨aZ, h, ba⟩ := bS h
 refine sCut (fun a w => ∃ az, az = aZ ∧ St [] E [] w0 36 a w [(1, iv p1), (7, .pointer (some ⟨al, 0, none⟩)), (24, .bool az)] [eBox al 73 [.slice aa r8.1.loops.length ab, .slice a0 r8.1.rows.length a8, .slice ac r8.1.bound.length ae, .slice af r8.1.cross.length ag, iv r8.1.next]] [fRep (rL r_api_Loop) (.slice aa r8.1.loops.length ab) r8.1.loops, fRep (rL (rI .i64)) (.slice a0 r8.1.rows.length a8) r8.1.rows, fRep (rL (rI .i64)) (.slice ac r8.1.bound.length ae) r8.1.bound, fRep (rL r_A2_Int) (.slice af r8.1.cross.length ag) r8.1.cross]) ?_ (fun a w hI => ?_)
 ·refine sRegion (sM S fun a S => ?_)
  refine sBin _ S (wN rfl) rfl rfl rfl (bLt _ _ _ _ .i64 p1 0) rfl (lb rfl) fun a S => ?_
  refine sM S fun a S => ?_
  rcases iS h with ⟨a9, h⟩ | ⟨a9, h⟩
  ·refine sSkN 5 2 false 18 S rfl rfl a9 rfl fun a S => ?_
   refine sPickT (.bool true) S (wN rfl) rfl rfl a9 rfl rfl (lb rfl) fun a S => ?_
   exact lT (⟨true, Option.some.inj h, S.fix [0] [3, 2, 1, 0] (by decide) rfl rfl rfl⟩)
  refine sMove (iv p1) S (wG 2 false 18 rfl rfl rfl a9) (.inl rfl) rfl rfl (lb rfl) fun a S => ?_
  refine sField (b := b6) (off := 0) 1 1 S (wG 2 false 18 rfl rfl rfl a9) rfl rfl rfl rfl rfl (lb rfl) fun a S => ?_
  refine sLoad1 1 (.slice ah p0.Rows.length ai) S (wG 2 false 18 rfl rfl rfl a9) rfl rfl rfl rfl rfl rfl (lb rfl) fun a S => ?_
  refine sLen S (wG 2 false 18 rfl rfl rfl a9) rfl Try.underlying22 rfl rfl (lb rfl) fun a S => ?_
  refine sBin _ S (wG 2 false 18 rfl rfl rfl a9) rfl rfl rfl (bGt _ _ _ _ .i64 p1 (p0.Rows.length : Int)) rfl (lb rfl) fun a S => ?_
  refine sPickF (.bool (decide ((p0.Rows.length : Int) < p1))) S (wN rfl) rfl rfl a9 rfl rfl (lb rfl) fun a S => ?_
  exact lT (⟨decide ((p0.Rows.length : Int) < p1), Option.some.inj h, S.fix [0] [3, 2, 1, 0] (by decide) rfl rfl rfl⟩)
 obtain ⟨az, rfl, S⟩ := hI
 have h := ba
 try dsimp only at h
 rcases iS h with ⟨ao, h⟩ | ⟨ao, h⟩
 ·refine sCondT S rfl ao ?_
  refine sSeq (fun bh aA => sRegion (sN S fun a S => ?_))
  refine sN S fun a S => ?_
  refine sN S fun a S => ?_
  refine lT (aA _ _ ?_)
  obtain rfl := tS h
  exact wp_ret (rThen (sRet (.tuple #[iv 0, iv 0, iv 2]) S (rsl3 rfl (rvT (t := 4) (v := iv 0) S rfl) (rvT (t := 5) (v := iv 0) S rfl) (rvT (t := 6) (v := iv 2) S rfl)) ⟨(), rfl, S.mem.sel [] [] (by decide) rfl rfl⟩))
 refine sCondF S rfl ao ?_
 refine wp_skip (leafT (ay _ _ ?_))
 refine sSeq (fun bi aC => ?_)
 obtain ⟨aj, aG, h⟩ := bS h
 obtain ⟨ak, aH, h⟩ := bS h
 obtain ⟨aI, aJ, S⟩ := pIdx (P := Try.prog) (r := (rI .i64)) (v := .slice a0 r8.1.rows.length a8) (xs := r8.1.rows) (j := p1) 32 3 1 S Try.underlying32 rfl rfl aG
 obtain ⟨aO, S⟩ := pLoad (r := (rI .i64)) (q := aI) (x := aj) 0 S rfl
 obtain rfl : aO = iv aj := S.mem.know (i := 1) (e := fRep (rI .i64) (aO) aj) rfl
 obtain ⟨aK, aL, S⟩ := pIdx (P := Try.prog) (r := (rI .i64)) (v := .slice a0 r8.1.rows.length a8) (xs := r8.1.rows) (j := w64 (p1 + 1)) 32 3 4 S Try.underlying32 rfl rfl aH
 obtain ⟨aP, S⟩ := pLoad (r := (rI .i64)) (q := aK) (x := ak) 0 S rfl
 obtain rfl : aP = iv ak := S.mem.know (i := 1) (e := fRep (rI .i64) (aP) ak) rfl
 refine sDraw (nf := []) (W := [(0, 25, .pointer (some ⟨al, 1, none⟩)), (1, 26, .slice a0 r8.1.rows.length a8), (2, 27, iv p1), (3, 28, aI), (4, 29, iv aj), (5, 30, .pointer (some ⟨al, 1, none⟩)), (6, 31, .slice a0 r8.1.rows.length a8), (7, 32, iv p1), (8, 33, iv (w64 (p1 + 1))), (9, 34, aK), (10, 35, iv ak), (11, 4, iv aj), (12, 5, iv ak), (13, 6, iv 0)]) rfl S ?_
 refine node_by (A := anc_loops_Row_0) 14 (by kernel_rfl) (by kernel_rfl) (by kernel_rfl) (by kernel_rfl) (by kernel_rfl) [0, 1, 2, 3, 4, 5, 6, 7, 8, 9, 10, 11, 12, 13] (by kernel_rfl) (by decide) (by decide) (fF ?_ (fF ?_ (fF ?_ (fF ?_ (fF ?_ (fF ?_ (fF ?_ (fF ?_ (fF ?_ (fF ?_ (fF ?_ (fF ?_ (fF ?_ (fF ?_ (trivial))))))))))))))) [(4, iv aj), (5, iv ak), (6, iv 0)] (fin_of [some 11, some 12, some 13] rfl (by kernel_rfl) (by kernel_rfl)) (fun _ a w S => ?_)
 ·refine fJ [(7, _)] 0 [none] fun G a w S => ?_
  exact sField (b := al) (off := 0) 1 1 S (wN rfl) rfl rfl rfl rfl rfl (lb rfl) fun a S => leafL ⟨rfl, S⟩
 ·refine fJ [(25, _)] 1 [some 0] fun G a w S => ?_
  exact sLoad1 0 (.slice a0 r8.1.rows.length a8) S (wN rfl) rfl rfl rfl rfl rfl rfl (lb rfl) fun a S => leafL ⟨rfl, S⟩
 ·exact fM 2 none rfl rfl rfl rfl (.inl rfl) rfl rfl rfl
 ·refine fJ [(26, _), (27, _)] 3 [some 1, some 2] fun G a w S => ?_
  exact sIdxV S (wN rfl) rfl rfl rfl aJ rfl (lb rfl) fun a S => leafL ⟨rfl, S⟩
 ·refine fJ [(28, _)] 4 [some 3] fun G a w S => ?_
  exact sLoadV1 (vq := aI) 3 (iv aj) S (wN rfl) rfl rfl rfl rfl rfl (lb rfl) fun a S => leafL ⟨rfl, S⟩
 ·refine fJ [(7, _)] 5 [none] fun G a w S => ?_
  exact sField (b := al) (off := 0) 1 1 S (wN rfl) rfl rfl rfl rfl rfl (lb rfl) fun a S => leafL ⟨rfl, S⟩
 ·refine fJ [(30, _)] 6 [some 5] fun G a w S => ?_
  exact sLoad1 0 (.slice a0 r8.1.rows.length a8) S (wN rfl) rfl rfl rfl rfl rfl rfl (lb rfl) fun a S => leafL ⟨rfl, S⟩
 ·exact fM 7 none rfl rfl rfl rfl (.inl rfl) rfl rfl rfl
 ·refine fJ [(32, _)] 8 [some 7] fun G a w S => ?_
  exact sBin _ S (wN rfl) rfl rfl rfl (bAdd _ _ _ _ p1 1) rfl (lb rfl) fun a S => leafL ⟨rfl, S⟩
 ·refine fJ [(31, _), (33, _)] 9 [some 6, some 8] fun G a w S => ?_
  exact sIdxV S (wN rfl) rfl rfl rfl aL rfl (lb rfl) fun a S => leafL ⟨rfl, S⟩
 ·refine fJ [(34, _)] 10 [some 9] fun G a w S => ?_
  exact sLoadV1 (vq := aK) 0 (iv ak) S (wN rfl) rfl rfl rfl rfl rfl (lb rfl) fun a S => leafL ⟨rfl, S⟩
 ·exact fM 11 (some 4) rfl rfl rfl rfl (.inr rfl) rfl rfl rfl
 ·exact fM 12 (some 10) rfl rfl rfl rfl (.inr rfl) rfl rfl rfl
 ·refine fJ [] 13 [] fun G a w S => ?_
  exact sN S fun a S => leafL ⟨rfl, S⟩
 refine leafT (aC _ _ ?_)
 obtain rfl := tS h
 exact wp_ret (sRet (.tuple #[iv aj, iv ak, iv 0]) S (rsl3 rfl (rvT (t := 4) (v := iv aj) S rfl) (rvT (t := 5) (v := iv ak) S rfl) (rvT (t := 6) (v := iv 0) S rfl)) ⟨(), rfl, S.mem.sel [] [] (by decide) rfl rfl⟩)
def rowOf (c : api_Chart) (i : Int) : Int × Int × Int := if chk c = 0 then (if 0 ≤ i ∧ i ≤ (c.Rows.length : Int) then (((off c.Start.toNat (c.Rows.map faceR) i.toNat : Nat) : Int), ((off c.Start.toNat (c.Rows.map faceR) (i.toNat + 1) : Nat) : Int), 0) else (0, 0, 2)) else (0, 0, chk c)
theorem rs_idx {c : api_Chart} (hk : chk c = 0) {k : Nat} (h : k ≤ c.Rows.length + 1) : idxO (workC c).2 (k : Int) = some ((off c.Start.toNat (c.Rows.map faceR) k : Nat) : Int) := by
 rw [(wfin_of hk).rs, idxO_nat (by simp; omega)]; simp
theorem row_eq {c : api_Chart} (hw : wfR c.Rows) (i : Int) : F_loops_Row c i = some (rowOf c i) := by
 unfold F_loops_Row rowOf
 rw [of_eq c hw, Option.bind_some]
 by_cases hk : chk c = 0
 ·rw [if_pos hk, if_pos hk]
  have hnr := (wfin_of hk).nr
  unfold pieceOf
  dsimp only
  simp only [show ((0 : Int) != 0) = false from rfl, Bool.false_eq_true, if_false]
  by_cases h0 : i < 0
  ·rw [dT h0, if_pos rfl, Option.bind_some, if_pos rfl, if_neg (by omega)]
  ·rw [dF h0, if_neg (by simp), Option.bind_some]
   by_cases h1 : (c.Rows.length : Int) < i
   ·rw [dT h1, if_pos rfl, if_neg (by omega)]
   ·obtain ⟨k, rfl⟩ := Int.eq_ofNat_of_zero_le (show 0 ≤ i by omega)
    rw [dF h1, if_neg (by simp), if_pos (by omega), rs_idx hk (by omega), Option.bind_some, w64_succ (by omega), rs_idx hk (by omega), Option.bind_some, Int.toNat_natCast]
 ·rw [if_neg hk, if_neg hk]
  simp only [nT hk, if_true]
noncomputable def chart_twin_l1 (p0 : (List api_Row)) : (List api_Row × Int) → Option ((List api_Row × Int) ⊕ List api_Row) := fun s0 => match s0 with
 | (a8, a0) =>
  if decide (a0 < (p0.length : Int)) then
   (idxO p0 a0).bind fun a9 =>
   (makeO (a9.Cells.length : Int) (api_Stitch.mk 0 false 0 0)).bind fun aa =>
   (idxO a8 a0).bind fun ab =>
   (setO a8 a0 (api_Row.mk ab.Back (cpO aa a9.Cells))).bind fun ac =>
   some (.inl (ac, w64 (a0 + 1)))
  else
   some (.inr a8)
noncomputable def F_chart_twin (p0 : (List api_Row)) : Option (List api_Row) :=
 (makeO (p0.length : Int) (api_Row.mk false ([] : (List api_Stitch)))).bind fun m7 =>
 Option.bind (α := List api_Row) (
  (whileO (chart_twin_l1 p0) (cpO m7 p0, 0)).bind fun a0 =>
   some a0) fun a8 =>
 some a8
def anc_chart_twin_s0_0 : List (List Nat) := [[], [], [0, 1], [0, 1, 2], [0, 1, 2, 3], [], [5], [0, 1, 2, 3, 4, 5, 6]]
noncomputable def chart_twin_s0_l1 (p0 : (List api_Row)) : (List api_Row × Int) → Option ((List api_Row × Int) ⊕ List api_Row) := fun s0 => match s0 with
 | (a8, a0) =>
  if decide (a0 < (p0.length : Int)) then
   (idxO p0 a0).bind fun a9 =>
   (makeO (a9.Cells.length : Int) (api_Stitch.mk 0 false 0 0)).bind fun aa =>
   (idxO a8 a0).bind fun ab =>
   (setO a8 a0 (api_Row.mk ab.Back (cpO aa a9.Cells))).bind fun ac =>
   some (.inl (ac, w64 (a0 + 1)))
  else
   some (.inr a8)
noncomputable def F_chart_twin_s0 (p0 : (List api_Row)) : Option (List api_Row) :=
 (makeO (p0.length : Int) (api_Row.mk false ([] : (List api_Stitch)))).bind fun m7 =>
 Option.bind (α := List api_Row) (
  (whileO (chart_twin_s0_l1 p0) (cpO m7 p0, 0)).bind fun a0 =>
   some a0) fun a8 =>
 some a8
theorem c_chart_twin_s0 (E : Nat → Prop) (w0 : World) (p0 : (List api_Row)) (v0 : Value) (r : (List api_Row)) (h : F_chart_twin_s0 p0 = some r) (S : St0 E [] w0 w0 [] [fRep (rL r_api_Row) (v0) p0]) :
 Calls Try.prog 40 #[v0] w0 (Ret (X := Option Addr × Nat) E [] w0 (fun x => .slice x.1 r.length x.2) (fun x => [eRow r_api_Row 65 (.slice x.1 r.length x.2) r]) (fun _ => [])) := by
 unfold F_chart_twin_s0 at h
 obtain ⟨al, am, _, rfl, _⟩ := S.know (i := 0) (e := fRep (rL r_api_Row) (v0) p0) rfl
 refine sEnter (args := [.slice al p0.length am]) 37 Try.func40 rfl rfl (by simp) S (fun a S => ?_)
 refine sSeq (fun K3 aW => sRegion (sN S fun a S => ?_))
 refine lT (aW _ _ (sSeq (fun K4 aX => sRegion (sM S fun a S => ?_))))
 refine sLen S (wN rfl) rfl Try.underlying22 rfl rfl (lb rfl) fun a S => ?_
 obtain ⟨m7, aZ, h⟩ := bS h
 refine sMakeG (r := r_api_Row) (m := (p0.length : Int)) (xs := m7) (.agg #[.bool false, .slice none 0 0]) (api_Row.mk false ([] : (List api_Stitch))) 32 S (wN rfl) rfl Try.underlying22 rfl (by decide) (fun E w => ⟨_, rfl, rL_nil _ E w⟩) rfl rfl aZ rfl (lb rfl) fun a w aa ab S => ?_
 refine sN S fun a S => ?_
 refine lT (aX _ _ (sSeq (fun K9 ba => sRegion (sM S fun a S => ?_))))
 refine sM S fun a S => ?_
 refine sCopyR (r := r_api_Row) (T := 65) (xs := m7) (ys := p0) (v := .slice aa m7.length ab) (u := .slice al p0.length am) 0 0 S (wN rfl) rfl Try.underlying22 rfl rfl rfl rfl rfl rfl (lb rfl) fun a w S => ?_
 rw [cpO_v m7 p0 aa ab] at S
 refine lT (ba _ _ ?_)
 obtain ⟨bb, h, bc⟩ := bS h
 refine sCut (fun a w => ∃ aj, aj = bb ∧ St [] E [] w0 37 a w [(3, .slice aa aj.length ab)] [eRow r_api_Row 65 (.slice aa aj.length ab) aj] []) ?_ (fun a w hI => ?_)
 rotate_left
 ·obtain ⟨aj, rfl, S⟩ := hI
  have h := bc
  try dsimp only at h
  refine sSeq (fun bk ar => sRegion (sM S fun a S => ?_))
  refine sN S fun a S => ?_
  refine lT (ar _ _ ?_)
  obtain rfl := tS h
  exact wp_ret (sRet (.slice aa aj.length ab) S (rsl1 rfl (rvT (t := 2) (v := .slice aa aj.length ab) S rfl)) ⟨(aa, ab), rfl, S.mem.sel [0] [] (by decide) rfl rfl⟩)
 refine sSeq (fun bl au => sRegion (sM S fun a S => ?_))
 refine sLen S (wN rfl) rfl Try.underlying22 rfl rfl (lb rfl) fun a S => ?_
 refine sM S fun a S => ?_
 refine lT (au _ _ (wp_block ?_))
 obtain ⟨bm, hl, bf⟩ := bS h
 refine sLoop hl (fun s0 a w => match s0 with | (ac, ah) => St [] E [] w0 37 a w [(3, .slice aa ac.length ab), (12, .slice al p0.length am), (13, iv (p0.length : Int)), (14, iv ah)] [eRow r_api_Row 65 (.slice aa ac.length ab) ac] [fRep (rL r_api_Row) (.slice al p0.length am) p0]) (S.fix [0] [0] (by decide) rfl rfl rfl) ?_
 clear hl h
 intro s0 a w c0 hI h av
 obtain ⟨ac, ah⟩ := s0
 unfold chart_twin_s0_l1 at h
 dsimp only at h hI
 have S := hI
 refine sSeq (fun bn aw => sRegion (sBin _ S (wN rfl) rfl rfl rfl (bLt _ _ _ _ .i64 ah (p0.length : Int)) rfl (lb rfl) fun a S => ?_))
 refine lT (aw _ _ (sSeq (fun bo ax => ?_)))
 rcases iS h with ⟨ak, h⟩ | ⟨ak, h⟩
 rotate_left
 ·refine sCondF S rfl ak ?_
  obtain rfl := tS h
  obtain rfl := av _ rfl
  have h := bf
  try dsimp only at h
  exact wp_exit (xThen (xThen (xHit (leafT (⟨ac, Option.some.inj h, S.fix [0] [] (by decide) rfl rfl rfl⟩)))))
 refine sCondT S rfl ak ?_
 refine wp_skip (leafT (ax _ _ ?_))
 refine sSeq (fun bp ay => wp_block ?_)
 refine sSeq (fun bq az => sRegion (sM S fun a S => ?_))
 obtain ⟨a0, aA, h⟩ := bS h
 obtain ⟨aS, aC, S⟩ := pIdx (P := Try.prog) (r := r_api_Row) (v := .slice al p0.length am) (xs := p0) (j := ah) 22 65 0 S Try.underlying22 rfl rfl aA
 refine sIdxV S (wN rfl) rfl rfl rfl aC rfl (lb rfl) fun a S => ?_
 obtain ⟨bg, S⟩ := pLoad (r := r_api_Row) (q := aS) (x := a0) 0 S rfl
 obtain ⟨bh, rfl, ao⟩ := S.mem.know (i := 1) (e := fRep r_api_Row (bg) a0) rfl
 have S := S.learn (fRep (rL r_api_Stitch) bh a0.Cells) ao
 obtain ⟨ae, af, _, rfl, _⟩ := ao
 refine sLoadVN (vq := aS) 1 [.bool a0.Back, .slice ae a0.Cells.length af] S (wN rfl) rfl rfl rfl rfl rfl rfl (lb rfl) fun a S => ?_
 refine sAlloc (.agg #[.bool false, .slice none 0 0]) S (wN rfl) rfl rfl [.bool false, .slice none 0 0] rfl rfl (lb rfl) fun a aq w S => ?_
 refine sN S fun a S => ?_
 refine sStore (p := aq) (off := 0) (T := 65) (vs := [.bool false, .slice none 0 0]) (v := .agg #[.bool a0.Back, .slice ae a0.Cells.length af]) 0 [.bool a0.Back, .slice ae a0.Cells.length af] S (wN rfl) rfl rfl rfl rfl rfl rfl rfl (by simp) rfl fun a w S => ?_
 refine lT (az _ _ (sSeq (fun br aG => sRegion (sM S fun a S => ?_))))
 refine sM S fun a S => ?_
 refine sField (b := aq) (off := 0) 1 1 S (wN rfl) rfl rfl rfl rfl rfl (lb rfl) fun a S => ?_
 refine sLoad1 0 (.slice ae a0.Cells.length af) S (wN rfl) rfl rfl rfl rfl rfl rfl (lb rfl) fun a S => ?_
 refine sLen S (wN rfl) rfl Try.underlying62 rfl rfl (lb rfl) fun a S => ?_
 obtain ⟨ag, aH, h⟩ := bS h
 refine sMakeG (r := r_api_Stitch) (m := (a0.Cells.length : Int)) (xs := ag) (.agg #[.int .u8 0, .bool false, iv 0, iv 0]) (api_Stitch.mk 0 false 0 0) 24 S (wN rfl) rfl Try.underlying62 rfl (by decide) (fun _ _ => rfl) rfl rfl aH rfl (lb rfl) fun a w a8 a9 S => ?_
 obtain ⟨aI, ai, h⟩ := bS h
 obtain ⟨bi, aJ, aK⟩ := pIdxR (P := Try.prog) (r := r_api_Row) (T := 65) (v := .slice aa ac.length ab) (xs := ac) (j := ah) 22 65 2 S Try.underlying22 rfl rfl ai
 refine sIdxV S (wN rfl) rfl rfl rfl aJ rfl (lb rfl) fun a S => ?_
 obtain ⟨bj, aL, aM⟩ := pFldR (P := Try.prog) 65 1 1 aK rfl
 refine sFldV (q := bi) S (wN rfl) rfl rfl aL rfl (lb rfl) fun a S => ?_
 refine sStoreH (r := r_api_Row) (T := 65) (xs := ac) (x := aI) (v := .slice aa ac.length ab) (vq := bj) (u := .slice a8 ag.length a9) (j := ah) 2 1 S aM (wN rfl) rfl rfl rfl rfl ai (lb rfl) rfl rfl rfl rfl fun a w S => ?_
 refine lT (aG _ _ ?_)
 obtain ⟨aT, ap, h⟩ := bS h
 obtain ⟨aU, aO, aP⟩ := pIdxH (P := Try.prog) (r := r_api_Row) (T := 65) (v := .slice aa ac.length ab) (xs := ac) (j := ah) 22 65 0 S Try.underlying22 rfl rfl ai
 obtain ⟨aV, aQ, aR⟩ := pFldR (P := Try.prog) 65 1 1 aP rfl
 refine sDraw (nf := [7]) (W := [(0, 27, .slice aa ac.length ab), (1, 28, iv ah), (2, 29, aU), (3, 30, aV), (4, 31, .slice a8 ag.length a9), (5, 32, .pointer (some ⟨aq, 1, none⟩)), (6, 33, .slice ae a0.Cells.length af)]) rfl S ?_
 refine node_by (A := anc_chart_twin_s0_0) 8 (by kernel_rfl) (by kernel_rfl) (by kernel_rfl) (by kernel_rfl) (by kernel_rfl) [0, 1, 2, 3, 4, 5, 6] (by kernel_rfl) (by decide) (by decide) (fF ?_ (fF ?_ (fF ?_ (fF ?_ (fF ?_ (fF ?_ (fF ?_ (fN ?_ (trivial))))))))) [] (fun q hq => by cases hq) (fun hY => absurd (hY 7 (by decide)) (by decide))
 ·exact fM 0 none rfl rfl rfl rfl (.inl rfl) rfl rfl rfl
 ·exact fM 1 none rfl rfl rfl rfl (.inl rfl) rfl rfl rfl
 ·refine fJ [(27, _), (28, _)] 2 [some 0, some 1] fun G a w S => ?_
  exact sIdxV S (wN rfl) rfl rfl rfl aO rfl (lb rfl) fun a S => leafL ⟨rfl, S⟩
 ·refine fJ [(29, _)] 3 [some 2] fun G a w S => ?_
  exact sFldV (q := aU) S (wN rfl) rfl rfl aQ rfl (lb rfl) fun a S => leafL ⟨rfl, S⟩
 ·refine fJ [(30, _)] 4 [some 3] fun G a w S => ?_
  exact sLoadH (r := r_api_Row) (T := 65) (xs := ac) (u := .slice a8 ag.length a9) (v := .slice aa ac.length ab) (vq := aV) (j := ah) 0 1 S aR (wN rfl) rfl rfl rfl rfl rfl (lb rfl) fun a S => leafL ⟨rfl, S⟩
 ·refine fJ [(5, _)] 5 [none] fun G a w S => ?_
  exact sField (b := aq) (off := 0) 1 1 S (wN rfl) rfl rfl rfl rfl rfl (lb rfl) fun a S => leafL ⟨rfl, S⟩
 ·refine fJ [(32, _)] 6 [some 5] fun G a w S => ?_
  exact sLoad1 2 (.slice ae a0.Cells.length af) S (wN rfl) rfl rfl rfl rfl rfl rfl (lb rfl) fun a S => leafL ⟨rfl, S⟩
 refine ⟨_, [(31, .slice a8 ag.length a9), (33, .slice ae a0.Cells.length af)], rfl, (srcs_of [some 4, some 6] rfl rfl rfl), fun G a w S => ?_⟩
 refine sCopyR (r := r_api_Stitch) (T := 61) (xs := ag) (ys := a0.Cells) (v := .slice a8 ag.length a9) (u := .slice ae a0.Cells.length af) 1 0 S (wN rfl) rfl Try.underlying62 rfl rfl rfl rfl rfl rfl (lb rfl) fun a w S => ?_
 refine leafL ⟨rfl, _, _, .inl ⟨34, (iv ((Nat.min a0.Cells.length ag.length : Nat) : Int)), [], rfl, S, hz_of rfl, ?_⟩⟩
 refine node_by (A := anc_chart_twin_s0_0) 8 (by kernel_rfl) (by kernel_rfl) (by kernel_rfl) (by kernel_rfl) (by kernel_rfl) [7, 0, 1, 2, 3, 4, 5, 6] (by kernel_rfl) (by decide) (by decide) (fD 7 (fD 7 (fD 7 (fD 7 (fD 7 (fD 7 (fD 7 (fY (trivial))))))))) [(3, .slice aa ac.length ab), (12, .slice al p0.length am), (13, iv (p0.length : Int)), (14, iv ah)] (fin_of [none, none, none, none] rfl (by kernel_rfl) (by kernel_rfl)) (fun _ a w S => ?_)
 rw [cpO_v ag a0.Cells a8 a9] at S
 have S := S.shutR (r := r_api_Stitch) (T := 61) (v := .slice a8 (cpO ag a0.Cells).length a9) (xs := (cpO ag a0.Cells)) 0 rfl
 have S := S.closeH (r := r_api_Row) (s := (rL r_api_Stitch)) (T := 65) (xs := ac) (ys := aT) (x := aI) (y := (api_Row.mk aI.Back (cpO ag a0.Cells))) (z := (cpO ag a0.Cells)) (v := .slice aa ac.length ab) (u := .slice a8 (cpO ag a0.Cells).length a9) (j := ah) 0 1 rfl (S.mem.know (i := 0) (e := fRep (rL r_api_Stitch) (.slice a8 (cpO ag a0.Cells).length a9) (cpO ag a0.Cells)) rfl) rfl (lb rfl) ai (upd_api_Row_Cells _ _) ap
 rw [setO_v ap aa ab] at S
 refine leafB (leafT (ay _ _ ?_))
 refine sRegion (sBin _ S (wN rfl) rfl rfl rfl (bAdd _ _ _ _ ah 1) rfl (lb rfl) fun a S => ?_)
 refine sM S fun a S => ?_
 exact lT (⟨(aT, w64 (ah + 1)), (Option.some.inj h).symm, (S.fix [0] [5] (by decide) rfl rfl rfl)⟩)
def anc_chart_Flip_0 : List (List Nat) := [[], [0], [], [], [3], [], [3, 4, 5], [3, 4, 5, 6], [3, 4, 5, 6, 7], [3, 4, 5, 6, 7, 8], [0, 1, 2, 3, 4, 5, 6, 7, 8, 9], [0, 1, 2, 3, 4, 5, 6, 7, 8, 9, 10], [0, 1, 2, 3, 4, 5, 6, 7, 8, 9, 10, 11]]
noncomputable def chart_Flip_l1 (aa : (List api_Row)) : (Int × List api_Row) → Option ((Int × List api_Row) ⊕ List api_Row) := fun s0 => match s0 with
 | (a0, a8) =>
  if decide (a0 < (aa.length : Int)) then
   (idxO a8 a0).bind fun a9 =>
   (setO a8 a0 (api_Row.mk (!a9.Back) a9.Cells)).bind fun ab =>
   some (.inl (w64 (a0 + 1), ab))
  else
   some (.inr a8)
noncomputable def F_chart_Flip (p0 : api_Chart) : Option (api_Chart × Int) :=
 (F_chart_Check p0).bind fun a0 =>
 if a0 != 0 then
  some ((api_Chart.mk 0 ([] : (List api_Row))), a0)
 else
  (F_chart_twin_s0 p0.Rows).bind fun a8 =>
  Option.bind (α := List api_Row) (
   (whileO (chart_Flip_l1 a8) (0, a8)).bind fun a9 =>
    some a9) fun aa =>
  some ((api_Chart.mk p0.Start aa), 0)
def c_chart_Flip_val (r : (api_Chart × Int)) (x : Value) : Value := .tuple #[x, .int .i64 r.2]
def c_chart_Flip_D (r : (api_Chart × Int)) (x : Value) : List Fact := [fRep r_api_Chart x r.1]
theorem c_chart_Flip (E : Nat → Prop) (w0 : World) (p0 : api_Chart) (v0 : Value) (r : (api_Chart × Int)) (h : F_chart_Flip p0 = some r) (S : St0 E [] w0 w0 [] [fRep r_api_Chart (v0) p0]) :
 Calls Try.prog 26 #[v0] w0 (Ret (X := Value) E [] w0 (c_chart_Flip_val r) (fun _ => []) (c_chart_Flip_D r)) := by
 unfold F_chart_Flip at h
 obtain ⟨u1, rfl, aP⟩ := S.know (i := 0) (e := fRep r_api_Chart (v0) p0) rfl
 have S := S.learn (fRep (rL r_api_Row) u1 p0.Rows) aP
 obtain ⟨ab, ac, _, rfl, _⟩ := aP
 refine sEnter (args := [.agg #[iv p0.Start, .slice ab p0.Rows.length ac]]) 36 Try.func26 rfl rfl (by simp) S (fun a S => ?_)
 refine sSeq (fun K5 aU => sRegion (sBox (v := .agg #[iv p0.Start, .slice ab p0.Rows.length ac]) S (wN rfl) rfl rfl [iv p0.Start, .slice ab p0.Rows.length ac] rfl rfl (lb rfl) fun a b6 w S => ?_))
 refine sAlloc (.agg #[iv 0, .slice none 0 0]) S (wN rfl) rfl rfl [iv 0, .slice none 0 0] rfl rfl (lb rfl) fun a b7 w S => ?_
 refine sN S fun a S => ?_
 refine lT (aU _ _ (sSeq (fun K8 aV => sSeq (fun K9 aW => sRegion (sLoadN (p := b6) (off := 0) (T := 24) (vs := [iv p0.Start, .slice ab p0.Rows.length ac]) 1 [iv p0.Start, .slice ab p0.Rows.length ac] S (wN rfl) rfl rfl rfl rfl rfl rfl rfl (lb rfl) fun a S => ?_)))))
 obtain ⟨ak, am, h⟩ := bS h
 have S1 := S.mem
 refine sCq [.agg #[iv p0.Start, .slice ab p0.Rows.length ac]] (iv ak) S callee39 (S1.quiet [1] rfl) (fun E1 w1 S1 => c_chart_Check E1 w1 p0 (.agg #[iv p0.Start, .slice ab p0.Rows.length ac]) ak am S1) fun a w S => ?_
 refine sN S fun a S => ?_
 refine lT (aW _ _ (sSeq (fun bb ao => sRegion (sM S fun a S => ?_))))
 refine sBin _ S (wN rfl) rfl rfl rfl (bNe _ _ _ _ .i64 ak 0) rfl (lb rfl) fun a S => ?_
 refine lT (ao _ _ ?_)
 rcases iS h with ⟨ai, h⟩ | ⟨ai, h⟩
 ·refine sCondT S rfl ai ?_
  refine sSeq (fun bc ap => sRegion (sBuild [] [iv 0, .slice none 0 0] S (wN rfl) rfl rfl rfl rfl (lb rfl) fun a S => ?_))
  refine sM S fun a S => ?_
  refine sStore (p := b7) (off := 0) (T := 24) (vs := [iv 0, .slice none 0 0]) (v := .agg #[iv 0, .slice none 0 0]) 0 [iv 0, .slice none 0 0] S (wN rfl) rfl rfl rfl rfl rfl rfl rfl (by simp) rfl fun a w S => ?_
  refine sN S fun a S => ?_
  refine lT (ap _ _ ?_)
  obtain rfl := tS h
  have S := S.learn (fRep (rL r_api_Row) (.slice none 0 0) ([] : (List api_Row))) (rL_nil _ _ _)
  have S := S.learn (fRep r_api_Chart (.agg #[iv 0, .slice none 0 0]) (api_Chart.mk 0 ([] : (List api_Row)))) ⟨_, rfl, S.mem.know (i := 0) (e := fRep (rL r_api_Row) (.slice none 0 0) ([] : (List api_Row))) rfl⟩
  exact wp_ret (rThen (sRet (.tuple #[.agg #[iv 0, .slice none 0 0], iv ak]) S (rsl2 rfl (rvN (c := 2) (t := 24) (T := 24) (p := b7) 0 [iv 0, .slice none 0 0] S rfl rfl rfl rfl) (rvT (t := 3) (v := iv ak) S rfl)) ⟨(.agg #[iv 0, .slice none 0 0]), rfl, S.mem.sel [] [0] (by decide) rfl rfl⟩))
 refine sCondF S rfl ai ?_
 refine wp_skip (leafT (aV _ _ ?_))
 refine sSeq (fun bf aq => sRegion (sField (b := b6) (off := 0) 1 1 S (wN rfl) rfl rfl rfl rfl rfl (lb rfl) fun a S => ?_))
 refine sLoad1 1 (.slice ab p0.Rows.length ac) S (wN rfl) rfl rfl rfl rfl rfl rfl (lb rfl) fun a S => ?_
 obtain ⟨ag, ar, h⟩ := bS h
 refine sCall (X := Option Addr × Nat) (f := 40) (vs := [.slice ab p0.Rows.length ac]) (val := fun x => .slice x.1 ag.length x.2) (B' := fun x => [eRow r_api_Row 65 (.slice x.1 ag.length x.2) ag]) (D' := fun _ => []) [] [eBox b7 24 [iv 0, .slice none 0 0], eBox b6 24 [iv p0.Start, .slice ab p0.Rows.length ac]] [fRep (rL r_api_Row) (.slice ab p0.Rows.length ac) p0.Rows] [0, 1] [0] S (wN rfl) rfl callee40 rfl (by decide) rfl rfl (fun E1 w1 S1 => c_chart_twin_s0 E1 w1 p0.Rows (.slice ab p0.Rows.length ac) ag ar S1) rfl (lb rfl) fun xx a w S => ?_
 obtain ⟨a0, a8⟩ := xx
 dsimp only at S
 refine sField (b := b6) (off := 0) 1 1 S (wN rfl) rfl rfl rfl rfl rfl (lb rfl) fun a S => ?_
 refine sStore (p := b6) (off := 1) (T := 24) (vs := [iv p0.Start, .slice ab p0.Rows.length ac]) (v := .slice a0 ag.length a8) 2 [.slice a0 ag.length a8] S (wN rfl) rfl rfl rfl rfl rfl rfl rfl (by simp) rfl fun a w S => ?_
 refine lT (aq _ _ ?_)
 obtain ⟨aX, h, aZ⟩ := bS h
 refine sCut (fun a w => ∃ a9, a9 = aX ∧ St [] E [] w0 36 a w [(1, .pointer (some ⟨b6, 0, none⟩)), (2, .pointer (some ⟨b7, 0, none⟩))] [eBox b6 24 [iv p0.Start, .slice a0 a9.length a8], eBox b7 24 [iv 0, .slice none 0 0], eRow r_api_Row 65 (.slice a0 a9.length a8) a9] []) ?_ (fun a w hI => ?_)
 rotate_left
 ·obtain ⟨a9, rfl, S⟩ := hI
  have h := aZ
  try dsimp only at h
  refine sSeq (fun bg au => sRegion (sLoadN (p := b6) (off := 0) (T := 24) (vs := [iv p0.Start, .slice a0 a9.length a8]) 0 [iv p0.Start, .slice a0 a9.length a8] S (wN rfl) rfl rfl rfl rfl rfl rfl rfl (lb rfl) fun a S => ?_))
  refine sStore (p := b7) (off := 0) (T := 24) (vs := [iv 0, .slice none 0 0]) (v := .agg #[iv p0.Start, .slice a0 a9.length a8]) 1 [iv p0.Start, .slice a0 a9.length a8] S (wN rfl) rfl rfl rfl rfl rfl rfl rfl (by simp) rfl fun a w S => ?_
  refine sN S fun a S => ?_
  refine lT (au _ _ ?_)
  obtain rfl := tS h
  have S := S.shutR (r := r_api_Row) (T := 65) (v := .slice a0 a9.length a8) (xs := a9) 2 rfl
  have S := S.learn (fRep r_api_Chart (.agg #[iv p0.Start, .slice a0 a9.length a8]) (api_Chart.mk p0.Start a9)) ⟨_, rfl, S.mem.know (i := 0) (e := fRep (rL r_api_Row) (.slice a0 a9.length a8) a9) rfl⟩
  exact wp_ret (sRet (.tuple #[.agg #[iv p0.Start, .slice a0 a9.length a8], iv 0]) S (rsl2 rfl (rvN (c := 2) (t := 24) (T := 24) (p := b7) 0 [iv p0.Start, .slice a0 a9.length a8] S rfl rfl rfl rfl) (rvT (t := 3) (v := iv 0) S rfl)) ⟨(.agg #[iv p0.Start, .slice a0 a9.length a8]), rfl, S.mem.sel [] [0] (by decide) rfl rfl⟩)
 refine sSeq (fun bh av => sRegion (sField (b := b6) (off := 0) 1 1 S (wN rfl) rfl rfl rfl rfl rfl (lb rfl) fun a S => ?_))
 refine sLoad1 0 (.slice a0 ag.length a8) S (wN rfl) rfl rfl rfl rfl rfl rfl (lb rfl) fun a S => ?_
 refine sLen S (wN rfl) rfl Try.underlying22 rfl rfl (lb rfl) fun a S => ?_
 refine sM S fun a S => ?_
 refine lT (av _ _ (wp_block ?_))
 obtain ⟨bi, hl, ba⟩ := bS h
 refine sLoop hl (fun s0 a w => match s0 with | (ae, aa) => St [] E [] w0 36 a w [(1, .pointer (some ⟨b6, 0, none⟩)), (2, .pointer (some ⟨b7, 0, none⟩)), (18, iv (ag.length : Int)), (19, iv ae)] [eBox b6 24 [iv p0.Start, .slice a0 aa.length a8], eBox b7 24 [iv 0, .slice none 0 0], eRow r_api_Row 65 (.slice a0 aa.length a8) aa] []) (S.fix [0, 2, 1] [] (by decide) rfl rfl rfl) ?_
 clear hl h
 intro s0 a w c0 hI h aw
 obtain ⟨ae, aa⟩ := s0
 unfold chart_Flip_l1 at h
 dsimp only at h hI
 have S := hI
 refine sSeq (fun bj ax => sRegion (sBin _ S (wN rfl) rfl rfl rfl (bLt _ _ _ _ .i64 ae (ag.length : Int)) rfl (lb rfl) fun a S => ?_))
 refine lT (ax _ _ (sSeq (fun bk ay => ?_)))
 rcases iS h with ⟨aj, h⟩ | ⟨aj, h⟩
 rotate_left
 ·refine sCondF S rfl aj ?_
  obtain rfl := tS h
  obtain rfl := aw _ rfl
  have h := ba
  try dsimp only at h
  exact wp_exit (xThen (xThen (xHit (leafT (⟨aa, Option.some.inj h, S.fix [0, 1, 2] [] (by decide) rfl rfl rfl⟩)))))
 refine sCondT S rfl aj ?_
 refine wp_skip (leafT (ay _ _ ?_))
 refine sSeq (fun bl az => wp_block ?_)
 refine sSeq (fun bm aA => sRegion (sM S fun a S => ?_))
 refine sN S fun a S => ?_
 refine lT (aA _ _ ?_)
 obtain ⟨af, ah, h⟩ := bS h
 obtain ⟨aQ, al, h⟩ := bS h
 obtain ⟨aR, aC, aG⟩ := pIdxR (P := Try.prog) (r := r_api_Row) (T := 65) (v := .slice a0 aa.length a8) (xs := aa) (j := ae) 22 65 2 S Try.underlying22 rfl rfl ah
 obtain ⟨aS, aH, aI⟩ := pFldR (P := Try.prog) 65 0 0 aG rfl
 obtain ⟨aT, aJ, aK⟩ := pIdxR (P := Try.prog) (r := r_api_Row) (T := 65) (v := .slice a0 aa.length a8) (xs := aa) (j := ae) 22 65 2 S Try.underlying22 rfl rfl ah
 obtain ⟨aL, aM, aO⟩ := pFldR (P := Try.prog) 65 0 0 aK rfl
 refine sDraw (nf := [12]) (W := [(0, 22, .pointer (some ⟨b6, 1, none⟩)), (1, 23, .slice a0 aa.length a8), (2, 24, iv ae), (3, 25, .pointer (some ⟨b6, 1, none⟩)), (4, 26, .slice a0 aa.length a8), (5, 27, iv ae), (6, 28, aR), (7, 29, aS), (8, 30, .bool af.Back), (9, 31, .bool (!af.Back)), (10, 32, aT), (11, 33, aL)]) rfl S ?_
 refine node_by (A := anc_chart_Flip_0) 13 (by kernel_rfl) (by kernel_rfl) (by kernel_rfl) (by kernel_rfl) (by kernel_rfl) [0, 1, 2, 3, 4, 5, 6, 7, 8, 9, 10, 11] (by kernel_rfl) (by decide) (by decide) (fF ?_ (fF ?_ (fF ?_ (fF ?_ (fF ?_ (fF ?_ (fF ?_ (fF ?_ (fF ?_ (fF ?_ (fF ?_ (fF ?_ (fN ?_ (trivial)))))))))))))) [] (fun q hq => by cases hq) (fun hY => absurd (hY 12 (by decide)) (by decide))
 ·refine fJ [(1, _)] 0 [none] fun G a w S => ?_
  exact sField (b := b6) (off := 0) 1 1 S (wN rfl) rfl rfl rfl rfl rfl (lb rfl) fun a S => leafL ⟨rfl, S⟩
 ·refine fJ [(22, _)] 1 [some 0] fun G a w S => ?_
  exact sLoad1 0 (.slice a0 aa.length a8) S (wN rfl) rfl rfl rfl rfl rfl rfl (lb rfl) fun a S => leafL ⟨rfl, S⟩
 ·exact fM 2 none rfl rfl rfl rfl (.inl rfl) rfl rfl rfl
 ·refine fJ [(1, _)] 3 [none] fun G a w S => ?_
  exact sField (b := b6) (off := 0) 1 1 S (wN rfl) rfl rfl rfl rfl rfl (lb rfl) fun a S => leafL ⟨rfl, S⟩
 ·refine fJ [(25, _)] 4 [some 3] fun G a w S => ?_
  exact sLoad1 0 (.slice a0 aa.length a8) S (wN rfl) rfl rfl rfl rfl rfl rfl (lb rfl) fun a S => leafL ⟨rfl, S⟩
 ·exact fM 5 none rfl rfl rfl rfl (.inl rfl) rfl rfl rfl
 ·refine fJ [(26, _), (27, _)] 6 [some 4, some 5] fun G a w S => ?_
  exact sIdxV S (wN rfl) rfl rfl rfl aC rfl (lb rfl) fun a S => leafL ⟨rfl, S⟩
 ·refine fJ [(28, _)] 7 [some 6] fun G a w S => ?_
  exact sFldV (q := aR) S (wN rfl) rfl rfl aH rfl (lb rfl) fun a S => leafL ⟨rfl, S⟩
 ·refine fJ [(29, _)] 8 [some 7] fun G a w S => ?_
  exact sLoadF (r := r_api_Row) (s := rB) (g := (·.Back)) (T := 65) (xs := aa) (x := af) (v := .slice a0 aa.length a8) (vq := aS) (j := ae) 2 0 (.bool af.Back) S aI (wN rfl) rfl rfl rfl ah comp_api_Row_Back (fun _ _ _ h => h) scal_B rfl rfl (lb rfl) fun a S => leafL ⟨rfl, S⟩
 ·refine fJ [(30, _)] 9 [some 8] fun G a w S => ?_
  exact sNot (b := af.Back) S (wN rfl) rfl rfl rfl (lb rfl) fun a S => leafL ⟨rfl, S⟩
 ·refine fJ [(23, _), (24, _)] 10 [some 1, some 2] fun G a w S => ?_
  exact sIdxV S (wN rfl) rfl rfl rfl aJ rfl (lb rfl) fun a S => leafL ⟨rfl, S⟩
 ·refine fJ [(32, _)] 11 [some 10] fun G a w S => ?_
  exact sFldV (q := aT) S (wN rfl) rfl rfl aM rfl (lb rfl) fun a S => leafL ⟨rfl, S⟩
 refine ⟨_, [(31, .bool (!af.Back)), (33, aL)], rfl, (srcs_of [some 9, some 11] rfl rfl rfl), fun G a w S => ?_⟩
 refine sStoreF (r := r_api_Row) (s := rB) (T := 65) (xs := aa) (ys := aQ) (x := af) (y := (api_Row.mk (!af.Back) af.Cells)) (z := (!af.Back)) (v := .slice a0 aa.length a8) (vq := aL) (u := .bool (!af.Back)) (j := ae) 2 0 S aO (wN rfl) rfl rfl rfl rfl rfl ah (upd_api_Row_Back _ _) al rfl rfl fun a w S => ?_
 refine leafL ⟨rfl, _, _, .inr ⟨[], rfl, S, hz_of rfl, ?_⟩⟩
 refine node_by (A := anc_chart_Flip_0) 13 (by kernel_rfl) (by kernel_rfl) (by kernel_rfl) (by kernel_rfl) (by kernel_rfl) [0, 1, 2, 3, 4, 5, 6, 7, 8, 9, 10, 11] (by kernel_rfl) (by decide) (by decide) (fD 12 (fD 12 (fD 12 (fD 12 (fD 12 (fD 12 (fD 12 (fD 12 (fD 12 (fD 12 (fD 12 (fD 12 (fY (trivial)))))))))))))) [(1, .pointer (some ⟨b6, 0, none⟩)), (2, .pointer (some ⟨b7, 0, none⟩)), (18, iv (ag.length : Int)), (19, iv ae)] (fin_of [none, none, none, none] rfl (by kernel_rfl) (by kernel_rfl)) (fun _ a w S => ?_)
 rw [setO_v al a0 a8] at S
 refine leafB (leafT (az _ _ ?_))
 refine sRegion (sBin _ S (wN rfl) rfl rfl rfl (bAdd _ _ _ _ ae 1) rfl (lb rfl) fun a S => ?_)
 refine sM S fun a S => ?_
 exact lT (⟨(w64 (ae + 1), aQ), (Option.some.inj h).symm, (S.fix [1, 2, 0] [] (by decide) rfl rfl rfl)⟩)
def RB (rows : List api_Row) : Prop := rows.length ≤ 1000000 ∧ ∀ r, r ∈ rows → r.Cells.length ≤ 1000000
theorem twin_eq (rows : List api_Row) (h : RB rows) : F_chart_twin rows = some rows := by
 have hm : makeO (rows.length : Int) (api_Row.mk false ([] : List api_Stitch)) = some (List.replicate rows.length (api_Row.mk false [])) := makeO_of rfl (by have := h.1; omega)
 have hc : cpO (List.replicate rows.length (api_Row.mk false [])) rows = rows := cpO_eq (by simp)
 have hw : ∃ t, whileO (chart_twin_l1 rows) (rows, 0) = some t ∧ t = rows := by
  refine loop_st rows.length (fun _ s => s = rows) _ rfl ?_ ?_
  ·rintro k s hk rfl
   have hb := h.2 _ (List.getElem_mem hk)
   have hl := h.1
   have m1 : makeO (s[k].Cells.length : Int) (api_Stitch.mk 0 false 0 0) = some (List.replicate s[k].Cells.length (api_Stitch.mk 0 false 0 0)) := makeO_of rfl (by omega)
   have c1 : cpO (List.replicate s[k].Cells.length (api_Stitch.mk 0 false 0 0)) s[k].Cells = s[k].Cells := cpO_eq (by simp)
   have e1 : s.set k (api_Row.mk s[k].Back s[k].Cells) = s := by
    show s.set k s[k] = s
    exact List.set_getElem_self hk
   refine .inl ⟨s, ?_, rfl⟩
   unfold chart_twin_l1
   simp only [dT (show (k : Int) < (s.length : Int) by omega), if_true, idxO_nat hk, Option.bind_some, m1, c1, setO_nat hk, e1, w64_succ (show k < 9223372036854775807 by omega)]
  ·rintro s rfl
   refine ⟨s, ?_, rfl⟩
   unfold chart_twin_l1
   simp
 obtain ⟨t, t1, rfl⟩ := hw
 unfold F_chart_twin
 simp only [hm, Option.bind_some, hc, t1]
theorem twins_eq (rows : List api_Row) (h : RB rows) : F_chart_twin_s0 rows = some rows := (show F_chart_twin_s0 rows = F_chart_twin rows from rfl).trans (twin_eq rows h)
def flipR (r : api_Row) : api_Row := ⟨!r.Back, r.Cells⟩
def flipC (c : api_Chart) : api_Chart := ⟨c.Start, c.Rows.map flipR⟩
theorem flip_loop (rows : List api_Row) (hl : rows.length ≤ 1000000) : whileO (chart_Flip_l1 rows) (0, rows) = some (rows.map flipR) := by
 have hw : ∃ t, whileO (chart_Flip_l1 rows) (0, rows) = some t ∧ t = rows.map flipR := by
  refine loop_ts rows.length (fun k s => s = (rows.take k).map flipR ++ rows.drop k) _ (by simp) ?_ ?_
  ·rintro k s hk rfl
   have hlen : ((rows.take k).map flipR).length = k := by simp; omega
   have hi : idxO ((rows.take k).map flipR ++ rows.drop k) (k : Int) = some rows[k] := by
    rw [idxO_nat (by simp; omega)]
    congr 1
    have e := List.getElem?_append_right (l₁ := (rows.take k).map flipR) (l₂ := rows.drop k) (i := k) (by omega)
    rw [hlen, Nat.sub_self, List.getElem?_drop, Nat.add_zero, List.getElem?_eq_getElem hk] at e
    exact (List.getElem?_eq_some_iff.1 e).2
   have hd : rows.drop k = rows[k] :: rows.drop (k + 1) := List.drop_eq_getElem_cons hk
   have hs : ((rows.take k).map flipR ++ rows.drop k).set k (api_Row.mk (!rows[k].Back) rows[k].Cells) = (rows.take (k + 1)).map flipR ++ rows.drop (k + 1) := by
    rw [List.set_append_right _ _ (by omega), hlen, Nat.sub_self, hd, List.set_cons_zero, List.take_succ_eq_append_getElem hk, List.map_append, List.append_assoc]
    rfl
   refine .inl ⟨_, ?_, rfl⟩
   unfold chart_Flip_l1
   simp only [dT (show (k : Int) < (rows.length : Int) by omega), if_true, hi, Option.bind_some]
   rw [setO_nat (by simp; omega), hs]
   simp only [Option.bind_some, w64_succ (show k < 9223372036854775807 by omega)]
  ·rintro s rfl
   refine ⟨_, ?_, rfl⟩
   unfold chart_Flip_l1
   simp
 obtain ⟨t, t1, rfl⟩ := hw
 exact t1
theorem chk_RB {c : api_Chart} (h : chk c = 0) : RB c.Rows := by
 obtain ⟨h1, _, _, h4⟩ := chk_ok h
 exact ⟨by omega, fun r hr => by have := (allS_ok (chkR_mem h4 r hr)).1; omega⟩
theorem flip_eq (c : api_Chart) (hw : wfR c.Rows) (h : chk c = 0) : F_chart_Flip c = some (flipC c, 0) := by
 have hb := chk_RB h
 unfold F_chart_Flip
 simp only [chart_check_eq c hw, h, Option.bind_some, bne_self_eq_false, Bool.false_eq_true, if_false, twins_eq c.Rows hb, flip_loop c.Rows hb.1]
 rfl
theorem chkR_flip : ∀ (n : Int) (rs : List api_Row), chkR n (rs.map flipR) = chkR n rs
 | _, [] => rfl
 | n, r :: rs => by
  have h1 : (flipR r).Cells = r.Cells := rfl
  simp only [List.map_cons, chkR, h1, chkR_flip (sm madeS r.Cells) rs]
theorem chk_flip (c : api_Chart) : chk (flipC c) = chk c := by
 unfold chk flipC
 simp only [List.length_map, chkR_flip]
theorem wfR_flip {rows : List api_Row} (h : wfR rows) : wfR (rows.map flipR) := by
 intro r hr
 obtain ⟨q, hq, rfl⟩ := List.mem_map.1 hr
 exact h q hq
noncomputable def raddleref27_Has_l1 (p0 : (List Int)) (p1 : Int) : Int → Option (Int ⊕ (Bool ⊕ Unit)) := fun s0 => match s0 with
 | s7 =>
  if decide (s7 < (p0.length : Int)) then
   (idxO p0 s7).bind fun a0 =>
   if a0 == p1 then
    some (.inr (.inl true))
   else
    some (.inl (w64 (s7 + 1)))
  else
   some (.inr (.inr ()))
noncomputable def F_raddleref27_Has (p0 : (List Int)) (p1 : Int) : Option Bool :=
 Option.bind (α := Unit ⊕ Bool) (
  (whileO (raddleref27_Has_l1 p0 p1) 0).bind fun z0 => match z0 with
   | .inl z =>
    some (.inr z)
   | .inr _ =>
    some (.inl ())) fun z0 => match z0 with
  | .inl _ =>
   some false
  | .inr z =>
   some z
theorem c_raddleref27_Has (E : Nat → Prop) (w0 : World) (p0 : (List Int)) (v0 : Value) (p1 : Int) (r : Bool) (h : F_raddleref27_Has p0 p1 = some r) (S : St0 E [] w0 w0 [] [fRep (rL (rI .i64)) (v0) p0]) :
 Calls Try.prog 27 #[v0, iv p1] w0 (Ret (X := Unit) E [] w0 (fun _ => .bool r) (fun _ => []) (fun _ => [])) := by
 unfold F_raddleref27_Has at h
 obtain ⟨aa, ab, _, rfl, _⟩ := S.know (i := 0) (e := fRep (rL (rI .i64)) (v0) p0) rfl
 refine sEnter (args := [.slice aa p0.length ab, iv p1]) 18 Try.func27 rfl rfl (by simp) S (fun a S => ?_)
 refine sSeq (fun K3 ap => sRegion (sN S fun a S => ?_))
 refine lT (ap _ _ ?_)
 obtain ⟨t4, h, g5⟩ := bS h
 refine sCut (fun a w => .inl () = t4 ∧ St [] E [] w0 18 a w [] [] []) ?_ (fun a w hI => ?_)
 rotate_left
 ·obtain ⟨rfl, S⟩ := hI
  have h := g5
  try dsimp only at h
  refine sSeq (fun ar ac => sRegion (sN S fun a S => ?_))
  refine lT (ac _ _ ?_)
  obtain rfl := tS h
  exact wp_ret (sRet (.bool false) S (rsl1 rfl (rvT (t := 4) (v := .bool false) S rfl)) ⟨(), rfl, S.mem.sel [] [] (by decide) rfl rfl⟩)
 refine sSeq (fun K6 aq => sRegion (sN S fun a S => ?_))
 refine lT (aq _ _ (wp_block ?_))
 obtain ⟨au, hl, g9⟩ := bS h
 refine sLoop hl (fun s0 a w => match s0 with | s7 => St [] E [] w0 18 a w [(0, .slice aa p0.length ab), (1, iv p1), (5, iv s7)] [] [fRep (rL (rI .i64)) (.slice aa p0.length ab) p0]) (S.fix [] [0] (by decide) rfl rfl rfl) ?_
 clear hl h
 intro s7 a w c0 hI h al
 unfold raddleref27_Has_l1 at h
 dsimp only at h hI
 have S := hI
 refine sSeq (fun av ae => sSeq (fun aw af => sRegion (sM S fun a S => ?_)))
 refine sM S fun a S => ?_
 refine sLen S (wN rfl) rfl Try.underlying32 rfl rfl (lb rfl) fun a S => ?_
 refine sBin _ S (wN rfl) rfl rfl rfl (bLt _ _ _ _ .i64 s7 (p0.length : Int)) rfl (lb rfl) fun a S => ?_
 refine lT (af _ _ ?_)
 rcases iS h with ⟨a0, h⟩ | ⟨a0, h⟩
 rotate_left
 ·refine sCondF S rfl a0 ?_
  obtain rfl := tS h
  obtain rfl := al _ rfl
  have h := g9
  try dsimp only at h
  exact wp_exit (xThen (xThen (xHit (leafT (⟨Option.some.inj h, S.fix [] [] (by decide) rfl rfl rfl⟩)))))
 refine sCondT S rfl a0 ?_
 refine wp_skip (leafT (ae _ _ ?_))
 refine sSeq (fun ax ag => wp_block ?_)
 refine sSeq (fun ay ah => sRegion (sM S fun a S => ?_))
 refine sM S fun a S => ?_
 obtain ⟨a9, ai, h⟩ := bS h
 obtain ⟨am, aj, S⟩ := pIdx (P := Try.prog) (r := (rI .i64)) (v := .slice aa p0.length ab) (xs := p0) (j := s7) 32 3 0 S Try.underlying32 rfl rfl ai
 refine sIdxV S (wN rfl) rfl rfl rfl aj rfl (lb rfl) fun a S => ?_
 obtain ⟨ao, S⟩ := pLoad (r := (rI .i64)) (q := am) (x := a9) 0 S rfl
 obtain rfl : ao = iv a9 := S.mem.know (i := 1) (e := fRep (rI .i64) (ao) a9) rfl
 refine sLoadV1 (vq := am) 0 (iv a9) S (wN rfl) rfl rfl rfl rfl rfl (lb rfl) fun a S => ?_
 refine sM S fun a S => ?_
 refine sBin _ S (wN rfl) rfl rfl rfl (bEq _ _ _ _ .i64 a9 p1) rfl (lb rfl) fun a S => ?_
 refine lT (ah _ _ ?_)
 rcases iS h with ⟨a8, h⟩ | ⟨a8, h⟩
 rotate_left
 ·refine sCondF S rfl a8 ?_
  refine wp_skip (leafB (leafT (ag _ _ ?_)))
  refine sRegion (sM S fun a S => ?_)
  refine sBin _ S (wN rfl) rfl rfl rfl (bAdd _ _ _ _ s7 1) rfl (lb rfl) fun a S => ?_
  refine sN S fun a S => ?_
  exact lT (⟨w64 (s7 + 1), (Option.some.inj h).symm, (S.fix [] [3] (by decide) rfl rfl rfl)⟩)
 refine sCondT S rfl a8 ?_
 refine sSeq (fun az ak => sRegion (sN S fun a S => ?_))
 refine lT (ak _ _ ?_)
 obtain rfl := tS h
 obtain rfl := al _ rfl
 have h := g9
 try dsimp only at h
 obtain rfl := tS h
 have h := g5
 try dsimp only at h
 obtain rfl := tS h
 exact wp_ret (rBlock (rThen (rThen (rBlock (rThen (sRet (.bool true) S (rsl1 rfl (rvT (t := 4) (v := .bool true) S rfl)) ⟨(), rfl, S.mem.sel [] [] (by decide) rfl rfl⟩))))))
theorem row_of {S : Nat} {fs : List (List api_Stitch)} : ∀ (n i : Nat), i < off S fs n → ∃ r, r < n ∧ off S fs r ≤ i ∧ i < off S fs (r + 1)
 | 0, i, h => by simp [off] at h
 | n + 1, i, h => by
  by_cases h1 : i < off S fs n
  ·obtain ⟨r, a, b, c⟩ := row_of n i h1
   exact ⟨r, by omega, b, c⟩
  ·exact ⟨n, by omega, by omega, h⟩
theorem has_eq (l : List Int) (x : Int) (hl : l.length ≤ 1000000) : F_raddleref27_Has l x = some (decide (x ∈ l)) := by
 have hw := loop_idx (B := raddleref27_Has_l1 l x) l (fun y => y == x) (fun _ => Sum.inl true) (.inr ()) (fun k hk => by
  unfold raddleref27_Has_l1
  simp only [dT (show (k : Int) < (l.length : Int) by omega), if_true, idxO_nat hk, Option.bind_some, w64_succ (show k < 9223372036854775807 by omega)]
  split <;> rfl) (by
  unfold raddleref27_Has_l1
  simp only [dF (show ¬ (l.length : Int) < (l.length : Int) by omega), Bool.false_eq_true, if_false])
 unfold F_raddleref27_Has
 rw [hw]
 have hm : l.findIdx (fun y => y == x) < l.length ↔ x ∈ l := by
  rw [List.findIdx_lt_length]
  constructor
  ·rintro ⟨y, hy, e⟩
   have : y = x := by simpa using e
   rw [← this]; exact hy
  ·intro h; exact ⟨x, h, by simp⟩
 by_cases h : x ∈ l
 ·rw [if_pos (hm.2 h), dT h]; rfl
 ·rw [if_neg (fun e => h (hm.1 e)), dF h]; rfl
theorem oth_oth (p : api_Stitch) : othS (othS p) = p := by
 obtain ⟨k, b, x, y⟩ := p
 unfold othS
 simp only [api_Stitch.mk.injEq, true_and]
 refine ⟨?_, ?_, ?_⟩
 ·split <;> simp
 ·split <;> rfl
 ·split <;> rfl
theorem face_flip (r : api_Row) : faceR (flipR r) = ((faceR r).map othS).reverse := by
 obtain ⟨b, l⟩ := r
 cases b with
 | false => rfl
 | true =>
  simp only [faceR, flipR, Bool.not_true, Bool.false_eq_true, if_false, if_true, List.map_reverse, List.reverse_reverse, List.map_map]
  have e : othS ∘ othS = id := funext oth_oth
  rw [e, List.map_id]
def flF (fs : List (List api_Stitch)) : List (List api_Stitch) := fs.map fun f => (f.map othS).reverse
theorem rows_flip (c : api_Chart) : (flipC c).Rows.map faceR = flF (c.Rows.map faceR) := by
 simp only [flipC, flF, List.map_map]
 exact List.map_congr_left fun r _ => face_flip r
theorem mN_oth {p : api_Stitch} (h : okS p) : mN (othS p) = mN p := by unfold mN; rw [(oth_ok h).2.2]
theorem uN_oth {p : api_Stitch} (h : okS p) : uN (othS p) = uN p := by unfold uN; rw [(oth_ok h).2.1]
theorem smN_map {g : api_Stitch → Nat} {l : List api_Stitch} (h : ∀ p, p ∈ l → g (othS p) = g p) : smN g (l.map othS) = smN g l := by
 induction l with
 | nil => rfl
 | cons s l ih => simp only [List.map_cons, smN, h s (by simp), ih fun p hp => h p (by simp [hp])]
theorem smN_rev (g : api_Stitch → Nat) (l : List api_Stitch) : smN g l.reverse = smN g l := by
 induction l with
 | nil => rfl
 | cons s l ih => rw [List.reverse_cons, smN_append, ih]; simp only [smN]; omega
theorem smN_fl {g : api_Stitch → Nat} {l : List api_Stitch} (h : ∀ p, p ∈ l → g (othS p) = g p) {j : Nat} (hj : j < l.length) : smN g (((l.map othS).reverse).take (l.length - 1 - j)) + smN g (l.take (j + 1)) = smN g l := by
 have e : ((l.map othS).reverse).take (l.length - 1 - j) = ((l.drop (j + 1)).map othS).reverse := by
  rw [List.take_reverse, List.length_map, ← List.map_drop]
  congr 3; omega
 have h2 := smN_append g (l.take (j + 1)) (l.drop (j + 1))
 rw [List.take_append_drop] at h2
 rw [e, smN_rev, smN_map fun p hp => h p (List.mem_of_mem_drop hp)]
 omega
theorem fl_get {fs : List (List api_Stitch)} {r : Nat} (h : r < fs.length) : (flF fs)[r]'(by simpa [flF] using h) = (fs[r].map othS).reverse := by simp [flF]
theorem nR_fl {S : Nat} {fs : List (List api_Stitch)} (hf : okF S fs) {i : Nat} (hi : i ≤ fs.length) : nR S (flF fs) i = nR S fs i := by
 unfold nR
 by_cases e : i = 0
 ·rw [if_pos e, if_pos e]
 ·rw [if_neg e, if_neg e]
  have h : i - 1 < fs.length := by omega
  have h' : i - 1 < (flF fs).length := by simpa [flF] using h
  simp only [List.getD_eq_getElem?_getD, List.getElem?_eq_getElem h, List.getElem?_eq_getElem h', Option.getD_some, fl_get h]
  rw [smN_rev, smN_map fun p hp => mN_oth ((hf.2 _ h).1 p hp)]
theorem off_fl {S : Nat} {fs : List (List api_Stitch)} (hf : okF S fs) : ∀ {r : Nat}, r ≤ fs.length + 1 → off S (flF fs) r = off S fs r
 | 0, _ => rfl
 | r + 1, h => by simp only [off, off_fl hf (r := r) (by omega), nR_fl hf (i := r) (by omega)]
theorem fl_cell {S : Nat} {fs : List (List api_Stitch)} (hf : okF S fs) {r j : Nat} (hr : r < fs.length) (hj : j < fs[r].length) :
 ∃ (hr' : r < (flF fs).length) (hj' : fs[r].length - 1 - j < ((flF fs)[r]).length), ((flF fs)[r])[fs[r].length - 1 - j] = othS (fs[r][j]) ∧
  pm S fs r j + pm S (flF fs) r (fs[r].length - 1 - j) + mN (fs[r][j]) = off S fs (r + 1) + off S fs (r + 2) ∧ pu S fs r j + pu S (flF fs) r (fs[r].length - 1 - j) + uN (fs[r][j]) = off S fs r + off S fs (r + 1) := by
 have hr' : r < (flF fs).length := by simpa [flF] using hr
 have hg : fs.getD r [] = fs[r] := by simp [List.getD_eq_getElem?_getD, List.getElem?_eq_getElem hr]
 have hg' : (flF fs).getD r [] = (fs[r].map othS).reverse := by simp [List.getD_eq_getElem?_getD, List.getElem?_eq_getElem hr', fl_get hr]
 have hok := (hf.2 r hr).1
 have h1 := smN_fl (g := mN) (fun p hp => mN_oth (hok p hp)) hj
 have h2 := smN_fl (g := uN) (fun p hp => uN_oth (hok p hp)) hj
 have h3 := smN_take mN fs[r] hj
 have h4 := smN_take uN fs[r] hj
 have h5 := (hf.2 r hr).2.2.2
 have h6 := nR_succ (S := S) hr
 refine ⟨hr', by rw [fl_get hr]; simp; omega, ?_, ?_, ?_⟩
 ·simp only [fl_get hr, List.getElem_reverse, List.getElem_map, List.length_map]
  congr 2; omega
 ·simp only [pm, hg, hg', off_fl hf (r := r + 1) (by omega)]
  rw [show off S fs (r + 2) = off S fs (r + 1) + nR S fs (r + 1) from rfl, h6]
  omega
 ·simp only [pu, hg, hg', off_fl hf (r := r) (by omega)]
  rw [show off S fs (r + 1) = off S fs r + nR S fs r from rfl]
  omega
theorem pars_refl {s : api_Stitch} (h : okS s) {u u' x : Nat} {ps ps' : List Int} (h1 : (pars s u)[x]? = some ps) (h2 : (pars (othS s) u')[mN s - 1 - x]? = some ps') : ps.length = ps'.length ∧ ∀ p, p ∈ ps → ((u + u' + uN s : Nat) : Int) - 1 - p ∈ ps' := by
 have hx := (List.getElem?_eq_some_iff.1 h1).1
 rw [pars_len h] at hx
 rcases knd h with ⟨b, rfl⟩ | ⟨b, rfl⟩ | rfl | ⟨b, a, g1, g2, rfl⟩ | ⟨b, a, g1, g2, rfl⟩ | ⟨b, a, g1, g2, rfl⟩ | ⟨k, b, a, c, hk, g1, g2, g3, g4, rfl⟩ | ⟨a, g1, g2, rfl⟩ | ⟨b, a, g1, g2, rfl⟩
 ·have e : mN ⟨1, b, 0, 0⟩ = 1 := by simp [mN, madeS]
  have e2 : uN ⟨1, b, 0, 0⟩ = 1 := by simp [uN, usedS]
  obtain rfl : x = 0 := by omega
  simp [pars, othS, e] at h1 h2
  subst h1 h2
  refine ⟨rfl, fun p hp => ?_⟩
  simp at hp ⊢; omega
 ·have e : mN ⟨8, b, 0, 0⟩ = 1 := by simp [mN, madeS]
  have e2 : uN ⟨8, b, 0, 0⟩ = 1 := by simp [uN, usedS]
  obtain rfl : x = 0 := by omega
  simp [pars, othS, e] at h1 h2
  subst h1 h2
  refine ⟨rfl, fun p hp => ?_⟩
  simp at hp ⊢; omega
 ·have e : mN ⟨2, false, 0, 0⟩ = 1 := by simp [mN, madeS]
  obtain rfl : x = 0 := by omega
  simp [pars, othS, e] at h1 h2
  subst h1 h2
  exact ⟨rfl, fun p hp => by simp at hp⟩
 ·have e : mN ⟨3, b, (a : Int), 0⟩ = 1 := by simp [mN, madeS]
  have e2 : uN ⟨3, b, (a : Int), 0⟩ = a := by simp [uN, usedS]
  obtain rfl : x = 0 := by omega
  simp [pars, othS, e] at h1 h2
  subst h1 h2
  refine ⟨by rw [ups_len, ups_len], fun p hp => ?_⟩
  rw [ups_mem] at hp ⊢; omega
 ·have e : mN ⟨4, b, (a : Int), 0⟩ = 1 := by simp [mN, madeS]
  have e2 : uN ⟨4, b, (a : Int), 0⟩ = a := by simp [uN, usedS]
  obtain rfl : x = 0 := by omega
  simp [pars, othS, e] at h1 h2
  subst h1 h2
  refine ⟨by rw [List.length_reverse, List.length_reverse, ups_len, ups_len], fun p hp => ?_⟩
  rw [List.mem_reverse, ups_mem] at hp ⊢; omega
 ·have e2 : uN ⟨5, b, (a : Int), 0⟩ = 1 := by simp [uN, usedS]
  have p1 : pars ⟨5, b, (a : Int), 0⟩ u = List.replicate a [(u : Int)] := by simp [pars]
  have p2 : pars (othS ⟨5, b, (a : Int), 0⟩) u' = List.replicate a [(u' : Int)] := by simp [pars, othS]
  rw [p1, List.getElem?_replicate] at h1
  rw [p2, List.getElem?_replicate] at h2
  split at h1
  ·split at h2
   ·simp at h1 h2
    subst h1 h2
    refine ⟨rfl, fun p hp => ?_⟩
    simp at hp ⊢; omega
   ·cases h2
  ·cases h1
 ·have e : mN ⟨k, b, (a : Int), (c : Int)⟩ = a + c := by rcases hk with rfl | rfl <;> simp [mN, madeS] <;> omega
  have e2 : uN ⟨k, b, (a : Int), (c : Int)⟩ = a + c := by rcases hk with rfl | rfl <;> simp [uN, usedS] <;> omega
  have e3 : othS ⟨k, b, (a : Int), (c : Int)⟩ = ⟨k, !b, (c : Int), (a : Int)⟩ := by rcases hk with rfl | rfl <;> simp [othS]
  rw [e] at hx
  rw [pars_x hk hx] at h1
  rw [e3, e, pars_x hk (by omega)] at h2
  simp only [Option.some.injEq] at h1 h2
  subst h1 h2
  refine ⟨rfl, fun p hp => ?_⟩
  rw [List.mem_singleton] at hp ⊢
  rw [hp, e2]
  by_cases q : x < c
  ·rw [if_pos q, if_neg (by omega)]; omega
  ·rw [if_neg q, if_pos (by omega)]; omega
 ·have p1 : pars ⟨9, false, (a : Int), 0⟩ u = List.replicate a [] := by simp [pars]
  have p2 : pars (othS ⟨9, false, (a : Int), 0⟩) u' = List.replicate a [] := by simp [pars, othS]
  rw [p1, List.getElem?_replicate] at h1
  rw [p2, List.getElem?_replicate] at h2
  split at h1
  ·split at h2
   ·simp at h1 h2
    subst h1 h2
    exact ⟨rfl, fun p hp => by simp at hp⟩
   ·cases h2
  ·cases h1
 ·have e : mN ⟨10, b, (a : Int), 0⟩ = 0 := by simp [mN, madeS]
  omega
theorem crs_mem2 {k : Int} {b : Bool} {a c n : Nat} (hk : k = 6 ∨ k = 7) {q : Int × Int} : q ∈ crs ⟨k, b, (a : Int), (c : Int)⟩ n ↔ ∃ i j : Nat, i < a ∧ j < c ∧ q = if k = 7 then (((n + j : Nat) : Int), ((n + c + i : Nat) : Int)) else (((n + c + i : Nat) : Int), ((n + j : Nat) : Int)) := by
 have e : crs ⟨k, b, (a : Int), (c : Int)⟩ n = ((List.range a).map fun i => (List.range c).map fun j => if k = 7 then (((n + j : Nat) : Int), ((n + c + i : Nat) : Int)) else (((n + c + i : Nat) : Int), ((n + j : Nat) : Int))).flatten := by
  simp [crs, hk]
 rw [e]
 simp only [List.mem_flatten, List.mem_map, List.mem_range]
 constructor
 ·rintro ⟨_, ⟨i, hi, rfl⟩, h⟩
  simp only [List.mem_map, List.mem_range] at h
  obtain ⟨j, hj, rfl⟩ := h
  exact ⟨i, j, hi, hj, rfl⟩
 ·rintro ⟨i, j, hi, hj, rfl⟩
  exact ⟨_, ⟨i, hi, rfl⟩, by simp only [List.mem_map, List.mem_range]; exact ⟨j, hj, rfl⟩⟩
theorem crs_refl {s : api_Stitch} (h : okS s) {n n' : Nat} {q : Int × Int} (hq : q ∈ crs s n) : (n : Int) ≤ q.1 ∧ q.1 < ((n + mN s : Nat) : Int) ∧ (n : Int) ≤ q.2 ∧ q.2 < ((n + mN s : Nat) : Int) ∧ (((n + n' + mN s : Nat) : Int) - 1 - q.2, ((n + n' + mN s : Nat) : Int) - 1 - q.1) ∈ crs (othS s) n' := by
 rcases knd h with ⟨b, rfl⟩ | ⟨b, rfl⟩ | rfl | ⟨b, a, h2, h3, rfl⟩ | ⟨b, a, h2, h3, rfl⟩ | ⟨b, a, h2, h3, rfl⟩ | ⟨k, b, a, c, hk, h2, h3, h4, h5, rfl⟩ | ⟨a, h2, h3, rfl⟩ | ⟨b, a, h2, h3, rfl⟩
 ·simp [crs] at hq
 ·simp [crs] at hq
 ·simp [crs] at hq
 ·simp [crs] at hq
 ·simp [crs] at hq
 ·simp [crs] at hq
 ·have e : mN ⟨k, b, (a : Int), (c : Int)⟩ = a + c := by rcases hk with rfl | rfl <;> simp [mN, madeS] <;> omega
  have e3 : othS ⟨k, b, (a : Int), (c : Int)⟩ = ⟨k, !b, (c : Int), (a : Int)⟩ := by rcases hk with rfl | rfl <;> simp [othS]
  obtain ⟨i, j, hi, hj, rfl⟩ := (crs_mem2 hk).1 hq
  rw [e, e3, crs_mem2 hk]
  rcases hk with rfl | rfl
  ·simp only [show ((6 : Int) = 7) = False by simp, if_false]
   refine ⟨by omega, by omega, by omega, by omega, c - 1 - j, a - 1 - i, by omega, by omega, ?_⟩
   rw [Prod.mk.injEq]; omega
  ·simp only [if_true]
   refine ⟨by omega, by omega, by omega, by omega, c - 1 - j, a - 1 - i, by omega, by omega, ?_⟩
   rw [Prod.mk.injEq]; omega
 ·simp [crs] at hq
 ·simp [crs] at hq
def crN (s : api_Stitch) : Nat := if s.Kind = 6 ∨ s.Kind = 7 then s.A.toNat * s.B.toNat else 0
theorem crs_cnt (s : api_Stitch) (n : Nat) : (crs s n).length = crN s := by
 unfold crs crN
 split
 ·have : ∀ m, ((List.range m).map fun a => (List.range s.B.toNat).map fun b => if s.Kind = 7 then (((n + b : Nat) : Int), ((n + s.B.toNat + a : Nat) : Int)) else (((n + s.B.toNat + a : Nat) : Int), ((n + b : Nat) : Int))).flatten.length = m * s.B.toNat := by
   intro m
   induction m with
   | zero => simp
   | succ m ih => rw [List.range_succ, List.map_append, List.flatten_append, List.length_append, ih]; simp [Nat.add_mul]
  exact this _
 ·rfl
theorem crN_oth (s : api_Stitch) : crN (othS s) = crN s := by
 unfold crN othS
 simp only
 by_cases h : s.Kind = 6 ∨ s.Kind = 7
 ·rw [if_pos h, if_pos h, if_pos h, if_pos h, Nat.mul_comm]
 ·rw [if_neg h, if_neg h]
def ctot (fs : List (List api_Stitch)) : Nat → Nat
 | 0 => 0
 | k + 1 => ctot fs k + smN crN (fs.getD k [])
theorem ctot_fl {fs : List (List api_Stitch)} : ∀ k, ctot (flF fs) k = ctot fs k
 | 0 => rfl
 | k + 1 => by
  simp only [ctot, ctot_fl k]
  congr 1
  by_cases h : k < fs.length
  ·have h' : k < (flF fs).length := by simpa [flF] using h
   simp only [List.getD_eq_getElem?_getD, List.getElem?_eq_getElem h, List.getElem?_eq_getElem h', Option.getD_some, fl_get h]
   rw [smN_rev, smN_map fun p _ => crN_oth p]
  ·have h' : ¬ k < (flF fs).length := by simpa [flF] using h
   simp only [List.getD_eq_getElem?_getD, List.getElem?_eq_none (show fs.length ≤ k by omega), List.getElem?_eq_none (show (flF fs).length ≤ k by omega)]
structure CM (S : Nat) (fs : List (List api_Stitch)) (k j : Nat) (z : Wk) : Prop where
 mem : ∀ q, q ∈ z.C ↔ ∃ (r t : Nat) (h : r < fs.length) (ht : t < fs[r].length), (r < k ∨ r = k ∧ t < j) ∧ q ∈ crs (fs[r][t]) (pm S fs r t)
 len : z.C.length = ctot fs k + smN crN ((fs.getD k []).take j)
theorem cm_all {S : Nat} {fs : List (List api_Stitch)} (hf : okF S fs) : CM S fs fs.length 0 (stC S fs fs.length).1 := by
 refine (stC_all hf (CM S fs) ⟨fun q => ?_, by simp [ctot, smN]⟩ ?_ ?_ _ (Nat.le_refl _)).2.1
 ·constructor
  ·intro h; simp at h
  ·rintro ⟨r, t, _, _, h, _⟩; omega
 ·intro k j hk hj z hL h
  have hg : fs.getD k [] = fs[k] := by simp [List.getD_eq_getElem?_getD, List.getElem?_eq_getElem hk]
  refine ⟨fun q => ?_, ?_⟩
  ·simp only [stepW, List.mem_append]
   rw [h.mem q, hL.len]
   constructor
   ·rintro (⟨r, t, h1, h2, h3, h4⟩ | h1)
    ·exact ⟨r, t, h1, h2, by omega, h4⟩
    ·exact ⟨k, j, hk, hj, by omega, h1⟩
   ·rintro ⟨r, t, h1, h2, h3, h4⟩
    by_cases e : r < k ∨ r = k ∧ t < j
    ·exact .inl ⟨r, t, h1, h2, e, h4⟩
    ·obtain ⟨rfl, rfl⟩ : r = k ∧ t = j := by omega
     exact .inr h4
  ·simp only [stepW, List.length_append, crs_cnt, h.len, hg]
   rw [smN_take crN _ hj]; omega
 ·intro k hk z hL h
  have hg : fs.getD k [] = fs[k] := by simp [List.getD_eq_getElem?_getD, List.getElem?_eq_getElem hk]
  refine ⟨fun q => ?_, ?_⟩
  ·rw [h.mem q]
   constructor
   ·rintro ⟨r, t, h1, h2, h3, h4⟩; exact ⟨r, t, h1, h2, by omega, h4⟩
   ·rintro ⟨r, t, h1, h2, h3, h4⟩
    refine ⟨r, t, h1, h2, ?_, h4⟩
    by_cases e : r < k
    ·exact .inl e
    ·obtain rfl : r = k := by omega
     exact .inr ⟨rfl, h2⟩
  ·rw [h.len]; simp only [ctot, hg, List.take_length, List.take_zero, smN]; rfl
def blkT (S : Nat) (fs : List (List api_Stitch)) (r n : Nat) : List Int := (List.range n).map fun t => ((off S fs r + (nR S fs r - 1 - t) : Nat) : Int)
def tl (S : Nat) (fs : List (List api_Stitch)) : Nat → List Int
 | 0 => []
 | n + 1 => tl S fs n ++ blkT S fs n (nR S fs n)
theorem tl_len (S : Nat) (fs : List (List api_Stitch)) : ∀ n, (tl S fs n).length = off S fs n
 | 0 => rfl
 | n + 1 => by simp [tl, blkT, off, tl_len S fs n]
theorem tl_get (S : Nat) (fs : List (List api_Stitch)) {r t : Nat} (ht : t < nR S fs r) : ∀ n, r < n → (tl S fs n)[off S fs r + t]? = some ((off S fs r + (nR S fs r - 1 - t) : Nat) : Int)
 | 0, h => by omega
 | n + 1, h => by
  have hl := tl_len S fs n
  have ho : off S fs (r + 1) = off S fs r + nR S fs r := rfl
  by_cases e : r < n
  ·have := off_mono (S := S) (fs := fs) (a := r + 1) (b := n) (by omega)
   rw [tl, List.getElem?_append_left (by omega)]
   exact tl_get S fs ht n e
  ·obtain rfl : r = n := by omega
   rw [tl, List.getElem?_append_right (by omega), hl, Nat.add_sub_cancel_left]
   simp [blkT, ht]
theorem tl_at (S : Nat) (fs : List (List api_Stitch)) {r n p : Nat} (h0 : off S fs r ≤ p) (h1 : p < off S fs (r + 1)) (hn : r < n) : (tl S fs n)[p]? = some ((off S fs r + off S fs (r + 1) - 1 - p : Nat) : Int) := by
 have ho : off S fs (r + 1) = off S fs r + nR S fs r := rfl
 have := tl_get S fs (r := r) (t := p - off S fs r) (by omega) n hn
 rw [show off S fs r + (p - off S fs r) = p by omega] at this
 rw [this]
 congr 2; omega
theorem flip_loop1 {S : Nat} {fs : List (List api_Stitch)} (hf : okF S fs) {z z' : Wk} {n : Nat} (hn : n = fs.length) (h : LInv S fs fs.length 0 z) (h' : LInv S (flF fs) (flF fs).length 0 z') {k : Nat} (hk : k < off S fs (n + 1)) :
 ∃ (q : Nat) (l m : api_Loop), (tl S fs (n + 1))[k]? = some (q : Int) ∧ z.L[k]? = some l ∧ z'.L[q]? = some m ∧ l.Row = m.Row ∧ l.Parents.length = m.Parents.length ∧
  (∀ p, p ∈ l.Parents → 0 ≤ p ∧ p < (k : Int) ∧ ∃ t, (tl S fs (n + 1))[p.toNat]? = some t ∧ t ∈ m.Parents) ∧
  (l.Row = 0 ∨ ∃ (r j : Nat) (hr : r < fs.length) (hj : j < fs[r].length), l.Row = ((r + 1 : Nat) : Int) ∧ l.Cell = (j : Int) ∧ (fs[r][j].Kind ≠ 8 → l.Purl = fs[r][j].Purl ∧ m.Purl = (othS fs[r][j]).Purl)) := by
 subst hn
 obtain ⟨r, hr1, hr2, hr3⟩ := row_of (S := S) (fs := fs) (fs.length + 1) k hk
 have ht := tl_at S fs hr2 hr3 hr1
 have hfl : (flF fs).length = fs.length := by simp [flF]
 cases r with
 | zero =>
  have e0 : off S fs 0 = 0 := rfl
  have e1 : off S fs (0 + 1) = S := by simp [off, nR]
  rw [e0, e1] at ht
  rw [e1] at hr3
  have hl := h.zero k hr3
  have hm := h'.zero (S - 1 - k) (by omega)
  refine ⟨S - 1 - k, _, _, by rw [ht]; congr 2; omega, hl, hm, rfl, rfl, fun p hp => by simp at hp, .inl rfl⟩
 | succ r =>
  have hk' : r < fs.length := by omega
  have hg : fs.getD r [] = fs[r] := by simp [List.getD_eq_getElem?_getD, List.getElem?_eq_getElem hk']
  have e := nR_succ (S := S) hk'
  have e2 : off S fs (r + 1 + 1) = off S fs (r + 1) + smN mN fs[r] := by rw [show off S fs (r + 1 + 1) = off S fs (r + 1) + nR S fs (r + 1) from rfl, e]
  obtain ⟨j, hj, x, hx, hxt⟩ := smN_find mN fs[r] (k - off S fs (r + 1)) (by omega)
  obtain ⟨pl, ps, hpl, hps, hl⟩ := h.old r j x hk' hj (.inl hk') hx
  have hi : pm S fs r j + x = k := by simp only [pm, hg]; omega
  rw [hi] at hl
  obtain ⟨hr', hj', c1, c2, c3⟩ := fl_cell hf hk' hj
  have hok := (hf.2 r hk').1 _ (List.getElem_mem hj)
  have hx' : mN (fs[r][j]) - 1 - x < mN (((flF fs)[r])[fs[r].length - 1 - j]) := by rw [c1, mN_oth hok]; omega
  obtain ⟨pl', ps', hpl', hps', hm⟩ := h'.old r (fs[r].length - 1 - j) (mN (fs[r][j]) - 1 - x) hr' hj' (.inl hr') hx'
  rw [c1] at hpl' hps'
  obtain ⟨q1, q2⟩ := pars_refl hok hps hps'
  have e22 : off S fs (r + 1 + 1) = off S fs (r + 2) := rfl
  refine ⟨pm S (flF fs) r (fs[r].length - 1 - j) + (mN (fs[r][j]) - 1 - x), _, _, by rw [ht]; congr 2; omega, hl, hm, rfl, q1, fun p hp => ?_, .inr ⟨r, j, hk', hj, rfl, rfl, fun h8 => ⟨hpl h8, hpl' h8⟩⟩⟩
  have hb := (pars_bd hok (pu S fs r j) ps (List.mem_of_getElem? hps)).2 p hp
  have hle := pu_le hf hk' hj
  have hge : off S fs r ≤ pu S fs r j := by simp only [pu]; omega
  have ho := off_mono (S := S) (fs := fs) (a := r + 1) (b := r + 1 + 1) (by omega)
  refine ⟨by omega, by omega, _, tl_at S fs (r := r) (p := p.toNat) (by omega) (by omega) (by omega), ?_⟩
  have := q2 p hp
  rw [c3] at this
  have e4 : ((off S fs r + off S fs (r + 1) - 1 - p.toNat : Nat) : Int) = ((off S fs r + off S fs (r + 1) : Nat) : Int) - 1 - p := by omega
  rw [e4]; exact this
theorem flip_pair {S : Nat} {fs : List (List api_Stitch)} (hf : okF S fs) {z z' : Wk} {n : Nat} (hn : n = fs.length) (h : CM S fs fs.length 0 z) (h' : CM S (flF fs) (flF fs).length 0 z') {q : Int × Int} (hq : q ∈ z.C) :
 0 ≤ q.1 ∧ q.1 < ((off S fs (n + 1) : Nat) : Int) ∧ 0 ≤ q.2 ∧ q.2 < ((off S fs (n + 1) : Nat) : Int) ∧ ∃ u v, (tl S fs (n + 1))[q.2.toNat]? = some u ∧ (tl S fs (n + 1))[q.1.toNat]? = some v ∧ (u, v) ∈ z'.C := by
 subst hn
 obtain ⟨r, j, hr, hj, _, hc⟩ := (h.mem q).1 hq
 have hok := (hf.2 r hr).1 _ (List.getElem_mem hj)
 obtain ⟨hr', hj', c1, c2, c3⟩ := fl_cell hf hr hj
 have hg : fs.getD r [] = fs[r] := by simp [List.getD_eq_getElem?_getD, List.getElem?_eq_getElem hr]
 obtain ⟨a1, a2, a3, a4, a5⟩ := crs_refl hok (n' := pm S (flF fs) r (fs[r].length - 1 - j)) hc
 have hpm := pm_le hf hr (j := j)
 have hmt := smN_take mN fs[r] hj
 have hml := smN_take_le mN fs[r] (j + 1)
 have e := nR_succ (S := S) hr
 have e2 : off S fs (r + 2) = off S fs (r + 1) + smN mN fs[r] := by rw [show off S fs (r + 2) = off S fs (r + 1) + nR S fs (r + 1) from rfl, e]
 have hpm2 : pm S fs r j + mN (fs[r][j]) ≤ off S fs (r + 2) := by simp only [pm, hg]; omega
 have ho := off_mono (S := S) (fs := fs) (a := r + 2) (b := fs.length + 1) (by omega)
 have e21 : off S fs (r + 1 + 1) = off S fs (r + 2) := rfl
 refine ⟨by omega, by omega, by omega, by omega, _, _, tl_at S fs (r := r + 1) (p := q.2.toNat) (by omega) (by omega) (by omega), tl_at S fs (r := r + 1) (p := q.1.toNat) (by omega) (by omega) (by omega), ?_⟩
 have e22 : off S fs (r + 1 + 1) = off S fs (r + 2) := rfl
 rw [c2] at a5
 refine (h'.mem _).2 ⟨r, _, hr', hj', .inl hr', ?_⟩
 rw [c1]
 have e5 : ((off S fs (r + 1) + off S fs (r + 1 + 1) - 1 - q.2.toNat : Nat) : Int) = ((off S fs (r + 1) + off S fs (r + 2) : Nat) : Int) - 1 - q.2 := by omega
 have e6 : ((off S fs (r + 1) + off S fs (r + 1 + 1) - 1 - q.1.toNat : Nat) : Int) = ((off S fs (r + 1) + off S fs (r + 2) : Nat) : Int) - 1 - q.1 := by omega
 rw [e5, e6]; exact a5
end Go.Proofs.Yticjoiolfibmlaa
