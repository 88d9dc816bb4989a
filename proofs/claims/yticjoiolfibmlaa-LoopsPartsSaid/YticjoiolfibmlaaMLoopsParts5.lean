/- LoopsParts: walks, tables, laws. -/
import Derived.Test.YticjoiolfibmlaaProg
import Derived.Test.YticjoiolfibmlaaRows
import Derived.Test.YticjoiolfibmlaaMLoopsParts4
set_option linter.unusedVariables false
set_option linter.unusedSimpArgs false
set_option maxHeartbeats 4000000
set_option maxRecDepth 100000
namespace Go.Proofs.Yticjoiolfibmlaa
open Go.RowKit
theorem loop_sq {S τ : Type} {B : S → Option (S ⊕ τ)} {s0 : S} (c : Nat → S) (n : Nat) {t : τ} (h0 : s0 = c 0) (h : ∀ k, k < n → B (c k) = some (.inl (c (k + 1)))) (hn : B (c n) = some (.inr t)) : whileO B s0 = some t := by
 subst h0; exact loop_seq c n h hn
theorem take_snoc {α : Type} (l : List α) {k : Nat} (h : k < l.length) : l.take (k + 1) = l.take k ++ [l[k]] := List.take_succ_eq_append_getElem h
theorem add_eq (p : loops_piece) (l : api_Loop) (ps : List (List Int)) (h : p.loops.length + ps.length ≤ 1000000) : F_loops_piece_add_s1 p l ps = some ⟨p.loops ++ ps.map (fun q => ⟨l.Row, l.Cell, q, l.Purl⟩), p.rows, p.bound, p.cross, p.next⟩ := by
 have key : whileO (loops_piece_add_s1_l1 ps l) (0, p.loops, l.Parents) = some (p.loops ++ ps.map (fun q => (⟨l.Row, l.Cell, q, l.Purl⟩ : api_Loop))) := by
  refine loop_sq (fun k => ((k : Int), p.loops ++ (ps.take k).map (fun q => (⟨l.Row, l.Cell, q, l.Purl⟩ : api_Loop)), if k = 0 then l.Parents else ps.getD (k - 1) [])) ps.length (by simp) ?_ ?_
  ·intro k hk
   unfold loops_piece_add_s1_l1
   simp only [dT (show (k : Int) < (ps.length : Int) by omega), if_true, idxO_nat hk, Option.bind_some, w64_succ (show k < 9223372036854775807 by omega)]
   have e3 : (if k + 1 = 0 then l.Parents else ps.getD (k + 1 - 1) []) = ps[k] := by simp [List.getD_eq_getElem?_getD, List.getElem?_eq_getElem hk]
   rw [appO_of (by simp; omega), Option.bind_some, take_snoc _ hk, e3, List.map_append, List.append_assoc]; rfl
  ·unfold loops_piece_add_s1_l1
   simp only [dF (show ¬ (ps.length : Int) < (ps.length : Int) by omega), Bool.false_eq_true, if_false, List.take_length]
 unfold F_loops_piece_add_s1
 rw [key]; rfl
theorem set_ups (u k : Nat) {i : Nat} (hi : i < k) : (ups u i ++ List.replicate (k - i) (0 : Int)).set i ((u + i : Nat) : Int) = ups u (i + 1) ++ List.replicate (k - (i + 1)) 0 := by
 obtain ⟨m, hm⟩ : ∃ m, k - i = m + 1 := ⟨k - i - 1, by omega⟩
 rw [hm, List.replicate_succ, List.set_append_right _ _ (by rw [ups_len]; exact Nat.le_refl _), ups_len, Nat.sub_self, List.set_cons_zero, ups_succ, List.append_assoc, show k - (i + 1) = m by omega]
 rfl
theorem take_eq {p : loops_piece} {u k : Nat} (hu : p.next = (u : Int)) (hb : u + k ≤ 1000000) : F_loops_piece_take_s3 p (k : Int) = some (ups u k, ⟨p.loops, p.rows, p.bound, p.cross, ((u + k : Nat) : Int)⟩) := by
 have key : whileO (loops_piece_take_s3_l1 (List.replicate k 0) p) (List.replicate k 0, 0) = some (ups u k) := by
  refine loop_sq (fun i => (ups u i ++ List.replicate (k - i) (0 : Int), (i : Int))) k (by simp [ups]) ?_ ?_
  ·intro i hi
   unfold loops_piece_take_s3_l1
   have hlen : (ups u i ++ List.replicate (k - i) (0 : Int)).length = k := by simp [ups_len]; omega
   simp only [dT (show (i : Int) < ((List.replicate k (0 : Int)).length : Int) by rw [List.length_replicate]; omega), if_true]
   rw [idxO_nat (by rw [hlen]; exact hi), Option.bind_some, hu, show w64 ((u : Int) + (i : Int)) = ((u + i : Nat) : Int) by rw [w64_of (by omega) (by omega)]; omega, setO_nat (by rw [hlen]; exact hi), Option.bind_some, set_ups u k hi, w64_succ (by omega)]
  ·unfold loops_piece_take_s3_l1
   simp only [dF (show ¬ (k : Int) < ((List.replicate k (0 : Int)).length : Int) by rw [List.length_replicate]; omega), Bool.false_eq_true, if_false, Nat.sub_self, List.replicate_zero, List.append_nil]
 unfold F_loops_piece_take_s3
 rw [makeO_of rfl (by omega), Option.bind_some, key, hu, show w64 ((u : Int) + (k : Int)) = ((u + k : Nat) : Int) by rw [w64_of (by omega) (by omega)]; omega]
 rfl
theorem uses_one {p : api_Stitch} (hp : okS p) : F_stitch_Uses [p] = some (usedS p, 0) := by
 have hb := okS_bd hp
 have h0 : allS [p] = 0 := by
  have h1 := usedS_bd hp
  have h2 := madeS_bd hp
  have ho : allOk [p] := fun q hq => by simp at hq; subst hq; exact hp
  unfold allS
  rw [if_neg (by simp), if_pos ho, if_neg (by simp [sm]; omega)]
 rw [uses_eq (l := [p]) (fun q hq => by simp at hq; subst hq; unfold wfS; omega), if_pos h0]
 simp [sm]
theorem concat_eq (x y : List Int) (h : x.length + y.length ≤ 1000000) : F_slices_Concat___int_int_ [x, y] = some (x ++ y) := by
 have k1 : whileO (slices_Concat___int_int__l1 [x, y]) (0, 0) = some (((x.length + y.length : Nat) : Int)) := by
  rw [whileO_step (s' := (((x.length : Nat) : Int), ((0 + 1 : Nat) : Int))), whileO_step (s' := (((x.length + y.length : Nat) : Int), ((1 + 1 : Nat) : Int))), whileO_done]
  ·unfold slices_Concat___int_int__l1; simp
  ·unfold slices_Concat___int_int__l1
   dsimp only
   rw [dT (show ((0 + 1 : Nat) : Int) < (([x, y] : List (List Int)).length : Int) by simp), if_pos rfl, idxO_nat (show 0 + 1 < ([x, y] : List (List Int)).length by simp), Option.bind_some]
   simp only [List.getElem_cons_succ, List.getElem_cons_zero]
   simp only [show w64 ((x.length : Int) + (y.length : Int)) = ((x.length + y.length : Nat) : Int) by rw [w64_of (by omega) (by omega)]; omega, dF (show ¬ ((x.length + y.length : Nat) : Int) < 0 by omega), w64_succ (show 0 + 1 < 9223372036854775807 by omega), Bool.false_eq_true, if_false]
  ·unfold slices_Concat___int_int__l1
   dsimp only
   rw [dT (show (0 : Int) < (([x, y] : List (List Int)).length : Int) by simp), if_pos rfl, show (0 : Int) = ((0 : Nat) : Int) from rfl, idxO_nat (show 0 < ([x, y] : List (List Int)).length by simp), Option.bind_some]
   simp only [List.getElem_cons_zero]
   simp only [show w64 (((0 : Nat) : Int) + (x.length : Int)) = ((x.length : Nat) : Int) by rw [w64_of (by omega) (by omega)]; omega, dF (show ¬ ((x.length : Nat) : Int) < ((0 : Nat) : Int) by omega), w64_succ (show 0 < 9223372036854775807 by omega), Bool.false_eq_true, if_false]
 have k2 : F_slices_Grow___int_int__s1 ((x.length + y.length : Nat) : Int) = some [] := by
  unfold F_slices_Grow___int_int__s1
  rw [dF (by omega), show w64 (((x.length + y.length : Nat) : Int) - w64 ((0 : Int) - 0)) = ((x.length + y.length : Nat) : Int) by rw [show w64 ((0 : Int) - 0) = 0 from rfl, w64_of (by omega) (by omega)]; omega]
  by_cases h0 : (0 : Int) < ((x.length + y.length : Nat) : Int)
  ·rw [dT h0]
   simp only [Bool.false_eq_true, if_false, if_true]
   rw [show appZ ((x.length + y.length : Nat) : Int) (0 : Int) = some (List.replicate (x.length + y.length) 0) by unfold appZ lim; rw [if_pos (by omega)]; rfl, Option.bind_some, sliceO_of (lo := 0) (hi := 0) (l := 0) (k := 0) rfl rfl (Nat.le_refl _) (Nat.zero_le _)]; rfl
  ·rw [dF h0]; rfl
 have k3 : whileO (slices_Concat___int_int__l2 [x, y]) (([] : List Int), 0) = some (x ++ y) := by
  rw [whileO_step (s' := (x, ((0 + 1 : Nat) : Int))), whileO_step (s' := (x ++ y, ((1 + 1 : Nat) : Int))), whileO_done]
  ·unfold slices_Concat___int_int__l2; simp
  ·unfold slices_Concat___int_int__l2
   dsimp only
   rw [dT (show ((0 + 1 : Nat) : Int) < (([x, y] : List (List Int)).length : Int) by simp), if_pos rfl, idxO_nat (show 0 + 1 < ([x, y] : List (List Int)).length by simp), Option.bind_some]
   simp only [List.getElem_cons_succ, List.getElem_cons_zero]
   rw [appO_of (by omega), Option.bind_some, w64_succ (by omega)]
  ·unfold slices_Concat___int_int__l2
   dsimp only
   rw [dT (show (0 : Int) < (([x, y] : List (List Int)).length : Int) by simp), if_pos rfl, show (0 : Int) = ((0 : Nat) : Int) from rfl, idxO_nat (show 0 < ([x, y] : List (List Int)).length by simp), Option.bind_some]
   simp only [List.getElem_cons_zero]
   rw [appO_of (by simp; omega), Option.bind_some, w64_succ (by omega)]; rfl
 unfold F_slices_Concat___int_int_
 rw [k1, Option.bind_some, Option.bind_some, k2, Option.bind_some, k3]; rfl
theorem rev2_eq (a b : Int) : F_slices_Reverse___int_int__s1 (a, b) = some (b, a) := by
 have h1 : w64 (((2 : Nat) : Int) - 1) = 1 := rfl
 have i1 : idxO ([a, b] : List Int) 1 = some b := idxO_nat (k := 1) (by simp)
 have i0 : idxO ([a, b] : List Int) 0 = some a := idxO_nat (k := 0) (by simp)
 have i2 : idxO ([b, b] : List Int) 1 = some b := idxO_nat (k := 1) (by simp)
 have key : whileO slices_Reverse___int_int__s1_l1 (0, 1, a, b) = some (b, a) := by
  rw [whileO_step (s' := (1, 0, b, a)), whileO_done]
  ·unfold slices_Reverse___int_int__s1_l1; simp
  ·unfold slices_Reverse___int_int__s1_l1
   simp [i0, i1, i2]
   decide
 unfold F_slices_Reverse___int_int__s1
 rw [h1, key]; rfl
def rv (l : List Int) (i : Nat) : List Int := (List.range l.length).map fun k => if k < i ∨ l.length - 1 - i < k then l.getD (l.length - 1 - k) 0 else l.getD k 0
theorem rv_len (l : List Int) (i : Nat) : (rv l i).length = l.length := by simp [rv]
theorem rv_get {l : List Int} {i k : Nat} (h : k < (rv l i).length) : (rv l i)[k] = if k < i ∨ l.length - 1 - i < k then l.getD (l.length - 1 - k) 0 else l.getD k 0 := by simp [rv]
theorem rv_step {l : List Int} {i : Nat} (hi : 2 * i + 1 < l.length) : ((rv l i).set i (l.getD (l.length - 1 - i) 0)).set (l.length - 1 - i) (l.getD i 0) = rv l (i + 1) := by
 apply List.ext_getElem (by simp [rv])
 intro k h1 h2
 rw [rv_len] at h2
 rw [List.getElem_set, List.getElem_set, rv_get, rv_get]
 by_cases e1 : l.length - 1 - i = k
 ·rw [if_pos e1, if_pos (.inr (by omega)), show l.length - 1 - k = i by omega]
 ·rw [if_neg e1]
  by_cases e2 : i = k
  ·rw [if_pos e2, if_pos (.inl (by omega)), show l.length - 1 - k = l.length - 1 - i by omega]
  ·rw [if_neg e2]
   by_cases e3 : k < i ∨ l.length - 1 - i < k
   ·rw [if_pos e3, if_pos (by omega)]
   ·rw [if_neg e3, if_neg (by omega)]
theorem rv_zero (l : List Int) : rv l 0 = l := by
 apply List.ext_getElem (rv_len l 0)
 intro k h1 h2
 rw [rv_get, if_neg (by omega)]
 simp [h2]
theorem rv_end (l : List Int) : rv l (l.length / 2) = l.reverse := by
 apply List.ext_getElem (by simp [rv])
 intro k h1 h2
 rw [rv_len] at h1
 rw [rv_get, List.getElem_reverse]
 by_cases e : k < l.length / 2 ∨ l.length - 1 - l.length / 2 < k
 ·rw [if_pos e]
  simp [List.getD_eq_getElem?_getD, List.getElem?_eq_getElem (show l.length - 1 - k < l.length by omega)]
 ·rw [if_neg e]
  have e2 : l.length - 1 - k = k := by omega
  simp [List.getD_eq_getElem?_getD, List.getElem?_eq_getElem h1, e2]
theorem reverse_eq (l : List Int) (h : l.length ≤ 1000000) : F_slices_Reverse___int_int__s0 l = some l.reverse := by
 have key : whileO slices_Reverse___int_int__s0_l1 (l, 0, w64 ((l.length : Int) - 1)) = some l.reverse := by
  rw [← rv_end l]
  refine loop_sq (fun i => (rv l i, (i : Int), (l.length : Int) - 1 - (i : Int))) (l.length / 2) (by show (l, (0 : Int), w64 ((l.length : Int) - 1)) = (rv l 0, ((0 : Nat) : Int), (l.length : Int) - 1 - ((0 : Nat) : Int)); rw [rv_zero, w64_of (by omega) (by omega)]; simp) ?_ ?_
  ·intro i hi
   unfold slices_Reverse___int_int__s0_l1
   have hj : (l.length : Int) - 1 - (i : Int) = ((l.length - 1 - i : Nat) : Int) := by omega
   simp only [dT (show (i : Int) < (l.length : Int) - 1 - (i : Int) by omega), if_true]
   rw [idxO_of hj (by rw [rv_len]; omega), Option.bind_some, idxO_nat (by rw [rv_len]; omega), Option.bind_some, rv_get, rv_get, if_neg (by omega), if_neg (by omega), setO_nat (by rw [rv_len]; omega), Option.bind_some, hj,
    idxO_nat (by rw [List.length_set, rv_len]; omega), Option.bind_some, setO_nat (by rw [List.length_set, rv_len]; omega), Option.bind_some, rv_step (by omega), w64_succ (by omega), w64_of (by omega) (by omega)]
   congr 3
   simp only [Prod.mk.injEq, true_and]
   omega
  ·unfold slices_Reverse___int_int__s0_l1
   simp only [dF (show ¬ ((l.length / 2 : Nat) : Int) < (l.length : Int) - 1 - ((l.length / 2 : Nat) : Int) by omega), Bool.false_eq_true, if_false]
 unfold F_slices_Reverse___int_int__s0
 rw [key, Option.bind_some]
 simp [keepO]
def crow (k : Int) (n a c i : Nat) (m : Nat) : List (Int × Int) := (List.range m).map fun j => if k = 7 then (((n + j : Nat) : Int), ((n + c + i : Nat) : Int)) else (((n + c + i : Nat) : Int), ((n + j : Nat) : Int))
theorem crow_succ (k : Int) (n a c i m : Nat) : crow k n a c i (m + 1) = crow k n a c i m ++ [if k = 7 then (((n + m : Nat) : Int), ((n + c + i : Nat) : Int)) else (((n + c + i : Nat) : Int), ((n + m : Nat) : Int))] := by simp [crow, List.range_succ]
theorem crow_len (k : Int) (n a c i m : Nat) : (crow k n a c i m).length = m := by simp [crow]
theorem cable_eq {p : loops_piece} {l : api_Loop} {k : Int} {b : Bool} {a c u : Nat} (hk : k = 6 ∨ k = 7) (ha : a ≤ 6) (hc : c ≤ 6) (hl : p.loops.length ≤ 100000) (hx : p.cross.length ≤ 900000) :
 F_loops_piece_cable_s1 p l ⟨k, b, (a : Int), (c : Int)⟩ (ups u (a + c)) = some ⟨p.loops ++ (pars ⟨k, b, (a : Int), (c : Int)⟩ u).map (fun q => ⟨l.Row, l.Cell, q, l.Purl⟩), p.rows, p.bound, p.cross ++ crs ⟨k, b, (a : Int), (c : Int)⟩ p.loops.length, p.next⟩ := by
 have e : pars ⟨k, b, (a : Int), (c : Int)⟩ u = ((ups u (a + c)).drop a ++ (ups u (a + c)).take a).map fun x => [x] := by rcases hk with rfl | rfl <;> simp [pars]
 generalize hr : (ups u (a + c)).drop a ++ (ups u (a + c)).take a = r at e
 have hrl : r.length = a + c := by rw [← hr, List.length_append, List.length_drop, List.length_take, ups_len]; omega
 have k1 : whileO (loops_piece_cable_s1_l1 r l) (0, p.loops, p.rows, p.bound, p.cross, p.next) = some (p.loops ++ (r.map fun x => [x]).map (fun q => (⟨l.Row, l.Cell, q, l.Purl⟩ : api_Loop)), p.rows, p.bound, p.cross, p.next) := by
  refine loop_sq (fun i => ((i : Int), p.loops ++ ((r.take i).map fun x => [x]).map (fun q => (⟨l.Row, l.Cell, q, l.Purl⟩ : api_Loop)), p.rows, p.bound, p.cross, p.next)) r.length (by simp) ?_ ?_
  ·intro i hi
   unfold loops_piece_cable_s1_l1
   simp only [dT (show (i : Int) < (r.length : Int) by omega), if_true]
   rw [idxO_nat hi, Option.bind_some, add_eq _ _ _ (by simp; omega), Option.bind_some, w64_succ (by omega), take_snoc _ hi, List.map_append, List.map_append, List.append_assoc]
   rfl
  ·unfold loops_piece_cable_s1_l1
   simp only [dF (show ¬ (r.length : Int) < (r.length : Int) by omega), Bool.false_eq_true, if_false, List.take_length]
 generalize hn : p.loops.length = n at *
 have k2 : ∀ (i : Nat) (X : List (Int × Int)), i < a → X.length ≤ 950000 → whileO (loops_piece_cable_s1_l2 ⟨k, b, (a : Int), (c : Int)⟩ p (i : Int)) (0, X) = some (X ++ crow k n a c i c) := by
  intro i X hi hX
  refine loop_sq (fun j => ((j : Int), X ++ crow k n a c i j)) c (by simp [crow]) ?_ ?_
  ·intro j hj
   unfold loops_piece_cable_s1_l2
   rw [hn]
   simp only [dT (show (j : Int) < (c : Int) by omega), if_true]
   rw [show w64 ((n : Int) + (c : Int)) = ((n + c : Nat) : Int) by rw [w64_of (by omega) (by omega)]; omega, show w64 (((n + c : Nat) : Int) + (i : Int)) = ((n + c + i : Nat) : Int) by rw [w64_of (by omega) (by omega)]; omega, show w64 ((n : Int) + (j : Int)) = ((n + j : Nat) : Int) by rw [w64_of (by omega) (by omega)]; omega, rev2_eq, crow_succ, w64_succ (by omega)]
   rcases hk with rfl | rfl
   ·simp only [show ((6 : Int) == 7) = false from rfl, show ((6 : Int) = 7) = False by simp, Bool.false_eq_true, if_false, Option.bind_some]
    rw [appO_of (by simp [crow_len]; omega), Option.bind_some, List.append_assoc]
   ·simp only [show ((7 : Int) == 7) = true from rfl, if_true, Option.bind_some]
    rw [appO_of (by simp [crow_len]; omega), Option.bind_some, List.append_assoc]
  ·unfold loops_piece_cable_s1_l2
   simp only [dF (show ¬ (c : Int) < (c : Int) by omega), Bool.false_eq_true, if_false]
 have hlen : ∀ i, i ≤ a → ((List.range i).map fun x => crow k n a c x c).flatten.length = i * c := by
  intro i _
  induction i with
  | zero => simp
  | succ i ih => rw [List.range_succ, List.map_append, List.flatten_append, List.length_append, ih (by omega)]; simp [crow_len, Nat.add_mul]
 have k3 : whileO (loops_piece_cable_s1_l3 ⟨k, b, (a : Int), (c : Int)⟩ p) (0, p.cross) = some (p.cross ++ ((List.range a).map fun x => crow k n a c x c).flatten) := by
  refine loop_sq (fun i => ((i : Int), p.cross ++ ((List.range i).map fun x => crow k n a c x c).flatten)) a (by simp) ?_ ?_
  ·intro i hi
   have hm : i * c ≤ 6 * 6 := Nat.mul_le_mul (by omega) hc
   unfold loops_piece_cable_s1_l3
   simp only [dT (show (i : Int) < (a : Int) by omega), if_true]
   rw [k2 i _ hi (by rw [List.length_append, hlen i (by omega)]; omega), List.range_succ, w64_succ (by omega)]
   simp
  ·unfold loops_piece_cable_s1_l3
   simp only [dF (show ¬ (a : Int) < (a : Int) by omega), Bool.false_eq_true, if_false]
 have e2 : crs ⟨k, b, (a : Int), (c : Int)⟩ n = ((List.range a).map fun x => crow k n a c x c).flatten := by simp [crs, hk, crow]
 unfold F_loops_piece_cable_s1
 have hul : (ups u (a + c)).length = a + c := ups_len _ _
 rw [sliceO_of (l := a) (k := a + c) rfl (by rw [hul]) (by omega) (by omega), Option.bind_some, sliceO_of (lo := 0) (l := 0) (k := a) rfl rfl (Nat.zero_le _) (by omega), Option.bind_some]
 rw [List.take_of_length_le (show (ups u (a + c)).length ≤ a + c by omega), List.drop_zero, concat_eq _ _ (by simp [ups_len]; omega), Option.bind_some, hr, k1]
 simp only [Option.bind_some]
 rw [k3, e, e2]
 rfl
theorem work_eq {p : loops_piece} {s : api_Stitch} (R K u : Nat) (h : okS s) (hu : p.next = (u : Int)) (hl : p.loops.length ≤ 100000) (hb : p.bound.length ≤ 100000) (hx : p.cross.length ≤ 900000) (hul : u + uN s ≤ p.loops.length) :
 F_loops_piece_work_s1 p (R : Int) (K : Int) s = some ⟨p.loops ++ mkL R K (side p.loops s u) (pars s u), p.rows, p.bound ++ offB s u, p.cross ++ crs s p.loops.length, ((u + uN s : Nat) : Int)⟩ := by
 have hub := usedS_bd h
 have ht : F_loops_piece_take_s3 p (usedS s) = some (ups u (uN s), ⟨p.loops, p.rows, p.bound, p.cross, ((u + uN s : Nat) : Int)⟩) := by
  rw [show usedS s = ((uN s : Nat) : Int) by unfold uN; omega]
  exact take_eq hu (by omega)
 unfold F_loops_piece_work_s1
 rw [uses_one h, Option.bind_some, ht, Option.bind_some]
 have clone1 : F_slices_Clone___int_int__s0 (ups u 1) = some (ups u 1) := by
  unfold F_slices_Clone___int_int__s0
  rw [appO_of (by simp [ups_len]), Option.bind_some]; rfl
 rcases knd h with ⟨b, rfl⟩ | ⟨b, rfl⟩ | rfl | ⟨b, a, h1, h2, rfl⟩ | ⟨b, a, h1, h2, rfl⟩ | ⟨b, a, h1, h2, rfl⟩ | ⟨k, b, a, c, hk, h1, h2, h3, h4, rfl⟩ | ⟨a, h1, h2, rfl⟩ | ⟨b, a, h1, h2, rfl⟩
 ·have e : uN ⟨1, b, 0, 0⟩ = 1 := by simp [uN, usedS]
  rw [e]
  simp only [show ((1 : Int) == 2) = false from rfl, show ((1 : Int) == 9) = false from rfl, show ((1 : Int) == 1) = true from rfl, Bool.false_eq_true, if_false, if_true, Option.bind_some]
  rw [add_eq _ _ _ (by simp; omega), Option.bind_some]
  simp [mkL, pars, offB, crs, side, ups]
 ·have e : uN ⟨8, b, 0, 0⟩ = 1 := by simp [uN, usedS]
  rw [e] at hul ⊢
  have hlt : u < p.loops.length := by omega
  simp only [show ((8 : Int) == 2) = false from rfl, show ((8 : Int) == 9) = false from rfl, show ((8 : Int) == 1) = false from rfl, show ((8 : Int) == 8) = true from rfl, Bool.false_eq_true, if_false, if_true, Option.bind_some]
  rw [show idxO (ups u 1) 0 = some ((u : Nat) : Int) from rfl, Option.bind_some, idxO_nat hlt, Option.bind_some, add_eq _ _ _ (by simp; omega), Option.bind_some]
  simp [mkL, pars, offB, crs, side, ups, List.getElem?_eq_getElem hlt]
 ·have e : uN ⟨2, false, 0, 0⟩ = 0 := by simp [uN, usedS]
  rw [e]
  simp only [show ((2 : Int) == 2) = true from rfl, if_true, Option.bind_some, show ¬ ((1 : Int) < 0) by omega, if_false]
  rw [makeO_of (n := 1) (k := 1) rfl (by omega), Option.bind_some, add_eq _ _ _ (by simp; omega), Option.bind_some]
  simp [mkL, pars, offB, crs, side]
 ·have e : uN ⟨3, b, (a : Int), 0⟩ = a := by simp [uN, usedS]
  rw [e]
  simp only [show ((3 : Int) == 2) = false from rfl, show ((3 : Int) == 9) = false from rfl, show ((3 : Int) == 1) = false from rfl, show ((3 : Int) == 8) = false from rfl, show ((3 : Int) == 4) = false from rfl, show ((3 : Int) == 3) = true from rfl, Bool.false_eq_true, if_false, if_true, Option.bind_some]
  rw [add_eq _ _ _ (by simp; omega), Option.bind_some]
  simp [mkL, pars, offB, crs, side]
 ·have e : uN ⟨4, b, (a : Int), 0⟩ = a := by simp [uN, usedS]
  rw [e]
  simp only [show ((4 : Int) == 2) = false from rfl, show ((4 : Int) == 9) = false from rfl, show ((4 : Int) == 1) = false from rfl, show ((4 : Int) == 8) = false from rfl, show ((4 : Int) == 4) = true from rfl, Bool.false_eq_true, if_false, if_true, Option.bind_some]
  rw [reverse_eq _ (by rw [ups_len]; omega), Option.bind_some, add_eq _ _ _ (by simp; omega), Option.bind_some]
  simp [mkL, pars, offB, crs, side]
 ·have e : uN ⟨5, b, (a : Int), 0⟩ = 1 := by simp [uN, usedS]
  rw [e]
  simp only [show ((5 : Int) == 2) = false from rfl, show ((5 : Int) == 9) = false from rfl, show ((5 : Int) == 1) = false from rfl, show ((5 : Int) == 8) = false from rfl, show ((5 : Int) == 4) = false from rfl, show ((5 : Int) == 3) = false from rfl, show ((5 : Int) == 5) = true from rfl, Bool.false_eq_true, if_false, if_true, Option.bind_some]
  have key : whileO (loops_piece_work_s1_l1 ⟨5, b, (a : Int), 0⟩ (ups u 1, ⟨p.loops, p.rows, p.bound, p.cross, ((u + 1 : Nat) : Int)⟩) (R : Int) (K : Int)) (0, p.loops, p.rows, p.bound, p.cross, ((u + 1 : Nat) : Int)) = some (p.loops ++ List.replicate a ⟨(R : Int), (K : Int), ups u 1, b⟩, p.rows, p.bound, p.cross, ((u + 1 : Nat) : Int)) := by
   refine loop_sq (fun i => ((i : Int), p.loops ++ List.replicate i (⟨(R : Int), (K : Int), ups u 1, b⟩ : api_Loop), p.rows, p.bound, p.cross, ((u + 1 : Nat) : Int))) a (by simp) ?_ ?_
   ·intro i hi
    unfold loops_piece_work_s1_l1
    simp only [dT (show (i : Int) < (a : Int) by omega), if_true]
    rw [clone1, Option.bind_some, add_eq _ _ _ (by simp; omega), Option.bind_some, w64_succ (by omega), List.replicate_succ']
    simp
   ·unfold loops_piece_work_s1_l1
    simp only [dF (show ¬ (a : Int) < (a : Int) by omega), Bool.false_eq_true, if_false]
  rw [key]
  simp [mkL, pars, offB, crs, side, ups]
 ·have e : uN ⟨k, b, (a : Int), (c : Int)⟩ = a + c := by rcases hk with rfl | rfl <;> simp [uN, usedS] <;> omega
  rw [e]
  have ht : ∀ q : Int, q ≠ 6 → q ≠ 7 → (k == q) = false := by intro q h6 h7; rcases hk with rfl | rfl <;> simp <;> omega
  simp only [ht 2 (by omega) (by omega), ht 9 (by omega) (by omega), ht 1 (by omega) (by omega), ht 8 (by omega) (by omega), ht 4 (by omega) (by omega), ht 3 (by omega) (by omega), ht 5 (by omega) (by omega), ht 10 (by omega) (by omega), Bool.false_eq_true, if_false, Option.bind_some]
  rw [cable_eq hk h2 h4 (by simpa using hl) (by simpa using hx), Option.bind_some]
  have e1 : offB ⟨k, b, (a : Int), (c : Int)⟩ u = [] := by rcases hk with rfl | rfl <;> simp [offB]
  have e2 : side p.loops ⟨k, b, (a : Int), (c : Int)⟩ u = b := by rcases hk with rfl | rfl <;> simp [side]
  rw [e1, e2, List.append_nil]
  rfl
 ·have e : uN ⟨9, false, (a : Int), 0⟩ = 0 := by simp [uN, usedS]
  rw [e]
  simp only [show ((9 : Int) == 2) = false from rfl, show ((9 : Int) == 9) = true from rfl, Bool.false_eq_true, if_false, if_true, Option.bind_some]
  rw [makeO_of (k := a) (by split <;> omega) (by omega), Option.bind_some, add_eq _ _ _ (by simp; omega), Option.bind_some]
  simp [mkL, pars, offB, crs, side]
 ·have e : uN ⟨10, b, (a : Int), 0⟩ = a := by simp [uN, usedS]
  rw [e]
  simp only [show ((10 : Int) == 2) = false from rfl, show ((10 : Int) == 9) = false from rfl, show ((10 : Int) == 1) = false from rfl, show ((10 : Int) == 8) = false from rfl, show ((10 : Int) == 4) = false from rfl, show ((10 : Int) == 3) = false from rfl, show ((10 : Int) == 5) = false from rfl, show ((10 : Int) == 10) = true from rfl, Bool.false_eq_true, if_false, if_true, Option.bind_some]
  rw [appO_of (by simp [ups_len]; omega), Option.bind_some]
  simp [mkL, pars, offB, crs, side]
def kidsP : Nat → List (List Int) → Int → List Nat
 | _, [], _ => []
 | o, p :: P, i => (if i ∈ p then [o] else []) ++ kidsP (o + 1) P i
theorem kidsP_append (i : Int) (Q : List (List Int)) : ∀ (P : List (List Int)) (o : Nat), kidsP o (P ++ Q) i = kidsP o P i ++ kidsP (o + P.length) Q i
 | [], o => by simp [kidsP]
 | p :: P, o => by
  simp only [List.cons_append, kidsP, List.length_cons]
  rw [kidsP_append i Q P (o + 1), List.append_assoc]
  congr 3; omega
theorem kidsP_none {i : Int} : ∀ (P : List (List Int)) (o : Nat), (∀ p, p ∈ P → i ∉ p) → kidsP o P i = []
 | [], o, _ => rfl
 | p :: P, o, h => by
  simp only [kidsP]
  rw [if_neg (h p (by simp)), kidsP_none P (o + 1) fun q hq => h q (by simp [hq])]; rfl
theorem kidsP_rep (u : Int) : ∀ (n o : Nat), kidsP o (List.replicate n [u]) u = List.range' o n
 | 0, o => rfl
 | n + 1, o => by
  simp only [List.replicate_succ, kidsP, List.mem_singleton, if_true]
  rw [kidsP_rep u n (o + 1), List.range'_succ]; rfl
theorem kidsP_single {i : Int} : ∀ (Q : List Int) (o : Nat), Q.Nodup → i ∈ Q → ∃ x, x < Q.length ∧ kidsP o (Q.map fun x => [x]) i = List.range' (o + x) 1
 | [], o, _, h => by simp at h
 | q :: Q, o, hn, h => by
  simp only [List.map_cons, kidsP]
  rw [List.nodup_cons] at hn
  by_cases e : i = q
  ·subst e
   refine ⟨0, by simp, ?_⟩
   rw [if_pos (by simp), kidsP_none _ _ (by
    intro p hp
    obtain ⟨y, hy, rfl⟩ := List.mem_map.1 hp
    intro hi
    simp at hi
    exact hn.1 (hi ▸ hy))]
   rfl
  ·obtain ⟨x, hx, hk⟩ := kidsP_single Q (o + 1) hn.2 (by simpa [e] using h)
   refine ⟨x + 1, by simp; omega, ?_⟩
   rw [if_neg (by simpa using e), hk]
   simp only [List.nil_append]
   congr 1; omega
theorem kids_new {s : api_Stitch} (h : okS s) (u o : Nat) {i : Int} (h0 : (u : Int) ≤ i) (h1 : i < ((u + uN s : Nat) : Int)) :
 (s.Kind = 10 ∧ i ∈ offB s u) ∨ (s.Kind ≠ 10 ∧ ∃ a m, 1 ≤ m ∧ a + m ≤ mN s ∧ kidsP o (pars s u) i = List.range' (o + a) m) := by
 have one : ∀ p : List Int, i ∈ p → kidsP o [p] i = List.range' (o + 0) 1 := fun p hp => by simp [kidsP, hp, List.range'_succ]
 rcases knd h with ⟨b, rfl⟩ | ⟨b, rfl⟩ | rfl | ⟨b, a, h2, h3, rfl⟩ | ⟨b, a, h2, h3, rfl⟩ | ⟨b, a, h2, h3, rfl⟩ | ⟨k, b, a, c, hk, h2, h3, h4, h5, rfl⟩ | ⟨a, h2, h3, rfl⟩ | ⟨b, a, h2, h3, rfl⟩
 ·have e : i = (u : Int) := by simp [uN, usedS] at h1; omega
  exact .inr ⟨by simp, 0, 1, by omega, by simp [mN, madeS], one _ (by simp [e])⟩
 ·have e : i = (u : Int) := by simp [uN, usedS] at h1; omega
  exact .inr ⟨by simp, 0, 1, by omega, by simp [mN, madeS], one _ (by simp [e])⟩
 ·simp [uN, usedS] at h1; omega
 ·refine .inr ⟨by simp, 0, 1, by omega, by simp [mN, madeS], ?_⟩
  have e : pars ⟨3, b, (a : Int), 0⟩ u = [ups u a] := by simp [pars]
  rw [e]; exact one _ (ups_mem.2 ⟨h0, by simpa [uN, usedS] using h1⟩)
 ·refine .inr ⟨by simp, 0, 1, by omega, by simp [mN, madeS], ?_⟩
  have e : pars ⟨4, b, (a : Int), 0⟩ u = [(ups u a).reverse] := by simp [pars]
  rw [e]; exact one _ (List.mem_reverse.2 (ups_mem.2 ⟨h0, by simpa [uN, usedS] using h1⟩))
 ·have e : i = (u : Int) := by simp [uN, usedS] at h1; omega
  refine .inr ⟨by simp, 0, a, by omega, by simp [mN, madeS], ?_⟩
  have e2 : pars ⟨5, b, (a : Int), 0⟩ u = List.replicate a [(u : Int)] := by simp [pars]
  rw [e2, e]; exact kidsP_rep _ _ _
 ·have e : pars ⟨k, b, (a : Int), (c : Int)⟩ u = ((ups u (a + c)).drop a ++ (ups u (a + c)).take a).map fun x => [x] := by rcases hk with rfl | rfl <;> simp [pars]
  have e2 : uN ⟨k, b, (a : Int), (c : Int)⟩ = a + c := by rcases hk with rfl | rfl <;> simp [uN, usedS] <;> omega
  have e3 : mN ⟨k, b, (a : Int), (c : Int)⟩ = a + c := by rcases hk with rfl | rfl <;> simp [mN, madeS] <;> omega
  have hp : ((ups u (a + c)).drop a ++ (ups u (a + c)).take a).Perm (ups u (a + c)) := List.perm_append_comm.trans (by rw [List.take_append_drop])
  rw [e2] at h1
  obtain ⟨x, hx, hx2⟩ := kidsP_single (i := i) _ o (hp.nodup_iff.2 (ups_nodup _ _)) (hp.mem_iff.2 (ups_mem.2 ⟨h0, h1⟩))
  rw [hp.length_eq, ups_len] at hx
  refine .inr ⟨by rcases hk with rfl | rfl <;> simp, x, 1, by omega, by rw [e3]; omega, ?_⟩
  rw [e]; exact hx2
 ·simp [uN, usedS] at h1; omega
 ·exact .inl ⟨rfl, by simp only [offB, if_true]; exact ups_mem.2 ⟨h0, by simpa [uN, usedS] using h1⟩⟩
theorem offB_mem {s : api_Stitch} (h : okS s) {u : Nat} {i : Int} (hi : i ∈ offB s u) : s.Kind = 10 ∧ (u : Int) ≤ i ∧ i < ((u + uN s : Nat) : Int) := by
 unfold offB at hi
 split at hi
 ·rename_i hk
  refine ⟨hk, ?_⟩
  have hb := okS_bd h
  have := ups_mem.1 hi
  have e : uN s = s.A.toNat := by simp [uN, usedS, hk]
  rw [e]; exact this
 ·simp at hi
def parL (L : List api_Loop) : List (List Int) := L.map fun l => l.Parents
def kidsL (L : List api_Loop) (i : Int) : List Nat := kidsP 0 (parL L) i
theorem parL_mk (R K : Nat) (pl : Bool) (ps : List (List Int)) : parL (mkL R K pl ps) = ps := by simp [parL, mkL, List.map_map, Function.comp_def]
theorem parL_app (L M : List api_Loop) : parL (L ++ M) = parL L ++ parL M := by simp [parL]
structure once (L : List api_Loop) (B : List Int) (u : Nat) : Prop where
 below : ∀ i : Int, 0 ≤ i → i < (u : Int) → (i ∈ B ∧ kidsL L i = []) ∨ (i ∉ B ∧ ∃ a m, 1 ≤ m ∧ a + m ≤ L.length ∧ kidsL L i = List.range' a m ∧ ∃ K, ∀ j, a ≤ j → j < a + m → ∃ l, L[j]? = some l ∧ l.Cell = K)
 above : ∀ i : Int, (u : Int) ≤ i → i ∉ B ∧ kidsL L i = []
 lo : ∀ i : Int, i < 0 → i ∉ B ∧ kidsL L i = []
theorem once.step {R K : Nat} {s : api_Stitch} {z : Wk} (hs : okS s) (h : once z.L z.B z.u) : once (stepW R K s z).L (stepW R K s z).B (stepW R K s z).u := by
 have hk : ∀ i, kidsL (stepW R K s z).L i = kidsL z.L i ++ kidsP z.L.length (pars s z.u) i := by
  intro i
  simp only [kidsL, stepW, parL_app, parL_mk, kidsP_append]
  congr 2; simp [parL]
 have hp := pars_bd hs z.u
 have hno : ∀ i : Int, i < (z.u : Int) ∨ ((z.u + uN s : Nat) : Int) ≤ i → kidsP z.L.length (pars s z.u) i = [] := by
  intro i hi
  refine kidsP_none _ _ fun p hp1 hm => ?_
  have := (hp p hp1).2 i hm
  omega
 have hnb : ∀ i : Int, i < (z.u : Int) ∨ ((z.u + uN s : Nat) : Int) ≤ i → i ∉ offB s z.u := by
  intro i hi hm
  have := offB_mem hs hm
  omega
 refine ⟨?_, ?_, ?_⟩
 ·intro i h0 h1
  rw [hk]
  simp only [stepW] at h1 ⊢
  by_cases hlt : i < (z.u : Int)
  ·rw [hno i (.inl hlt), List.append_nil]
   rcases h.below i h0 hlt with ⟨h2, h3⟩ | ⟨h2, a, m, h3, h4, h5, Kc, h6⟩
   ·exact .inl ⟨List.mem_append_left _ h2, h3⟩
   ·refine .inr ⟨fun hm => ?_, a, m, h3, by simp; omega, h5, Kc, fun j hj1 hj2 => ?_⟩
    ·rcases List.mem_append.1 hm with hm | hm
     ·exact h2 hm
     ·exact hnb i (.inl hlt) hm
    ·obtain ⟨l, hl, hc⟩ := h6 j hj1 hj2
     exact ⟨l, by rw [List.getElem?_append_left (by omega)]; exact hl, hc⟩
  ·obtain ⟨h2, h3⟩ := h.above i (by omega)
   rw [h3, List.nil_append]
   rcases kids_new hs z.u z.L.length (i := i) (by omega) h1 with ⟨hk10, hm⟩ | ⟨hk10, a, m, h4, h5, h6⟩
   ·refine .inl ⟨List.mem_append_right _ hm, ?_⟩
    have : pars s z.u = [] := by
     have e := pars_len hs z.u
     have e2 : mN s = 0 := by simp [mN, madeS, hk10]
     exact List.eq_nil_of_length_eq_zero (by omega)
    rw [this]; rfl
   ·refine .inr ⟨fun hm => ?_, z.L.length + a, m, h4, by simp [mkL_len, pars_len hs]; omega, h6, (K : Int), fun j hj1 hj2 => ?_⟩
    ·rcases List.mem_append.1 hm with hm | hm
     ·exact h2 hm
     ·exact hk10 (offB_mem hs hm).1
    ·have hj : j - z.L.length < (pars s z.u).length := by rw [pars_len hs]; omega
     refine ⟨⟨(R : Int), (K : Int), (pars s z.u)[j - z.L.length], side z.L s z.u⟩, ?_, rfl⟩
     rw [List.getElem?_append_right (by omega)]
     simp only [mkL, List.getElem?_map, List.getElem?_eq_getElem hj, Option.map_some]
 ·intro i hi
  simp only [stepW] at hi
  obtain ⟨h2, h3⟩ := h.above i (by omega)
  rw [hk, h3, hno i (.inr (by omega))]
  refine ⟨fun hm => ?_, rfl⟩
  simp only [stepW] at hm
  rcases List.mem_append.1 hm with hm | hm
  ·exact h2 hm
  ·exact hnb i (.inr (by omega)) hm
 ·intro i hi
  obtain ⟨h2, h3⟩ := h.lo i hi
  rw [hk, h3, hno i (.inl (by omega))]
  refine ⟨fun hm => ?_, rfl⟩
  simp only [stepW] at hm
  rcases List.mem_append.1 hm with hm | hm
  ·exact h2 hm
  ·exact hnb i (.inl (by omega)) hm
theorem once.start (S : Nat) : once (zeroL S) [] 0 := by
 have h : ∀ i : Int, kidsL (zeroL S) i = [] := by
  intro i
  refine kidsP_none _ _ fun p hp hm => ?_
  simp only [parL, zeroL, List.map_map, List.mem_map] at hp
  obtain ⟨_, _, rfl⟩ := hp
  simp at hm
 exact ⟨fun i h0 h1 => by omega, fun i _ => ⟨by simp, h i⟩, fun i _ => ⟨by simp, h i⟩⟩
def norm (p : Int × Int) : Int × Int := if p.1 ≤ p.2 then p else (p.2, p.1)
theorem pars_x {k : Int} {b : Bool} {a c u i : Nat} (hk : k = 6 ∨ k = 7) (hi : i < a + c) : (pars ⟨k, b, (a : Int), (c : Int)⟩ u)[i]? = some [((u + (if i < c then a + i else i - c) : Nat) : Int)] := by
 have e : pars ⟨k, b, (a : Int), (c : Int)⟩ u = ((ups u (a + c)).drop a ++ (ups u (a + c)).take a).map fun x => [x] := by rcases hk with rfl | rfl <;> simp [pars]
 have hd : ((ups u (a + c)).drop a).length = c := by rw [List.length_drop, ups_len]; omega
 rw [e, List.getElem?_map]
 by_cases h : i < c
 ·rw [List.getElem?_append_left (by rw [hd]; exact h), List.getElem?_drop, List.getElem?_eq_getElem (by rw [ups_len]; omega), ups_get, if_pos h]; rfl
 ·rw [List.getElem?_append_right (by rw [hd]; omega), hd, List.getElem?_take_of_lt (by omega), List.getElem?_eq_getElem (by rw [ups_len]; omega), ups_get, if_neg h]; rfl
def inv (L : List api_Loop) (a b : Nat) : Prop := a < b ∧ ∃ l k x y, L[a]? = some l ∧ L[b]? = some k ∧ l.Parents = [x] ∧ k.Parents = [y] ∧ y < x
theorem crs_x {k : Int} {b : Bool} {a c n : Nat} (hk : k = 6 ∨ k = 7) : (crs ⟨k, b, (a : Int), (c : Int)⟩ n).map norm = ((List.range a).map fun i => (List.range c).map fun j => (((n + j : Nat) : Int), ((n + c + i : Nat) : Int))).flatten := by
 have e : crs ⟨k, b, (a : Int), (c : Int)⟩ n = ((List.range a).map fun i => (List.range c).map fun j => if k = 7 then (((n + j : Nat) : Int), ((n + c + i : Nat) : Int)) else (((n + c + i : Nat) : Int), ((n + j : Nat) : Int))).flatten := by
  simp [crs, hk]
 rw [e, List.map_flatten, List.map_map]
 congr 1
 apply List.map_congr_left
 intro i _
 simp only [Function.comp, List.map_map]
 apply List.map_congr_left
 intro j hj
 have hj := List.mem_range.1 hj
 simp only [Function.comp, norm]
 rcases hk with rfl | rfl
 ·simp only [show ((6 : Int) = 7) = False by simp, if_false]; rw [if_neg (by omega)]
 ·simp only [if_true]; rw [if_pos (by omega)]
theorem crs_mem {k : Int} {b : Bool} {a c n : Nat} (hk : k = 6 ∨ k = 7) {q : Int × Int} : q ∈ (crs ⟨k, b, (a : Int), (c : Int)⟩ n).map norm ↔ ∃ i j : Nat, i < a ∧ j < c ∧ q = (((n + j : Nat) : Int), ((n + c + i : Nat) : Int)) := by
 rw [crs_x hk]
 simp only [List.mem_flatten, List.mem_map, List.mem_range]
 constructor
 ·rintro ⟨_, ⟨i, hi, rfl⟩, h⟩
  simp only [List.mem_map, List.mem_range] at h
  obtain ⟨j, hj, rfl⟩ := h
  exact ⟨i, j, hi, hj, rfl⟩
 ·rintro ⟨i, j, hi, hj, rfl⟩
  exact ⟨_, ⟨i, hi, rfl⟩, by simp only [List.mem_map, List.mem_range]; exact ⟨j, hj, rfl⟩⟩
theorem nodup_grid {α : Type} (f : Nat → Nat → α) (hf : ∀ i j i' j', f i j = f i' j' → i = i' ∧ j = j') (c : Nat) : ∀ a, ((List.range a).map fun i => (List.range c).map fun j => f i j).flatten.Nodup
 | 0 => by simp
 | a + 1 => by
  rw [List.range_succ, List.map_append, List.flatten_append, List.nodup_append]
  refine ⟨nodup_grid f hf c a, ?_, ?_⟩
  ·simp only [List.map_cons, List.map_nil, List.flatten_cons, List.flatten_nil, List.append_nil]
   rw [List.nodup_iff_pairwise_ne]
   refine List.pairwise_map.2 (List.Pairwise.imp ?_ (List.pairwise_lt_range (n := c)))
   intro x y h e
   have := (hf _ _ _ _ e).2; omega
  ·intro x hx y hy e
   subst e
   simp only [List.mem_flatten, List.mem_map, List.mem_range] at hx hy
   obtain ⟨_, ⟨i, hi, rfl⟩, hx⟩ := hx
   obtain ⟨_, ⟨i', hi', rfl⟩, hy⟩ := hy
   simp only [List.mem_map, List.mem_range] at hx hy
   obtain ⟨j, _, rfl⟩ := hx
   obtain ⟨j', _, e⟩ := hy
   simp at hi'
   have := (hf _ _ _ _ e).1; omega
theorem cross_new {s : api_Stitch} (h : okS s) (u n : Nat) : ((crs s n).map norm).Nodup ∧ ∀ a b : Nat, (((n + a : Nat) : Int), ((n + b : Nat) : Int)) ∈ (crs s n).map norm ↔ a < b ∧ ∃ x y, (pars s u)[a]? = some [x] ∧ (pars s u)[b]? = some [y] ∧ y < x := by
 have short : (pars s u).length ≤ 1 → crs s n = [] → ((crs s n).map norm).Nodup ∧ ∀ a b : Nat, (((n + a : Nat) : Int), ((n + b : Nat) : Int)) ∈ (crs s n).map norm ↔ a < b ∧ ∃ x y, (pars s u)[a]? = some [x] ∧ (pars s u)[b]? = some [y] ∧ y < x := by
  intro hl hc
  rw [hc]
  refine ⟨by simp, fun a b => ⟨fun h => by simp at h, ?_⟩⟩
  rintro ⟨hab, x, y, _, h2, _⟩
  have := (List.getElem?_eq_some_iff.1 h2).1
  omega
 have hl := pars_len h u
 rcases knd h with ⟨b, rfl⟩ | ⟨b, rfl⟩ | rfl | ⟨b, a, h2, h3, rfl⟩ | ⟨b, a, h2, h3, rfl⟩ | ⟨b, a, h2, h3, rfl⟩ | ⟨k, b, a, c, hk, h2, h3, h4, h5, rfl⟩ | ⟨a, h2, h3, rfl⟩ | ⟨b, a, h2, h3, rfl⟩
 ·exact short (by simp [pars]) (by simp [crs])
 ·exact short (by simp [pars]) (by simp [crs])
 ·exact short (by simp [pars]) (by simp [crs])
 ·exact short (by simp [pars]) (by simp [crs])
 ·exact short (by simp [pars]) (by simp [crs])
 ·have e : crs ⟨5, b, (a : Int), 0⟩ n = [] := by simp [crs]
  have e2 : pars ⟨5, b, (a : Int), 0⟩ u = List.replicate a [(u : Int)] := by simp [pars]
  rw [e, e2]
  refine ⟨by simp, fun i j => ⟨fun h => by simp at h, ?_⟩⟩
  rintro ⟨_, x, y, h5, h6, h7⟩
  rw [List.getElem?_replicate] at h5 h6
  split at h5
  ·split at h6
   ·simp at h5 h6; omega
   ·cases h6
  ·cases h5
 ·have e3 : mN ⟨k, b, (a : Int), (c : Int)⟩ = a + c := by rcases hk with rfl | rfl <;> simp [mN, madeS] <;> omega
  refine ⟨?_, fun i j => ?_⟩
  ·rw [crs_x hk]
   refine nodup_grid _ (fun i j i' j' e => ?_) c a
   simp only [Prod.mk.injEq] at e
   omega
  ·rw [crs_mem hk]
   constructor
   ·rintro ⟨p, q, hp, hq, e⟩
    simp only [Prod.mk.injEq] at e
    obtain ⟨rfl, rfl⟩ : i = q ∧ j = c + p := by omega
    refine ⟨by omega, _, _, pars_x hk (by omega), pars_x hk (by omega), ?_⟩
    rw [if_pos hq, if_neg (by omega)]
    omega
   ·rintro ⟨hij, x, y, h6, h7, h8⟩
    have l1 := (List.getElem?_eq_some_iff.1 h7).1
    rw [hl, e3] at l1
    rw [pars_x hk (by omega)] at h6 h7
    simp only [Option.some.injEq, List.cons.injEq, and_true] at h6 h7
    subst h6 h7
    by_cases c1 : i < c
    ·by_cases c2 : j < c
     ·rw [if_pos c1, if_pos c2] at h8; omega
     ·exact ⟨j - c, i, by omega, c1, by rw [Prod.mk.injEq]; exact ⟨rfl, by omega⟩⟩
    ·rw [if_neg c1, if_neg (show ¬ j < c by omega)] at h8; omega
 ·have e : crs ⟨9, false, (a : Int), 0⟩ n = [] := by simp [crs]
  have e2 : pars ⟨9, false, (a : Int), 0⟩ u = List.replicate a [] := by simp [pars]
  rw [e, e2]
  refine ⟨by simp, fun i j => ⟨fun h => by simp at h, ?_⟩⟩
  rintro ⟨_, x, y, h5, _⟩
  rw [List.getElem?_replicate] at h5
  split at h5 <;> simp at h5
 ·exact short (by simp [pars]) (by simp [crs])
theorem crs_ge {s : api_Stitch} (h : okS s) {n : Nat} {q : Int × Int} (hq : q ∈ (crs s n).map norm) : ∃ a b : Nat, q = (((n + a : Nat) : Int), ((n + b : Nat) : Int)) ∧ a < b ∧ b < mN s := by
 rcases knd h with ⟨b, rfl⟩ | ⟨b, rfl⟩ | rfl | ⟨b, a, h2, h3, rfl⟩ | ⟨b, a, h2, h3, rfl⟩ | ⟨b, a, h2, h3, rfl⟩ | ⟨k, b, a, c, hk, h2, h3, h4, h5, rfl⟩ | ⟨a, h2, h3, rfl⟩ | ⟨b, a, h2, h3, rfl⟩
 ·simp [crs] at hq
 ·simp [crs] at hq
 ·simp [crs] at hq
 ·simp [crs] at hq
 ·simp [crs] at hq
 ·simp [crs] at hq
 ·have e3 : mN ⟨k, b, (a : Int), (c : Int)⟩ = a + c := by rcases hk with rfl | rfl <;> simp [mN, madeS] <;> omega
  obtain ⟨i, j, hi, hj, rfl⟩ := (crs_mem hk).1 hq
  exact ⟨j, c + i, by rw [Prod.mk.injEq]; exact ⟨rfl, by omega⟩, by omega, by rw [e3]; omega⟩
 ·simp [crs] at hq
 ·simp [crs] at hq
structure cinv (L : List api_Loop) (C : List (Int × Int)) (u : Nat) : Prop where
 par : ∀ l, l ∈ L → ∀ p, p ∈ l.Parents → 0 ≤ p ∧ p < (u : Int)
 nd : (C.map norm).Nodup
 bd : ∀ q, q ∈ C.map norm → ∃ a b : Nat, q = ((a : Int), (b : Int)) ∧ a < b ∧ b < L.length
 iff : ∀ a b : Nat, (((a : Nat) : Int), ((b : Nat) : Int)) ∈ C.map norm ↔ inv L a b
 cell : ∀ a b l k, inv L a b → L[a]? = some l → L[b]? = some k → l.Cell = k.Cell
theorem cinv.step {R K : Nat} {s : api_Stitch} {z : Wk} (hs : okS s) (h : cinv z.L z.C z.u) : cinv (stepW R K s z).L (stepW R K s z).C (stepW R K s z).u := by
 have hp := pars_bd hs z.u
 have hl := pars_len hs z.u
 have hget : ∀ b l, z.L.length ≤ b → (stepW R K s z).L[b]? = some l → ∃ ps, (pars s z.u)[b - z.L.length]? = some ps ∧ l.Parents = ps ∧ l.Cell = (K : Int) := by
  intro b l hb hg
  simp only [stepW] at hg
  rw [List.getElem?_append_right hb] at hg
  simp only [mkL, List.getElem?_map, Option.map_eq_some_iff] at hg
  obtain ⟨ps, h1, rfl⟩ := hg
  exact ⟨ps, h1, rfl, rfl⟩
 have hold : ∀ b, b < z.L.length → (stepW R K s z).L[b]? = z.L[b]? := fun b hb => by simp only [stepW]; rw [List.getElem?_append_left hb]
 obtain ⟨hn1, hn2⟩ := cross_new hs z.u z.L.length
 have hinv : ∀ a b, inv (stepW R K s z).L a b ↔ inv z.L a b ∨ ∃ i j, a = z.L.length + i ∧ b = z.L.length + j ∧ i < j ∧ ∃ x y, (pars s z.u)[i]? = some [x] ∧ (pars s z.u)[j]? = some [y] ∧ y < x := by
  intro a b
  constructor
  ·rintro ⟨hab, l, k, x, y, h1, h2, h3, h4, h5⟩
   by_cases hb : b < z.L.length
   ·rw [hold a (by omega)] at h1
    rw [hold b hb] at h2
    exact .inl ⟨hab, l, k, x, y, h1, h2, h3, h4, h5⟩
   ·obtain ⟨pb, g1, g2, _⟩ := hget b k (by omega) h2
    by_cases ha : a < z.L.length
    ·rw [hold a ha] at h1
     have e1 := (h.par l (List.mem_of_getElem? h1) x (by rw [h3]; simp)).2
     have e2 := (hp pb (List.mem_of_getElem? g1)).2 y (by rw [← g2, h4]; simp)
     omega
    ·obtain ⟨pa, f1, f2, _⟩ := hget a l (by omega) h1
     refine .inr ⟨a - z.L.length, b - z.L.length, by omega, by omega, by omega, x, y, ?_, ?_, h5⟩
     ·rw [f1, ← f2, h3]
     ·rw [g1, ← g2, h4]
  ·rintro (⟨hab, l, k, x, y, h1, h2, h3, h4, h5⟩ | ⟨i, j, rfl, rfl, hij, x, y, h1, h2, h3⟩)
   ·exact ⟨hab, l, k, x, y, by rw [hold a (List.getElem?_eq_some_iff.1 h1).1]; exact h1, by rw [hold b (List.getElem?_eq_some_iff.1 h2).1]; exact h2, h3, h4, h5⟩
   ·refine ⟨by omega, ⟨R, K, [x], side z.L s z.u⟩, ⟨R, K, [y], side z.L s z.u⟩, x, y, ?_, ?_, rfl, rfl, h3⟩
    ·simp only [stepW]; rw [List.getElem?_append_right (by omega), Nat.add_sub_cancel_left]; simp only [mkL, List.getElem?_map, h1, Option.map_some]
    ·simp only [stepW]; rw [List.getElem?_append_right (by omega), Nat.add_sub_cancel_left]; simp only [mkL, List.getElem?_map, h2, Option.map_some]
 refine ⟨?_, ?_, ?_, ?_, ?_⟩
 ·intro l hm p hpm
  simp only [stepW] at hm ⊢
  rcases List.mem_append.1 hm with hm | hm
  ·have := h.par l hm p hpm; omega
  ·simp only [mkL, List.mem_map] at hm
   obtain ⟨ps, h1, rfl⟩ := hm
   have := (hp ps h1).2 p hpm; omega
 ·simp only [stepW, List.map_append]
  rw [List.nodup_append]
  refine ⟨h.nd, hn1, fun x hx y hy e => ?_⟩
  subst e
  obtain ⟨a, b, rfl, _, hb⟩ := h.bd x hx
  obtain ⟨i, j, e, _, _⟩ := crs_ge hs hy
  simp only [Prod.mk.injEq] at e
  omega
 ·intro q hq
  simp only [stepW, List.map_append, List.mem_append, List.length_append, mkL_len, hl] at hq ⊢
  rcases hq with hq | hq
  ·obtain ⟨a, b, rfl, h1, h2⟩ := h.bd q hq; exact ⟨a, b, rfl, h1, by omega⟩
  ·obtain ⟨a, b, rfl, h1, h2⟩ := crs_ge hs hq; exact ⟨_, _, rfl, by omega, by omega⟩
 ·intro a b
  rw [hinv]
  simp only [stepW, List.map_append, List.mem_append]
  rw [h.iff a b]
  constructor
  ·rintro (h1 | h1)
   ·exact .inl h1
   ·obtain ⟨i, j, e, _, _⟩ := crs_ge hs h1
    simp only [Prod.mk.injEq] at e
    obtain ⟨rfl, rfl⟩ : a = z.L.length + i ∧ b = z.L.length + j := by omega
    obtain ⟨hij, hx⟩ := (hn2 i j).1 h1
    exact .inr ⟨i, j, rfl, rfl, hij, hx⟩
  ·rintro (h1 | ⟨i, j, rfl, rfl, hij, hx⟩)
   ·exact .inl h1
   ·exact .inr ((hn2 i j).2 ⟨hij, hx⟩)
 ·intro a b l k hi h1 h2
  rcases (hinv a b).1 hi with h3 | ⟨i, j, rfl, rfl, _, _⟩
  ·have hb : b < z.L.length := by obtain ⟨_, _, _, _, _, _, g, _⟩ := h3; exact (List.getElem?_eq_some_iff.1 g).1
   rw [hold a (by have := h3.1; omega)] at h1
   rw [hold b hb] at h2
   exact h.cell a b l k h3 h1 h2
  ·obtain ⟨_, _, _, e1⟩ := hget _ l (by omega) h1
   obtain ⟨_, _, _, e2⟩ := hget _ k (by omega) h2
   rw [e1, e2]
theorem cinv.start (S : Nat) : cinv (zeroL S) [] 0 := by
 have hp : ∀ l, l ∈ zeroL S → l.Parents = [] := by
  intro l hl
  simp only [zeroL, List.mem_map] at hl
  obtain ⟨_, _, rfl⟩ := hl; rfl
 have hi : ∀ a b, ¬ inv (zeroL S) a b := by
  rintro a b ⟨_, l, _, x, _, h1, _, h3, _⟩
  rw [hp l (List.mem_of_getElem? h1)] at h3; cases h3
 exact ⟨fun l hl p hpm => by rw [hp l hl] at hpm; simp at hpm, by simp, fun q hq => by simp at hq, fun a b => ⟨fun h => by simp at h, fun h => absurd h (hi a b)⟩, fun a b l k h => absurd h (hi a b)⟩
theorem cells_all {R : Nat} {l : List api_Stitch} {z : Wk} (P : Nat → Wk → Prop) (h0 : P 0 z) (step : ∀ (j : Nat) (hj : j < l.length) (y : Wk), P j y → P (j + 1) (stepW R j l[j] y)) : ∀ k, k ≤ l.length → P k (cellsW R 0 (l.take k) z) := by
 intro k
 induction k with
 | zero => intro _; exact h0
 | succ k ih =>
  intro hk
  rw [List.take_succ_eq_append_getElem (by omega), cellsW_snoc]
  have := step k (by omega) _ (ih (by omega))
  rwa [Nat.zero_add, List.length_take, Nat.min_eq_left (by omega)]
theorem rows_all {fs : List (List api_Stitch)} {z : Wk × List Int} (P : Nat → Wk × List Int → Prop) (h0 : P 0 z)
 (step : ∀ (i : Nat) (hi : i < fs.length) (y : Wk × List Int), P i y → P (i + 1) (cellsW (i + 1) 0 fs[i] y.1, y.2 ++ [((cellsW (i + 1) 0 fs[i] y.1).L.length : Int)])) : ∀ k, k ≤ fs.length → P k (rowsW 0 (fs.take k) z) := by
 intro k
 induction k with
 | zero => intro _; exact h0
 | succ k ih =>
  intro hk
  rw [List.take_succ_eq_append_getElem (by omega), rowsW_snoc]
  have := step k (by omega) _ (ih (by omega))
  rwa [Nat.zero_add, List.length_take, Nat.min_eq_left (by omega)]
theorem offs_snoc (S : Nat) (fs : List (List api_Stitch)) (k : Nat) : ((List.range (k + 2)).map fun r => (off S fs r : Int)) ++ [(off S fs (k + 2) : Int)] = (List.range (k + 1 + 2)).map fun r => (off S fs r : Int) := by
 rw [List.range_succ (n := k + 1 + 1), List.map_append]; rfl
structure Bd (k j : Nat) (z : Wk) : Prop where
 B : z.B.length ≤ z.u
 C : z.C.length ≤ 36 * (200 * k + j)
theorem offB_len {s : api_Stitch} (u : Nat) : (offB s u).length ≤ uN s := by
 unfold offB
 split
 ·rename_i h; rw [ups_len]; simp [uN, usedS, h]
 ·simp
theorem crs_len {s : api_Stitch} (h : okS s) (n : Nat) : (crs s n).length ≤ 36 := by
 rcases knd h with ⟨b, rfl⟩ | ⟨b, rfl⟩ | rfl | ⟨b, a, h2, h3, rfl⟩ | ⟨b, a, h2, h3, rfl⟩ | ⟨b, a, h2, h3, rfl⟩ | ⟨k, b, a, c, hk, h2, h3, h4, h5, rfl⟩ | ⟨a, h2, h3, rfl⟩ | ⟨b, a, h2, h3, rfl⟩
 ·simp [crs]
 ·simp [crs]
 ·simp [crs]
 ·simp [crs]
 ·simp [crs]
 ·simp [crs]
 ·have e : ((crs ⟨k, b, (a : Int), (c : Int)⟩ n).map norm).length = a * c := by
   rw [crs_x hk]
   have : ∀ m, ((List.range m).map fun i => (List.range c).map fun j => (((n + j : Nat) : Int), ((n + c + i : Nat) : Int))).flatten.length = m * c := by
    intro m
    induction m with
    | zero => simp
    | succ m ih => rw [List.range_succ, List.map_append, List.flatten_append, List.length_append, ih]; simp [Nat.add_mul]
   exact this a
  rw [List.length_map] at e
  have := Nat.mul_le_mul h3 h5
  omega
 ·simp [crs]
 ·simp [crs]
theorem Bd.step {k j R K : Nat} {s : api_Stitch} {z : Wk} (hs : okS s) (h : Bd k j z) : Bd k (j + 1) (stepW R K s z) := by
 have h1 := offB_len (s := s) z.u
 have h2 := crs_len hs z.L.length
 have := h.B
 have := h.C
 exact ⟨by simp only [stepW, List.length_append]; omega, by simp only [stepW, List.length_append]; omega⟩
def stC (S : Nat) (fs : List (List api_Stitch)) (k : Nat) : Wk × List Int := rowsW 0 (fs.take k) (⟨zeroL S, [], [], 0⟩, [0, (S : Int)])
theorem stC_all {S : Nat} {fs : List (List api_Stitch)} (hf : okF S fs) (P : Nat → Nat → Wk → Prop) (h0 : P 0 0 ⟨zeroL S, [], [], 0⟩)
 (step : ∀ (k j : Nat) (hk : k < fs.length) (hj : j < fs[k].length) (z : Wk), LInv S fs k j z → P k j z → P k (j + 1) (stepW (k + 1) j (fs[k][j]) z))
 (row : ∀ (k : Nat) (hk : k < fs.length) (z : Wk), LInv S fs (k + 1) 0 z → P k fs[k].length z → P (k + 1) 0 z) :
 ∀ k, k ≤ fs.length → LInv S fs k 0 (stC S fs k).1 ∧ P k 0 (stC S fs k).1 ∧ (stC S fs k).2 = (List.range (k + 2)).map fun r => (off S fs r : Int) := by
 refine rows_all (fun k z => LInv S fs k 0 z.1 ∧ P k 0 z.1 ∧ z.2 = (List.range (k + 2)).map fun r => (off S fs r : Int)) ⟨LInv.start S fs, h0, by simp [off, nR, List.range_succ]⟩ ?_
 rintro k hk ⟨z, rs⟩ ⟨h1, h2, h3⟩
 simp only at h1 h2 h3
 have hc : LInv S fs k fs[k].length (cellsW (k + 1) 0 fs[k] z) ∧ P k fs[k].length (cellsW (k + 1) 0 fs[k] z) :=
  cells_ind (fun j y => LInv S fs k j y ∧ P k j y) ⟨h1, h2⟩ fun j hj y hy => ⟨hy.1.step hf hk hj, step k j hk hj y hy.1 hy.2⟩
 have hr := hc.1.row hf hk
 refine ⟨hr, row k hk _ hr hc.2, ?_⟩
 simp only
 rw [h3, hr.len, ← offs_snoc]
 simp [pm, smN]
theorem stC_cells {S : Nat} {fs : List (List api_Stitch)} (hf : okF S fs) {k : Nat} (hk : k < fs.length) (P : Nat → Wk → Prop) (h0 : P 0 (stC S fs k).1)
 (step : ∀ (j : Nat) (hj : j < fs[k].length) (z : Wk), LInv S fs k j z → P j z → P (j + 1) (stepW (k + 1) j (fs[k][j]) z)) :
 ∀ j, j ≤ fs[k].length → LInv S fs k j (cellsW (k + 1) 0 (fs[k].take j) (stC S fs k).1) ∧ P j (cellsW (k + 1) 0 (fs[k].take j) (stC S fs k).1) := by
 have hz := (stC_all hf (fun _ _ _ => True) trivial (fun _ _ _ _ _ _ _ => trivial) (fun _ _ _ _ _ => trivial) k (by omega)).1
 exact cells_all (fun j y => LInv S fs k j y ∧ P j y) ⟨hz, h0⟩ fun j hj y hy => ⟨hy.1.step hf hk hj, step j hj y hy.1 hy.2⟩
theorem stC_succ {S : Nat} {fs : List (List api_Stitch)} {k : Nat} (hk : k < fs.length) : stC S fs (k + 1) = (cellsW (k + 1) 0 fs[k] (stC S fs k).1, (stC S fs k).2 ++ [((cellsW (k + 1) 0 fs[k] (stC S fs k).1).L.length : Int)]) := by
 unfold stC
 rw [List.take_succ_eq_append_getElem hk, rowsW_snoc, Nat.zero_add, List.length_take, Nat.min_eq_left (by omega)]
theorem stC_bd {S : Nat} {fs : List (List api_Stitch)} (hf : okF S fs) (k : Nat) (hk : k ≤ fs.length) : Bd k 0 (stC S fs k).1 := by
 refine (stC_all hf (fun k j z => Bd k j z) ⟨by simp, by simp⟩ ?_ ?_ k hk).2.1
 ·intro k j hk hj z _ h
  exact h.step ((hf.2 k hk).1 _ (List.getElem_mem _))
 ·intro k hk z _ h
  have := (hf.2 k hk).2.1
  exact ⟨h.B, Nat.le_trans h.C (by omega)⟩
theorem pu_le {S : Nat} {fs : List (List api_Stitch)} (hf : okF S fs) {k j : Nat} (hk : k < fs.length) (hj : j < fs[k].length) : pu S fs k j + uN (fs[k][j]) ≤ off S fs (k + 1) := by
 have hg : fs.getD k [] = fs[k] := by simp [List.getD_eq_getElem?_getD, List.getElem?_eq_getElem hk]
 have h1 := smN_take uN fs[k] hj
 have h2 := smN_take_le uN fs[k] (j + 1)
 have h3 := (hf.2 k hk).2.2.2
 simp only [pu, hg, off]
 omega
theorem pm_le {S : Nat} {fs : List (List api_Stitch)} (hf : okF S fs) {k j : Nat} (hk : k < fs.length) : off S fs (k + 1) ≤ pm S fs k j ∧ pm S fs k j ≤ off S fs (k + 2) := by
 have hg : fs.getD k [] = fs[k] := by simp [List.getD_eq_getElem?_getD, List.getElem?_eq_getElem hk]
 have h2 := smN_take_le mN fs[k] j
 have h3 := nR_succ (S := S) hk
 simp only [pm, hg, off, h3]
 omega
theorem cells_at (R : Nat) (l : List api_Stitch) (z : Wk) {j : Nat} (hj : j < l.length) : cellsW R 0 (l.take (j + 1)) z = stepW R j l[j] (cellsW R 0 (l.take j) z) := by
 rw [List.take_succ_eq_append_getElem hj, cellsW_snoc, Nat.zero_add, List.length_take, Nat.min_eq_left (by omega)]
theorem row_loop {S : Nat} {fs : List (List api_Stitch)} (hf : okF S fs) (hfl : fs.length ≤ 100) {k : Nat} (hk : k < fs.length) (e : Int) (rs : List Int) :
 whileO (loops_of_l2 (fs[k], e) (k : Int)) (0, (stC S fs k).1.L, rs, (stC S fs k).1.B, (stC S fs k).1.C, ((stC S fs k).1.u : Int)) =
  some ((stC S fs (k + 1)).1.L, rs, (stC S fs (k + 1)).1.B, (stC S fs (k + 1)).1.C, ((stC S fs (k + 1)).1.u : Int)) := by
 have hall := stC_cells hf hk (fun j z => Bd k j z) (stC_bd hf k (by omega)) fun j hj z _ h => h.step ((hf.2 k hk).1 _ (List.getElem_mem _))
 have hlen := (hf.2 k hk).2.1
 rw [stC_succ hk]
 generalize stC S fs k = z at hall
 refine loop_sq (fun j => ((j : Int), (cellsW (k + 1) 0 (fs[k].take j) z.1).L, rs, (cellsW (k + 1) 0 (fs[k].take j) z.1).B, (cellsW (k + 1) 0 (fs[k].take j) z.1).C, ((cellsW (k + 1) 0 (fs[k].take j) z.1).u : Int))) fs[k].length (by simp [cellsW]) ?_ ?_
 ·intro j hj
  obtain ⟨hL, hB⟩ := hall j (by omega)
  have h1 := pu_le hf hk hj
  have h2 := pm_le hf hk (j := j)
  have h3 := off_le hf (r := k + 2) (by omega)
  have h4 := off_mono (S := S) (fs := fs) (a := k + 1) (b := k + 2) (by omega)
  have h5 := hB.B
  have h6 := hB.C
  have h7 := hL.len
  have h8 := hL.u
  unfold loops_of_l2
  simp only [dT (show (j : Int) < (fs[k].length : Int) by omega), if_true]
  rw [idxO_nat hj, Option.bind_some, w64_succ (by omega), work_eq (k + 1) j (cellsW (k + 1) 0 (fs[k].take j) z.1).u ((hf.2 k hk).1 _ (List.getElem_mem _)) rfl (by simp only; omega) (by simp only; omega) (by simp only; omega) (by simp only; omega), Option.bind_some, w64_succ (by omega), cells_at (k + 1) fs[k] z.1 hj]
  rfl
 ·unfold loops_of_l2
  simp only [dF (show ¬ (fs[k].length : Int) < (fs[k].length : Int) by omega), Bool.false_eq_true, if_false, List.take_length]
theorem face_eq {c : api_Chart} (hw : wfR c.Rows) (hk : chk c = 0) {i : Nat} (hi : i < c.Rows.length) : F_chart_Face c (i : Int) = some (faceR c.Rows[i], 0) := by
 have hrows := chk_ok hk
 have hall := chkR_mem hrows.2.2.2 _ (List.getElem_mem hi)
 have hlen := (allS_ok hall).1
 unfold F_chart_Face
 rw [chart_check_eq c hw, Option.bind_some, hk]
 simp only [show ((0 : Int) != 0) = false from rfl, Bool.false_eq_true, if_false, dF (show ¬ (i : Int) < 0 by omega), dF (show ¬ (c.Rows.length : Int) ≤ (i : Int) by omega), Option.bind_some]
 rw [idxO_nat hi, Option.bind_some]
 unfold faceR
 by_cases hb : c.Rows[i].Back = true
 ·rw [if_pos hb, if_pos hb, turn_eq (hw _ (List.getElem_mem hi)), if_pos hall]; rfl
 ·rw [if_neg hb, if_neg hb]
  unfold F_slices_Clone___api_Stitch_api_Stitch_
  rw [appO_of (by simp; omega), Option.bind_some]; rfl
theorem okF_of {c : api_Chart} (hk : chk c = 0) : okF c.Start.toNat (c.Rows.map faceR) ∧ c.Rows.length ≤ 100 ∧ ((c.Start.toNat : Nat) : Int) = c.Start := by
 obtain ⟨h1, h2, h3, h4⟩ := chk_ok hk
 have hface : ∀ r : api_Row, allS r.Cells = 0 → allS (faceR r) = 0 ∧ sm usedS (faceR r) = sm usedS r.Cells ∧ sm madeS (faceR r) = sm madeS r.Cells := by
  intro r hr
  unfold faceR
  split
  ·exact turned_ok hr
  ·exact ⟨hr, rfl, rfl⟩
 have key : ∀ (rs : List api_Row) (S : Nat), S ≤ 200 → chkR (S : Int) rs = 0 → okF S (rs.map faceR) := by
  intro rs
  induction rs with
  | nil => intro S hS _; exact ⟨hS, fun i h => absurd h (by simp)⟩
  | cons r rs ih =>
   intro S hS hc
   obtain ⟨a1, a2, a3⟩ := chkR_cons.1 hc
   obtain ⟨b1, b2, b3⟩ := hface r a1
   obtain ⟨c1, c2, c3, c4⟩ := allS_ok b1
   have u1 := smN_used c2
   have m1 := smN_made c2
   have hm : ((smN mN (faceR r) : Nat) : Int) = sm madeS r.Cells := by omega
   have ih := ih (smN mN (faceR r)) (by omega) (by rw [hm]; exact a3)
   refine ⟨hS, fun i hi => ?_⟩
   cases i with
   | zero =>
    simp only [List.map_cons, List.getElem_cons_zero]
    refine ⟨c2, c1, by omega, ?_⟩
    simp only [nR, if_true]; omega
   | succ i =>
    have hi' : i < (rs.map faceR).length := by simpa using hi
    have := ih.2 i hi'
    simp only [List.map_cons, List.getElem_cons_succ]
    refine ⟨this.1, this.2.1, this.2.2.1, ?_⟩
    rw [this.2.2.2]
    unfold nR
    by_cases e : i = 0
    ·subst e; simp
    ·obtain ⟨m, rfl⟩ : ∃ m, i = m + 1 := ⟨i - 1, by omega⟩
     simp
 have e : ((c.Start.toNat : Nat) : Int) = c.Start := by omega
 exact ⟨key c.Rows c.Start.toNat (by omega) (by rw [e]; exact h4), h1, e⟩
theorem workC_eq {c : api_Chart} (hk : chk c = 0) : workC c = stC c.Start.toNat (c.Rows.map faceR) (c.Rows.map faceR).length := by
 have e := (okF_of hk).2.2
 unfold workC stC
 rw [List.take_length, e]
theorem zeroL_succ (i : Nat) : zeroL (i + 1) = zeroL i ++ [⟨0, (i : Int), [], false⟩] := by simp [zeroL, List.range_succ]
def pieceOf (z : Wk × List Int) : loops_piece := ⟨z.1.L, z.2, z.1.B, z.1.C, (z.1.u : Int)⟩
theorem of_eq (c : api_Chart) (hw : wfR c.Rows) : F_loops_of c = some (if chk c = 0 then (pieceOf (workC c), 0) else (⟨[], [], [], [], 0⟩, chk c)) := by
 unfold F_loops_of
 rw [chart_check_eq c hw, Option.bind_some]
 by_cases hk : chk c = 0
 ·rw [if_pos hk, hk]
  simp only [show ((0 : Int) != 0) = false from rfl, Bool.false_eq_true, if_false]
  obtain ⟨hf, hl, hs⟩ := okF_of hk
  rw [workC_eq hk]
  generalize hS : c.Start.toNat = S at *
  generalize hfs : c.Rows.map faceR = fs at *
  have hfl : fs.length = c.Rows.length := by rw [← hfs, List.length_map]
  have k1 : whileO (loops_of_l1 c) (0, ([] : List api_Loop)) = some (zeroL S) := by
   refine loop_sq (fun i => ((i : Int), zeroL i)) S (by simp [zeroL]) ?_ ?_
   ·intro i hi
    unfold loops_of_l1
    simp only [dT (show (i : Int) < c.Start by omega), if_true]
    have := hf.1
    rw [appO_of (by simp [zeroL]; omega), Option.bind_some, zeroL_succ, w64_succ (by omega)]
   ·unfold loops_of_l1
    simp only [dF (show ¬ (S : Int) < c.Start by omega), Bool.false_eq_true, if_false]
  have k3 : whileO (loops_of_l3 c) (0, zeroL S, ([0, c.Start] : List Int), ([] : List Int), ([] : List (Int × Int)), 0) =
   some ((stC S fs fs.length).1.L, (stC S fs fs.length).2, (stC S fs fs.length).1.B, (stC S fs fs.length).1.C, ((stC S fs fs.length).1.u : Int)) := by
   refine loop_sq (fun k => ((k : Int), (stC S fs k).1.L, (stC S fs k).2, (stC S fs k).1.B, (stC S fs k).1.C, ((stC S fs k).1.u : Int))) fs.length (by simp [stC, rowsW, hs]) ?_ ?_
   ·intro k hk'
    have hk2 : k < c.Rows.length := by omega
    have hfk : fs[k] = faceR c.Rows[k] := by simp [← hfs]
    have hrs := (stC_all hf (fun _ _ _ => True) trivial (fun _ _ _ _ _ _ _ => trivial) (fun _ _ _ _ _ => trivial) k (by omega)).2.2
    unfold loops_of_l3
    simp only [dT (show (k : Int) < (c.Rows.length : Int) by omega), if_true]
    rw [face_eq hw hk hk2, Option.bind_some, ← hfk, row_loop hf (by omega) hk' 0 _]
    simp only [Option.bind_some]
    rw [appO_of (by rw [hrs]; simp; omega), w64_succ (by omega)]
    simp only [Option.bind_some]
    rw [stC_succ hk']
   ·unfold loops_of_l3
    simp only [dF (show ¬ (fs.length : Int) < (c.Rows.length : Int) by omega), Bool.false_eq_true, if_false]
  rw [k1]
  simp only [Option.bind_some]
  rw [k3]
  rfl
 ·rw [if_neg hk, nT hk, if_pos rfl]
noncomputable def F_raddleref25_Great (p0 : (List api_Stitch)) : Option Bool :=
 Option.bind (α := Bool) (
  if decide (60 < (p0.length : Int)) then
   if decide ((p0.length : Int) ≤ 200) then
    some true
   else
    some (decide (300 < (p0.length : Int)))
  else
   some (decide (300 < (p0.length : Int)))) fun o4 =>
 some o4
theorem c_raddleref25_Great (E : Nat → Prop) (w0 : World) (p0 : (List api_Stitch)) (v0 : Value) (r : Bool) (h : F_raddleref25_Great p0 = some r) (S : St0 E [] w0 w0 [] [fRep (rL r_api_Stitch) (v0) p0]) :
 Calls Try.prog 32 #[v0] w0 (Ret (X := Unit) E [] w0 (fun _ => .bool r) (fun _ => []) (fun _ => [])) := by
 unfold F_raddleref25_Great at h
 obtain ⟨ad1, cp2, _, rfl, _⟩ := S.know (i := 0) (e := fRep (rL r_api_Stitch) (v0) p0) rfl
 refine sEnter (args := [.slice ad1 p0.length cp2]) 16 Try.func32 rfl rfl (by simp) S (fun a S => ?_)
 refine sSeq (fun K3 hK3 => sRegion (sN S fun a S => ?_))
 refine lT (hK3 _ _ ?_)
 obtain ⟨t5, h, g6⟩ := bS h
 refine sCut (fun a w => ∃ o4, o4 = t5 ∧ St [] E [] w0 16 a w [(2, .bool o4)] [] []) ?_ (fun a w hI => ?_)
 rotate_left
 ·obtain ⟨o4, rfl, S⟩ := hI
  have h := g6
  try dsimp only at h
  obtain rfl := tS h
  exact wp_ret (sRet (.bool o4) S (rsl1 rfl (rvT (t := 2) (v := .bool o4) S rfl)) ⟨(), rfl, S.mem.sel [] [] (by decide) rfl rfl⟩)
 refine sRegion (sM S fun a S => ?_)
 refine sLen S (wN rfl) rfl Try.underlying62 rfl rfl (lb rfl) fun a S => ?_
 refine sBin _ S (wN rfl) rfl rfl rfl (bGt _ _ _ _ .i64 (p0.length : Int) 60) rfl (lb rfl) fun a S => ?_
 refine sM S fun a S => ?_
 rcases iS h with ⟨hc7, h⟩ | ⟨hc7, h⟩
 rotate_left
 ·refine sSkN 3 3 true 6 S rfl rfl hc7 rfl fun a S => ?_
  refine sPickF (.bool false) S (wN rfl) rfl rfl hc7 rfl rfl (lb rfl) fun a S => ?_
  refine sM S fun a S => ?_
  refine sMove (.slice ad1 p0.length cp2) S (wG 8 false 11 rfl rfl rfl rfl) (.inl rfl) rfl rfl (lb rfl) fun a S => ?_
  refine sLen S (wG 8 false 11 rfl rfl rfl rfl) rfl Try.underlying62 rfl rfl (lb rfl) fun a S => ?_
  refine sBin _ S (wG 8 false 11 rfl rfl rfl rfl) rfl rfl rfl (bGt _ _ _ _ .i64 (p0.length : Int) 300) rfl (lb rfl) fun a S => ?_
  refine sPickF (.bool (decide (300 < (p0.length : Int)))) S (wN rfl) rfl rfl rfl rfl rfl (lb rfl) fun a S => ?_
  refine sN S fun a S => ?_
  exact lT (⟨decide (300 < (p0.length : Int)), Option.some.inj h, S.fix [] [] (by decide) rfl rfl rfl⟩)
 refine sMove (.slice ad1 p0.length cp2) S (wG 3 true 6 rfl rfl rfl hc7) (.inl rfl) rfl rfl (lb rfl) fun a S => ?_
 refine sLen S (wG 3 true 6 rfl rfl rfl hc7) rfl Try.underlying62 rfl rfl (lb rfl) fun a S => ?_
 refine sBin _ S (wG 3 true 6 rfl rfl rfl hc7) rfl rfl rfl (bLe _ _ _ _ .i64 (p0.length : Int) 200) rfl (lb rfl) fun a S => ?_
 refine sPickT (.bool (decide ((p0.length : Int) ≤ 200))) S (wN rfl) rfl rfl hc7 rfl rfl (lb rfl) fun a S => ?_
 refine sM S fun a S => ?_
 rcases iS h with ⟨hc8, h⟩ | ⟨hc8, h⟩
 ·refine sSkN 3 8 false 11 S rfl rfl hc8 rfl fun a S => ?_
  refine sPickT (.bool true) S (wN rfl) rfl rfl hc8 rfl rfl (lb rfl) fun a S => ?_
  refine sN S fun a S => ?_
  exact lT (⟨true, Option.some.inj h, S.fix [] [] (by decide) rfl rfl rfl⟩)
 refine sMove (.slice ad1 p0.length cp2) S (wG 8 false 11 rfl rfl rfl hc8) (.inl rfl) rfl rfl (lb rfl) fun a S => ?_
 refine sLen S (wG 8 false 11 rfl rfl rfl hc8) rfl Try.underlying62 rfl rfl (lb rfl) fun a S => ?_
 refine sBin _ S (wG 8 false 11 rfl rfl rfl hc8) rfl rfl rfl (bGt _ _ _ _ .i64 (p0.length : Int) 300) rfl (lb rfl) fun a S => ?_
 refine sPickF (.bool (decide (300 < (p0.length : Int)))) S (wN rfl) rfl rfl hc8 rfl rfl (lb rfl) fun a S => ?_
 refine sN S fun a S => ?_
 exact lT (⟨decide (300 < (p0.length : Int)), Option.some.inj h, S.fix [] [] (by decide) rfl rfl rfl⟩)
noncomputable def raddleref26_Great_l1 (p0 : api_Chart) : Int → Option (Int ⊕ (Bool ⊕ Unit)) := fun s0 => match s0 with
 | a0 =>
  Option.bind (α := Bool) (
   if decide (a0 < (p0.Rows.length : Int)) then
    some (decide (a0 < 150))
   else
    some false) fun a4 =>
  if a4 then
   (idxO p0.Rows a0).bind fun a5 =>
   (F_raddleref25_Great a5.Cells).bind fun a6 =>
   if a6 then
    some (.inr (.inl true))
   else
    some (.inl (w64 (a0 + 1)))
  else
   some (.inr (.inr ()))
noncomputable def F_raddleref26_Great (p0 : api_Chart) : Option Bool :=
 Option.bind (α := Unit ⊕ Bool) (
  (whileO (raddleref26_Great_l1 p0) 0).bind fun z0 => match z0 with
   | .inl z =>
    some (.inr z)
   | .inr _ =>
    some (.inl ())) fun z0 => match z0 with
  | .inl _ =>
   Option.bind (α := Bool) (
    if decide (12 < (p0.Rows.length : Int)) then
     if decide ((p0.Rows.length : Int) ≤ 100) then
      some true
     else
      some (decide (150 < (p0.Rows.length : Int)))
    else
     some (decide (150 < (p0.Rows.length : Int)))) fun a0 =>
   some a0
  | .inr z =>
   some z
theorem c_raddleref26_Great (E : Nat → Prop) (w0 : World) (p0 : api_Chart) (v0 : Value) (r : Bool) (h : F_raddleref26_Great p0 = some r) (S : St0 E [] w0 w0 [] [fRep r_api_Chart (v0) p0]) :
 Calls Try.prog 10 #[v0] w0 (Ret (X := Unit) E [] w0 (fun _ => .bool r) (fun _ => []) (fun _ => [])) := by
 unfold F_raddleref26_Great at h
 obtain ⟨u1, rfl, hu2⟩ := S.know (i := 0) (e := fRep r_api_Chart (v0) p0) rfl
 have S := S.learn (fRep (rL r_api_Row) u1 p0.Rows) hu2
 obtain ⟨ad3, cp4, _, rfl, _⟩ := hu2
 refine sEnter (args := [.agg #[iv p0.Start, .slice ad3 p0.Rows.length cp4]]) 38 Try.func10 rfl rfl (by simp) S (fun a S => ?_)
 refine sSeq (fun K5 hK5 => sRegion (sBox (v := .agg #[iv p0.Start, .slice ad3 p0.Rows.length cp4]) S (wN rfl) rfl rfl [iv p0.Start, .slice ad3 p0.Rows.length cp4] rfl rfl (lb rfl) fun a b6 w S => ?_))
 refine sN S fun a S => ?_
 refine lT (hK5 _ _ ?_)
 obtain ⟨t7, h, g8⟩ := bS h
 refine sCut (fun a w => .inl () = t7 ∧ St [] E [] w0 38 a w [(1, .pointer (some ⟨b6, 0, none⟩))] [eBox b6 24 [iv p0.Start, .slice ad3 p0.Rows.length cp4]] [fRep (rL r_api_Row) (.slice ad3 p0.Rows.length cp4) p0.Rows]) ?_ (fun a w hI => ?_)
 rotate_left
 ·obtain ⟨rfl, S⟩ := hI
  have h := g8
  try dsimp only at h
  obtain ⟨av, h, aw⟩ := bS h
  refine sCut (fun a w => ∃ ac, ac = av ∧ St [] E [] w0 38 a w [(2, .bool ac)] [] []) ?_ (fun a w hI => ?_)
  rotate_left
  ·obtain ⟨ac, rfl, S⟩ := hI
   have h := aw
   try dsimp only at h
   obtain rfl := tS h
   exact wp_ret (sRet (.bool ac) S (rsl1 rfl (rvT (t := 2) (v := .bool ac) S rfl)) ⟨(), rfl, S.mem.sel [] [] (by decide) rfl rfl⟩)
  refine sRegion (sField (b := b6) (off := 0) 1 1 S (wN rfl) rfl rfl rfl rfl rfl (lb rfl) fun a S => ?_)
  refine sLoad1 0 (.slice ad3 p0.Rows.length cp4) S (wN rfl) rfl rfl rfl rfl rfl rfl (lb rfl) fun a S => ?_
  refine sLen S (wN rfl) rfl Try.underlying22 rfl rfl (lb rfl) fun a S => ?_
  refine sBin _ S (wN rfl) rfl rfl rfl (bGt _ _ _ _ .i64 (p0.Rows.length : Int) 12) rfl (lb rfl) fun a S => ?_
  refine sM S fun a S => ?_
  rcases iS h with ⟨a0, h⟩ | ⟨a0, h⟩
  rotate_left
  ·refine sSkN 4 4 true 26 S rfl rfl a0 rfl fun a S => ?_
   refine sPickF (.bool false) S (wN rfl) rfl rfl a0 rfl rfl (lb rfl) fun a S => ?_
   refine sM S fun a S => ?_
   refine sField (b := b6) (off := 0) 1 1 S (wG 10 false 32 rfl rfl rfl rfl) rfl rfl rfl rfl rfl (lb rfl) fun a S => ?_
   refine sLoad1 0 (.slice ad3 p0.Rows.length cp4) S (wG 10 false 32 rfl rfl rfl rfl) rfl rfl rfl rfl rfl rfl (lb rfl) fun a S => ?_
   refine sLen S (wG 10 false 32 rfl rfl rfl rfl) rfl Try.underlying22 rfl rfl (lb rfl) fun a S => ?_
   refine sBin _ S (wG 10 false 32 rfl rfl rfl rfl) rfl rfl rfl (bGt _ _ _ _ .i64 (p0.Rows.length : Int) 150) rfl (lb rfl) fun a S => ?_
   refine sPickF (.bool (decide (150 < (p0.Rows.length : Int)))) S (wN rfl) rfl rfl rfl rfl rfl (lb rfl) fun a S => ?_
   refine sN S fun a S => ?_
   exact lT (⟨decide (150 < (p0.Rows.length : Int)), Option.some.inj h, S.fix [] [] (by decide) rfl rfl rfl⟩)
  refine sField (b := b6) (off := 0) 1 1 S (wG 4 true 26 rfl rfl rfl a0) rfl rfl rfl rfl rfl (lb rfl) fun a S => ?_
  refine sLoad1 0 (.slice ad3 p0.Rows.length cp4) S (wG 4 true 26 rfl rfl rfl a0) rfl rfl rfl rfl rfl rfl (lb rfl) fun a S => ?_
  refine sLen S (wG 4 true 26 rfl rfl rfl a0) rfl Try.underlying22 rfl rfl (lb rfl) fun a S => ?_
  refine sBin _ S (wG 4 true 26 rfl rfl rfl a0) rfl rfl rfl (bLe _ _ _ _ .i64 (p0.Rows.length : Int) 100) rfl (lb rfl) fun a S => ?_
  refine sPickT (.bool (decide ((p0.Rows.length : Int) ≤ 100))) S (wN rfl) rfl rfl a0 rfl rfl (lb rfl) fun a S => ?_
  refine sM S fun a S => ?_
  rcases iS h with ⟨a4, h⟩ | ⟨a4, h⟩
  ·refine sSkN 4 10 false 32 S rfl rfl a4 rfl fun a S => ?_
   refine sPickT (.bool true) S (wN rfl) rfl rfl a4 rfl rfl (lb rfl) fun a S => ?_
   refine sN S fun a S => ?_
   exact lT (⟨true, Option.some.inj h, S.fix [] [] (by decide) rfl rfl rfl⟩)
  refine sField (b := b6) (off := 0) 1 1 S (wG 10 false 32 rfl rfl rfl a4) rfl rfl rfl rfl rfl (lb rfl) fun a S => ?_
  refine sLoad1 0 (.slice ad3 p0.Rows.length cp4) S (wG 10 false 32 rfl rfl rfl a4) rfl rfl rfl rfl rfl rfl (lb rfl) fun a S => ?_
  refine sLen S (wG 10 false 32 rfl rfl rfl a4) rfl Try.underlying22 rfl rfl (lb rfl) fun a S => ?_
  refine sBin _ S (wG 10 false 32 rfl rfl rfl a4) rfl rfl rfl (bGt _ _ _ _ .i64 (p0.Rows.length : Int) 150) rfl (lb rfl) fun a S => ?_
  refine sPickF (.bool (decide (150 < (p0.Rows.length : Int)))) S (wN rfl) rfl rfl a4 rfl rfl (lb rfl) fun a S => ?_
  refine sN S fun a S => ?_
  exact lT (⟨decide (150 < (p0.Rows.length : Int)), Option.some.inj h, S.fix [] [] (by decide) rfl rfl rfl⟩)
 refine sSeq (fun K9 hK9 => sRegion (sN S fun a S => ?_))
 refine lT (hK9 _ _ (wp_block ?_))
 obtain ⟨aA, hl, ap⟩ := bS h
 refine sLoop hl (fun s0 a w => match s0 with | a6 => St [] E [] w0 38 a w [(1, .pointer (some ⟨b6, 0, none⟩)), (3, iv a6)] [eBox b6 24 [iv p0.Start, .slice ad3 p0.Rows.length cp4]] [fRep (rL r_api_Row) (.slice ad3 p0.Rows.length cp4) p0.Rows]) (S.fix [0] [0] (by decide) rfl rfl rfl) ?_
 clear hl h
 intro a6 a w c0 hI h ae
 unfold raddleref26_Great_l1 at h
 dsimp only at h hI
 have S := hI
 refine sSeq (fun aC af => ?_)
 obtain ⟨ax, h, ay⟩ := bS h
 refine sCut (fun a w => ∃ ag, ag = ax ∧ St [] E [] w0 38 a w [(1, .pointer (some ⟨b6, 0, none⟩)), (3, iv a6), (12, .bool ag)] [eBox b6 24 [iv p0.Start, .slice ad3 p0.Rows.length cp4]] [fRep (rL r_api_Row) (.slice ad3 p0.Rows.length cp4) p0.Rows]) ?_ (fun a w hI => ?_)
 ·refine sRegion (sM S fun a S => ?_)
  refine sField (b := b6) (off := 0) 1 1 S (wN rfl) rfl rfl rfl rfl rfl (lb rfl) fun a S => ?_
  refine sLoad1 0 (.slice ad3 p0.Rows.length cp4) S (wN rfl) rfl rfl rfl rfl rfl rfl (lb rfl) fun a S => ?_
  refine sLen S (wN rfl) rfl Try.underlying22 rfl rfl (lb rfl) fun a S => ?_
  refine sBin _ S (wN rfl) rfl rfl rfl (bLt _ _ _ _ .i64 a6 (p0.Rows.length : Int)) rfl (lb rfl) fun a S => ?_
  refine sM S fun a S => ?_
  rcases iS h with ⟨a5, h⟩ | ⟨a5, h⟩
  rotate_left
  ·refine sSkN 2 5 true 9 S rfl rfl a5 rfl fun a S => ?_
   refine sPickF (.bool false) S (wN rfl) rfl rfl a5 rfl rfl (lb rfl) fun a S => ?_
   exact lT (⟨false, Option.some.inj h, S.fix [0] [0] (by decide) rfl rfl rfl⟩)
  refine sMove (iv a6) S (wG 5 true 9 rfl rfl rfl a5) (.inl rfl) rfl rfl (lb rfl) fun a S => ?_
  refine sBin _ S (wG 5 true 9 rfl rfl rfl a5) rfl rfl rfl (bLt _ _ _ _ .i64 a6 150) rfl (lb rfl) fun a S => ?_
  refine sPickT (.bool (decide (a6 < 150))) S (wN rfl) rfl rfl a5 rfl rfl (lb rfl) fun a S => ?_
  exact lT (⟨decide (a6 < 150), Option.some.inj h, S.fix [0] [0] (by decide) rfl rfl rfl⟩)
 obtain ⟨ag, rfl, S⟩ := hI
 have h := ay
 try dsimp only at h
 rcases iS h with ⟨a7, h⟩ | ⟨a7, h⟩
 rotate_left
 ·refine sCondF S rfl a7 ?_
  obtain rfl := tS h
  obtain rfl := ae _ rfl
  have h := ap
  try dsimp only at h
  exact wp_exit (xThen (xThen (xHit (leafT (⟨Option.some.inj h, S.fix [0] [0] (by decide) rfl rfl rfl⟩)))))
 refine sCondT S rfl a7 ?_
 refine wp_skip (leafT (af _ _ ?_))
 refine sSeq (fun aG ah => wp_block ?_)
 refine sSeq (fun aH ai => sRegion (sField (b := b6) (off := 0) 1 1 S (wN rfl) rfl rfl rfl rfl rfl (lb rfl) fun a S => ?_))
 refine sLoad1 0 (.slice ad3 p0.Rows.length cp4) S (wN rfl) rfl rfl rfl rfl rfl rfl (lb rfl) fun a S => ?_
 refine sM S fun a S => ?_
 obtain ⟨a8, aj, h⟩ := bS h
 obtain ⟨aq, ak, S⟩ := pIdx (P := Try.prog) (r := r_api_Row) (v := .slice ad3 p0.Rows.length cp4) (xs := p0.Rows) (j := a6) 22 65 0 S Try.underlying22 rfl rfl aj
 refine sIdxV S (wN rfl) rfl rfl rfl ak rfl (lb rfl) fun a S => ?_
 obtain ⟨ar, al, S⟩ := pFld (P := Try.prog) (r := r_api_Row) (s2 := (rL r_api_Stitch)) (g := (·.Cells)) (q := aq) (z := a8) 65 1 0 1 S rfl rfl comp_api_Row_Cells
 refine sFldV (q := aq) S (wN rfl) rfl rfl al rfl (lb rfl) fun a S => ?_
 obtain ⟨az, S⟩ := pLoad (r := (rL r_api_Stitch)) (q := ar) (x := a8.Cells) 0 S rfl
 obtain ⟨a9, aa, _, rfl, _⟩ := S.mem.know (i := 1) (e := fRep (rL r_api_Stitch) (az) a8.Cells) rfl
 refine sLoadV1 (vq := ar) 0 (.slice a9 a8.Cells.length aa) S (wN rfl) rfl rfl rfl rfl rfl (lb rfl) fun a S => ?_
 obtain ⟨au, am, h⟩ := bS h
 have S1 := S.mem
 refine sCq [.slice a9 a8.Cells.length aa] (.bool au) S callee32 (S1.quiet [1] rfl) (fun E1 w1 S1 => c_raddleref25_Great E1 w1 a8.Cells (.slice a9 a8.Cells.length aa) au am S1) fun a w S => ?_
 refine lT (ai _ _ ?_)
 rcases iS h with ⟨ab, h⟩ | ⟨ab, h⟩
 rotate_left
 ·refine sCondF S rfl ab ?_
  refine wp_skip (leafB (leafT (ah _ _ ?_)))
  refine sRegion (sM S fun a S => ?_)
  refine sBin _ S (wN rfl) rfl rfl rfl (bAdd _ _ _ _ a6 1) rfl (lb rfl) fun a S => ?_
  refine sN S fun a S => ?_
  exact lT (⟨w64 (a6 + 1), (Option.some.inj h).symm, (S.fix [0] [4] (by decide) rfl rfl rfl)⟩)
 refine sCondT S rfl ab ?_
 refine sSeq (fun aI ao => sRegion (sN S fun a S => ?_))
 refine lT (ao _ _ ?_)
 obtain rfl := tS h
 obtain rfl := ae _ rfl
 have h := ap
 try dsimp only at h
 obtain rfl := tS h
 have h := g8
 try dsimp only at h
 obtain rfl := tS h
 exact wp_ret (rBlock (rThen (rThen (rBlock (rThen (sRet (.bool true) S (rsl1 rfl (rvT (t := 2) (v := .bool true) S rfl)) ⟨(), rfl, S.mem.sel [] [] (by decide) rfl rfl⟩))))))
def anc_raddleref27_Same_0 : List (List Nat) := [[], [], [0, 1], [0, 1, 2], [0, 1, 2, 3], [], [], [5, 6], [5, 6, 7], [5, 6, 7, 8], [0, 1, 2, 3, 4, 5, 6, 7, 8, 9], [0, 1, 2, 3, 4, 5, 6, 7, 8, 9, 10], [0, 1, 2, 3, 4, 5, 6, 7, 8, 9, 10, 11], [0, 1, 2, 3, 4, 5, 6, 7, 8, 9, 10, 11], [0, 1, 2, 3, 4, 5, 6, 7, 8, 9, 10, 11, 12, 13], [0, 1, 2, 3, 4, 5, 6, 7, 8, 9, 10, 11, 12, 13, 14], [0, 1, 2, 3, 4, 5, 6, 7, 8, 9, 10, 11, 12, 13, 14, 15], [0, 1, 2, 3, 4, 5, 6, 7, 8, 9, 10, 11], [0, 1, 2, 3, 4, 5, 6, 7, 8, 9, 10, 11], [0, 1, 2, 3, 4, 5, 6, 7, 8, 9, 10, 11, 17, 18], [0, 1, 2, 3, 4, 5, 6, 7, 8, 9, 10, 11, 17, 18, 19], [0, 1, 2, 3, 4, 5, 6, 7, 8, 9, 10, 11, 17, 18, 19, 20], [0, 1, 2, 3, 4, 5, 6, 7, 8, 9, 10, 11, 12, 13, 14, 15, 16, 17, 18, 19, 20, 21], [0, 1, 2, 3, 4, 5, 6, 7, 8, 9, 10, 11, 12, 13, 14, 15, 16, 17, 18, 19, 20, 21, 22], [0, 1, 2, 3, 4, 5, 6, 7, 8, 9, 10, 11, 12, 13, 14, 15, 16, 17, 18, 19, 20, 21, 22, 23], [0, 1, 2, 3, 4, 5, 6, 7, 8, 9, 10, 11, 12, 13, 14, 15, 16, 17, 18, 19, 20, 21, 22, 23, 24], [0, 1, 2, 3, 4, 5, 6, 7, 8, 9, 10, 11, 12, 13, 14, 15, 16, 17, 18, 19, 20, 21, 22, 23, 24], [0, 1, 2, 3, 4, 5, 6, 7, 8, 9, 10, 11, 12, 13, 14, 15, 16, 17, 18, 19, 20, 21, 22, 23, 24, 25, 26], [0, 1, 2, 3, 4, 5, 6, 7, 8, 9, 10, 11, 12, 13, 14, 15, 16, 17, 18, 19, 20, 21, 22, 23, 24, 25, 26, 27], [0, 1, 2, 3, 4, 5, 6, 7, 8, 9, 10, 11, 12, 13, 14, 15, 16, 17, 18, 19, 20, 21, 22, 23, 24, 25, 26, 27, 28], [0, 1, 2, 3, 4, 5, 6, 7, 8, 9, 10, 11, 12, 13, 14, 15, 16, 17, 18, 19, 20, 21, 22, 23, 24], [0, 1, 2, 3, 4, 5, 6, 7, 8, 9, 10, 11, 12, 13, 14, 15, 16, 17, 18, 19, 20, 21, 22, 23, 24], [0, 1, 2, 3, 4, 5, 6, 7, 8, 9, 10, 11, 12, 13, 14, 15, 16, 17, 18, 19, 20, 21, 22, 23, 24, 30, 31], [0, 1, 2, 3, 4, 5, 6, 7, 8, 9, 10, 11, 12, 13, 14, 15, 16, 17, 18, 19, 20, 21, 22, 23, 24, 30, 31, 32], [0, 1, 2, 3, 4, 5, 6, 7, 8, 9, 10, 11, 12, 13, 14, 15, 16, 17, 18, 19, 20, 21, 22, 23, 24, 30, 31, 32, 33], [0, 1, 2, 3, 4, 5, 6, 7, 8, 9, 10, 11, 12, 13, 14, 15, 16, 17, 18, 19, 20, 21, 22, 23, 24, 25, 26, 27, 28, 29, 30, 31, 32, 33, 34], [0, 1, 2, 3, 4, 5, 6, 7, 8, 9, 10, 11, 12, 13, 14, 15, 16, 17, 18, 19, 20, 21, 22, 23, 24, 25, 26, 27, 28, 29, 30, 31, 32, 33, 34, 35], [0, 1, 2, 3, 4, 5, 6, 7, 8, 9, 10, 11, 12, 13, 14, 15, 16, 17, 18, 19, 20, 21, 22, 23, 24, 25, 26, 27, 28, 29, 30, 31, 32, 33, 34, 35, 36], [0, 1, 2, 3, 4, 5, 6, 7, 8, 9, 10, 11, 12, 13, 14, 15, 16, 17, 18, 19, 20, 21, 22, 23, 24, 25, 26, 27, 28, 29, 30, 31, 32, 33, 34, 35, 36, 37], [0, 1, 2, 3, 4, 5, 6, 7, 8, 9, 10, 11, 12, 13, 14, 15, 16, 17, 18, 19, 20, 21, 22, 23, 24, 25, 26, 27, 28, 29, 30, 31, 32, 33, 34, 35, 36, 37], [0, 1, 2, 3, 4, 5, 6, 7, 8, 9, 10, 11, 12, 13, 14, 15, 16, 17, 18, 19, 20, 21, 22, 23, 24, 25, 26, 27, 28, 29, 30, 31, 32, 33, 34, 35, 36, 37, 38, 39], [0, 1, 2, 3, 4, 5, 6, 7, 8, 9, 10, 11, 12, 13, 14, 15, 16, 17, 18, 19, 20, 21, 22, 23, 24, 25, 26, 27, 28, 29, 30, 31, 32, 33, 34, 35, 36, 37, 38, 39, 40], [0, 1, 2, 3, 4, 5, 6, 7, 8, 9, 10, 11, 12, 13, 14, 15, 16, 17, 18, 19, 20, 21, 22, 23, 24, 25, 26, 27, 28, 29, 30, 31, 32, 33, 34, 35, 36, 37, 38, 39, 40, 41], [0, 1, 2, 3, 4, 5, 6, 7, 8, 9, 10, 11, 12, 13, 14, 15, 16, 17, 18, 19, 20, 21, 22, 23, 24, 25, 26, 27, 28, 29, 30, 31, 32, 33, 34, 35, 36, 37], [0, 1, 2, 3, 4, 5, 6, 7, 8, 9, 10, 11, 12, 13, 14, 15, 16, 17, 18, 19, 20, 21, 22, 23, 24, 25, 26, 27, 28, 29, 30, 31, 32, 33, 34, 35, 36, 37], [0, 1, 2, 3, 4, 5, 6, 7, 8, 9, 10, 11, 12, 13, 14, 15, 16, 17, 18, 19, 20, 21, 22, 23, 24, 25, 26, 27, 28, 29, 30, 31, 32, 33, 34, 35, 36, 37, 43, 44], [0, 1, 2, 3, 4, 5, 6, 7, 8, 9, 10, 11, 12, 13, 14, 15, 16, 17, 18, 19, 20, 21, 22, 23, 24, 25, 26, 27, 28, 29, 30, 31, 32, 33, 34, 35, 36, 37, 43, 44, 45], [0, 1, 2, 3, 4, 5, 6, 7, 8, 9, 10, 11, 12, 13, 14, 15, 16, 17, 18, 19, 20, 21, 22, 23, 24, 25, 26, 27, 28, 29, 30, 31, 32, 33, 34, 35, 36, 37, 43, 44, 45, 46], [0, 1, 2, 3, 4, 5, 6, 7, 8, 9, 10, 11, 12, 13, 14, 15, 16, 17, 18, 19, 20, 21, 22, 23, 24, 25, 26, 27, 28, 29, 30, 31, 32, 33, 34, 35, 36, 37, 38, 39, 40, 41, 42, 43, 44, 45, 46, 47], [0, 1, 2, 3, 4, 5, 6, 7, 8, 9, 10, 11, 12, 13, 14, 15, 16, 17, 18, 19, 20, 21, 22, 23, 24, 25, 26, 27, 28, 29, 30, 31, 32, 33, 34, 35, 36, 37, 38, 39, 40, 41, 42, 43, 44, 45, 46, 47, 48], [0, 1, 2, 3, 4, 5, 6, 7, 8, 9, 10, 11, 12, 13, 14, 15, 16, 17, 18, 19, 20, 21, 22, 23, 24, 25, 26, 27, 28, 29, 30, 31, 32, 33, 34, 35, 36, 37, 38, 39, 40, 41, 42, 43, 44, 45, 46, 47, 48, 49]]
noncomputable def raddleref27_Same_l1 (p0 : (List api_Loop)) (p1 : (List api_Loop)) : Int → Option (Int ⊕ (Bool ⊕ Unit)) := fun s0 => match s0 with
 | a0 =>
  if decide (a0 < (p0.length : Int)) then
   Option.bind (α := Bool) (
    (idxO p0 a0).bind fun a4 =>
    (idxO p1 a0).bind fun a5 =>
    if a4.Row != a5.Row then
     some true
    else
     if a4.Cell != a5.Cell then
      some true
     else
      if a4.Purl != a5.Purl then
       some true
      else
       (F_raddleref26_SameInts a4.Parents a5.Parents).bind fun a6 =>
       some (!a6)) fun a7 =>
   if a7 then
    some (.inr (.inl false))
   else
    some (.inl (w64 (a0 + 1)))
  else
   some (.inr (.inr ()))
noncomputable def F_raddleref27_Same (p0 : (List api_Loop)) (p1 : (List api_Loop)) : Option Bool :=
 if (p0.length : Int) != (p1.length : Int) then
  some false
 else
  Option.bind (α := Unit ⊕ Bool) (
   (whileO (raddleref27_Same_l1 p0 p1) 0).bind fun z0 => match z0 with
    | .inl z =>
     some (.inr z)
    | .inr _ =>
     some (.inl ())) fun z0 => match z0 with
   | .inl _ =>
    some true
   | .inr z =>
    some z
theorem c_raddleref27_Same (E : Nat → Prop) (w0 : World) (p0 : (List api_Loop)) (v0 : Value) (p1 : (List api_Loop)) (v1 : Value) (r : Bool) (h : F_raddleref27_Same p0 p1 = some r) (S : St0 E [] w0 w0 [] [fRep (rL r_api_Loop) (v0) p0, fRep (rL r_api_Loop) (v1) p1]) :
 Calls Try.prog 17 #[v0, v1] w0 (Ret (X := Unit) E [] w0 (fun _ => .bool r) (fun _ => []) (fun _ => [])) := by
 unfold F_raddleref27_Same at h
 obtain ⟨ad1, cp2, _, rfl, _⟩ := S.know (i := 0) (e := fRep (rL r_api_Loop) (v0) p0) rfl
 obtain ⟨ad3, cp4, _, rfl, _⟩ := S.know (i := 1) (e := fRep (rL r_api_Loop) (v1) p1) rfl
 refine sEnter (args := [.slice ad1 p0.length cp2, .slice ad3 p1.length cp4]) 68 Try.func17 rfl rfl (by simp) S (fun a S => ?_)
 refine sSeq (fun K5 hK5 => sRegion (sN S fun a S => ?_))
 refine lT (hK5 _ _ (sSeq (fun K6 hK6 => sSeq (fun K7 hK7 => sRegion (sM S fun a S => ?_)))))
 refine sLen S (wN rfl) rfl Try.underlying26 rfl rfl (lb rfl) fun a S => ?_
 refine sM S fun a S => ?_
 refine sLen S (wN rfl) rfl Try.underlying26 rfl rfl (lb rfl) fun a S => ?_
 refine sBin _ S (wN rfl) rfl rfl rfl (bNe _ _ _ _ .i64 (p0.length : Int) (p1.length : Int)) rfl (lb rfl) fun a S => ?_
 refine lT (hK7 _ _ ?_)
 rcases iS h with ⟨hc8, h⟩ | ⟨hc8, h⟩
 ·refine sCondT S rfl hc8 ?_
  refine sSeq (fun K9 hK9 => sRegion (sN S fun a S => ?_))
  refine lT (hK9 _ _ ?_)
  obtain rfl := tS h
  exact wp_ret (rThen (sRet (.bool false) S (rsl1 rfl (rvT (t := 4) (v := .bool false) S rfl)) ⟨(), rfl, S.mem.sel [] [] (by decide) rfl rfl⟩))
 refine sCondF S rfl hc8 ?_
 refine wp_skip (leafT (hK6 _ _ ?_))
 obtain ⟨cC, h, ct⟩ := bS h
 refine sCut (fun a w => .inl () = cC ∧ St [] E [] w0 68 a w [] [] []) ?_ (fun a w hI => ?_)
 rotate_left
 ·obtain ⟨rfl, S⟩ := hI
  have h := ct
  try dsimp only at h
  refine sSeq (fun cD aP => sRegion (sN S fun a S => ?_))
  refine lT (aP _ _ ?_)
  obtain rfl := tS h
  exact wp_ret (sRet (.bool true) S (rsl1 rfl (rvT (t := 4) (v := .bool true) S rfl)) ⟨(), rfl, S.mem.sel [] [] (by decide) rfl rfl⟩)
 refine sSeq (fun cH bM => sRegion (sN S fun a S => ?_))
 refine lT (bM _ _ (wp_block ?_))
 obtain ⟨cI, hl, cu⟩ := bS h
 refine sLoop hl (fun s0 a w => match s0 with | a7 => St [] E [] w0 68 a w [(0, .slice ad1 p0.length cp2), (1, .slice ad3 p1.length cp4), (5, iv a7)] [] [fRep (rL r_api_Loop) (.slice ad1 p0.length cp2) p0, fRep (rL r_api_Loop) (.slice ad3 p1.length cp4) p1]) (S.fix [] [0, 1] (by decide) rfl rfl rfl) ?_
 clear hl h
 intro a7 a w c0 hI h aQ
 unfold raddleref27_Same_l1 at h
 dsimp only at h hI
 have S := hI
 refine sSeq (fun cJ bN => sSeq (fun cK bO => sRegion (sM S fun a S => ?_)))
 refine sM S fun a S => ?_
 refine sLen S (wN rfl) rfl Try.underlying26 rfl rfl (lb rfl) fun a S => ?_
 refine sBin _ S (wN rfl) rfl rfl rfl (bLt _ _ _ _ .i64 a7 (p0.length : Int)) rfl (lb rfl) fun a S => ?_
 refine lT (bO _ _ ?_)
 rcases iS h with ⟨aJ, h⟩ | ⟨aJ, h⟩
 rotate_left
 ·refine sCondF S rfl aJ ?_
  obtain rfl := tS h
  obtain rfl := aQ _ rfl
  have h := cu
  try dsimp only at h
  exact wp_exit (xThen (xThen (xHit (leafT (⟨Option.some.inj h, S.fix [] [] (by decide) rfl rfl rfl⟩)))))
 refine sCondT S rfl aJ ?_
 refine wp_skip (leafT (bN _ _ ?_))
 refine sSeq (fun cL bP => wp_block ?_)
 obtain ⟨cE, h, cF⟩ := bS h
 refine sCut (fun a w => ∃ bQ, bQ = cE ∧ St [] E [] w0 68 a w [(0, .slice ad1 p0.length cp2), (1, .slice ad3 p1.length cp4), (5, iv a7), (67, .bool bQ)] [] [fRep (rL r_api_Loop) (.slice ad1 p0.length cp2) p0, fRep (rL r_api_Loop) (.slice ad3 p1.length cp4) p1]) ?_ (fun a w hI => ?_)
 rotate_left
 ·obtain ⟨bQ, rfl, S⟩ := hI
  have h := cF
  try dsimp only at h
  rcases iS h with ⟨ah, h⟩ | ⟨ah, h⟩
  rotate_left
  ·refine sCondF S rfl ah ?_
   refine wp_skip (leafB (leafT (bP _ _ ?_)))
   refine sRegion (sM S fun a S => ?_)
   refine sBin _ S (wN rfl) rfl rfl rfl (bAdd _ _ _ _ a7 1) rfl (lb rfl) fun a S => ?_
   refine sN S fun a S => ?_
   exact lT (⟨w64 (a7 + 1), (Option.some.inj h).symm, (S.fix [] [0, 1] (by decide) rfl rfl rfl)⟩)
  refine sCondT S rfl ah ?_
  refine sSeq (fun cG aR => sRegion (sN S fun a S => ?_))
  refine lT (aR _ _ ?_)
  obtain rfl := tS h
  obtain rfl := aQ _ rfl
  have h := cu
  try dsimp only at h
  obtain rfl := tS h
  have h := ct
  try dsimp only at h
  obtain rfl := tS h
  exact wp_ret (rBlock (rThen (rThen (rBlock (rThen (sRet (.bool false) S (rsl1 rfl (rvT (t := 4) (v := .bool false) S rfl)) ⟨(), rfl, S.mem.sel [] [] (by decide) rfl rfl⟩))))))
 obtain ⟨a0, aa, h⟩ := bS h
 obtain ⟨a4, ab, h⟩ := bS h
 rcases iS h with ⟨a5, h⟩ | ⟨a5, h⟩
 ·obtain ⟨bR, bT, S⟩ := pIdx (P := Try.prog) (r := r_api_Loop) (v := .slice ad1 p0.length cp2) (xs := p0) (j := a7) 26 48 0 S Try.underlying26 rfl rfl aa
  obtain ⟨bU, bV, S⟩ := pFld (P := Try.prog) (r := r_api_Loop) (s2 := (rI .i64)) (g := (·.Row)) (q := bR) (z := a0) 48 0 0 0 S rfl rfl comp_api_Loop_Row
  obtain ⟨cv, S⟩ := pLoad (r := (rI .i64)) (q := bU) (x := a0.Row) 0 S rfl
  obtain rfl : cv = iv a0.Row := S.mem.know (i := 1) (e := fRep (rI .i64) (cv) a0.Row) rfl
  obtain ⟨bW, bX, S⟩ := pIdx (P := Try.prog) (r := r_api_Loop) (v := .slice ad3 p1.length cp4) (xs := p1) (j := a7) 26 48 5 S Try.underlying26 rfl rfl ab
  obtain ⟨bY, bZ, S⟩ := pFld (P := Try.prog) (r := r_api_Loop) (s2 := (rI .i64)) (g := (·.Row)) (q := bW) (z := a4) 48 0 0 0 S rfl rfl comp_api_Loop_Row
  obtain ⟨cw, S⟩ := pLoad (r := (rI .i64)) (q := bY) (x := a4.Row) 0 S rfl
  obtain rfl : cw = iv a4.Row := S.mem.know (i := 1) (e := fRep (rI .i64) (cw) a4.Row) rfl
  refine sDraw (nf := []) (W := [(0, 17, .slice ad1 p0.length cp2), (1, 18, iv a7), (2, 19, bR), (3, 20, bU), (4, 21, iv a0.Row), (5, 22, .slice ad3 p1.length cp4), (6, 23, iv a7), (7, 24, bW), (8, 25, bY), (9, 26, iv a4.Row), (10, 27, .bool (a0.Row != a4.Row)), (11, 28, .bool (a0.Row != a4.Row)), (12, 29, undef), (13, 30, undef), (14, 31, undef), (15, 32, undef), (16, 33, undef), (17, 34, undef), (18, 35, undef), (19, 36, undef), (20, 37, undef), (21, 38, undef), (22, 39, undef), (23, 40, .bool true), (24, 41, .bool true), (25, 42, undef), (26, 43, undef), (27, 44, undef), (28, 45, undef), (29, 46, undef), (30, 47, undef), (31, 48, undef), (32, 49, undef), (33, 50, undef), (34, 51, undef), (35, 52, undef), (36, 53, .bool true), (37, 54, .bool true), (38, 55, undef), (39, 56, undef), (40, 57, undef), (41, 58, undef), (42, 59, undef), (43, 60, undef), (44, 61, undef), (45, 62, undef), (46, 63, undef), (47, 64, undef), (48, 65, undef), (49, 66, undef), (50, 67, .bool true)]) rfl S ?_
  refine node_by (A := anc_raddleref27_Same_0) 51 (by kernel_rfl) (by kernel_rfl) (by kernel_rfl) (by kernel_rfl) (by kernel_rfl) [0, 1, 2, 3, 4, 5, 6, 7, 8, 9, 10, 11, 12, 13, 14, 15, 16, 17, 18, 19, 20, 21, 22, 23, 24, 25, 26, 27, 28, 29, 30, 31, 32, 33, 34, 35, 36, 37, 38, 39, 40, 41, 42, 43, 44, 45, 46, 47, 48, 49, 50] (by kernel_rfl) (by decide) (by decide) (fF ?_ (fF ?_ (fF ?_ (fF ?_ (fF ?_ (fF ?_ (fF ?_ (fF ?_ (fF ?_ (fF ?_ (fF ?_ (fF ?_ (fF ?_ (fF ?_ (fF ?_ (fF ?_ (fF ?_ (fF ?_ (fF ?_ (fF ?_ (fF ?_ (fF ?_ (fF ?_ (fF ?_ (fF ?_ (fF ?_ (fF ?_ (fF ?_ (fF ?_ (fF ?_ (fF ?_ (fF ?_ (fF ?_ (fF ?_ (fF ?_ (fF ?_ (fF ?_ (fF ?_ (fF ?_ (fF ?_ (fF ?_ (fF ?_ (fF ?_ (fF ?_ (fF ?_ (fF ?_ (fF ?_ (fF ?_ (fF ?_ (fF ?_ (fF ?_ (trivial)))))))))))))))))))))))))))))))))))))))))))))))))))) [(0, .slice ad1 p0.length cp2), (1, .slice ad3 p1.length cp4), (5, iv a7), (29, undef), (30, undef), (31, undef), (32, undef), (33, undef), (34, undef), (35, undef), (36, undef), (37, undef), (38, undef), (39, undef), (42, undef), (43, undef), (44, undef), (45, undef), (46, undef), (47, undef), (48, undef), (49, undef), (50, undef), (51, undef), (52, undef), (55, undef), (56, undef), (57, undef), (58, undef), (59, undef), (60, undef), (61, undef), (62, undef), (63, undef), (64, undef), (65, undef), (66, undef), (67, .bool true)] (fin_of [none, none, none, some 12, some 13, some 14, some 15, some 16, some 17, some 18, some 19, some 20, some 21, some 22, some 25, some 26, some 27, some 28, some 29, some 30, some 31, some 32, some 33, some 34, some 35, some 38, some 39, some 40, some 41, some 42, some 43, some 44, some 45, some 46, some 47, some 48, some 49, some 50] rfl (by kernel_rfl) (by kernel_rfl)) (fun _ a w S => ?_)
  ·exact fM 0 none rfl rfl rfl rfl (.inl rfl) rfl rfl rfl
  ·exact fM 1 none rfl rfl rfl rfl (.inl rfl) rfl rfl rfl
  ·refine fJ [(17, _), (18, _)] 2 [some 0, some 1] fun G a w S => ?_
   exact sIdxV S (wN rfl) rfl rfl rfl bT rfl (lb rfl) fun a S => leafL ⟨rfl, S⟩
  ·refine fJ [(19, _)] 3 [some 2] fun G a w S => ?_
   exact sFldV (q := bR) S (wN rfl) rfl rfl bV rfl (lb rfl) fun a S => leafL ⟨rfl, S⟩
  ·refine fJ [(20, _)] 4 [some 3] fun G a w S => ?_
   exact sLoadV1 (vq := bU) 4 (iv a0.Row) S (wN rfl) rfl rfl rfl rfl rfl (lb rfl) fun a S => leafL ⟨rfl, S⟩
  ·exact fM 5 none rfl rfl rfl rfl (.inl rfl) rfl rfl rfl
  ·exact fM 6 none rfl rfl rfl rfl (.inl rfl) rfl rfl rfl
  ·refine fJ [(22, _), (23, _)] 7 [some 5, some 6] fun G a w S => ?_
   exact sIdxV S (wN rfl) rfl rfl rfl bX rfl (lb rfl) fun a S => leafL ⟨rfl, S⟩
  ·refine fJ [(24, _)] 8 [some 7] fun G a w S => ?_
   exact sFldV (q := bW) S (wN rfl) rfl rfl bZ rfl (lb rfl) fun a S => leafL ⟨rfl, S⟩
  ·refine fJ [(25, _)] 9 [some 8] fun G a w S => ?_
   exact sLoadV1 (vq := bY) 0 (iv a4.Row) S (wN rfl) rfl rfl rfl rfl rfl (lb rfl) fun a S => leafL ⟨rfl, S⟩
  ·refine fJ [(21, _), (26, _)] 10 [some 4, some 9] fun G a w S => ?_
   exact sBin _ S (wN rfl) rfl rfl rfl (bNe _ _ _ _ .i64 a0.Row a4.Row) rfl (lb rfl) fun a S => leafL ⟨rfl, S⟩
  ·exact fM 11 (some 10) rfl rfl rfl rfl (.inl rfl) rfl rfl rfl
  ·refine fJ [(0, _), (28, _)] 12 [none, some 11] fun G a w S => ?_
   exact sSk S rfl rfl rfl a5 rfl rfl fun a S => leafL ⟨rfl, S⟩
  ·refine fJ [(5, _), (28, _)] 13 [none, some 11] fun G a w S => ?_
   exact sSk S rfl rfl rfl a5 rfl rfl fun a S => leafL ⟨rfl, S⟩
  ·refine fJ [(29, _), (30, _), (28, _)] 14 [some 12, some 13, some 11] fun G a w S => ?_
   exact sSk S rfl rfl rfl a5 rfl rfl fun a S => leafL ⟨rfl, S⟩
  ·refine fJ [(31, _), (28, _)] 15 [some 14, some 11] fun G a w S => ?_
   exact sSk S rfl rfl rfl a5 rfl rfl fun a S => leafL ⟨rfl, S⟩
  ·refine fJ [(32, _), (28, _)] 16 [some 15, some 11] fun G a w S => ?_
   exact sSk S rfl rfl rfl a5 rfl rfl fun a S => leafL ⟨rfl, S⟩
  ·refine fJ [(1, _), (28, _)] 17 [none, some 11] fun G a w S => ?_
   exact sSk S rfl rfl rfl a5 rfl rfl fun a S => leafL ⟨rfl, S⟩
  ·refine fJ [(5, _), (28, _)] 18 [none, some 11] fun G a w S => ?_
   exact sSk S rfl rfl rfl a5 rfl rfl fun a S => leafL ⟨rfl, S⟩
  ·refine fJ [(34, _), (35, _), (28, _)] 19 [some 17, some 18, some 11] fun G a w S => ?_
   exact sSk S rfl rfl rfl a5 rfl rfl fun a S => leafL ⟨rfl, S⟩
  ·refine fJ [(36, _), (28, _)] 20 [some 19, some 11] fun G a w S => ?_
   exact sSk S rfl rfl rfl a5 rfl rfl fun a S => leafL ⟨rfl, S⟩
  ·refine fJ [(37, _), (28, _)] 21 [some 20, some 11] fun G a w S => ?_
   exact sSk S rfl rfl rfl a5 rfl rfl fun a S => leafL ⟨rfl, S⟩
  ·refine fJ [(33, _), (38, _), (28, _)] 22 [some 16, some 21, some 11] fun G a w S => ?_
   exact sSk S rfl rfl rfl a5 rfl rfl fun a S => leafL ⟨rfl, S⟩
  ·refine fJ [(28, _), (39, _)] 23 [some 11, some 22] fun G a w S => ?_
   exact sPickT (.bool true) S (wN rfl) rfl rfl a5 rfl rfl (lb rfl) fun a S => leafL ⟨rfl, S⟩
  ·exact fM 24 (some 23) rfl rfl rfl rfl (.inl rfl) rfl rfl rfl
  ·refine fJ [(0, _), (41, _)] 25 [none, some 24] fun G a w S => ?_
   exact sSk S rfl rfl rfl rfl rfl rfl fun a S => leafL ⟨rfl, S⟩
  ·refine fJ [(5, _), (41, _)] 26 [none, some 24] fun G a w S => ?_
   exact sSk S rfl rfl rfl rfl rfl rfl fun a S => leafL ⟨rfl, S⟩
  ·refine fJ [(42, _), (43, _), (41, _)] 27 [some 25, some 26, some 24] fun G a w S => ?_
   exact sSk S rfl rfl rfl rfl rfl rfl fun a S => leafL ⟨rfl, S⟩
  ·refine fJ [(44, _), (41, _)] 28 [some 27, some 24] fun G a w S => ?_
   exact sSk S rfl rfl rfl rfl rfl rfl fun a S => leafL ⟨rfl, S⟩
  ·refine fJ [(45, _), (41, _)] 29 [some 28, some 24] fun G a w S => ?_
   exact sSk S rfl rfl rfl rfl rfl rfl fun a S => leafL ⟨rfl, S⟩
  ·refine fJ [(1, _), (41, _)] 30 [none, some 24] fun G a w S => ?_
   exact sSk S rfl rfl rfl rfl rfl rfl fun a S => leafL ⟨rfl, S⟩
  ·refine fJ [(5, _), (41, _)] 31 [none, some 24] fun G a w S => ?_
   exact sSk S rfl rfl rfl rfl rfl rfl fun a S => leafL ⟨rfl, S⟩
  ·refine fJ [(47, _), (48, _), (41, _)] 32 [some 30, some 31, some 24] fun G a w S => ?_
   exact sSk S rfl rfl rfl rfl rfl rfl fun a S => leafL ⟨rfl, S⟩
  ·refine fJ [(49, _), (41, _)] 33 [some 32, some 24] fun G a w S => ?_
   exact sSk S rfl rfl rfl rfl rfl rfl fun a S => leafL ⟨rfl, S⟩
  ·refine fJ [(50, _), (41, _)] 34 [some 33, some 24] fun G a w S => ?_
   exact sSk S rfl rfl rfl rfl rfl rfl fun a S => leafL ⟨rfl, S⟩
  ·refine fJ [(46, _), (51, _), (41, _)] 35 [some 29, some 34, some 24] fun G a w S => ?_
   exact sSk S rfl rfl rfl rfl rfl rfl fun a S => leafL ⟨rfl, S⟩
  ·refine fJ [(41, _), (52, _)] 36 [some 24, some 35] fun G a w S => ?_
   exact sPickT (.bool true) S (wN rfl) rfl rfl rfl rfl rfl (lb rfl) fun a S => leafL ⟨rfl, S⟩
  ·exact fM 37 (some 36) rfl rfl rfl rfl (.inl rfl) rfl rfl rfl
  ·refine fJ [(0, _), (54, _)] 38 [none, some 37] fun G a w S => ?_
   exact sSk S rfl rfl rfl rfl rfl rfl fun a S => leafL ⟨rfl, S⟩
  ·refine fJ [(5, _), (54, _)] 39 [none, some 37] fun G a w S => ?_
   exact sSk S rfl rfl rfl rfl rfl rfl fun a S => leafL ⟨rfl, S⟩
  ·refine fJ [(55, _), (56, _), (54, _)] 40 [some 38, some 39, some 37] fun G a w S => ?_
   exact sSk S rfl rfl rfl rfl rfl rfl fun a S => leafL ⟨rfl, S⟩
  ·refine fJ [(57, _), (54, _)] 41 [some 40, some 37] fun G a w S => ?_
   exact sSk S rfl rfl rfl rfl rfl rfl fun a S => leafL ⟨rfl, S⟩
  ·refine fJ [(58, _), (54, _)] 42 [some 41, some 37] fun G a w S => ?_
   exact sSk S rfl rfl rfl rfl rfl rfl fun a S => leafL ⟨rfl, S⟩
  ·refine fJ [(1, _), (54, _)] 43 [none, some 37] fun G a w S => ?_
   exact sSk S rfl rfl rfl rfl rfl rfl fun a S => leafL ⟨rfl, S⟩
  ·refine fJ [(5, _), (54, _)] 44 [none, some 37] fun G a w S => ?_
   exact sSk S rfl rfl rfl rfl rfl rfl fun a S => leafL ⟨rfl, S⟩
  ·refine fJ [(60, _), (61, _), (54, _)] 45 [some 43, some 44, some 37] fun G a w S => ?_
   exact sSk S rfl rfl rfl rfl rfl rfl fun a S => leafL ⟨rfl, S⟩
  ·refine fJ [(62, _), (54, _)] 46 [some 45, some 37] fun G a w S => ?_
   exact sSk S rfl rfl rfl rfl rfl rfl fun a S => leafL ⟨rfl, S⟩
  ·refine fJ [(63, _), (54, _)] 47 [some 46, some 37] fun G a w S => ?_
   exact sSk S rfl rfl rfl rfl rfl rfl fun a S => leafL ⟨rfl, S⟩
  ·refine fJ [(59, _), (64, _), (54, _)] 48 [some 42, some 47, some 37] fun G a w S => ?_
   exact sSk S rfl rfl rfl rfl rfl rfl fun a S => leafL ⟨rfl, S⟩
  ·refine fJ [(65, _), (54, _)] 49 [some 48, some 37] fun G a w S => ?_
   exact sSk S rfl rfl rfl rfl rfl rfl fun a S => leafL ⟨rfl, S⟩
  ·refine fJ [(54, _), (66, _)] 50 [some 37, some 49] fun G a w S => ?_
   exact sPickT (.bool true) S (wN rfl) rfl rfl rfl rfl rfl (lb rfl) fun a S => leafL ⟨rfl, S⟩
  exact leafT (⟨true, Option.some.inj h, S.fix [] [8, 9] (by decide) rfl rfl rfl⟩)
 rcases iS h with ⟨a6, h⟩ | ⟨a6, h⟩
 ·obtain ⟨c5, c6, S⟩ := pIdx (P := Try.prog) (r := r_api_Loop) (v := .slice ad1 p0.length cp2) (xs := p0) (j := a7) 26 48 0 S Try.underlying26 rfl rfl aa
  obtain ⟨c7, c8, S⟩ := pFld (P := Try.prog) (r := r_api_Loop) (s2 := (rI .i64)) (g := (·.Row)) (q := c5) (z := a0) 48 0 0 0 S rfl rfl comp_api_Loop_Row
  obtain ⟨cx, S⟩ := pLoad (r := (rI .i64)) (q := c7) (x := a0.Row) 0 S rfl
  obtain rfl : cx = iv a0.Row := S.mem.know (i := 1) (e := fRep (rI .i64) (cx) a0.Row) rfl
  obtain ⟨c9, ca, S⟩ := pIdx (P := Try.prog) (r := r_api_Loop) (v := .slice ad3 p1.length cp4) (xs := p1) (j := a7) 26 48 5 S Try.underlying26 rfl rfl ab
  obtain ⟨cb, cc, S⟩ := pFld (P := Try.prog) (r := r_api_Loop) (s2 := (rI .i64)) (g := (·.Row)) (q := c9) (z := a4) 48 0 0 0 S rfl rfl comp_api_Loop_Row
  obtain ⟨cy, S⟩ := pLoad (r := (rI .i64)) (q := cb) (x := a4.Row) 0 S rfl
  obtain rfl : cy = iv a4.Row := S.mem.know (i := 1) (e := fRep (rI .i64) (cy) a4.Row) rfl
  obtain ⟨bI, cd, S⟩ := pIdx (P := Try.prog) (r := r_api_Loop) (v := .slice ad1 p0.length cp2) (xs := p0) (j := a7) 26 48 8 S Try.underlying26 rfl rfl aa
  obtain ⟨bJ, ce, S⟩ := pFld (P := Try.prog) (r := r_api_Loop) (s2 := (rI .i64)) (g := (·.Cell)) (q := bI) (z := a0) 48 1 0 1 S rfl rfl comp_api_Loop_Cell
  obtain ⟨cz, S⟩ := pLoad (r := (rI .i64)) (q := bJ) (x := a0.Cell) 0 S rfl
  obtain rfl : cz = iv a0.Cell := S.mem.know (i := 1) (e := fRep (rI .i64) (cz) a0.Cell) rfl
  obtain ⟨bK, cf, S⟩ := pIdx (P := Try.prog) (r := r_api_Loop) (v := .slice ad3 p1.length cp4) (xs := p1) (j := a7) 26 48 13 S Try.underlying26 rfl rfl ab
  obtain ⟨bL, cg, S⟩ := pFld (P := Try.prog) (r := r_api_Loop) (s2 := (rI .i64)) (g := (·.Cell)) (q := bK) (z := a4) 48 1 0 1 S rfl rfl comp_api_Loop_Cell
  obtain ⟨cA, S⟩ := pLoad (r := (rI .i64)) (q := bL) (x := a4.Cell) 0 S rfl
  obtain rfl : cA = iv a4.Cell := S.mem.know (i := 1) (e := fRep (rI .i64) (cA) a4.Cell) rfl
  refine sDraw (nf := []) (W := [(0, 17, .slice ad1 p0.length cp2), (1, 18, iv a7), (2, 19, c5), (3, 20, c7), (4, 21, iv a0.Row), (5, 22, .slice ad3 p1.length cp4), (6, 23, iv a7), (7, 24, c9), (8, 25, cb), (9, 26, iv a4.Row), (10, 27, .bool (a0.Row != a4.Row)), (11, 28, .bool (a0.Row != a4.Row)), (12, 29, .slice ad1 p0.length cp2), (13, 30, iv a7), (14, 31, bI), (15, 32, bJ), (16, 33, iv a0.Cell), (17, 34, .slice ad3 p1.length cp4), (18, 35, iv a7), (19, 36, bK), (20, 37, bL), (21, 38, iv a4.Cell), (22, 39, .bool (a0.Cell != a4.Cell)), (23, 40, .bool (a0.Cell != a4.Cell)), (24, 41, .bool (a0.Cell != a4.Cell)), (25, 42, undef), (26, 43, undef), (27, 44, undef), (28, 45, undef), (29, 46, undef), (30, 47, undef), (31, 48, undef), (32, 49, undef), (33, 50, undef), (34, 51, undef), (35, 52, undef), (36, 53, .bool true), (37, 54, .bool true), (38, 55, undef), (39, 56, undef), (40, 57, undef), (41, 58, undef), (42, 59, undef), (43, 60, undef), (44, 61, undef), (45, 62, undef), (46, 63, undef), (47, 64, undef), (48, 65, undef), (49, 66, undef), (50, 67, .bool true)]) rfl S ?_
  refine node_by (A := anc_raddleref27_Same_0) 51 (by kernel_rfl) (by kernel_rfl) (by kernel_rfl) (by kernel_rfl) (by kernel_rfl) [0, 1, 2, 3, 4, 5, 6, 7, 8, 9, 10, 11, 12, 13, 14, 15, 16, 17, 18, 19, 20, 21, 22, 23, 24, 25, 26, 27, 28, 29, 30, 31, 32, 33, 34, 35, 36, 37, 38, 39, 40, 41, 42, 43, 44, 45, 46, 47, 48, 49, 50] (by kernel_rfl) (by decide) (by decide) (fF ?_ (fF ?_ (fF ?_ (fF ?_ (fF ?_ (fF ?_ (fF ?_ (fF ?_ (fF ?_ (fF ?_ (fF ?_ (fF ?_ (fF ?_ (fF ?_ (fF ?_ (fF ?_ (fF ?_ (fF ?_ (fF ?_ (fF ?_ (fF ?_ (fF ?_ (fF ?_ (fF ?_ (fF ?_ (fF ?_ (fF ?_ (fF ?_ (fF ?_ (fF ?_ (fF ?_ (fF ?_ (fF ?_ (fF ?_ (fF ?_ (fF ?_ (fF ?_ (fF ?_ (fF ?_ (fF ?_ (fF ?_ (fF ?_ (fF ?_ (fF ?_ (fF ?_ (fF ?_ (fF ?_ (fF ?_ (fF ?_ (fF ?_ (fF ?_ (trivial)))))))))))))))))))))))))))))))))))))))))))))))))))) [(0, .slice ad1 p0.length cp2), (1, .slice ad3 p1.length cp4), (5, iv a7), (29, .slice ad1 p0.length cp2), (30, iv a7), (31, bI), (32, bJ), (33, iv a0.Cell), (34, .slice ad3 p1.length cp4), (35, iv a7), (36, bK), (37, bL), (38, iv a4.Cell), (39, .bool (a0.Cell != a4.Cell)), (42, undef), (43, undef), (44, undef), (45, undef), (46, undef), (47, undef), (48, undef), (49, undef), (50, undef), (51, undef), (52, undef), (55, undef), (56, undef), (57, undef), (58, undef), (59, undef), (60, undef), (61, undef), (62, undef), (63, undef), (64, undef), (65, undef), (66, undef), (67, .bool true)] (fin_of [none, none, none, some 12, some 13, some 14, some 15, some 16, some 17, some 18, some 19, some 20, some 21, some 22, some 25, some 26, some 27, some 28, some 29, some 30, some 31, some 32, some 33, some 34, some 35, some 38, some 39, some 40, some 41, some 42, some 43, some 44, some 45, some 46, some 47, some 48, some 49, some 50] rfl (by kernel_rfl) (by kernel_rfl)) (fun _ a w S => ?_)
  ·exact fM 0 none rfl rfl rfl rfl (.inl rfl) rfl rfl rfl
  ·exact fM 1 none rfl rfl rfl rfl (.inl rfl) rfl rfl rfl
  ·refine fJ [(17, _), (18, _)] 2 [some 0, some 1] fun G a w S => ?_
   exact sIdxV S (wN rfl) rfl rfl rfl c6 rfl (lb rfl) fun a S => leafL ⟨rfl, S⟩
  ·refine fJ [(19, _)] 3 [some 2] fun G a w S => ?_
   exact sFldV (q := c5) S (wN rfl) rfl rfl c8 rfl (lb rfl) fun a S => leafL ⟨rfl, S⟩
  ·refine fJ [(20, _)] 4 [some 3] fun G a w S => ?_
   exact sLoadV1 (vq := c7) 12 (iv a0.Row) S (wN rfl) rfl rfl rfl rfl rfl (lb rfl) fun a S => leafL ⟨rfl, S⟩
  ·exact fM 5 none rfl rfl rfl rfl (.inl rfl) rfl rfl rfl
  ·exact fM 6 none rfl rfl rfl rfl (.inl rfl) rfl rfl rfl
  ·refine fJ [(22, _), (23, _)] 7 [some 5, some 6] fun G a w S => ?_
   exact sIdxV S (wN rfl) rfl rfl rfl ca rfl (lb rfl) fun a S => leafL ⟨rfl, S⟩
  ·refine fJ [(24, _)] 8 [some 7] fun G a w S => ?_
   exact sFldV (q := c9) S (wN rfl) rfl rfl cc rfl (lb rfl) fun a S => leafL ⟨rfl, S⟩
  ·refine fJ [(25, _)] 9 [some 8] fun G a w S => ?_
   exact sLoadV1 (vq := cb) 8 (iv a4.Row) S (wN rfl) rfl rfl rfl rfl rfl (lb rfl) fun a S => leafL ⟨rfl, S⟩
  ·refine fJ [(21, _), (26, _)] 10 [some 4, some 9] fun G a w S => ?_
   exact sBin _ S (wN rfl) rfl rfl rfl (bNe _ _ _ _ .i64 a0.Row a4.Row) rfl (lb rfl) fun a S => leafL ⟨rfl, S⟩
  ·exact fM 11 (some 10) rfl rfl rfl rfl (.inl rfl) rfl rfl rfl
  ·refine fJ [(0, _), (28, _)] 12 [none, some 11] fun G a w S => ?_
   exact sMove (.slice ad1 p0.length cp2) S (wG 11 false 28 rfl rfl rfl a5) (.inl rfl) rfl rfl (lb rfl) fun a S => leafL ⟨rfl, S⟩
  ·refine fJ [(5, _), (28, _)] 13 [none, some 11] fun G a w S => ?_
   exact sMove (iv a7) S (wG 11 false 28 rfl rfl rfl a5) (.inl rfl) rfl rfl (lb rfl) fun a S => leafL ⟨rfl, S⟩
  ·refine fJ [(29, _), (30, _), (28, _)] 14 [some 12, some 13, some 11] fun G a w S => ?_
   exact sIdxV S (wG 11 false 28 rfl rfl rfl a5) rfl rfl rfl cd rfl (lb rfl) fun a S => leafL ⟨rfl, S⟩
  ·refine fJ [(31, _), (28, _)] 15 [some 14, some 11] fun G a w S => ?_
   exact sFldV (q := bI) S (wG 11 false 28 rfl rfl rfl a5) rfl rfl ce rfl (lb rfl) fun a S => leafL ⟨rfl, S⟩
  ·refine fJ [(32, _), (28, _)] 16 [some 15, some 11] fun G a w S => ?_
   exact sLoadV1 (vq := bJ) 4 (iv a0.Cell) S (wG 11 false 28 rfl rfl rfl a5) rfl rfl rfl rfl rfl (lb rfl) fun a S => leafL ⟨rfl, S⟩
  ·refine fJ [(1, _), (28, _)] 17 [none, some 11] fun G a w S => ?_
   exact sMove (.slice ad3 p1.length cp4) S (wG 11 false 28 rfl rfl rfl a5) (.inl rfl) rfl rfl (lb rfl) fun a S => leafL ⟨rfl, S⟩
  ·refine fJ [(5, _), (28, _)] 18 [none, some 11] fun G a w S => ?_
   exact sMove (iv a7) S (wG 11 false 28 rfl rfl rfl a5) (.inl rfl) rfl rfl (lb rfl) fun a S => leafL ⟨rfl, S⟩
  ·refine fJ [(34, _), (35, _), (28, _)] 19 [some 17, some 18, some 11] fun G a w S => ?_
   exact sIdxV S (wG 11 false 28 rfl rfl rfl a5) rfl rfl rfl cf rfl (lb rfl) fun a S => leafL ⟨rfl, S⟩
  ·refine fJ [(36, _), (28, _)] 20 [some 19, some 11] fun G a w S => ?_
   exact sFldV (q := bK) S (wG 11 false 28 rfl rfl rfl a5) rfl rfl cg rfl (lb rfl) fun a S => leafL ⟨rfl, S⟩
  ·refine fJ [(37, _), (28, _)] 21 [some 20, some 11] fun G a w S => ?_
   exact sLoadV1 (vq := bL) 0 (iv a4.Cell) S (wG 11 false 28 rfl rfl rfl a5) rfl rfl rfl rfl rfl (lb rfl) fun a S => leafL ⟨rfl, S⟩
  ·refine fJ [(33, _), (38, _), (28, _)] 22 [some 16, some 21, some 11] fun G a w S => ?_
   exact sBin _ S (wG 11 false 28 rfl rfl rfl a5) rfl rfl rfl (bNe _ _ _ _ .i64 a0.Cell a4.Cell) rfl (lb rfl) fun a S => leafL ⟨rfl, S⟩
  ·refine fJ [(28, _), (39, _)] 23 [some 11, some 22] fun G a w S => ?_
   exact sPickF (.bool (a0.Cell != a4.Cell)) S (wN rfl) rfl rfl a5 rfl rfl (lb rfl) fun a S => leafL ⟨rfl, S⟩
  ·exact fM 24 (some 23) rfl rfl rfl rfl (.inl rfl) rfl rfl rfl
  ·refine fJ [(0, _), (41, _)] 25 [none, some 24] fun G a w S => ?_
   exact sSk S rfl rfl rfl a6 rfl rfl fun a S => leafL ⟨rfl, S⟩
  ·refine fJ [(5, _), (41, _)] 26 [none, some 24] fun G a w S => ?_
   exact sSk S rfl rfl rfl a6 rfl rfl fun a S => leafL ⟨rfl, S⟩
  ·refine fJ [(42, _), (43, _), (41, _)] 27 [some 25, some 26, some 24] fun G a w S => ?_
   exact sSk S rfl rfl rfl a6 rfl rfl fun a S => leafL ⟨rfl, S⟩
  ·refine fJ [(44, _), (41, _)] 28 [some 27, some 24] fun G a w S => ?_
   exact sSk S rfl rfl rfl a6 rfl rfl fun a S => leafL ⟨rfl, S⟩
  ·refine fJ [(45, _), (41, _)] 29 [some 28, some 24] fun G a w S => ?_
   exact sSk S rfl rfl rfl a6 rfl rfl fun a S => leafL ⟨rfl, S⟩
  ·refine fJ [(1, _), (41, _)] 30 [none, some 24] fun G a w S => ?_
   exact sSk S rfl rfl rfl a6 rfl rfl fun a S => leafL ⟨rfl, S⟩
  ·refine fJ [(5, _), (41, _)] 31 [none, some 24] fun G a w S => ?_
   exact sSk S rfl rfl rfl a6 rfl rfl fun a S => leafL ⟨rfl, S⟩
  ·refine fJ [(47, _), (48, _), (41, _)] 32 [some 30, some 31, some 24] fun G a w S => ?_
   exact sSk S rfl rfl rfl a6 rfl rfl fun a S => leafL ⟨rfl, S⟩
  ·refine fJ [(49, _), (41, _)] 33 [some 32, some 24] fun G a w S => ?_
   exact sSk S rfl rfl rfl a6 rfl rfl fun a S => leafL ⟨rfl, S⟩
  ·refine fJ [(50, _), (41, _)] 34 [some 33, some 24] fun G a w S => ?_
   exact sSk S rfl rfl rfl a6 rfl rfl fun a S => leafL ⟨rfl, S⟩
  ·refine fJ [(46, _), (51, _), (41, _)] 35 [some 29, some 34, some 24] fun G a w S => ?_
   exact sSk S rfl rfl rfl a6 rfl rfl fun a S => leafL ⟨rfl, S⟩
  ·refine fJ [(41, _), (52, _)] 36 [some 24, some 35] fun G a w S => ?_
   exact sPickT (.bool true) S (wN rfl) rfl rfl a6 rfl rfl (lb rfl) fun a S => leafL ⟨rfl, S⟩
  ·exact fM 37 (some 36) rfl rfl rfl rfl (.inl rfl) rfl rfl rfl
  ·refine fJ [(0, _), (54, _)] 38 [none, some 37] fun G a w S => ?_
   exact sSk S rfl rfl rfl rfl rfl rfl fun a S => leafL ⟨rfl, S⟩
  ·refine fJ [(5, _), (54, _)] 39 [none, some 37] fun G a w S => ?_
   exact sSk S rfl rfl rfl rfl rfl rfl fun a S => leafL ⟨rfl, S⟩
  ·refine fJ [(55, _), (56, _), (54, _)] 40 [some 38, some 39, some 37] fun G a w S => ?_
   exact sSk S rfl rfl rfl rfl rfl rfl fun a S => leafL ⟨rfl, S⟩
  ·refine fJ [(57, _), (54, _)] 41 [some 40, some 37] fun G a w S => ?_
   exact sSk S rfl rfl rfl rfl rfl rfl fun a S => leafL ⟨rfl, S⟩
  ·refine fJ [(58, _), (54, _)] 42 [some 41, some 37] fun G a w S => ?_
   exact sSk S rfl rfl rfl rfl rfl rfl fun a S => leafL ⟨rfl, S⟩
  ·refine fJ [(1, _), (54, _)] 43 [none, some 37] fun G a w S => ?_
   exact sSk S rfl rfl rfl rfl rfl rfl fun a S => leafL ⟨rfl, S⟩
  ·refine fJ [(5, _), (54, _)] 44 [none, some 37] fun G a w S => ?_
   exact sSk S rfl rfl rfl rfl rfl rfl fun a S => leafL ⟨rfl, S⟩
  ·refine fJ [(60, _), (61, _), (54, _)] 45 [some 43, some 44, some 37] fun G a w S => ?_
   exact sSk S rfl rfl rfl rfl rfl rfl fun a S => leafL ⟨rfl, S⟩
  ·refine fJ [(62, _), (54, _)] 46 [some 45, some 37] fun G a w S => ?_
   exact sSk S rfl rfl rfl rfl rfl rfl fun a S => leafL ⟨rfl, S⟩
  ·refine fJ [(63, _), (54, _)] 47 [some 46, some 37] fun G a w S => ?_
   exact sSk S rfl rfl rfl rfl rfl rfl fun a S => leafL ⟨rfl, S⟩
  ·refine fJ [(59, _), (64, _), (54, _)] 48 [some 42, some 47, some 37] fun G a w S => ?_
   exact sSk S rfl rfl rfl rfl rfl rfl fun a S => leafL ⟨rfl, S⟩
  ·refine fJ [(65, _), (54, _)] 49 [some 48, some 37] fun G a w S => ?_
   exact sSk S rfl rfl rfl rfl rfl rfl fun a S => leafL ⟨rfl, S⟩
  ·refine fJ [(54, _), (66, _)] 50 [some 37, some 49] fun G a w S => ?_
   exact sPickT (.bool true) S (wN rfl) rfl rfl rfl rfl rfl (lb rfl) fun a S => leafL ⟨rfl, S⟩
  exact leafT (⟨true, Option.some.inj h, S.fix [] [16, 17] (by decide) rfl rfl rfl⟩)
 rcases iS h with ⟨a8, h⟩ | ⟨a8, h⟩
 ·obtain ⟨ci, cj, S⟩ := pIdx (P := Try.prog) (r := r_api_Loop) (v := .slice ad1 p0.length cp2) (xs := p0) (j := a7) 26 48 0 S Try.underlying26 rfl rfl aa
  obtain ⟨ck, cl, S⟩ := pFld (P := Try.prog) (r := r_api_Loop) (s2 := (rI .i64)) (g := (·.Row)) (q := ci) (z := a0) 48 0 0 0 S rfl rfl comp_api_Loop_Row
  obtain ⟨cB, S⟩ := pLoad (r := (rI .i64)) (q := ck) (x := a0.Row) 0 S rfl
  obtain rfl : cB = iv a0.Row := S.mem.know (i := 1) (e := fRep (rI .i64) (cB) a0.Row) rfl
  obtain ⟨cm, cn, S⟩ := pIdx (P := Try.prog) (r := r_api_Loop) (v := .slice ad3 p1.length cp4) (xs := p1) (j := a7) 26 48 5 S Try.underlying26 rfl rfl ab
  obtain ⟨co, cp, S⟩ := pFld (P := Try.prog) (r := r_api_Loop) (s2 := (rI .i64)) (g := (·.Row)) (q := cm) (z := a4) 48 0 0 0 S rfl rfl comp_api_Loop_Row
  obtain ⟨aS, S⟩ := pLoad (r := (rI .i64)) (q := co) (x := a4.Row) 0 S rfl
  obtain rfl : aS = iv a4.Row := S.mem.know (i := 1) (e := fRep (rI .i64) (aS) a4.Row) rfl
  obtain ⟨ai, aT, S⟩ := pIdx (P := Try.prog) (r := r_api_Loop) (v := .slice ad1 p0.length cp2) (xs := p0) (j := a7) 26 48 8 S Try.underlying26 rfl rfl aa
  obtain ⟨aj, aU, S⟩ := pFld (P := Try.prog) (r := r_api_Loop) (s2 := (rI .i64)) (g := (·.Cell)) (q := ai) (z := a0) 48 1 0 1 S rfl rfl comp_api_Loop_Cell
  obtain ⟨aV, S⟩ := pLoad (r := (rI .i64)) (q := aj) (x := a0.Cell) 0 S rfl
  obtain rfl : aV = iv a0.Cell := S.mem.know (i := 1) (e := fRep (rI .i64) (aV) a0.Cell) rfl
  obtain ⟨ak, aW, S⟩ := pIdx (P := Try.prog) (r := r_api_Loop) (v := .slice ad3 p1.length cp4) (xs := p1) (j := a7) 26 48 13 S Try.underlying26 rfl rfl ab
  obtain ⟨al, aX, S⟩ := pFld (P := Try.prog) (r := r_api_Loop) (s2 := (rI .i64)) (g := (·.Cell)) (q := ak) (z := a4) 48 1 0 1 S rfl rfl comp_api_Loop_Cell
  obtain ⟨aZ, S⟩ := pLoad (r := (rI .i64)) (q := al) (x := a4.Cell) 0 S rfl
  obtain rfl : aZ = iv a4.Cell := S.mem.know (i := 1) (e := fRep (rI .i64) (aZ) a4.Cell) rfl
  obtain ⟨am, ba, S⟩ := pIdx (P := Try.prog) (r := r_api_Loop) (v := .slice ad1 p0.length cp2) (xs := p0) (j := a7) 26 48 16 S Try.underlying26 rfl rfl aa
  obtain ⟨ao, bb, S⟩ := pFld (P := Try.prog) (r := r_api_Loop) (s2 := rB) (g := (·.Purl)) (q := am) (z := a0) 48 3 0 3 S rfl rfl comp_api_Loop_Purl
  obtain ⟨bc, S⟩ := pLoad (r := rB) (q := ao) (x := a0.Purl) 0 S rfl
  obtain rfl : bc = .bool a0.Purl := S.mem.know (i := 1) (e := fRep rB (bc) a0.Purl) rfl
  obtain ⟨ap, bf, S⟩ := pIdx (P := Try.prog) (r := r_api_Loop) (v := .slice ad3 p1.length cp4) (xs := p1) (j := a7) 26 48 21 S Try.underlying26 rfl rfl ab
  obtain ⟨aq, bg, S⟩ := pFld (P := Try.prog) (r := r_api_Loop) (s2 := rB) (g := (·.Purl)) (q := ap) (z := a4) 48 3 0 3 S rfl rfl comp_api_Loop_Purl
  obtain ⟨bh, S⟩ := pLoad (r := rB) (q := aq) (x := a4.Purl) 0 S rfl
  obtain rfl : bh = .bool a4.Purl := S.mem.know (i := 1) (e := fRep rB (bh) a4.Purl) rfl
  refine sDraw (nf := []) (W := [(0, 17, .slice ad1 p0.length cp2), (1, 18, iv a7), (2, 19, ci), (3, 20, ck), (4, 21, iv a0.Row), (5, 22, .slice ad3 p1.length cp4), (6, 23, iv a7), (7, 24, cm), (8, 25, co), (9, 26, iv a4.Row), (10, 27, .bool (a0.Row != a4.Row)), (11, 28, .bool (a0.Row != a4.Row)), (12, 29, .slice ad1 p0.length cp2), (13, 30, iv a7), (14, 31, ai), (15, 32, aj), (16, 33, iv a0.Cell), (17, 34, .slice ad3 p1.length cp4), (18, 35, iv a7), (19, 36, ak), (20, 37, al), (21, 38, iv a4.Cell), (22, 39, .bool (a0.Cell != a4.Cell)), (23, 40, .bool (a0.Cell != a4.Cell)), (24, 41, .bool (a0.Cell != a4.Cell)), (25, 42, .slice ad1 p0.length cp2), (26, 43, iv a7), (27, 44, am), (28, 45, ao), (29, 46, .bool a0.Purl), (30, 47, .slice ad3 p1.length cp4), (31, 48, iv a7), (32, 49, ap), (33, 50, aq), (34, 51, .bool a4.Purl), (35, 52, .bool (a0.Purl != a4.Purl)), (36, 53, .bool (a0.Purl != a4.Purl)), (37, 54, .bool (a0.Purl != a4.Purl)), (38, 55, undef), (39, 56, undef), (40, 57, undef), (41, 58, undef), (42, 59, undef), (43, 60, undef), (44, 61, undef), (45, 62, undef), (46, 63, undef), (47, 64, undef), (48, 65, undef), (49, 66, undef), (50, 67, .bool true)]) rfl S ?_
  refine node_by (A := anc_raddleref27_Same_0) 51 (by kernel_rfl) (by kernel_rfl) (by kernel_rfl) (by kernel_rfl) (by kernel_rfl) [0, 1, 2, 3, 4, 5, 6, 7, 8, 9, 10, 11, 12, 13, 14, 15, 16, 17, 18, 19, 20, 21, 22, 23, 24, 25, 26, 27, 28, 29, 30, 31, 32, 33, 34, 35, 36, 37, 38, 39, 40, 41, 42, 43, 44, 45, 46, 47, 48, 49, 50] (by kernel_rfl) (by decide) (by decide) (fF ?_ (fF ?_ (fF ?_ (fF ?_ (fF ?_ (fF ?_ (fF ?_ (fF ?_ (fF ?_ (fF ?_ (fF ?_ (fF ?_ (fF ?_ (fF ?_ (fF ?_ (fF ?_ (fF ?_ (fF ?_ (fF ?_ (fF ?_ (fF ?_ (fF ?_ (fF ?_ (fF ?_ (fF ?_ (fF ?_ (fF ?_ (fF ?_ (fF ?_ (fF ?_ (fF ?_ (fF ?_ (fF ?_ (fF ?_ (fF ?_ (fF ?_ (fF ?_ (fF ?_ (fF ?_ (fF ?_ (fF ?_ (fF ?_ (fF ?_ (fF ?_ (fF ?_ (fF ?_ (fF ?_ (fF ?_ (fF ?_ (fF ?_ (fF ?_ (trivial)))))))))))))))))))))))))))))))))))))))))))))))))))) [(0, .slice ad1 p0.length cp2), (1, .slice ad3 p1.length cp4), (5, iv a7), (29, .slice ad1 p0.length cp2), (30, iv a7), (31, ai), (32, aj), (33, iv a0.Cell), (34, .slice ad3 p1.length cp4), (35, iv a7), (36, ak), (37, al), (38, iv a4.Cell), (39, .bool (a0.Cell != a4.Cell)), (42, .slice ad1 p0.length cp2), (43, iv a7), (44, am), (45, ao), (46, .bool a0.Purl), (47, .slice ad3 p1.length cp4), (48, iv a7), (49, ap), (50, aq), (51, .bool a4.Purl), (52, .bool (a0.Purl != a4.Purl)), (55, undef), (56, undef), (57, undef), (58, undef), (59, undef), (60, undef), (61, undef), (62, undef), (63, undef), (64, undef), (65, undef), (66, undef), (67, .bool true)] (fin_of [none, none, none, some 12, some 13, some 14, some 15, some 16, some 17, some 18, some 19, some 20, some 21, some 22, some 25, some 26, some 27, some 28, some 29, some 30, some 31, some 32, some 33, some 34, some 35, some 38, some 39, some 40, some 41, some 42, some 43, some 44, some 45, some 46, some 47, some 48, some 49, some 50] rfl (by kernel_rfl) (by kernel_rfl)) (fun _ a w S => ?_)
  ·exact fM 0 none rfl rfl rfl rfl (.inl rfl) rfl rfl rfl
  ·exact fM 1 none rfl rfl rfl rfl (.inl rfl) rfl rfl rfl
  ·refine fJ [(17, _), (18, _)] 2 [some 0, some 1] fun G a w S => ?_
   exact sIdxV S (wN rfl) rfl rfl rfl cj rfl (lb rfl) fun a S => leafL ⟨rfl, S⟩
  ·refine fJ [(19, _)] 3 [some 2] fun G a w S => ?_
   exact sFldV (q := ci) S (wN rfl) rfl rfl cl rfl (lb rfl) fun a S => leafL ⟨rfl, S⟩
  ·refine fJ [(20, _)] 4 [some 3] fun G a w S => ?_
   exact sLoadV1 (vq := ck) 20 (iv a0.Row) S (wN rfl) rfl rfl rfl rfl rfl (lb rfl) fun a S => leafL ⟨rfl, S⟩
  ·exact fM 5 none rfl rfl rfl rfl (.inl rfl) rfl rfl rfl
  ·exact fM 6 none rfl rfl rfl rfl (.inl rfl) rfl rfl rfl
  ·refine fJ [(22, _), (23, _)] 7 [some 5, some 6] fun G a w S => ?_
   exact sIdxV S (wN rfl) rfl rfl rfl cn rfl (lb rfl) fun a S => leafL ⟨rfl, S⟩
  ·refine fJ [(24, _)] 8 [some 7] fun G a w S => ?_
   exact sFldV (q := cm) S (wN rfl) rfl rfl cp rfl (lb rfl) fun a S => leafL ⟨rfl, S⟩
  ·refine fJ [(25, _)] 9 [some 8] fun G a w S => ?_
   exact sLoadV1 (vq := co) 16 (iv a4.Row) S (wN rfl) rfl rfl rfl rfl rfl (lb rfl) fun a S => leafL ⟨rfl, S⟩
  ·refine fJ [(21, _), (26, _)] 10 [some 4, some 9] fun G a w S => ?_
   exact sBin _ S (wN rfl) rfl rfl rfl (bNe _ _ _ _ .i64 a0.Row a4.Row) rfl (lb rfl) fun a S => leafL ⟨rfl, S⟩
  ·exact fM 11 (some 10) rfl rfl rfl rfl (.inl rfl) rfl rfl rfl
  ·refine fJ [(0, _), (28, _)] 12 [none, some 11] fun G a w S => ?_
   exact sMove (.slice ad1 p0.length cp2) S (wG 11 false 28 rfl rfl rfl a5) (.inl rfl) rfl rfl (lb rfl) fun a S => leafL ⟨rfl, S⟩
  ·refine fJ [(5, _), (28, _)] 13 [none, some 11] fun G a w S => ?_
   exact sMove (iv a7) S (wG 11 false 28 rfl rfl rfl a5) (.inl rfl) rfl rfl (lb rfl) fun a S => leafL ⟨rfl, S⟩
  ·refine fJ [(29, _), (30, _), (28, _)] 14 [some 12, some 13, some 11] fun G a w S => ?_
   exact sIdxV S (wG 11 false 28 rfl rfl rfl a5) rfl rfl rfl aT rfl (lb rfl) fun a S => leafL ⟨rfl, S⟩
  ·refine fJ [(31, _), (28, _)] 15 [some 14, some 11] fun G a w S => ?_
   exact sFldV (q := ai) S (wG 11 false 28 rfl rfl rfl a5) rfl rfl aU rfl (lb rfl) fun a S => leafL ⟨rfl, S⟩
  ·refine fJ [(32, _), (28, _)] 16 [some 15, some 11] fun G a w S => ?_
   exact sLoadV1 (vq := aj) 12 (iv a0.Cell) S (wG 11 false 28 rfl rfl rfl a5) rfl rfl rfl rfl rfl (lb rfl) fun a S => leafL ⟨rfl, S⟩
  ·refine fJ [(1, _), (28, _)] 17 [none, some 11] fun G a w S => ?_
   exact sMove (.slice ad3 p1.length cp4) S (wG 11 false 28 rfl rfl rfl a5) (.inl rfl) rfl rfl (lb rfl) fun a S => leafL ⟨rfl, S⟩
  ·refine fJ [(5, _), (28, _)] 18 [none, some 11] fun G a w S => ?_
   exact sMove (iv a7) S (wG 11 false 28 rfl rfl rfl a5) (.inl rfl) rfl rfl (lb rfl) fun a S => leafL ⟨rfl, S⟩
  ·refine fJ [(34, _), (35, _), (28, _)] 19 [some 17, some 18, some 11] fun G a w S => ?_
   exact sIdxV S (wG 11 false 28 rfl rfl rfl a5) rfl rfl rfl aW rfl (lb rfl) fun a S => leafL ⟨rfl, S⟩
  ·refine fJ [(36, _), (28, _)] 20 [some 19, some 11] fun G a w S => ?_
   exact sFldV (q := ak) S (wG 11 false 28 rfl rfl rfl a5) rfl rfl aX rfl (lb rfl) fun a S => leafL ⟨rfl, S⟩
  ·refine fJ [(37, _), (28, _)] 21 [some 20, some 11] fun G a w S => ?_
   exact sLoadV1 (vq := al) 8 (iv a4.Cell) S (wG 11 false 28 rfl rfl rfl a5) rfl rfl rfl rfl rfl (lb rfl) fun a S => leafL ⟨rfl, S⟩
  ·refine fJ [(33, _), (38, _), (28, _)] 22 [some 16, some 21, some 11] fun G a w S => ?_
   exact sBin _ S (wG 11 false 28 rfl rfl rfl a5) rfl rfl rfl (bNe _ _ _ _ .i64 a0.Cell a4.Cell) rfl (lb rfl) fun a S => leafL ⟨rfl, S⟩
  ·refine fJ [(28, _), (39, _)] 23 [some 11, some 22] fun G a w S => ?_
   exact sPickF (.bool (a0.Cell != a4.Cell)) S (wN rfl) rfl rfl a5 rfl rfl (lb rfl) fun a S => leafL ⟨rfl, S⟩
  ·exact fM 24 (some 23) rfl rfl rfl rfl (.inl rfl) rfl rfl rfl
  ·refine fJ [(0, _), (41, _)] 25 [none, some 24] fun G a w S => ?_
   exact sMove (.slice ad1 p0.length cp2) S (wG 24 false 41 rfl rfl rfl a6) (.inl rfl) rfl rfl (lb rfl) fun a S => leafL ⟨rfl, S⟩
  ·refine fJ [(5, _), (41, _)] 26 [none, some 24] fun G a w S => ?_
   exact sMove (iv a7) S (wG 24 false 41 rfl rfl rfl a6) (.inl rfl) rfl rfl (lb rfl) fun a S => leafL ⟨rfl, S⟩
  ·refine fJ [(42, _), (43, _), (41, _)] 27 [some 25, some 26, some 24] fun G a w S => ?_
   exact sIdxV S (wG 24 false 41 rfl rfl rfl a6) rfl rfl rfl ba rfl (lb rfl) fun a S => leafL ⟨rfl, S⟩
  ·refine fJ [(44, _), (41, _)] 28 [some 27, some 24] fun G a w S => ?_
   exact sFldV (q := am) S (wG 24 false 41 rfl rfl rfl a6) rfl rfl bb rfl (lb rfl) fun a S => leafL ⟨rfl, S⟩
  ·refine fJ [(45, _), (41, _)] 29 [some 28, some 24] fun G a w S => ?_
   exact sLoadV1 (vq := ao) 4 (.bool a0.Purl) S (wG 24 false 41 rfl rfl rfl a6) rfl rfl rfl rfl rfl (lb rfl) fun a S => leafL ⟨rfl, S⟩
  ·refine fJ [(1, _), (41, _)] 30 [none, some 24] fun G a w S => ?_
   exact sMove (.slice ad3 p1.length cp4) S (wG 24 false 41 rfl rfl rfl a6) (.inl rfl) rfl rfl (lb rfl) fun a S => leafL ⟨rfl, S⟩
  ·refine fJ [(5, _), (41, _)] 31 [none, some 24] fun G a w S => ?_
   exact sMove (iv a7) S (wG 24 false 41 rfl rfl rfl a6) (.inl rfl) rfl rfl (lb rfl) fun a S => leafL ⟨rfl, S⟩
  ·refine fJ [(47, _), (48, _), (41, _)] 32 [some 30, some 31, some 24] fun G a w S => ?_
   exact sIdxV S (wG 24 false 41 rfl rfl rfl a6) rfl rfl rfl bf rfl (lb rfl) fun a S => leafL ⟨rfl, S⟩
  ·refine fJ [(49, _), (41, _)] 33 [some 32, some 24] fun G a w S => ?_
   exact sFldV (q := ap) S (wG 24 false 41 rfl rfl rfl a6) rfl rfl bg rfl (lb rfl) fun a S => leafL ⟨rfl, S⟩
  ·refine fJ [(50, _), (41, _)] 34 [some 33, some 24] fun G a w S => ?_
   exact sLoadV1 (vq := aq) 0 (.bool a4.Purl) S (wG 24 false 41 rfl rfl rfl a6) rfl rfl rfl rfl rfl (lb rfl) fun a S => leafL ⟨rfl, S⟩
  ·refine fJ [(46, _), (51, _), (41, _)] 35 [some 29, some 34, some 24] fun G a w S => ?_
   exact sBin _ S (wG 24 false 41 rfl rfl rfl a6) rfl rfl rfl (bNeB _ _ _ _ Try.underlying4 a0.Purl a4.Purl) rfl (lb rfl) fun a S => leafL ⟨rfl, S⟩
  ·refine fJ [(41, _), (52, _)] 36 [some 24, some 35] fun G a w S => ?_
   exact sPickF (.bool (a0.Purl != a4.Purl)) S (wN rfl) rfl rfl a6 rfl rfl (lb rfl) fun a S => leafL ⟨rfl, S⟩
  ·exact fM 37 (some 36) rfl rfl rfl rfl (.inl rfl) rfl rfl rfl
  ·refine fJ [(0, _), (54, _)] 38 [none, some 37] fun G a w S => ?_
   exact sSk S rfl rfl rfl a8 rfl rfl fun a S => leafL ⟨rfl, S⟩
  ·refine fJ [(5, _), (54, _)] 39 [none, some 37] fun G a w S => ?_
   exact sSk S rfl rfl rfl a8 rfl rfl fun a S => leafL ⟨rfl, S⟩
  ·refine fJ [(55, _), (56, _), (54, _)] 40 [some 38, some 39, some 37] fun G a w S => ?_
   exact sSk S rfl rfl rfl a8 rfl rfl fun a S => leafL ⟨rfl, S⟩
  ·refine fJ [(57, _), (54, _)] 41 [some 40, some 37] fun G a w S => ?_
   exact sSk S rfl rfl rfl a8 rfl rfl fun a S => leafL ⟨rfl, S⟩
  ·refine fJ [(58, _), (54, _)] 42 [some 41, some 37] fun G a w S => ?_
   exact sSk S rfl rfl rfl a8 rfl rfl fun a S => leafL ⟨rfl, S⟩
  ·refine fJ [(1, _), (54, _)] 43 [none, some 37] fun G a w S => ?_
   exact sSk S rfl rfl rfl a8 rfl rfl fun a S => leafL ⟨rfl, S⟩
  ·refine fJ [(5, _), (54, _)] 44 [none, some 37] fun G a w S => ?_
   exact sSk S rfl rfl rfl a8 rfl rfl fun a S => leafL ⟨rfl, S⟩
  ·refine fJ [(60, _), (61, _), (54, _)] 45 [some 43, some 44, some 37] fun G a w S => ?_
   exact sSk S rfl rfl rfl a8 rfl rfl fun a S => leafL ⟨rfl, S⟩
  ·refine fJ [(62, _), (54, _)] 46 [some 45, some 37] fun G a w S => ?_
   exact sSk S rfl rfl rfl a8 rfl rfl fun a S => leafL ⟨rfl, S⟩
  ·refine fJ [(63, _), (54, _)] 47 [some 46, some 37] fun G a w S => ?_
   exact sSk S rfl rfl rfl a8 rfl rfl fun a S => leafL ⟨rfl, S⟩
  ·refine fJ [(59, _), (64, _), (54, _)] 48 [some 42, some 47, some 37] fun G a w S => ?_
   exact sSk S rfl rfl rfl a8 rfl rfl fun a S => leafL ⟨rfl, S⟩
  ·refine fJ [(65, _), (54, _)] 49 [some 48, some 37] fun G a w S => ?_
   exact sSk S rfl rfl rfl a8 rfl rfl fun a S => leafL ⟨rfl, S⟩
  ·refine fJ [(54, _), (66, _)] 50 [some 37, some 49] fun G a w S => ?_
   exact sPickT (.bool true) S (wN rfl) rfl rfl a8 rfl rfl (lb rfl) fun a S => leafL ⟨rfl, S⟩
  exact leafT (⟨true, Option.some.inj h, S.fix [] [24, 25] (by decide) rfl rfl rfl⟩)
 obtain ⟨a9, bi, h⟩ := bS h
 obtain ⟨aK, bj, S⟩ := pIdx (P := Try.prog) (r := r_api_Loop) (v := .slice ad1 p0.length cp2) (xs := p0) (j := a7) 26 48 0 S Try.underlying26 rfl rfl aa
 obtain ⟨aL, bl, S⟩ := pFld (P := Try.prog) (r := r_api_Loop) (s2 := (rI .i64)) (g := (·.Row)) (q := aK) (z := a0) 48 0 0 0 S rfl rfl comp_api_Loop_Row
 obtain ⟨bm, S⟩ := pLoad (r := (rI .i64)) (q := aL) (x := a0.Row) 0 S rfl
 obtain rfl : bm = iv a0.Row := S.mem.know (i := 1) (e := fRep (rI .i64) (bm) a0.Row) rfl
 obtain ⟨aM, bn, S⟩ := pIdx (P := Try.prog) (r := r_api_Loop) (v := .slice ad3 p1.length cp4) (xs := p1) (j := a7) 26 48 5 S Try.underlying26 rfl rfl ab
 obtain ⟨aO, bo, S⟩ := pFld (P := Try.prog) (r := r_api_Loop) (s2 := (rI .i64)) (g := (·.Row)) (q := aM) (z := a4) 48 0 0 0 S rfl rfl comp_api_Loop_Row
 obtain ⟨bp, S⟩ := pLoad (r := (rI .i64)) (q := aO) (x := a4.Row) 0 S rfl
 obtain rfl : bp = iv a4.Row := S.mem.know (i := 1) (e := fRep (rI .i64) (bp) a4.Row) rfl
 obtain ⟨ar, bq, S⟩ := pIdx (P := Try.prog) (r := r_api_Loop) (v := .slice ad1 p0.length cp2) (xs := p0) (j := a7) 26 48 8 S Try.underlying26 rfl rfl aa
 obtain ⟨au, br, S⟩ := pFld (P := Try.prog) (r := r_api_Loop) (s2 := (rI .i64)) (g := (·.Cell)) (q := ar) (z := a0) 48 1 0 1 S rfl rfl comp_api_Loop_Cell
 obtain ⟨bt, S⟩ := pLoad (r := (rI .i64)) (q := au) (x := a0.Cell) 0 S rfl
 obtain rfl : bt = iv a0.Cell := S.mem.know (i := 1) (e := fRep (rI .i64) (bt) a0.Cell) rfl
 obtain ⟨av, bu, S⟩ := pIdx (P := Try.prog) (r := r_api_Loop) (v := .slice ad3 p1.length cp4) (xs := p1) (j := a7) 26 48 13 S Try.underlying26 rfl rfl ab
 obtain ⟨aw, bv, S⟩ := pFld (P := Try.prog) (r := r_api_Loop) (s2 := (rI .i64)) (g := (·.Cell)) (q := av) (z := a4) 48 1 0 1 S rfl rfl comp_api_Loop_Cell
 obtain ⟨bw, S⟩ := pLoad (r := (rI .i64)) (q := aw) (x := a4.Cell) 0 S rfl
 obtain rfl : bw = iv a4.Cell := S.mem.know (i := 1) (e := fRep (rI .i64) (bw) a4.Cell) rfl
 obtain ⟨ax, bx, S⟩ := pIdx (P := Try.prog) (r := r_api_Loop) (v := .slice ad1 p0.length cp2) (xs := p0) (j := a7) 26 48 16 S Try.underlying26 rfl rfl aa
 obtain ⟨ay, bz, S⟩ := pFld (P := Try.prog) (r := r_api_Loop) (s2 := rB) (g := (·.Purl)) (q := ax) (z := a0) 48 3 0 3 S rfl rfl comp_api_Loop_Purl
 obtain ⟨bA, S⟩ := pLoad (r := rB) (q := ay) (x := a0.Purl) 0 S rfl
 obtain rfl : bA = .bool a0.Purl := S.mem.know (i := 1) (e := fRep rB (bA) a0.Purl) rfl
 obtain ⟨az, bB, S⟩ := pIdx (P := Try.prog) (r := r_api_Loop) (v := .slice ad3 p1.length cp4) (xs := p1) (j := a7) 26 48 21 S Try.underlying26 rfl rfl ab
 obtain ⟨aA, bC, S⟩ := pFld (P := Try.prog) (r := r_api_Loop) (s2 := rB) (g := (·.Purl)) (q := az) (z := a4) 48 3 0 3 S rfl rfl comp_api_Loop_Purl
 obtain ⟨bD, S⟩ := pLoad (r := rB) (q := aA) (x := a4.Purl) 0 S rfl
 obtain rfl : bD = .bool a4.Purl := S.mem.know (i := 1) (e := fRep rB (bD) a4.Purl) rfl
 obtain ⟨aC, bE, S⟩ := pIdx (P := Try.prog) (r := r_api_Loop) (v := .slice ad1 p0.length cp2) (xs := p0) (j := a7) 26 48 24 S Try.underlying26 rfl rfl aa
 obtain ⟨aG, bF, S⟩ := pFld (P := Try.prog) (r := r_api_Loop) (s2 := (rL (rI .i64))) (g := (·.Parents)) (q := aC) (z := a0) 48 2 0 2 S rfl rfl comp_api_Loop_Parents
 obtain ⟨cq, S⟩ := pLoad (r := (rL (rI .i64))) (q := aG) (x := a0.Parents) 0 S rfl
 obtain ⟨ac, ae, _, rfl, _⟩ := S.mem.know (i := 1) (e := fRep (rL (rI .i64)) (cq) a0.Parents) rfl
 obtain ⟨aH, bG, S⟩ := pIdx (P := Try.prog) (r := r_api_Loop) (v := .slice ad3 p1.length cp4) (xs := p1) (j := a7) 26 48 29 S Try.underlying26 rfl rfl ab
 obtain ⟨aI, bH, S⟩ := pFld (P := Try.prog) (r := r_api_Loop) (s2 := (rL (rI .i64))) (g := (·.Parents)) (q := aH) (z := a4) 48 2 0 2 S rfl rfl comp_api_Loop_Parents
 obtain ⟨cr, S⟩ := pLoad (r := (rL (rI .i64))) (q := aI) (x := a4.Parents) 0 S rfl
 obtain ⟨af, ag, _, rfl, _⟩ := S.mem.know (i := 1) (e := fRep (rL (rI .i64)) (cr) a4.Parents) rfl
 refine sDraw (nf := []) (W := [(0, 17, .slice ad1 p0.length cp2), (1, 18, iv a7), (2, 19, aK), (3, 20, aL), (4, 21, iv a0.Row), (5, 22, .slice ad3 p1.length cp4), (6, 23, iv a7), (7, 24, aM), (8, 25, aO), (9, 26, iv a4.Row), (10, 27, .bool (a0.Row != a4.Row)), (11, 28, .bool (a0.Row != a4.Row)), (12, 29, .slice ad1 p0.length cp2), (13, 30, iv a7), (14, 31, ar), (15, 32, au), (16, 33, iv a0.Cell), (17, 34, .slice ad3 p1.length cp4), (18, 35, iv a7), (19, 36, av), (20, 37, aw), (21, 38, iv a4.Cell), (22, 39, .bool (a0.Cell != a4.Cell)), (23, 40, .bool (a0.Cell != a4.Cell)), (24, 41, .bool (a0.Cell != a4.Cell)), (25, 42, .slice ad1 p0.length cp2), (26, 43, iv a7), (27, 44, ax), (28, 45, ay), (29, 46, .bool a0.Purl), (30, 47, .slice ad3 p1.length cp4), (31, 48, iv a7), (32, 49, az), (33, 50, aA), (34, 51, .bool a4.Purl), (35, 52, .bool (a0.Purl != a4.Purl)), (36, 53, .bool (a0.Purl != a4.Purl)), (37, 54, .bool (a0.Purl != a4.Purl)), (38, 55, .slice ad1 p0.length cp2), (39, 56, iv a7), (40, 57, aC), (41, 58, aG), (42, 59, .slice ac a0.Parents.length ae), (43, 60, .slice ad3 p1.length cp4), (44, 61, iv a7), (45, 62, aH), (46, 63, aI), (47, 64, .slice af a4.Parents.length ag), (48, 65, .bool a9), (49, 66, .bool (!a9)), (50, 67, .bool (!a9))]) rfl S ?_
 refine node_by (A := anc_raddleref27_Same_0) 51 (by kernel_rfl) (by kernel_rfl) (by kernel_rfl) (by kernel_rfl) (by kernel_rfl) [0, 1, 2, 3, 4, 5, 6, 7, 8, 9, 10, 11, 12, 13, 14, 15, 16, 17, 18, 19, 20, 21, 22, 23, 24, 25, 26, 27, 28, 29, 30, 31, 32, 33, 34, 35, 36, 37, 38, 39, 40, 41, 42, 43, 44, 45, 46, 47, 48, 49, 50] (by kernel_rfl) (by decide) (by decide) (fF ?_ (fF ?_ (fF ?_ (fF ?_ (fF ?_ (fF ?_ (fF ?_ (fF ?_ (fF ?_ (fF ?_ (fF ?_ (fF ?_ (fF ?_ (fF ?_ (fF ?_ (fF ?_ (fF ?_ (fF ?_ (fF ?_ (fF ?_ (fF ?_ (fF ?_ (fF ?_ (fF ?_ (fF ?_ (fF ?_ (fF ?_ (fF ?_ (fF ?_ (fF ?_ (fF ?_ (fF ?_ (fF ?_ (fF ?_ (fF ?_ (fF ?_ (fF ?_ (fF ?_ (fF ?_ (fF ?_ (fF ?_ (fF ?_ (fF ?_ (fF ?_ (fF ?_ (fF ?_ (fF ?_ (fF ?_ (fF ?_ (fF ?_ (fF ?_ (trivial)))))))))))))))))))))))))))))))))))))))))))))))))))) [(0, .slice ad1 p0.length cp2), (1, .slice ad3 p1.length cp4), (5, iv a7), (29, .slice ad1 p0.length cp2), (30, iv a7), (31, ar), (32, au), (33, iv a0.Cell), (34, .slice ad3 p1.length cp4), (35, iv a7), (36, av), (37, aw), (38, iv a4.Cell), (39, .bool (a0.Cell != a4.Cell)), (42, .slice ad1 p0.length cp2), (43, iv a7), (44, ax), (45, ay), (46, .bool a0.Purl), (47, .slice ad3 p1.length cp4), (48, iv a7), (49, az), (50, aA), (51, .bool a4.Purl), (52, .bool (a0.Purl != a4.Purl)), (55, .slice ad1 p0.length cp2), (56, iv a7), (57, aC), (58, aG), (59, .slice ac a0.Parents.length ae), (60, .slice ad3 p1.length cp4), (61, iv a7), (62, aH), (63, aI), (64, .slice af a4.Parents.length ag), (65, .bool a9), (66, .bool (!a9)), (67, .bool (!a9))] (fin_of [none, none, none, some 12, some 13, some 14, some 15, some 16, some 17, some 18, some 19, some 20, some 21, some 22, some 25, some 26, some 27, some 28, some 29, some 30, some 31, some 32, some 33, some 34, some 35, some 38, some 39, some 40, some 41, some 42, some 43, some 44, some 45, some 46, some 47, some 48, some 49, some 50] rfl (by kernel_rfl) (by kernel_rfl)) (fun _ a w S => ?_)
 ·exact fM 0 none rfl rfl rfl rfl (.inl rfl) rfl rfl rfl
 ·exact fM 1 none rfl rfl rfl rfl (.inl rfl) rfl rfl rfl
 ·refine fJ [(17, _), (18, _)] 2 [some 0, some 1] fun G a w S => ?_
  exact sIdxV S (wN rfl) rfl rfl rfl bj rfl (lb rfl) fun a S => leafL ⟨rfl, S⟩
 ·refine fJ [(19, _)] 3 [some 2] fun G a w S => ?_
  exact sFldV (q := aK) S (wN rfl) rfl rfl bl rfl (lb rfl) fun a S => leafL ⟨rfl, S⟩
 ·refine fJ [(20, _)] 4 [some 3] fun G a w S => ?_
  exact sLoadV1 (vq := aL) 28 (iv a0.Row) S (wN rfl) rfl rfl rfl rfl rfl (lb rfl) fun a S => leafL ⟨rfl, S⟩
 ·exact fM 5 none rfl rfl rfl rfl (.inl rfl) rfl rfl rfl
 ·exact fM 6 none rfl rfl rfl rfl (.inl rfl) rfl rfl rfl
 ·refine fJ [(22, _), (23, _)] 7 [some 5, some 6] fun G a w S => ?_
  exact sIdxV S (wN rfl) rfl rfl rfl bn rfl (lb rfl) fun a S => leafL ⟨rfl, S⟩
 ·refine fJ [(24, _)] 8 [some 7] fun G a w S => ?_
  exact sFldV (q := aM) S (wN rfl) rfl rfl bo rfl (lb rfl) fun a S => leafL ⟨rfl, S⟩
 ·refine fJ [(25, _)] 9 [some 8] fun G a w S => ?_
  exact sLoadV1 (vq := aO) 24 (iv a4.Row) S (wN rfl) rfl rfl rfl rfl rfl (lb rfl) fun a S => leafL ⟨rfl, S⟩
 ·refine fJ [(21, _), (26, _)] 10 [some 4, some 9] fun G a w S => ?_
  exact sBin _ S (wN rfl) rfl rfl rfl (bNe _ _ _ _ .i64 a0.Row a4.Row) rfl (lb rfl) fun a S => leafL ⟨rfl, S⟩
 ·exact fM 11 (some 10) rfl rfl rfl rfl (.inl rfl) rfl rfl rfl
 ·refine fJ [(0, _), (28, _)] 12 [none, some 11] fun G a w S => ?_
  exact sMove (.slice ad1 p0.length cp2) S (wG 11 false 28 rfl rfl rfl a5) (.inl rfl) rfl rfl (lb rfl) fun a S => leafL ⟨rfl, S⟩
 ·refine fJ [(5, _), (28, _)] 13 [none, some 11] fun G a w S => ?_
  exact sMove (iv a7) S (wG 11 false 28 rfl rfl rfl a5) (.inl rfl) rfl rfl (lb rfl) fun a S => leafL ⟨rfl, S⟩
 ·refine fJ [(29, _), (30, _), (28, _)] 14 [some 12, some 13, some 11] fun G a w S => ?_
  exact sIdxV S (wG 11 false 28 rfl rfl rfl a5) rfl rfl rfl bq rfl (lb rfl) fun a S => leafL ⟨rfl, S⟩
 ·refine fJ [(31, _), (28, _)] 15 [some 14, some 11] fun G a w S => ?_
  exact sFldV (q := ar) S (wG 11 false 28 rfl rfl rfl a5) rfl rfl br rfl (lb rfl) fun a S => leafL ⟨rfl, S⟩
 ·refine fJ [(32, _), (28, _)] 16 [some 15, some 11] fun G a w S => ?_
  exact sLoadV1 (vq := au) 20 (iv a0.Cell) S (wG 11 false 28 rfl rfl rfl a5) rfl rfl rfl rfl rfl (lb rfl) fun a S => leafL ⟨rfl, S⟩
 ·refine fJ [(1, _), (28, _)] 17 [none, some 11] fun G a w S => ?_
  exact sMove (.slice ad3 p1.length cp4) S (wG 11 false 28 rfl rfl rfl a5) (.inl rfl) rfl rfl (lb rfl) fun a S => leafL ⟨rfl, S⟩
 ·refine fJ [(5, _), (28, _)] 18 [none, some 11] fun G a w S => ?_
  exact sMove (iv a7) S (wG 11 false 28 rfl rfl rfl a5) (.inl rfl) rfl rfl (lb rfl) fun a S => leafL ⟨rfl, S⟩
 ·refine fJ [(34, _), (35, _), (28, _)] 19 [some 17, some 18, some 11] fun G a w S => ?_
  exact sIdxV S (wG 11 false 28 rfl rfl rfl a5) rfl rfl rfl bu rfl (lb rfl) fun a S => leafL ⟨rfl, S⟩
 ·refine fJ [(36, _), (28, _)] 20 [some 19, some 11] fun G a w S => ?_
  exact sFldV (q := av) S (wG 11 false 28 rfl rfl rfl a5) rfl rfl bv rfl (lb rfl) fun a S => leafL ⟨rfl, S⟩
 ·refine fJ [(37, _), (28, _)] 21 [some 20, some 11] fun G a w S => ?_
  exact sLoadV1 (vq := aw) 16 (iv a4.Cell) S (wG 11 false 28 rfl rfl rfl a5) rfl rfl rfl rfl rfl (lb rfl) fun a S => leafL ⟨rfl, S⟩
 ·refine fJ [(33, _), (38, _), (28, _)] 22 [some 16, some 21, some 11] fun G a w S => ?_
  exact sBin _ S (wG 11 false 28 rfl rfl rfl a5) rfl rfl rfl (bNe _ _ _ _ .i64 a0.Cell a4.Cell) rfl (lb rfl) fun a S => leafL ⟨rfl, S⟩
 ·refine fJ [(28, _), (39, _)] 23 [some 11, some 22] fun G a w S => ?_
  exact sPickF (.bool (a0.Cell != a4.Cell)) S (wN rfl) rfl rfl a5 rfl rfl (lb rfl) fun a S => leafL ⟨rfl, S⟩
 ·exact fM 24 (some 23) rfl rfl rfl rfl (.inl rfl) rfl rfl rfl
 ·refine fJ [(0, _), (41, _)] 25 [none, some 24] fun G a w S => ?_
  exact sMove (.slice ad1 p0.length cp2) S (wG 24 false 41 rfl rfl rfl a6) (.inl rfl) rfl rfl (lb rfl) fun a S => leafL ⟨rfl, S⟩
 ·refine fJ [(5, _), (41, _)] 26 [none, some 24] fun G a w S => ?_
  exact sMove (iv a7) S (wG 24 false 41 rfl rfl rfl a6) (.inl rfl) rfl rfl (lb rfl) fun a S => leafL ⟨rfl, S⟩
 ·refine fJ [(42, _), (43, _), (41, _)] 27 [some 25, some 26, some 24] fun G a w S => ?_
  exact sIdxV S (wG 24 false 41 rfl rfl rfl a6) rfl rfl rfl bx rfl (lb rfl) fun a S => leafL ⟨rfl, S⟩
 ·refine fJ [(44, _), (41, _)] 28 [some 27, some 24] fun G a w S => ?_
  exact sFldV (q := ax) S (wG 24 false 41 rfl rfl rfl a6) rfl rfl bz rfl (lb rfl) fun a S => leafL ⟨rfl, S⟩
 ·refine fJ [(45, _), (41, _)] 29 [some 28, some 24] fun G a w S => ?_
  exact sLoadV1 (vq := ay) 12 (.bool a0.Purl) S (wG 24 false 41 rfl rfl rfl a6) rfl rfl rfl rfl rfl (lb rfl) fun a S => leafL ⟨rfl, S⟩
 ·refine fJ [(1, _), (41, _)] 30 [none, some 24] fun G a w S => ?_
  exact sMove (.slice ad3 p1.length cp4) S (wG 24 false 41 rfl rfl rfl a6) (.inl rfl) rfl rfl (lb rfl) fun a S => leafL ⟨rfl, S⟩
 ·refine fJ [(5, _), (41, _)] 31 [none, some 24] fun G a w S => ?_
  exact sMove (iv a7) S (wG 24 false 41 rfl rfl rfl a6) (.inl rfl) rfl rfl (lb rfl) fun a S => leafL ⟨rfl, S⟩
 ·refine fJ [(47, _), (48, _), (41, _)] 32 [some 30, some 31, some 24] fun G a w S => ?_
  exact sIdxV S (wG 24 false 41 rfl rfl rfl a6) rfl rfl rfl bB rfl (lb rfl) fun a S => leafL ⟨rfl, S⟩
 ·refine fJ [(49, _), (41, _)] 33 [some 32, some 24] fun G a w S => ?_
  exact sFldV (q := az) S (wG 24 false 41 rfl rfl rfl a6) rfl rfl bC rfl (lb rfl) fun a S => leafL ⟨rfl, S⟩
 ·refine fJ [(50, _), (41, _)] 34 [some 33, some 24] fun G a w S => ?_
  exact sLoadV1 (vq := aA) 8 (.bool a4.Purl) S (wG 24 false 41 rfl rfl rfl a6) rfl rfl rfl rfl rfl (lb rfl) fun a S => leafL ⟨rfl, S⟩
 ·refine fJ [(46, _), (51, _), (41, _)] 35 [some 29, some 34, some 24] fun G a w S => ?_
  exact sBin _ S (wG 24 false 41 rfl rfl rfl a6) rfl rfl rfl (bNeB _ _ _ _ Try.underlying4 a0.Purl a4.Purl) rfl (lb rfl) fun a S => leafL ⟨rfl, S⟩
 ·refine fJ [(41, _), (52, _)] 36 [some 24, some 35] fun G a w S => ?_
  exact sPickF (.bool (a0.Purl != a4.Purl)) S (wN rfl) rfl rfl a6 rfl rfl (lb rfl) fun a S => leafL ⟨rfl, S⟩
 ·exact fM 37 (some 36) rfl rfl rfl rfl (.inl rfl) rfl rfl rfl
 ·refine fJ [(0, _), (54, _)] 38 [none, some 37] fun G a w S => ?_
  exact sMove (.slice ad1 p0.length cp2) S (wG 37 false 54 rfl rfl rfl a8) (.inl rfl) rfl rfl (lb rfl) fun a S => leafL ⟨rfl, S⟩
 ·refine fJ [(5, _), (54, _)] 39 [none, some 37] fun G a w S => ?_
  exact sMove (iv a7) S (wG 37 false 54 rfl rfl rfl a8) (.inl rfl) rfl rfl (lb rfl) fun a S => leafL ⟨rfl, S⟩
 ·refine fJ [(55, _), (56, _), (54, _)] 40 [some 38, some 39, some 37] fun G a w S => ?_
  exact sIdxV S (wG 37 false 54 rfl rfl rfl a8) rfl rfl rfl bE rfl (lb rfl) fun a S => leafL ⟨rfl, S⟩
 ·refine fJ [(57, _), (54, _)] 41 [some 40, some 37] fun G a w S => ?_
  exact sFldV (q := aC) S (wG 37 false 54 rfl rfl rfl a8) rfl rfl bF rfl (lb rfl) fun a S => leafL ⟨rfl, S⟩
 ·refine fJ [(58, _), (54, _)] 42 [some 41, some 37] fun G a w S => ?_
  exact sLoadV1 (vq := aG) 4 (.slice ac a0.Parents.length ae) S (wG 37 false 54 rfl rfl rfl a8) rfl rfl rfl rfl rfl (lb rfl) fun a S => leafL ⟨rfl, S⟩
 ·refine fJ [(1, _), (54, _)] 43 [none, some 37] fun G a w S => ?_
  exact sMove (.slice ad3 p1.length cp4) S (wG 37 false 54 rfl rfl rfl a8) (.inl rfl) rfl rfl (lb rfl) fun a S => leafL ⟨rfl, S⟩
 ·refine fJ [(5, _), (54, _)] 44 [none, some 37] fun G a w S => ?_
  exact sMove (iv a7) S (wG 37 false 54 rfl rfl rfl a8) (.inl rfl) rfl rfl (lb rfl) fun a S => leafL ⟨rfl, S⟩
 ·refine fJ [(60, _), (61, _), (54, _)] 45 [some 43, some 44, some 37] fun G a w S => ?_
  exact sIdxV S (wG 37 false 54 rfl rfl rfl a8) rfl rfl rfl bG rfl (lb rfl) fun a S => leafL ⟨rfl, S⟩
 ·refine fJ [(62, _), (54, _)] 46 [some 45, some 37] fun G a w S => ?_
  exact sFldV (q := aH) S (wG 37 false 54 rfl rfl rfl a8) rfl rfl bH rfl (lb rfl) fun a S => leafL ⟨rfl, S⟩
 ·refine fJ [(63, _), (54, _)] 47 [some 46, some 37] fun G a w S => ?_
  exact sLoadV1 (vq := aI) 0 (.slice af a4.Parents.length ag) S (wG 37 false 54 rfl rfl rfl a8) rfl rfl rfl rfl rfl (lb rfl) fun a S => leafL ⟨rfl, S⟩
 ·refine fJ [(59, _), (64, _), (54, _)] 48 [some 42, some 47, some 37] fun G a w S => ?_
  have S1 := S.mem
  refine sCallQ (X := Unit) (f := 18) (vs := [.slice ac a0.Parents.length ae, .slice af a4.Parents.length ag]) (val := fun _ => .bool a9) S (wG 37 false 54 rfl rfl rfl a8) rfl callee18 rfl (S1.quiet [5, 1] rfl) (fun E1 w1 S1 => c_raddleref26_SameInts E1 w1 a0.Parents (.slice ac a0.Parents.length ae) a4.Parents (.slice af a4.Parents.length ag) a9 bi S1) rfl (lb rfl) fun _ a w S => ?_
  exact leafL ⟨rfl, S⟩
 ·refine fJ [(65, _), (54, _)] 49 [some 48, some 37] fun G a w S => ?_
  exact sNot (b := a9) S (wG 37 false 54 rfl rfl rfl a8) rfl rfl rfl (lb rfl) fun a S => leafL ⟨rfl, S⟩
 ·refine fJ [(54, _), (66, _)] 50 [some 37, some 49] fun G a w S => ?_
  exact sPickF (.bool (!a9)) S (wN rfl) rfl rfl a8 rfl rfl (lb rfl) fun a S => leafL ⟨rfl, S⟩
 exact leafT (⟨!a9, Option.some.inj h, S.fix [] [32, 33] (by decide) rfl rfl rfl⟩)
theorem pars_short {s : api_Stitch} (h : okS s) (u : Nat) : ∀ ps, ps ∈ pars s u → ps.length ≤ 4 := by
 intro ps hps
 rcases knd h with ⟨b, rfl⟩ | ⟨b, rfl⟩ | rfl | ⟨b, a, h1, h2, rfl⟩ | ⟨b, a, h1, h2, rfl⟩ | ⟨b, a, h1, h2, rfl⟩ | ⟨k, b, a, c, hk, h1, h2, h3, h4, rfl⟩ | ⟨a, h1, h2, rfl⟩ | ⟨b, a, h1, h2, rfl⟩
 ·simp [pars] at hps; subst hps; simp
 ·simp [pars] at hps; subst hps; simp
 ·simp [pars] at hps; subst hps; simp
 ·simp [pars] at hps; subst hps; rw [ups_len]; omega
 ·simp [pars] at hps; subst hps; rw [List.length_reverse, ups_len]; omega
 ·simp [pars] at hps; obtain ⟨_, rfl⟩ := hps; simp
 ·have e : pars ⟨k, b, (a : Int), (c : Int)⟩ u = ((ups u (a + c)).drop a ++ (ups u (a + c)).take a).map fun x => [x] := by rcases hk with rfl | rfl <;> simp [pars]
  rw [e] at hps
  obtain ⟨x, hx, rfl⟩ := List.mem_map.1 hps
  simp
 ·simp [pars] at hps; obtain ⟨_, rfl⟩ := hps; simp
 ·simp [pars] at hps
structure Wfin (c : api_Chart) : Prop where
 inv : LInv c.Start.toNat (c.Rows.map faceR) c.Rows.length 0 (workC c).1
 rs : (workC c).2 = (List.range (c.Rows.length + 2)).map fun r => (off c.Start.toNat (c.Rows.map faceR) r : Int)
 ok : okF c.Start.toNat (c.Rows.map faceR)
 nr : c.Rows.length ≤ 100
 st : ((c.Start.toNat : Nat) : Int) = c.Start
 L : (workC c).1.L.length ≤ 20300
 B : (workC c).1.B.length ≤ 20300
 C : (workC c).1.C.length ≤ 720000
 par : ∀ l, l ∈ (workC c).1.L → l.Parents.length ≤ 4 ∧ l.Parents.Nodup
 once : once (workC c).1.L (workC c).1.B (workC c).1.u
 cinv : cinv (workC c).1.L (workC c).1.C (workC c).1.u
theorem wfin_of {c : api_Chart} (hk : chk c = 0) : Wfin c := by
 obtain ⟨hf, hl, hs⟩ := okF_of hk
 have hfl : (c.Rows.map faceR).length = c.Rows.length := List.length_map _
 obtain ⟨h1, ⟨h2, h3, h4⟩, h5⟩ := stC_all hf (fun k j z => (∀ l, l ∈ z.L → l.Parents.length ≤ 4 ∧ l.Parents.Nodup) ∧ once z.L z.B z.u ∧ cinv z.L z.C z.u) ⟨fun l hl => by
  simp only [zeroL, List.mem_map] at hl
  obtain ⟨_, _, rfl⟩ := hl; simp, once.start _, cinv.start _⟩ (fun k j hk hj z _ h => by
  have hok := (hf.2 k hk).1 _ (List.getElem_mem hj)
  refine ⟨fun l hl => ?_, h.2.1.step hok, h.2.2.step hok⟩
  simp only [stepW] at hl
  rcases List.mem_append.1 hl with hl | hl
  ·exact h.1 l hl
  ·simp only [mkL, List.mem_map] at hl
   obtain ⟨ps, hps, rfl⟩ := hl
   exact ⟨pars_short hok _ ps hps, (pars_bd hok _ ps hps).1⟩) (fun _ _ _ _ h => h) _ (Nat.le_refl _)
 have hbd := stC_bd hf _ (Nat.le_refl _)
 have hlen := h1.len
 have hu := h1.u
 have ho := off_le hf (r := c.Rows.length + 1) (by omega)
 have ho2 := off_le hf (r := c.Rows.length) (by omega)
 rw [← workC_eq hk] at h1 h2 h3 h4 h5 hbd hlen hu
 rw [hfl] at h1 hbd hlen hu h5
 have e1 : pm c.Start.toNat (c.Rows.map faceR) c.Rows.length 0 = off c.Start.toNat (c.Rows.map faceR) (c.Rows.length + 1) := by simp [pm, smN]
 have e2 : pu c.Start.toNat (c.Rows.map faceR) c.Rows.length 0 = off c.Start.toNat (c.Rows.map faceR) c.Rows.length := by simp [pu, smN]
 have hB := hbd.B
 have hC := hbd.C
 exact ⟨h1, h5, hf, hl, hs, by omega, by omega, by omega, h2, h3, h4⟩
theorem sameints_eq (a : List Int) (ha : a.length ≤ 1000000) : F_raddleref26_SameInts a a = some true := by
 have key : whileO (raddleref26_SameInts_l1 a a) 0 = some (.inr ()) := by
  refine loop_same a.length _ (fun k hk => ?_) ?_
  ·unfold raddleref26_SameInts_l1
   simp only [dT (show (k : Int) < (a.length : Int) by omega), if_true, idxO_nat hk, Option.bind_some, bne_self_eq_false, Bool.false_eq_true, if_false, w64_succ (show k < 9223372036854775807 by omega)]
  ·unfold raddleref26_SameInts_l1
   simp only [dF (show ¬ (a.length : Int) < (a.length : Int) by omega), Bool.false_eq_true, if_false]
 unfold F_raddleref26_SameInts
 rw [key]; simp
theorem same27_eq (a : List api_Loop) (ha : a.length ≤ 1000000) (hp : ∀ l, l ∈ a → l.Parents.length ≤ 1000000) : F_raddleref27_Same a a = some true := by
 have key : whileO (raddleref27_Same_l1 a a) 0 = some (.inr ()) := by
  refine loop_same a.length _ (fun k hk => ?_) ?_
  ·unfold raddleref27_Same_l1
   simp only [dT (show (k : Int) < (a.length : Int) by omega), if_true, idxO_nat hk, Option.bind_some, bne_self_eq_false, Bool.false_eq_true, if_false, sameints_eq _ (hp _ (List.getElem_mem hk)), Bool.not_true, w64_succ (show k < 9223372036854775807 by omega)]
  ·unfold raddleref27_Same_l1
   simp only [dF (show ¬ (a.length : Int) < (a.length : Int) by omega), Bool.false_eq_true, if_false]
 unfold F_raddleref27_Same
 rw [key]; simp
theorem rgreatS_eq (l : List api_Stitch) : ∃ b, F_raddleref25_Great l = some b := by
 unfold F_raddleref25_Great
 by_cases h1 : (60 : Int) < (l.length : Int)
 ·simp only [dT h1, if_true]; repeat' split
  all_goals exact ⟨_, rfl⟩
 ·simp only [dF h1, Bool.false_eq_true, if_false]; repeat' split
  all_goals exact ⟨_, rfl⟩
theorem rgreat26_eq (c : api_Chart) : ∃ b, F_raddleref26_Great c = some b := by
 have key : ∃ t, whileO (raddleref26_Great_l1 c) 0 = some t ∧ (t = .inr () ∨ t = .inl true) := by
  refine loop_ix (Nat.min c.Rows.length 150) (fun _ => True) _ trivial ?_ ?_
  ·intro k hk _
   have h1 : k < c.Rows.length := Nat.lt_of_lt_of_le hk (Nat.min_le_left _ _)
   have h2 : k < 150 := Nat.lt_of_lt_of_le hk (Nat.min_le_right _ _)
   obtain ⟨b, hb⟩ := rgreatS_eq c.Rows[k].Cells
   unfold raddleref26_Great_l1
   simp only [dT (show (k : Int) < (c.Rows.length : Int) by omega), if_true, dT (show (k : Int) < 150 by omega), Option.bind_some, idxO_nat h1, hb, w64_succ (show k < 9223372036854775807 by omega)]
   cases b with
   | true => exact .inr ⟨_, rfl, .inr rfl⟩
   | false => exact .inl ⟨rfl, trivial⟩
  ·intro _
   refine ⟨.inr (), ?_, .inl rfl⟩
   unfold raddleref26_Great_l1
   by_cases h : c.Rows.length ≤ 150
   ·rw [show Nat.min c.Rows.length 150 = c.Rows.length from Nat.min_eq_left h]
    simp only [dF (show ¬ (c.Rows.length : Int) < (c.Rows.length : Int) by omega), Bool.false_eq_true, if_false, Option.bind_some]
   ·rw [show Nat.min c.Rows.length 150 = 150 from Nat.min_eq_right (by omega)]
    simp only [dT (show ((150 : Nat) : Int) < (c.Rows.length : Int) by omega), if_true, dF (show ¬ ((150 : Nat) : Int) < 150 by omega), Bool.false_eq_true, if_false, Option.bind_some]
 obtain ⟨t, h1, h2⟩ := key
 unfold F_raddleref26_Great
 rw [h1]
 rcases h2 with rfl | rfl
 ·simp only [Option.bind_some]
  by_cases h1 : (12 : Int) < (c.Rows.length : Int)
  ·by_cases h2 : (c.Rows.length : Int) ≤ 100
   ·simp only [dT h1, dT h2, if_true, Option.bind_some]; exact ⟨_, rfl⟩
   ·simp only [dT h1, dF h2, if_true, Bool.false_eq_true, if_false, Option.bind_some]; exact ⟨_, rfl⟩
  ·simp only [dF h1, Bool.false_eq_true, if_false, Option.bind_some]; exact ⟨_, rfl⟩
 ·exact ⟨_, rfl⟩
def anc_chart_twin_0 : List (List Nat) := [[], [], [0, 1], [0, 1, 2], [0, 1, 2, 3], [], [5], [0, 1, 2, 3, 4, 5, 6]]
noncomputable def chart_twin_l1 (p0 : (List api_Row)) : (List api_Row × Int) → Option ((List api_Row × Int) ⊕ List api_Row) := fun s0 => match s0 with
 | (a4, a0) =>
  if decide (a0 < (p0.length : Int)) then
   (idxO p0 a0).bind fun a5 =>
   (makeO (a5.Cells.length : Int) (api_Stitch.mk 0 false 0 0)).bind fun a6 =>
   (idxO a4 a0).bind fun a7 =>
   (setO a4 a0 (api_Row.mk a7.Back (cpO a6 a5.Cells))).bind fun a8 =>
   some (.inl (a8, w64 (a0 + 1)))
  else
   some (.inr a4)
noncomputable def F_chart_twin (p0 : (List api_Row)) : Option (List api_Row) :=
 (makeO (p0.length : Int) (api_Row.mk false ([] : (List api_Stitch)))).bind fun m7 =>
 Option.bind (α := List api_Row) (
  (whileO (chart_twin_l1 p0) (cpO m7 p0, 0)).bind fun a0 =>
   some a0) fun a4 =>
 some a4
def c_chart_twin_val (r : (List api_Row)) (x : Value) : Value := x
def c_chart_twin_D (r : (List api_Row)) (x : Value) : List Fact := [fRep (rL r_api_Row) x r]
theorem c_chart_twin (E : Nat → Prop) (w0 : World) (p0 : (List api_Row)) (v0 : Value) (r : (List api_Row)) (h : F_chart_twin p0 = some r) (S : St0 E [] w0 w0 [] [fRep (rL r_api_Row) (v0) p0]) :
 Calls Try.prog 40 #[v0] w0 (Ret (X := Value) E [] w0 (c_chart_twin_val r) (fun _ => []) (c_chart_twin_D r)) := by
 unfold F_chart_twin at h
 obtain ⟨ad1, cp2, _, rfl, _⟩ := S.know (i := 0) (e := fRep (rL r_api_Row) (v0) p0) rfl
 refine sEnter (args := [.slice ad1 p0.length cp2]) 37 Try.func40 rfl rfl (by simp) S (fun a S => ?_)
 refine sSeq (fun K3 hK3 => sRegion (sN S fun a S => ?_))
 refine lT (hK3 _ _ (sSeq (fun K4 hK4 => sRegion (sM S fun a S => ?_))))
 refine sLen S (wN rfl) rfl Try.underlying22 rfl rfl (lb rfl) fun a S => ?_
 obtain ⟨m7, hx8, h⟩ := bS h
 refine sMakeG (r := r_api_Row) (m := (p0.length : Int)) (xs := m7) (.agg #[.bool false, .slice none 0 0]) (api_Row.mk false ([] : (List api_Stitch))) 32 S (wN rfl) rfl Try.underlying22 rfl (by decide) (fun E w => ⟨_, rfl, rL_nil _ E w⟩) rfl rfl hx8 rfl (lb rfl) fun a w ad5 cp6 S => ?_
 refine sN S fun a S => ?_
 refine lT (hK4 _ _ (sSeq (fun K9 hK9 => sRegion (sM S fun a S => ?_))))
 refine sM S fun a S => ?_
 refine sCopyR (r := r_api_Row) (T := 65) (xs := m7) (ys := p0) (v := .slice ad5 m7.length cp6) (u := .slice ad1 p0.length cp2) 0 0 S (wN rfl) rfl Try.underlying22 rfl rfl rfl rfl rfl rfl (lb rfl) fun a w S => ?_
 rw [cpO_v m7 p0 ad5 cp6] at S
 refine lT (hK9 _ _ ?_)
 obtain ⟨aO, h, aP⟩ := bS h
 refine sCut (fun a w => ∃ ab, ab = aO ∧ St [] E [] w0 37 a w [(3, .slice ad5 ab.length cp6)] [eRow r_api_Row 65 (.slice ad5 ab.length cp6) ab] []) ?_ (fun a w hI => ?_)
 rotate_left
 ·obtain ⟨ab, rfl, S⟩ := hI
  have h := aP
  try dsimp only at h
  refine sSeq (fun aV ai => sRegion (sM S fun a S => ?_))
  refine sN S fun a S => ?_
  refine lT (ai _ _ ?_)
  obtain rfl := tS h
  have S := S.shutR (r := r_api_Row) (T := 65) (v := .slice ad5 ab.length cp6) (xs := ab) 0 rfl
  exact wp_ret (sRet (.slice ad5 ab.length cp6) S (rsl1 rfl (rvT (t := 2) (v := .slice ad5 ab.length cp6) S rfl)) ⟨(.slice ad5 ab.length cp6), rfl, S.mem.sel [] [0] (by decide) rfl rfl⟩)
 refine sSeq (fun aW aj => sRegion (sM S fun a S => ?_))
 refine sLen S (wN rfl) rfl Try.underlying22 rfl rfl (lb rfl) fun a S => ?_
 refine sM S fun a S => ?_
 refine lT (aj _ _ (wp_block ?_))
 obtain ⟨aX, hl, aQ⟩ := bS h
 refine sLoop hl (fun s0 a w => match s0 with | (a6, aa) => St [] E [] w0 37 a w [(3, .slice ad5 a6.length cp6), (12, .slice ad1 p0.length cp2), (13, iv (p0.length : Int)), (14, iv aa)] [eRow r_api_Row 65 (.slice ad5 a6.length cp6) a6] [fRep (rL r_api_Row) (.slice ad1 p0.length cp2) p0]) (S.fix [0] [0] (by decide) rfl rfl rfl) ?_
 clear hl h
 intro s0 a w c0 hI h ak
 obtain ⟨a6, aa⟩ := s0
 unfold chart_twin_l1 at h
 dsimp only at h hI
 have S := hI
 refine sSeq (fun aZ al => sRegion (sBin _ S (wN rfl) rfl rfl rfl (bLt _ _ _ _ .i64 aa (p0.length : Int)) rfl (lb rfl) fun a S => ?_))
 refine lT (al _ _ (sSeq (fun ba am => ?_)))
 rcases iS h with ⟨ae, h⟩ | ⟨ae, h⟩
 rotate_left
 ·refine sCondF S rfl ae ?_
  obtain rfl := tS h
  obtain rfl := ak _ rfl
  have h := aQ
  try dsimp only at h
  exact wp_exit (xThen (xThen (xHit (leafT (⟨a6, Option.some.inj h, S.fix [0] [] (by decide) rfl rfl rfl⟩)))))
 refine sCondT S rfl ae ?_
 refine wp_skip (leafT (am _ _ ?_))
 refine sSeq (fun bb ao => wp_block ?_)
 refine sSeq (fun bc ap => sRegion (sM S fun a S => ?_))
 obtain ⟨a0, aq, h⟩ := bS h
 obtain ⟨aJ, ar, S⟩ := pIdx (P := Try.prog) (r := r_api_Row) (v := .slice ad1 p0.length cp2) (xs := p0) (j := aa) 22 65 0 S Try.underlying22 rfl rfl aq
 refine sIdxV S (wN rfl) rfl rfl rfl ar rfl (lb rfl) fun a S => ?_
 obtain ⟨aR, S⟩ := pLoad (r := r_api_Row) (q := aJ) (x := a0) 0 S rfl
 obtain ⟨aS, rfl, af⟩ := S.mem.know (i := 1) (e := fRep r_api_Row (aR) a0) rfl
 have S := S.learn (fRep (rL r_api_Stitch) aS a0.Cells) af
 obtain ⟨a7, a8, _, rfl, _⟩ := af
 refine sLoadVN (vq := aJ) 1 [.bool a0.Back, .slice a7 a0.Cells.length a8] S (wN rfl) rfl rfl rfl rfl rfl rfl (lb rfl) fun a S => ?_
 refine sAlloc (.agg #[.bool false, .slice none 0 0]) S (wN rfl) rfl rfl [.bool false, .slice none 0 0] rfl rfl (lb rfl) fun a ah w S => ?_
 refine sN S fun a S => ?_
 refine sStore (p := ah) (off := 0) (T := 65) (vs := [.bool false, .slice none 0 0]) (v := .agg #[.bool a0.Back, .slice a7 a0.Cells.length a8]) 0 [.bool a0.Back, .slice a7 a0.Cells.length a8] S (wN rfl) rfl rfl rfl rfl rfl rfl rfl (by simp) rfl fun a w S => ?_
 refine lT (ap _ _ (sSeq (fun bf au => sRegion (sM S fun a S => ?_))))
 refine sM S fun a S => ?_
 refine sField (b := ah) (off := 0) 1 1 S (wN rfl) rfl rfl rfl rfl rfl (lb rfl) fun a S => ?_
 refine sLoad1 0 (.slice a7 a0.Cells.length a8) S (wN rfl) rfl rfl rfl rfl rfl rfl (lb rfl) fun a S => ?_
 refine sLen S (wN rfl) rfl Try.underlying62 rfl rfl (lb rfl) fun a S => ?_
 obtain ⟨a9, av, h⟩ := bS h
 refine sMakeG (r := r_api_Stitch) (m := (a0.Cells.length : Int)) (xs := a9) (.agg #[.int .u8 0, .bool false, iv 0, iv 0]) (api_Stitch.mk 0 false 0 0) 24 S (wN rfl) rfl Try.underlying62 rfl (by decide) (fun _ _ => rfl) rfl rfl av rfl (lb rfl) fun a w a4 a5 S => ?_
 obtain ⟨aw, ac, h⟩ := bS h
 obtain ⟨aT, ax, ay⟩ := pIdxR (P := Try.prog) (r := r_api_Row) (T := 65) (v := .slice ad5 a6.length cp6) (xs := a6) (j := aa) 22 65 2 S Try.underlying22 rfl rfl ac
 refine sIdxV S (wN rfl) rfl rfl rfl ax rfl (lb rfl) fun a S => ?_
 obtain ⟨aU, az, aA⟩ := pFldR (P := Try.prog) 65 1 1 ay rfl
 refine sFldV (q := aT) S (wN rfl) rfl rfl az rfl (lb rfl) fun a S => ?_
 refine sStoreH (r := r_api_Row) (T := 65) (xs := a6) (x := aw) (v := .slice ad5 a6.length cp6) (vq := aU) (u := .slice a4 a9.length a5) (j := aa) 2 1 S aA (wN rfl) rfl rfl rfl rfl ac (lb rfl) rfl rfl rfl rfl fun a w S => ?_
 refine lT (au _ _ ?_)
 obtain ⟨aK, ag, h⟩ := bS h
 obtain ⟨aL, aC, aG⟩ := pIdxH (P := Try.prog) (r := r_api_Row) (T := 65) (v := .slice ad5 a6.length cp6) (xs := a6) (j := aa) 22 65 0 S Try.underlying22 rfl rfl ac
 obtain ⟨aM, aH, aI⟩ := pFldR (P := Try.prog) 65 1 1 aG rfl
 refine sDraw (nf := [7]) (W := [(0, 27, .slice ad5 a6.length cp6), (1, 28, iv aa), (2, 29, aL), (3, 30, aM), (4, 31, .slice a4 a9.length a5), (5, 32, .pointer (some ⟨ah, 1, none⟩)), (6, 33, .slice a7 a0.Cells.length a8)]) rfl S ?_
 refine node_by (A := anc_chart_twin_0) 8 (by kernel_rfl) (by kernel_rfl) (by kernel_rfl) (by kernel_rfl) (by kernel_rfl) [0, 1, 2, 3, 4, 5, 6] (by kernel_rfl) (by decide) (by decide) (fF ?_ (fF ?_ (fF ?_ (fF ?_ (fF ?_ (fF ?_ (fF ?_ (fN ?_ (trivial))))))))) [] (fun q hq => by cases hq) (fun hY => absurd (hY 7 (by decide)) (by decide))
 ·exact fM 0 none rfl rfl rfl rfl (.inl rfl) rfl rfl rfl
 ·exact fM 1 none rfl rfl rfl rfl (.inl rfl) rfl rfl rfl
 ·refine fJ [(27, _), (28, _)] 2 [some 0, some 1] fun G a w S => ?_
  exact sIdxV S (wN rfl) rfl rfl rfl aC rfl (lb rfl) fun a S => leafL ⟨rfl, S⟩
 ·refine fJ [(29, _)] 3 [some 2] fun G a w S => ?_
  exact sFldV (q := aL) S (wN rfl) rfl rfl aH rfl (lb rfl) fun a S => leafL ⟨rfl, S⟩
 ·refine fJ [(30, _)] 4 [some 3] fun G a w S => ?_
  exact sLoadH (r := r_api_Row) (T := 65) (xs := a6) (u := .slice a4 a9.length a5) (v := .slice ad5 a6.length cp6) (vq := aM) (j := aa) 0 1 S aI (wN rfl) rfl rfl rfl rfl rfl (lb rfl) fun a S => leafL ⟨rfl, S⟩
 ·refine fJ [(5, _)] 5 [none] fun G a w S => ?_
  exact sField (b := ah) (off := 0) 1 1 S (wN rfl) rfl rfl rfl rfl rfl (lb rfl) fun a S => leafL ⟨rfl, S⟩
 ·refine fJ [(32, _)] 6 [some 5] fun G a w S => ?_
  exact sLoad1 2 (.slice a7 a0.Cells.length a8) S (wN rfl) rfl rfl rfl rfl rfl rfl (lb rfl) fun a S => leafL ⟨rfl, S⟩
 refine ⟨_, [(31, .slice a4 a9.length a5), (33, .slice a7 a0.Cells.length a8)], rfl, (srcs_of [some 4, some 6] rfl rfl rfl), fun G a w S => ?_⟩
 refine sCopyR (r := r_api_Stitch) (T := 61) (xs := a9) (ys := a0.Cells) (v := .slice a4 a9.length a5) (u := .slice a7 a0.Cells.length a8) 1 0 S (wN rfl) rfl Try.underlying62 rfl rfl rfl rfl rfl rfl (lb rfl) fun a w S => ?_
 refine leafL ⟨rfl, _, _, .inl ⟨34, (iv ((Nat.min a0.Cells.length a9.length : Nat) : Int)), [], rfl, S, hz_of rfl, ?_⟩⟩
 refine node_by (A := anc_chart_twin_0) 8 (by kernel_rfl) (by kernel_rfl) (by kernel_rfl) (by kernel_rfl) (by kernel_rfl) [7, 0, 1, 2, 3, 4, 5, 6] (by kernel_rfl) (by decide) (by decide) (fD 7 (fD 7 (fD 7 (fD 7 (fD 7 (fD 7 (fD 7 (fY (trivial))))))))) [(3, .slice ad5 a6.length cp6), (12, .slice ad1 p0.length cp2), (13, iv (p0.length : Int)), (14, iv aa)] (fin_of [none, none, none, none] rfl (by kernel_rfl) (by kernel_rfl)) (fun _ a w S => ?_)
 rw [cpO_v a9 a0.Cells a4 a5] at S
 have S := S.shutR (r := r_api_Stitch) (T := 61) (v := .slice a4 (cpO a9 a0.Cells).length a5) (xs := (cpO a9 a0.Cells)) 0 rfl
 have S := S.closeH (r := r_api_Row) (s := (rL r_api_Stitch)) (T := 65) (xs := a6) (ys := aK) (x := aw) (y := (api_Row.mk aw.Back (cpO a9 a0.Cells))) (z := (cpO a9 a0.Cells)) (v := .slice ad5 a6.length cp6) (u := .slice a4 (cpO a9 a0.Cells).length a5) (j := aa) 0 1 rfl (S.mem.know (i := 0) (e := fRep (rL r_api_Stitch) (.slice a4 (cpO a9 a0.Cells).length a5) (cpO a9 a0.Cells)) rfl) rfl (lb rfl) ac (upd_api_Row_Cells _ _) ag
 rw [setO_v ag ad5 cp6] at S
 refine leafB (leafT (ao _ _ ?_))
 refine sRegion (sBin _ S (wN rfl) rfl rfl rfl (bAdd _ _ _ _ aa 1) rfl (lb rfl) fun a S => ?_)
 refine sM S fun a S => ?_
 exact lT (⟨(aK, w64 (aa + 1)), (Option.some.inj h).symm, (S.fix [0] [5] (by decide) rfl rfl rfl)⟩)
noncomputable def chart_Counts_l2  : List Int → (Int × chart_count) → Option (List Int ⊕ Empty) := fun s0 x0 => match s0, x0 with
 | a0, (a6, a4) =>
  (appO a0 ([a4.after] : List Int)).bind fun a5 =>
  some (.inl a5)
noncomputable def F_chart_Counts (p0 : api_Chart) : Option ((List Int) × Int) :=
 (F_chart_Check p0).bind fun r9 =>
 if r9 != 0 then
  some (([] : (List Int)), r9)
 else
  (F_chart_counted p0).bind fun a0 =>
  (I_chart_counted_1 a0 _ _ (chart_Counts_l2) ([p0.Start] : List Int)).bind fun z0 => match z0 with
   | .inl a4 =>
    some (a4, 0)
   | .inr z0 =>
    nomatch z0
def c_chart_Counts_val (r : ((List Int) × Int)) (x : Value) : Value := .tuple #[x, .int .i64 r.2]
def c_chart_Counts_D (r : ((List Int) × Int)) (x : Value) : List Fact := [fRep (rL (rI .i64)) x r.1]
theorem c_chart_Counts (E : Nat → Prop) (w0 : World) (p0 : api_Chart) (v0 : Value) (r : ((List Int) × Int)) (h : F_chart_Counts p0 = some r) (S : St0 E [] w0 w0 [] [fRep r_api_Chart (v0) p0]) :
 Calls Try.prog 31 #[v0] w0 (Ret (X := Value) E [] w0 (c_chart_Counts_val r) (fun _ => []) (c_chart_Counts_D r)) := by
 unfold F_chart_Counts at h
 obtain ⟨u1, rfl, hu2⟩ := S.know (i := 0) (e := fRep r_api_Chart (v0) p0) rfl
 have S := S.learn (fRep (rL r_api_Row) u1 p0.Rows) hu2
 obtain ⟨ad3, cp4, _, rfl, _⟩ := hu2
 refine sEnterM (args := [.agg #[iv p0.Start, .slice ad3 p0.Rows.length cp4]]) 26 Try.func31 rfl rfl (by simp) S (fun a S => ?_)
 refine sSeq (fun K5 hK5 => sRegion (sBox (v := .agg #[iv p0.Start, .slice ad3 p0.Rows.length cp4]) S (wN rfl) rfl rfl [iv p0.Start, .slice ad3 p0.Rows.length cp4] rfl rfl (lb rfl) fun a b6 w S => ?_))
 refine sN S fun a S => ?_
 refine sN S fun a S => ?_
 refine lT (hK5 _ _ (sSeq (fun K7 hK7 => sSeq (fun K8 hK8 => sRegion (sLoadN (p := b6) (off := 0) (T := 24) (vs := [iv p0.Start, .slice ad3 p0.Rows.length cp4]) 0 [iv p0.Start, .slice ad3 p0.Rows.length cp4] S (wN rfl) rfl rfl rfl rfl rfl rfl rfl (lb rfl) fun a S => ?_)))))
 obtain ⟨r9, aj, h⟩ := bS h
 have S1 := S.mem
 refine sCq [.agg #[iv p0.Start, .slice ad3 p0.Rows.length cp4]] (iv r9) S callee39 (S1.quiet [1] rfl) (fun E1 w1 S1 => c_chart_Check E1 w1 p0 (.agg #[iv p0.Start, .slice ad3 p0.Rows.length cp4]) r9 aj S1) fun a w S => ?_
 refine sN S fun a S => ?_
 refine lT (hK8 _ _ (sSeq (fun aG ak => sRegion (sM S fun a S => ?_))))
 refine sBin _ S (wN rfl) rfl rfl rfl (bNe _ _ _ _ .i64 r9 0) rfl (lb rfl) fun a S => ?_
 refine lT (ak _ _ ?_)
 rcases iS h with ⟨aa, h⟩ | ⟨aa, h⟩
 ·refine sCondT S rfl aa ?_
  refine sSeq (fun aH al => sRegion (sM S fun a S => ?_))
  refine sN S fun a S => ?_
  refine sN S fun a S => ?_
  refine lT (al _ _ ?_)
  obtain rfl := tS h
  have S := S.learn (fRep (rL (rI .i64)) (.slice none 0 0) ([] : (List Int))) (rL_nil _ _ _)
  exact wp_ret (rThen (sRetM0 (.tuple #[.slice none 0 0, iv r9]) S (rsl2 rfl (rvT (t := 2) (v := .slice none 0 0) S rfl) (rvT (t := 3) (v := iv r9) S rfl)) ⟨(.slice none 0 0), rfl, S.mem.sel [] [0] (by decide) rfl rfl⟩))
 refine sCondF S rfl aa ?_
 refine wp_skip (leafT (hK7 _ _ ?_))
 refine sSeq (fun aI am => sRegion (sField (b := b6) (off := 0) 0 0 S (wN rfl) rfl rfl rfl rfl rfl (lb rfl) fun a S => ?_))
 refine sLoad1 0 (iv p0.Start) S (wN rfl) rfl rfl rfl rfl rfl rfl (lb rfl) fun a S => ?_
 refine sLit (r := (rI .i64)) (T := 3) (xs := ([p0.Start] : List Int)) [(0, iv p0.Start)] 1 [iv p0.Start] [iv p0.Start] (iv 0) 8 S (wN rfl) rfl rfl Try.underlying32 rfl (by decide) (by decide) (by kernel_rfl) rfl (fun E1 w1 hE => All.cons rfl (All.nil _ _ _)) rfl rfl (lb rfl) fun a w a7 a8 S => ?_
 refine sAlloc (.slice none 0 0) S (wN rfl) rfl rfl [.slice none 0 0] rfl rfl (lb rfl) fun a a9 w S => ?_
 refine sStore (p := a9) (off := 0) (T := 32) (vs := [.slice none 0 0]) (v := .slice a7 ([p0.Start] : List Int).length a8) 0 [.slice a7 ([p0.Start] : List Int).length a8] S (wN rfl) rfl rfl rfl rfl rfl rfl rfl (by simp) rfl fun a w S => ?_
 refine lT (am _ _ (sSeq (fun aJ ao => sSeq (fun aK ap => sRegion (sLoadN (p := b6) (off := 0) (T := 24) (vs := [iv p0.Start, .slice ad3 p0.Rows.length cp4]) 2 [iv p0.Start, .slice ad3 p0.Rows.length cp4] S (wN rfl) rfl rfl rfl rfl rfl rfl rfl (lb rfl) fun a S => ?_)))))
 obtain ⟨ab, aq, h⟩ := bS h
 refine sCall (X := Value) (f := 42) (vs := [.agg #[iv p0.Start, .slice ad3 p0.Rows.length cp4]]) (val := c_chart_counted_val ab) (B' := fun _ => []) (D' := c_chart_counted_D ab) [] [eBox a9 32 [.slice a7 ([p0.Start] : List Int).length a8], eRow (rI .i64) 3 (.slice a7 ([p0.Start] : List Int).length a8) ([p0.Start] : List Int), eBox b6 24 [iv p0.Start, .slice ad3 p0.Rows.length cp4]] [fRep r_api_Chart (.agg #[iv p0.Start, .slice ad3 p0.Rows.length cp4]) p0] [0, 1, 2] [1] S (wN rfl) rfl callee42 rfl (by decide) rfl rfl (fun E1 w1 S1 => c_chart_counted E1 w1 p0 (.agg #[iv p0.Start, .slice ad3 p0.Rows.length cp4]) ab aq S1) rfl (lb rfl) fun ah a w S => ?_
 refine lT (ap _ _ (wp_block ?_))
 obtain ⟨aL, ac, ai⟩ := bS h
 replace S : St [] E [] w0 26 a w [(5, .pointer (some ⟨a9, 0, none⟩)), (17, .func (.func 52) #[] #[ah])] [eBox a9 32 [.slice a7 ([p0.Start] : List Int).length a8], eRow (rI .i64) 3 (.slice a7 ([p0.Start] : List Int).length a8) ([p0.Start] : List Int)] [fPtr r_api_Chart (ah) ab] := S.fix [0, 1] [0] (by decide) rfl rfl rfl
 refine sRange2 (B := chart_Counts_l2) (fun s0 L D => match s0 with | a5 => ∃ a0, ∃ a4, L = [eBox a9 32 [.slice a0 a5.length a4], eRow (rI .i64) 3 (.slice a0 a5.length a4) a5] ∧ D = [fPtr r_api_Chart (ah) ab]) (fun _ _ _ _ => False) [0] S ac rfl callee52 (it_chart_counted_1 ab ah) rfl (by decide) (by decide) ⟨a7, a8, rfl, rfl⟩ ?_ ?_ ?_
 ·intro E l0 a5 ay a6 az aA b L D K a w0 hK hIL hB S
  clear ac ai h hK
  unfold chart_Counts_l2 at hB
  dsimp only at hB hIL
  obtain ⟨a0, a4, rfl, rfl⟩ := hIL
  have h := hB
  clear hB
  obtain rfl : az = iv ay := S.mem.know (i := 0) (e := fRep (rI .i64) (az) ay) rfl
  obtain rfl : aA = .agg #[iv a6.before, iv a6.after, iv a6.e] := S.mem.know (i := 1) (e := fRep r_chart_count (aA) a6) rfl
  refine sRegionR (by repeat (first | exact roundU_out | exact it_out | exact lo_false | refine lo_then ?_ | refine lo_block ?_)) rfl ?_
  refine sAlloc (.agg #[iv 0, iv 0, iv 0]) S (wN rfl) rfl rfl [iv 0, iv 0, iv 0] rfl rfl (lb rfl) fun a aC w S => ?_
  refine sStore (p := aC) (off := 0) (T := 89) (vs := [iv 0, iv 0, iv 0]) (v := .agg #[iv a6.before, iv a6.after, iv a6.e]) 0 [iv a6.before, iv a6.after, iv a6.e] S (wN rfl) rfl rfl rfl rfl rfl rfl rfl (by simp) rfl fun a w S => ?_
  refine lT (⟨_, _, _, S, fun K a w0 hK S => ?_⟩)
  refine wpIn_block ?_
  refine sRegionR (by repeat (first | exact roundU_out | exact it_out | exact lo_false | refine lo_then ?_ | refine lo_block ?_)) rfl ?_
  refine sLoad1 1 (.slice a0 a5.length a4) S (wN rfl) rfl rfl rfl rfl rfl rfl (lb rfl) fun a S => ?_
  refine sField (b := aC) (off := 0) 1 1 S (wN rfl) rfl rfl rfl rfl rfl (lb rfl) fun a S => ?_
  refine sLoad1 0 (iv a6.after) S (wN rfl) rfl rfl rfl rfl rfl rfl (lb rfl) fun a S => ?_
  refine sLit (r := (rI .i64)) (T := 3) (xs := ([a6.after] : List Int)) [(0, iv a6.after)] 1 [iv a6.after] [iv a6.after] (iv 0) 8 S (wN rfl) rfl rfl Try.underlying32 rfl (by decide) (by decide) (by kernel_rfl) rfl (fun E1 w1 hE => All.cons rfl (All.nil _ _ _)) rfl rfl (lb rfl) fun a w ar au S => ?_
  obtain ⟨av, aw, h⟩ := bS h
  refine sApp (r := (rI .i64)) (T := 3) (xs := a5) (ys := ([a6.after] : List Int)) (v := .slice a0 a5.length a4) (u := .slice ar ([a6.after] : List Int).length au) 3 (iv 0) 8 S (wN rfl) rfl Try.underlying32 rfl rfl (by decide) rfl rfl rfl (src_R (T := 3) 0 S.mem rfl) aw rfl (lb rfl) fun a w ae af S => ?_
  refine sStore (p := a9) (off := 0) (T := 32) (vs := [.slice a0 a5.length a4]) (v := .slice ae av.length af) 3 [.slice ae av.length af] S (wN rfl) rfl rfl rfl rfl rfl rfl rfl (by simp) rfl fun a w S => ?_
  exact leafL (leafB (rnN av _ _ [] (Option.some.inj h) ⟨ae, af, rfl, rfl⟩ (S.fix [0, 1] [2] (by decide) rfl rfl rfl)))
 ·intro ag a5 L D a w hr hIL S
  clear h
  obtain rfl := hr
  dsimp only at ai hIL
  obtain ⟨a0, a4, rfl, rfl⟩ := hIL
  have h := ai
  clear ai ac
  replace S : St [mark ag] E [] w0 26 a w [(5, .pointer (some ⟨a9, 0, none⟩)), (17, .func (.func 52) #[] #[ah])] [eBox a9 32 [.slice a0 a5.length a4], eRow (rI .i64) 3 (.slice a0 a5.length a4) a5, eDef ag] [fPtr r_api_Chart (ah) ab] := S
  refine leafB (leafT (ao _ _ ?_))
  refine sSeq (fun aM ax => sRegion (sLoad1 0 (.slice a0 a5.length a4) S (wN rfl) rfl rfl rfl rfl rfl rfl (lb rfl) fun a S => ?_))
  refine sN S fun a S => ?_
  refine sN S fun a S => ?_
  refine lT (ax _ _ (wp_ret (sRetM1 2 S rfl (fun a w S => ?_))))
  obtain rfl := tS h
  have S := S.shutR (r := (rI .i64)) (T := 3) (v := .slice a0 a5.length a4) (xs := a5) 1 rfl
  exact sFin (.tuple #[.slice a0 a5.length a4, iv 0]) S (rsl2 rfl (rvT (t := 2) (v := .slice a0 a5.length a4) S rfl) (rvT (t := 3) (v := iv 0) S rfl)) ⟨(.slice a0 a5.length a4), rfl, S.mem.sel [] [0] (by decide) rfl rfl⟩
 ·intro ag c0 t0 L D a w hr hIX S
  clear h
  exact hIX.elim
def anc_chart_Part_0 : List (List Nat) := [[], [], [0, 1], [0, 1, 2], [], [4], [], [], [4, 5, 6, 7], [4, 5, 6, 7, 8], [0, 1, 2, 3, 4, 5, 6, 7, 8, 9], [0, 1, 2, 3, 4, 5, 6, 7, 8, 9, 10], [0, 1, 2, 3, 4, 5, 6, 7, 8, 9, 10, 11]]
noncomputable def F_chart_Part (p0 : api_Chart) (p1 : Int) (p2 : Int) : Option (api_Chart × Int) :=
 (F_chart_Counts p0).bind fun r9 =>
 if r9.2 != 0 then
  some ((api_Chart.mk 0 ([] : (List api_Row))), r9.2)
 else
  Option.bind (α := Bool) (
   if decide (p1 < 0) then
    some true
   else
    if decide (p2 < p1) then
     some true
    else
     some (decide ((p0.Rows.length : Int) < p2))) fun a0 =>
  if a0 then
   some ((api_Chart.mk 0 ([] : (List api_Row))), 2)
  else
   (idxO r9.1 p1).bind fun a4 =>
   (sliceO p0.Rows p1 p2).bind fun a5 =>
   (F_chart_twin a5).bind fun a6 =>
   some ((api_Chart.mk a4 a6), 0)
def c_chart_Part_val (r : (api_Chart × Int)) (x : Value) : Value := .tuple #[x, .int .i64 r.2]
def c_chart_Part_D (r : (api_Chart × Int)) (x : Value) : List Fact := [fRep r_api_Chart x r.1]
theorem c_chart_Part (E : Nat → Prop) (w0 : World) (p0 : api_Chart) (v0 : Value) (p1 : Int) (p2 : Int) (r : (api_Chart × Int)) (h : F_chart_Part p0 p1 p2 = some r) (S : St0 E [] w0 w0 [] [fRep r_api_Chart (v0) p0]) :
 Calls Try.prog 29 #[v0, iv p1, iv p2] w0 (Ret (X := Value) E [] w0 (c_chart_Part_val r) (fun _ => []) (c_chart_Part_D r)) := by
 unfold F_chart_Part at h
 obtain ⟨u1, rfl, hu2⟩ := S.know (i := 0) (e := fRep r_api_Chart (v0) p0) rfl
 have S := S.learn (fRep (rL r_api_Row) u1 p0.Rows) hu2
 obtain ⟨ad3, cp4, _, rfl, _⟩ := hu2
 refine sEnter (args := [.agg #[iv p0.Start, .slice ad3 p0.Rows.length cp4], iv p1, iv p2]) 45 Try.func29 rfl rfl (by simp) S (fun a S => ?_)
 refine sSeq (fun K5 hK5 => sRegion (sBox (v := .agg #[iv p0.Start, .slice ad3 p0.Rows.length cp4]) S (wN rfl) rfl rfl [iv p0.Start, .slice ad3 p0.Rows.length cp4] rfl rfl (lb rfl) fun a b6 w S => ?_))
 refine sAlloc (.agg #[iv 0, .slice none 0 0]) S (wN rfl) rfl rfl [iv 0, .slice none 0 0] rfl rfl (lb rfl) fun a b7 w S => ?_
 refine sN S fun a S => ?_
 refine lT (hK5 _ _ (sSeq (fun K8 hK8 => sRegion (sLoadN (p := b6) (off := 0) (T := 24) (vs := [iv p0.Start, .slice ad3 p0.Rows.length cp4]) 1 [iv p0.Start, .slice ad3 p0.Rows.length cp4] S (wN rfl) rfl rfl rfl rfl rfl rfl rfl (lb rfl) fun a S => ?_))))
 obtain ⟨r9, aj, h⟩ := bS h
 refine sCall (X := Value) (f := 31) (vs := [.agg #[iv p0.Start, .slice ad3 p0.Rows.length cp4]]) (val := c_chart_Counts_val r9) (B' := fun _ => []) (D' := c_chart_Counts_D r9) [] [eBox b7 24 [iv 0, .slice none 0 0], eBox b6 24 [iv p0.Start, .slice ad3 p0.Rows.length cp4]] [fRep r_api_Chart (.agg #[iv p0.Start, .slice ad3 p0.Rows.length cp4]) p0] [0, 1] [1] S (wN rfl) rfl callee31 rfl (by decide) rfl rfl (fun E1 w1 S1 => c_chart_Counts E1 w1 p0 (.agg #[iv p0.Start, .slice ad3 p0.Rows.length cp4]) r9 aj S1) rfl (lb rfl) fun ay a w S => ?_
 obtain ⟨a8, a9, _, rfl, _⟩ := S.mem.know (i := 0) (e := fRep (rL (rI .i64)) (ay) r9.1) rfl
 refine sM S fun a S => ?_
 refine sExtract (vs := [.slice a8 r9.1.length a9, iv r9.2]) (.slice a8 r9.1.length a9) S (wN rfl) rfl rfl rfl rfl (lb rfl) fun a S => ?_
 refine sExtract (vs := [.slice a8 r9.1.length a9, iv r9.2]) (iv r9.2) S (wN rfl) rfl rfl rfl rfl (lb rfl) fun a S => ?_
 refine sN S fun a S => ?_
 refine sN S fun a S => ?_
 refine lT (hK8 _ _ (sSeq (fun aG ak => sSeq (fun aH al => sRegion (sM S fun a S => ?_)))))
 refine sBin _ S (wN rfl) rfl rfl rfl (bNe _ _ _ _ .i64 r9.2 0) rfl (lb rfl) fun a S => ?_
 refine lT (al _ _ ?_)
 rcases iS h with ⟨ae, h⟩ | ⟨ae, h⟩
 ·refine sCondT S rfl ae ?_
  refine sSeq (fun aI am => sRegion (sBuild [] [iv 0, .slice none 0 0] S (wN rfl) rfl rfl rfl rfl (lb rfl) fun a S => ?_))
  refine sM S fun a S => ?_
  refine sStore (p := b7) (off := 0) (T := 24) (vs := [iv 0, .slice none 0 0]) (v := .agg #[iv 0, .slice none 0 0]) 0 [iv 0, .slice none 0 0] S (wN rfl) rfl rfl rfl rfl rfl rfl rfl (by simp) rfl fun a w S => ?_
  refine sN S fun a S => ?_
  refine lT (am _ _ ?_)
  obtain rfl := tS h
  have S := S.learn (fRep (rL r_api_Row) (.slice none 0 0) ([] : (List api_Row))) (rL_nil _ _ _)
  have S := S.learn (fRep r_api_Chart (.agg #[iv 0, .slice none 0 0]) (api_Chart.mk 0 ([] : (List api_Row)))) ⟨_, rfl, S.mem.know (i := 0) (e := fRep (rL r_api_Row) (.slice none 0 0) ([] : (List api_Row))) rfl⟩
  exact wp_ret (rThen (sRet (.tuple #[.agg #[iv 0, .slice none 0 0], iv r9.2]) S (rsl2 rfl (rvN (c := 6) (t := 24) (T := 24) (p := b7) 0 [iv 0, .slice none 0 0] S rfl rfl rfl rfl) (rvT (t := 7) (v := iv r9.2) S rfl)) ⟨(.agg #[iv 0, .slice none 0 0]), rfl, S.mem.sel [] [0] (by decide) rfl rfl⟩))
 refine sCondF S rfl ae ?_
 refine wp_skip (leafT (ak _ _ ?_))
 refine sSeq (fun aJ ao => ?_)
 obtain ⟨az, h, aA⟩ := bS h
 refine sCut (fun a w => ∃ ap, ap = az ∧ St [] E [] w0 45 a w [(1, iv p1), (2, iv p2), (3, .pointer (some ⟨b6, 0, none⟩)), (6, .pointer (some ⟨b7, 0, none⟩)), (8, .slice a8 r9.1.length a9), (32, .bool ap)] [eBox b6 24 [iv p0.Start, .slice ad3 p0.Rows.length cp4], eBox b7 24 [iv 0, .slice none 0 0]] [fRep (rL (rI .i64)) (.slice a8 r9.1.length a9) r9.1, fRep (rL r_api_Row) (.slice ad3 p0.Rows.length cp4) p0.Rows]) ?_ (fun a w hI => ?_)
 ·refine sRegion (sM S fun a S => ?_)
  refine sBin _ S (wN rfl) rfl rfl rfl (bLt _ _ _ _ .i64 p1 0) rfl (lb rfl) fun a S => ?_
  refine sM S fun a S => ?_
  rcases iS h with ⟨aa, h⟩ | ⟨aa, h⟩
  ·refine sSkN 3 2 false 21 S rfl rfl aa rfl fun a S => ?_
   refine sPickT (.bool true) S (wN rfl) rfl rfl aa rfl rfl (lb rfl) fun a S => ?_
   refine sM S fun a S => ?_
   refine sSkN 5 7 false 26 S rfl rfl rfl rfl fun a S => ?_
   refine sPickT (.bool true) S (wN rfl) rfl rfl rfl rfl rfl (lb rfl) fun a S => ?_
   exact lT (⟨true, Option.some.inj h, S.fix [1, 0] [0, 1] (by decide) rfl rfl rfl⟩)
  refine sMove (iv p1) S (wG 2 false 21 rfl rfl rfl aa) (.inl rfl) rfl rfl (lb rfl) fun a S => ?_
  refine sMove (iv p2) S (wG 2 false 21 rfl rfl rfl aa) (.inl rfl) rfl rfl (lb rfl) fun a S => ?_
  refine sBin _ S (wG 2 false 21 rfl rfl rfl aa) rfl rfl rfl (bGt _ _ _ _ .i64 p1 p2) rfl (lb rfl) fun a S => ?_
  refine sPickF (.bool (decide (p2 < p1))) S (wN rfl) rfl rfl aa rfl rfl (lb rfl) fun a S => ?_
  refine sM S fun a S => ?_
  rcases iS h with ⟨a5, h⟩ | ⟨a5, h⟩
  ·refine sSkN 5 7 false 26 S rfl rfl a5 rfl fun a S => ?_
   refine sPickT (.bool true) S (wN rfl) rfl rfl a5 rfl rfl (lb rfl) fun a S => ?_
   exact lT (⟨true, Option.some.inj h, S.fix [1, 0] [0, 1] (by decide) rfl rfl rfl⟩)
  refine sMove (iv p2) S (wG 7 false 26 rfl rfl rfl a5) (.inl rfl) rfl rfl (lb rfl) fun a S => ?_
  refine sField (b := b6) (off := 0) 1 1 S (wG 7 false 26 rfl rfl rfl a5) rfl rfl rfl rfl rfl (lb rfl) fun a S => ?_
  refine sLoad1 1 (.slice ad3 p0.Rows.length cp4) S (wG 7 false 26 rfl rfl rfl a5) rfl rfl rfl rfl rfl rfl (lb rfl) fun a S => ?_
  refine sLen S (wG 7 false 26 rfl rfl rfl a5) rfl Try.underlying22 rfl rfl (lb rfl) fun a S => ?_
  refine sBin _ S (wG 7 false 26 rfl rfl rfl a5) rfl rfl rfl (bGt _ _ _ _ .i64 p2 (p0.Rows.length : Int)) rfl (lb rfl) fun a S => ?_
  refine sPickF (.bool (decide ((p0.Rows.length : Int) < p2))) S (wN rfl) rfl rfl a5 rfl rfl (lb rfl) fun a S => ?_
  exact lT (⟨decide ((p0.Rows.length : Int) < p2), Option.some.inj h, S.fix [1, 0] [0, 1] (by decide) rfl rfl rfl⟩)
 obtain ⟨ap, rfl, S⟩ := hI
 have h := aA
 try dsimp only at h
 rcases iS h with ⟨af, h⟩ | ⟨af, h⟩
 ·refine sCondT S rfl af ?_
  refine sSeq (fun aK aq => sRegion (sBuild [] [iv 0, .slice none 0 0] S (wN rfl) rfl rfl rfl rfl (lb rfl) fun a S => ?_))
  refine sStore (p := b7) (off := 0) (T := 24) (vs := [iv 0, .slice none 0 0]) (v := .agg #[iv 0, .slice none 0 0]) 1 [iv 0, .slice none 0 0] S (wN rfl) rfl rfl rfl rfl rfl rfl rfl (by simp) rfl fun a w S => ?_
  refine sN S fun a S => ?_
  refine lT (aq _ _ ?_)
  obtain rfl := tS h
  have S := S.learn (fRep (rL r_api_Row) (.slice none 0 0) ([] : (List api_Row))) (rL_nil _ _ _)
  have S := S.learn (fRep r_api_Chart (.agg #[iv 0, .slice none 0 0]) (api_Chart.mk 0 ([] : (List api_Row)))) ⟨_, rfl, S.mem.know (i := 0) (e := fRep (rL r_api_Row) (.slice none 0 0) ([] : (List api_Row))) rfl⟩
  exact wp_ret (rThen (sRet (.tuple #[.agg #[iv 0, .slice none 0 0], iv 2]) S (rsl2 rfl (rvN (c := 6) (t := 24) (T := 24) (p := b7) 0 [iv 0, .slice none 0 0] S rfl rfl rfl rfl) (rvT (t := 7) (v := iv 2) S rfl)) ⟨(.agg #[iv 0, .slice none 0 0]), rfl, S.mem.sel [] [0] (by decide) rfl rfl⟩))
 refine sCondF S rfl af ?_
 refine wp_skip (leafT (ao _ _ ?_))
 refine sSeq (fun aL ar => ?_)
 obtain ⟨a6, au, h⟩ := bS h
 obtain ⟨ag, av, h⟩ := bS h
 obtain ⟨a7, aw, h⟩ := bS h
 obtain ⟨ai, ah, S⟩ := pIdx (P := Try.prog) (r := (rI .i64)) (v := .slice a8 r9.1.length a9) (xs := r9.1) (j := p1) 32 3 0 S Try.underlying32 rfl rfl au
 obtain ⟨ax, S⟩ := pLoad (r := (rI .i64)) (q := ai) (x := a6) 0 S rfl
 obtain rfl : ax = iv a6 := S.mem.know (i := 1) (e := fRep (rI .i64) (ax) a6) rfl
 refine sDraw (nf := [8, 9, 11]) (W := [(0, 34, .slice a8 r9.1.length a9), (1, 35, iv p1), (2, 36, ai), (3, 37, iv a6), (4, 38, .pointer (some ⟨b6, 1, none⟩)), (5, 39, .slice ad3 p0.Rows.length cp4), (6, 40, iv p1), (7, 41, iv p2)]) rfl S ?_
 refine node_by (A := anc_chart_Part_0) 13 (by kernel_rfl) (by kernel_rfl) (by kernel_rfl) (by kernel_rfl) (by kernel_rfl) [0, 1, 2, 3, 4, 5, 6, 7] (by kernel_rfl) (by decide) (by decide) (fF ?_ (fF ?_ (fF ?_ (fF ?_ (fF ?_ (fF ?_ (fF ?_ (fF ?_ (fN ?_ (aB 9 3 8 (by decide) (fE 8 (aB 11 1 8 (by decide) (fE 8 (trivial)))))))))))))) [] (fun q hq => by cases hq) (fun hY => absurd (hY 8 (by decide)) (by decide))
 ·exact fM 0 none rfl rfl rfl rfl (.inl rfl) rfl rfl rfl
 ·exact fM 1 none rfl rfl rfl rfl (.inl rfl) rfl rfl rfl
 ·refine fJ [(34, _), (35, _)] 2 [some 0, some 1] fun G a w S => ?_
  exact sIdxV S (wN rfl) rfl rfl rfl ah rfl (lb rfl) fun a S => leafL ⟨rfl, S⟩
 ·refine fJ [(36, _)] 3 [some 2] fun G a w S => ?_
  exact sLoadV1 (vq := ai) 0 (iv a6) S (wN rfl) rfl rfl rfl rfl rfl (lb rfl) fun a S => leafL ⟨rfl, S⟩
 ·refine fJ [(3, _)] 4 [none] fun G a w S => ?_
  exact sField (b := b6) (off := 0) 1 1 S (wN rfl) rfl rfl rfl rfl rfl (lb rfl) fun a S => leafL ⟨rfl, S⟩
 ·refine fJ [(38, _)] 5 [some 4] fun G a w S => ?_
  exact sLoad1 0 (.slice ad3 p0.Rows.length cp4) S (wN rfl) rfl rfl rfl rfl rfl rfl (lb rfl) fun a S => leafL ⟨rfl, S⟩
 ·exact fM 6 none rfl rfl rfl rfl (.inl rfl) rfl rfl rfl
 ·exact fM 7 none rfl rfl rfl rfl (.inl rfl) rfl rfl rfl
 refine ⟨_, [(39, .slice ad3 p0.Rows.length cp4), (40, iv p1), (41, iv p2)], rfl, (srcs_of [some 5, some 6, some 7] rfl rfl rfl), fun G a w S => ?_⟩
 refine sSlice (r := r_api_Row) (v := .slice ad3 p0.Rows.length cp4) (xs := p0.Rows) (vlo := (some (.int .i64 p1))) (vhi := (some (.int .i64 p2))) (lo' := p1) (hi' := p2) 4 S (wN rfl) rfl Try.underlying22 rfl rfl rfl rfl rfl (.inl rfl) (.inl rfl) av rfl (lb rfl) fun a ab ac S => ?_
 refine leafL ⟨rfl, _, _, .inl ⟨42, (.slice ab ag.length ac), [], rfl, S, hz_of rfl, ?_⟩⟩
 refine node_by (A := anc_chart_Part_0) 13 (by kernel_rfl) (by kernel_rfl) (by kernel_rfl) (by kernel_rfl) (by kernel_rfl) [8, 0, 1, 2, 3, 4, 5, 6, 7] (by kernel_rfl) (by decide) (by decide) (fF ?_ (fF ?_ (fF ?_ (fF ?_ (fD 8 (fD 8 (fD 8 (fD 8 (fY (fN ?_ (fE 9 (aB 11 1 9 (by decide) (fE 9 (trivial)))))))))))))) [] (fun q hq => by cases hq) (fun hY => absurd (hY 9 (by decide)) (by decide))
 ·exact fM 1 none rfl rfl rfl rfl (.inl rfl) rfl rfl rfl
 ·exact fM 2 none rfl rfl rfl rfl (.inl rfl) rfl rfl rfl
 ·refine fJ [(34, _), (35, _)] 3 [some 1, some 2] fun G a w S => ?_
  exact sIdxV S (wN rfl) rfl rfl rfl ah rfl (lb rfl) fun a S => leafL ⟨rfl, S⟩
 ·refine fJ [(36, _)] 4 [some 3] fun G a w S => ?_
  exact sLoadV1 (vq := ai) 1 (iv a6) S (wN rfl) rfl rfl rfl rfl rfl (lb rfl) fun a S => leafL ⟨rfl, S⟩
 refine ⟨_, [(42, .slice ab ag.length ac)], rfl, (srcs_of [some 0] rfl rfl rfl), fun G a w S => ?_⟩
 refine sCall (X := Value) (f := 40) (vs := [.slice ab ag.length ac]) (val := c_chart_twin_val a7) (B' := fun _ => []) (D' := c_chart_twin_D a7) [] [eBox b6 24 [iv p0.Start, .slice ad3 p0.Rows.length cp4], eBox b7 24 [iv 0, .slice none 0 0]] [fRep (rL r_api_Row) (.slice ab ag.length ac) ag] [0, 1] [0] S (wN rfl) rfl callee40 rfl (by decide) rfl rfl (fun E1 w1 S1 => c_chart_twin E1 w1 ag (.slice ab ag.length ac) a7 aw S1) rfl (lb rfl) fun aC a w S => ?_
 obtain ⟨a0, a4, _, rfl, _⟩ := S.mem.know (i := 0) (e := fRep (rL r_api_Row) (aC) a7) rfl
 refine leafL ⟨rfl, _, _, .inl ⟨43, (.slice a0 a7.length a4), [(10, 44, .agg #[iv a6, .slice a0 a7.length a4])], rfl, S, hz_of rfl, ?_⟩⟩
 refine node_by (A := anc_chart_Part_0) 13 (by kernel_rfl) (by kernel_rfl) (by kernel_rfl) (by kernel_rfl) (by kernel_rfl) [10, 9, 8, 0, 1, 2, 3, 4, 5, 6, 7] (by kernel_rfl) (by decide) (by decide) (fF ?_ (fF ?_ (fF ?_ (fF ?_ (fD 9 (fD 9 (fD 9 (fD 9 (fY (fY (fF ?_ (fN ?_ (fE 11 (trivial)))))))))))))) [] (fun q hq => by cases hq) (fun hY => absurd (hY 11 (by decide)) (by decide))
 ·exact fM 3 none rfl rfl rfl rfl (.inl rfl) rfl rfl rfl
 ·exact fM 4 none rfl rfl rfl rfl (.inl rfl) rfl rfl rfl
 ·refine fJ [(34, _), (35, _)] 5 [some 3, some 4] fun G a w S => ?_
  exact sIdxV S (wN rfl) rfl rfl rfl ah rfl (lb rfl) fun a S => leafL ⟨rfl, S⟩
 ·refine fJ [(36, _)] 6 [some 5] fun G a w S => ?_
  exact sLoadV1 (vq := ai) 2 (iv a6) S (wN rfl) rfl rfl rfl rfl rfl (lb rfl) fun a S => leafL ⟨rfl, S⟩
 ·refine fJ [(37, _), (43, _)] 0 [some 6, some 1] fun G a w S => ?_
  exact sBuild [(0, iv a6), (1, .slice a0 a7.length a4)] [iv a6, .slice a0 a7.length a4] S (wN rfl) rfl rfl rfl rfl (lb rfl) fun a S => leafL ⟨rfl, S⟩
 refine ⟨_, [(6, .pointer (some ⟨b7, 0, none⟩)), (44, .agg #[iv a6, .slice a0 a7.length a4])], rfl, (srcs_of [none, some 0] rfl rfl rfl), fun G a w S => ?_⟩
 refine sStore (p := b7) (off := 0) (T := 24) (vs := [iv 0, .slice none 0 0]) (v := .agg #[iv a6, .slice a0 a7.length a4]) 1 [iv a6, .slice a0 a7.length a4] S (wN rfl) rfl rfl rfl rfl rfl rfl rfl (by simp) rfl fun a w S => ?_
 refine leafL ⟨rfl, _, _, .inr ⟨[(12, 7, iv 0)], rfl, S, hz_of rfl, ?_⟩⟩
 refine node_by (A := anc_chart_Part_0) 13 (by kernel_rfl) (by kernel_rfl) (by kernel_rfl) (by kernel_rfl) (by kernel_rfl) [12, 10, 9, 8, 0, 1, 2, 3, 4, 5, 6, 7] (by kernel_rfl) (by decide) (by decide) (fD 11 (fD 11 (fD 11 (fD 11 (fD 11 (fD 11 (fD 11 (fD 11 (fY (fY (fD 11 (fY (fF ?_ (trivial)))))))))))))) [(6, .pointer (some ⟨b7, 0, none⟩)), (7, iv 0)] (fin_of [none, some 0] rfl (by kernel_rfl) (by kernel_rfl)) (fun _ a w S => ?_)
 ·refine fJ [] 0 [] fun G a w S => ?_
  exact sN S fun a S => leafL ⟨rfl, S⟩
 refine leafT (ar _ _ ?_)
 obtain rfl := tS h
 have S := S.learn (fRep r_api_Chart (.agg #[iv a6, .slice a0 a7.length a4]) (api_Chart.mk a6 a7)) ⟨_, rfl, S.mem.know (i := 0) (e := fRep (rL r_api_Row) (.slice a0 a7.length a4) a7) rfl⟩
 exact wp_ret (sRet (.tuple #[.agg #[iv a6, .slice a0 a7.length a4], iv 0]) S (rsl2 rfl (rvN (c := 6) (t := 24) (T := 24) (p := b7) 0 [iv a6, .slice a0 a7.length a4] S rfl rfl rfl rfl) (rvT (t := 7) (v := iv 0) S rfl)) ⟨(.agg #[iv a6, .slice a0 a7.length a4]), rfl, S.mem.sel [] [0] (by decide) rfl rfl⟩)
def RB (rows : List api_Row) : Prop := rows.length ≤ 1000000 ∧ ∀ r, r ∈ rows → r.Cells.length ≤ 1000000
theorem twin_eq (rows : List api_Row) (h : RB rows) : F_chart_twin rows = some rows := by
 have hm : makeO (rows.length : Int) (api_Row.mk false ([] : List api_Stitch)) = some (List.replicate rows.length (api_Row.mk false [])) := makeO_of rfl (by have := h.1; omega)
 have hc : cpO (List.replicate rows.length (api_Row.mk false [])) rows = rows := cpO_eq (by simp)
 have hw : ∃ t, whileO (chart_twin_l1 rows) (rows, 0) = some t ∧ t = rows := by
  refine loop_st rows.length (fun _ s => s = rows) _ rfl ?_ ?_
  ·rintro k s hk rfl
   have hb := h.2 _ (List.getElem_mem hk)
   have hl := h.1
   have m1 : makeO (s[k].Cells.length : Int) (api_Stitch.mk 0 false 0 0) = some (List.replicate s[k].Cells.length (api_Stitch.mk 0 false 0 0)) := makeO_of rfl (by omega)
   have c1 : cpO (List.replicate s[k].Cells.length (api_Stitch.mk 0 false 0 0)) s[k].Cells = s[k].Cells := cpO_eq (by simp)
   have e1 : s.set k (api_Row.mk s[k].Back s[k].Cells) = s := by
    show s.set k s[k] = s
    exact List.set_getElem_self hk
   refine .inl ⟨s, ?_, rfl⟩
   unfold chart_twin_l1
   simp only [dT (show (k : Int) < (s.length : Int) by omega), if_true, idxO_nat hk, Option.bind_some, m1, c1, setO_nat hk, e1, w64_succ (show k < 9223372036854775807 by omega)]
  ·rintro s rfl
   refine ⟨s, ?_, rfl⟩
   unfold chart_twin_l1
   simp
 obtain ⟨t, t1, rfl⟩ := hw
 unfold F_chart_twin
 simp only [hm, Option.bind_some, hc, t1]
theorem chk_RB {c : api_Chart} (h : chk c = 0) : RB c.Rows := by
 obtain ⟨h1, _, _, h4⟩ := chk_ok h
 exact ⟨by omega, fun r hr => by have := (allS_ok (chkR_mem h4 r hr)).1; omega⟩
def cnts : Int → List api_Row → List Int
 | n, [] => [n]
 | n, r :: rs => n :: cnts (sm madeS r.Cells) rs
theorem cnts_len : ∀ (n : Int) (rs : List api_Row), (cnts n rs).length = rs.length + 1
 | _, [] => rfl
 | n, r :: rs => by simp [cnts, cnts_len (sm madeS r.Cells) rs]
theorem counts_fold : ∀ (rs : List api_Row) (i : Nat) (n : Int) (s : List Int), chkR n rs = 0 → s.length + rs.length ≤ 1000000 → foldO chart_Counts_l2 s (ctl i n rs) = some (.inl (s ++ (cnts n rs).drop 1))
 | [], i, n, s, _, _ => by simp [ctl, cnts, foldO]
 | r :: rs, i, n, s, h, hl => by
  obtain ⟨h1, h2, h3⟩ := chkR_cons.1 h
  have hl' : s.length + rs.length + 1 ≤ 1000000 := by simpa [Nat.add_assoc] using hl
  have ih := counts_fold rs (i + 1) (sm madeS r.Cells) (s ++ [sm madeS r.Cells]) h3 (by simp; omega)
  have hst : chart_Counts_l2 s ((i : Int), ⟨n, sm madeS r.Cells, 0⟩) = some (.inl (s ++ [sm madeS r.Cells])) := by
   have ha : appO s [sm madeS r.Cells] = some (s ++ [sm madeS r.Cells]) := appO_of (by simp; omega)
   unfold chart_Counts_l2
   simp only [ha, Option.bind_some]
  simp only [ctl, h1, h2, ne_eq, not_true_eq_false, if_false]
  simp only [foldO, hst, Option.bind_some, ih]
  cases rs with
  | nil => simp [cnts]
  | cons a b => simp [cnts]
theorem counts_eq (c : api_Chart) (hw : wfR c.Rows) (h : chk c = 0) : F_chart_Counts c = some (cnts c.Start c.Rows, 0) := by
 have hb := chk_RB h
 obtain ⟨h1, h2, h3, h4⟩ := chk_ok h
 unfold F_chart_Counts F_chart_counted
 simp only [chart_check_eq c hw, h, Option.bind_some, bne_self_eq_false, Bool.false_eq_true, if_false]
 rw [chcount_eq c hw (by omega), counts_fold c.Rows 0 c.Start _ h4 (by simp; omega)]
 cases hr : c.Rows with
 | nil => rfl
 | cons a b => rfl
theorem chkR_parts : ∀ (rs : List api_Row) (n : Int) (k : Nat), chkR n rs = 0 → k ≤ rs.length → chkR n (rs.take k) = 0 ∧ ∃ m, (cnts n rs)[k]? = some m ∧ chkR m (rs.drop k) = 0 ∧ (0 ≤ n ∧ n ≤ 200 → 0 ≤ m ∧ m ≤ 200)
 | rs, n, 0, h, _ => by
  refine ⟨by simp [chkR], n, ?_, by simpa using h, fun h => h⟩
  cases rs <;> rfl
 | [], n, k + 1, _, hk => by simp at hk
 | r :: rs, n, k + 1, h, hk => by
  obtain ⟨h1, h2, h3⟩ := chkR_cons.1 h
  obtain ⟨i1, m, i2, i3, i4⟩ := chkR_parts rs (sm madeS r.Cells) k h3 (by simpa using hk)
  refine ⟨?_, m, by simpa [cnts] using i2, by simpa using i3, fun _ => i4 ?_⟩
  ·rw [List.take_succ_cons]
   exact chkR_cons.2 ⟨h1, h2, i1⟩
  ·obtain ⟨_, q1, _, q2⟩ := allS_ok h1
   exact ⟨(made_bd q1).1, q2⟩
theorem part_eq (c : api_Chart) (hw : wfR c.Rows) (h : chk c = 0) (k : Nat) (hk : k ≤ c.Rows.length) : ∃ m, F_chart_Part c 0 (k : Int) = some (⟨c.Start, c.Rows.take k⟩, 0) ∧ F_chart_Part c (k : Int) (c.Rows.length : Int) = some (⟨m, c.Rows.drop k⟩, 0) ∧ chk ⟨c.Start, c.Rows.take k⟩ = 0 ∧ chk ⟨m, c.Rows.drop k⟩ = 0 := by
 obtain ⟨h1, h2, h3, h4⟩ := chk_ok h
 have hb := chk_RB h
 obtain ⟨i1, m, i2, i3, i4⟩ := chkR_parts c.Rows c.Start k h4 hk
 have i4 := i4 ⟨h2, h3⟩
 have hcl := cnts_len c.Start c.Rows
 have x0 : idxO (cnts c.Start c.Rows) 0 = some c.Start := by cases hr : c.Rows <;> rfl
 have xk : idxO (cnts c.Start c.Rows) (k : Int) = some m := by
  rw [idxO_nat (by omega)]
  exact (List.getElem?_eq_getElem (by omega)).symm.trans i2
 have s0 : sliceO c.Rows 0 (k : Int) = some (c.Rows.take k) := (sliceO_of (l := 0) (k := k) rfl rfl (Nat.zero_le _) hk).trans (by simp)
 have sk : sliceO c.Rows (k : Int) (c.Rows.length : Int) = some (c.Rows.drop k) := sliceO_all hk
 have b0 : RB (c.Rows.take k) := ⟨by simp; omega, fun r hr => hb.2 r (List.mem_of_mem_take hr)⟩
 have bk : RB (c.Rows.drop k) := ⟨by simp; omega, fun r hr => hb.2 r (List.mem_of_mem_drop hr)⟩
 refine ⟨m, ?_, ?_, ?_, ?_⟩
 ·unfold F_chart_Part
  simp only [counts_eq c hw h, Option.bind_some, bne_self_eq_false, Bool.false_eq_true, if_false, show decide ((0 : Int) < 0) = false from rfl, dF (show ¬ (k : Int) < 0 by omega), dF (show ¬ (c.Rows.length : Int) < (k : Int) by omega), x0, s0, twin_eq _ b0]
 ·unfold F_chart_Part
  simp only [counts_eq c hw h, Option.bind_some, bne_self_eq_false, Bool.false_eq_true, if_false, dF (show ¬ (k : Int) < 0 by omega), dF (show ¬ (c.Rows.length : Int) < (k : Int) by omega), dF (show ¬ (c.Rows.length : Int) < (c.Rows.length : Int) by omega), xk, sk, twin_eq _ bk]
 ·unfold chk
  rw [if_neg (by simp; omega), if_neg (by show ¬ (c.Start < 0 ∨ 200 < c.Start); omega)]
  exact i1
 ·unfold chk
  rw [if_neg (by simp; omega), if_neg (by show ¬ (m < 0 ∨ 200 < m); omega)]
  exact i3
noncomputable def F_raddlelaw27_LoopsParts (p0 : api_Chart) (p1 : Int) : Option Bool :=
 (F_raddlelaw27_alive).bind fun r8 =>
 Option.bind (α := Bool) (
  (F_raddleref26_Great p0).bind fun a6 =>
  if a6 then
   some true
  else
   (F_raddleref26_Check p0).bind fun a7 =>
   if a7 != 0 then
    some true
   else
    if decide (p1 < 0) then
     some true
    else
     if decide ((p0.Rows.length : Int) < p1) then
      some true
     else
      some (!r8)) fun a8 =>
 if a8 then
  some r8
 else
  (F_chart_Part p0 0 p1).bind fun a5 =>
  (F_loops_Of p0).bind fun a4 =>
  (F_loops_Of a5.1).bind fun a0 =>
  Option.bind (α := Bool) (
   if r8 then
    if a5.2 == 0 then
     if a4.2 == 0 then
      if a0.2 == 0 then
       if decide ((a0.1.length : Int) ≤ (a4.1.length : Int)) then
        (sliceO a4.1 0 (a0.1.length : Int)).bind fun a9 =>
        (F_raddleref27_Same a0.1 a9).bind fun aa =>
        some aa
       else
        some false
      else
       some false
     else
      some false
    else
     some false
   else
    some false) fun ab =>
  some ab
theorem c_raddlelaw27_LoopsParts (E : Nat → Prop) (w0 : World) (p0 : api_Chart) (v0 : Value) (p1 : Int) (r : Bool) (h : F_raddlelaw27_LoopsParts p0 p1 = some r) (S : St0 E [] w0 w0 [] [fRep r_api_Chart (v0) p0]) :
 Calls Try.prog 7 #[v0, iv p1] w0 (Ret (X := Unit) E [] w0 (fun _ => .bool r) (fun _ => []) (fun _ => [])) := by
 unfold F_raddlelaw27_LoopsParts at h
 obtain ⟨u1, rfl, hu2⟩ := S.know (i := 0) (e := fRep r_api_Chart (v0) p0) rfl
 have S := S.learn (fRep (rL r_api_Row) u1 p0.Rows) hu2
 obtain ⟨ad3, cp4, _, rfl, _⟩ := hu2
 refine sEnter (args := [.agg #[iv p0.Start, .slice ad3 p0.Rows.length cp4], iv p1]) 80 Try.func7 rfl rfl (by simp) S (fun a S => ?_)
 refine sSeq (fun K5 hK5 => sRegion (sBox (v := .agg #[iv p0.Start, .slice ad3 p0.Rows.length cp4]) S (wN rfl) rfl rfl [iv p0.Start, .slice ad3 p0.Rows.length cp4] rfl rfl (lb rfl) fun a b6 w S => ?_))
 refine sN S fun a S => ?_
 refine lT (hK5 _ _ (sSeq (fun K7 hK7 => sRegion ?_)))
 obtain ⟨r8, hx9, h⟩ := bS h
 have S1 := S.mem
 refine sCq [] (.bool r8) S callee20 (S1.quiet [] rfl) (fun E1 w1 S1 => c_raddlelaw27_alive E1 w1  r8 hx9 S1) fun a w S => ?_
 refine sN S fun a S => ?_
 refine lT (hK7 _ _ (sSeq (fun ba ax => ?_)))
 obtain ⟨aR, h, aS⟩ := bS h
 refine sCut (fun a w => ∃ ay, ay = aR ∧ St [] E [] w0 80 a w [(1, iv p1), (2, .pointer (some ⟨b6, 0, none⟩)), (5, .bool r8), (34, .bool ay)] [eBox b6 24 [iv p0.Start, .slice ad3 p0.Rows.length cp4]] [fRep (rL r_api_Row) (.slice ad3 p0.Rows.length cp4) p0.Rows]) ?_ (fun a w hI => ?_)
 ·refine sRegion (sLoadN (p := b6) (off := 0) (T := 24) (vs := [iv p0.Start, .slice ad3 p0.Rows.length cp4]) 0 [iv p0.Start, .slice ad3 p0.Rows.length cp4] S (wN rfl) rfl rfl rfl rfl rfl rfl rfl (lb rfl) fun a S => ?_)
  obtain ⟨aQ, az, h⟩ := bS h
  have S1 := S.mem
  refine sCq [.agg #[iv p0.Start, .slice ad3 p0.Rows.length cp4]] (.bool aQ) S callee10 (S1.quiet [1] rfl) (fun E1 w1 S1 => c_raddleref26_Great E1 w1 p0 (.agg #[iv p0.Start, .slice ad3 p0.Rows.length cp4]) aQ az S1) fun a w S => ?_
  refine sM S fun a S => ?_
  rcases iS h with ⟨ae, h⟩ | ⟨ae, h⟩
  ·refine sSkN 3 2 false 15 S rfl rfl ae rfl fun a S => ?_
   refine sPickT (.bool true) S (wN rfl) rfl rfl ae rfl rfl (lb rfl) fun a S => ?_
   refine sM S fun a S => ?_
   refine sSkN 2 7 false 20 S rfl rfl rfl rfl fun a S => ?_
   refine sPickT (.bool true) S (wN rfl) rfl rfl rfl rfl rfl (lb rfl) fun a S => ?_
   refine sM S fun a S => ?_
   refine sSkN 5 11 false 24 S rfl rfl rfl rfl fun a S => ?_
   refine sPickT (.bool true) S (wN rfl) rfl rfl rfl rfl rfl (lb rfl) fun a S => ?_
   refine sM S fun a S => ?_
   refine sSkN 2 18 false 31 S rfl rfl rfl rfl fun a S => ?_
   refine sPickT (.bool true) S (wN rfl) rfl rfl rfl rfl rfl (lb rfl) fun a S => ?_
   exact lT (⟨true, Option.some.inj h, S.fix [0] [0] (by decide) rfl rfl rfl⟩)
  refine sLoadN (p := b6) (off := 0) (T := 24) (vs := [iv p0.Start, .slice ad3 p0.Rows.length cp4]) 0 [iv p0.Start, .slice ad3 p0.Rows.length cp4] S (wG 2 false 15 rfl rfl rfl ae) rfl rfl rfl rfl rfl rfl rfl (lb rfl) fun a S => ?_
  obtain ⟨au, aA, h⟩ := bS h
  have S1 := S.mem
  refine sCallQ (X := Unit) (f := 21) (vs := [.agg #[iv p0.Start, .slice ad3 p0.Rows.length cp4]]) (val := fun _ => iv au) S (wG 2 false 15 rfl rfl rfl ae) rfl callee21 rfl (S1.quiet [1] rfl) (fun E1 w1 S1 => c_raddleref26_Check E1 w1 p0 (.agg #[iv p0.Start, .slice ad3 p0.Rows.length cp4]) au aA S1) rfl (lb rfl) fun _ a w S => ?_
  refine sBin _ S (wG 2 false 15 rfl rfl rfl ae) rfl rfl rfl (bNe _ _ _ _ .i64 au 0) rfl (lb rfl) fun a S => ?_
  refine sPickF (.bool (au != 0)) S (wN rfl) rfl rfl ae rfl rfl (lb rfl) fun a S => ?_
  refine sM S fun a S => ?_
  rcases iS h with ⟨af, h⟩ | ⟨af, h⟩
  ·refine sSkN 2 7 false 20 S rfl rfl af rfl fun a S => ?_
   refine sPickT (.bool true) S (wN rfl) rfl rfl af rfl rfl (lb rfl) fun a S => ?_
   refine sM S fun a S => ?_
   refine sSkN 5 11 false 24 S rfl rfl rfl rfl fun a S => ?_
   refine sPickT (.bool true) S (wN rfl) rfl rfl rfl rfl rfl (lb rfl) fun a S => ?_
   refine sM S fun a S => ?_
   refine sSkN 2 18 false 31 S rfl rfl rfl rfl fun a S => ?_
   refine sPickT (.bool true) S (wN rfl) rfl rfl rfl rfl rfl (lb rfl) fun a S => ?_
   exact lT (⟨true, Option.some.inj h, S.fix [0] [0] (by decide) rfl rfl rfl⟩)
  refine sMove (iv p1) S (wG 7 false 20 rfl rfl rfl af) (.inl rfl) rfl rfl (lb rfl) fun a S => ?_
  refine sBin _ S (wG 7 false 20 rfl rfl rfl af) rfl rfl rfl (bLt _ _ _ _ .i64 p1 0) rfl (lb rfl) fun a S => ?_
  refine sPickF (.bool (decide (p1 < 0))) S (wN rfl) rfl rfl af rfl rfl (lb rfl) fun a S => ?_
  refine sM S fun a S => ?_
  rcases iS h with ⟨a8, h⟩ | ⟨a8, h⟩
  ·refine sSkN 5 11 false 24 S rfl rfl a8 rfl fun a S => ?_
   refine sPickT (.bool true) S (wN rfl) rfl rfl a8 rfl rfl (lb rfl) fun a S => ?_
   refine sM S fun a S => ?_
   refine sSkN 2 18 false 31 S rfl rfl rfl rfl fun a S => ?_
   refine sPickT (.bool true) S (wN rfl) rfl rfl rfl rfl rfl (lb rfl) fun a S => ?_
   exact lT (⟨true, Option.some.inj h, S.fix [0] [0] (by decide) rfl rfl rfl⟩)
  refine sMove (iv p1) S (wG 11 false 24 rfl rfl rfl a8) (.inl rfl) rfl rfl (lb rfl) fun a S => ?_
  refine sField (b := b6) (off := 0) 1 1 S (wG 11 false 24 rfl rfl rfl a8) rfl rfl rfl rfl rfl (lb rfl) fun a S => ?_
  refine sLoad1 0 (.slice ad3 p0.Rows.length cp4) S (wG 11 false 24 rfl rfl rfl a8) rfl rfl rfl rfl rfl rfl (lb rfl) fun a S => ?_
  refine sLen S (wG 11 false 24 rfl rfl rfl a8) rfl Try.underlying22 rfl rfl (lb rfl) fun a S => ?_
  refine sBin _ S (wG 11 false 24 rfl rfl rfl a8) rfl rfl rfl (bGt _ _ _ _ .i64 p1 (p0.Rows.length : Int)) rfl (lb rfl) fun a S => ?_
  refine sPickF (.bool (decide ((p0.Rows.length : Int) < p1))) S (wN rfl) rfl rfl a8 rfl rfl (lb rfl) fun a S => ?_
  refine sM S fun a S => ?_
  rcases iS h with ⟨ag, h⟩ | ⟨ag, h⟩
  ·refine sSkN 2 18 false 31 S rfl rfl ag rfl fun a S => ?_
   refine sPickT (.bool true) S (wN rfl) rfl rfl ag rfl rfl (lb rfl) fun a S => ?_
   exact lT (⟨true, Option.some.inj h, S.fix [0] [0] (by decide) rfl rfl rfl⟩)
  refine sMove (.bool r8) S (wG 18 false 31 rfl rfl rfl ag) (.inl rfl) rfl rfl (lb rfl) fun a S => ?_
  refine sNot (b := r8) S (wG 18 false 31 rfl rfl rfl ag) rfl rfl rfl (lb rfl) fun a S => ?_
  refine sPickF (.bool (!r8)) S (wN rfl) rfl rfl ag rfl rfl (lb rfl) fun a S => ?_
  exact lT (⟨!r8, Option.some.inj h, S.fix [0] [0] (by decide) rfl rfl rfl⟩)
 obtain ⟨ay, rfl, S⟩ := hI
 have h := aS
 try dsimp only at h
 rcases iS h with ⟨am, h⟩ | ⟨am, h⟩
 ·refine sCondT S rfl am ?_
  refine sSeq (fun bb aC => sRegion (sM S fun a S => ?_))
  refine sN S fun a S => ?_
  refine lT (aC _ _ ?_)
  obtain rfl := tS h
  exact wp_ret (rThen (sRet (.bool r8) S (rsl1 rfl (rvT (t := 4) (v := .bool r8) S rfl)) ⟨(), rfl, S.mem.sel [] [] (by decide) rfl rfl⟩))
 refine sCondF S rfl am ?_
 refine wp_skip (leafT (ax _ _ ?_))
 refine sSeq (fun bc aG => sRegion (sLoadN (p := b6) (off := 0) (T := 24) (vs := [iv p0.Start, .slice ad3 p0.Rows.length cp4]) 0 [iv p0.Start, .slice ad3 p0.Rows.length cp4] S (wN rfl) rfl rfl rfl rfl rfl rfl rfl (lb rfl) fun a S => ?_))
 refine sM S fun a S => ?_
 obtain ⟨a0, aH, h⟩ := bS h
 have S := S.learn (fRep r_api_Chart (.agg #[iv p0.Start, .slice ad3 p0.Rows.length cp4]) p0) ⟨_, rfl, S.mem.know (i := 0) (e := fRep (rL r_api_Row) (.slice ad3 p0.Rows.length cp4) p0.Rows) rfl⟩
 refine sCall (X := Value) (f := 29) (vs := [.agg #[iv p0.Start, .slice ad3 p0.Rows.length cp4], iv 0, iv p1]) (val := c_chart_Part_val a0) (B' := fun _ => []) (D' := c_chart_Part_D a0) [] [eBox b6 24 [iv p0.Start, .slice ad3 p0.Rows.length cp4]] [fRep r_api_Chart (.agg #[iv p0.Start, .slice ad3 p0.Rows.length cp4]) p0] [0] [0] S (wN rfl) rfl callee29 rfl (by decide) rfl rfl (fun E1 w1 S1 => c_chart_Part E1 w1 p0 (.agg #[iv p0.Start, .slice ad3 p0.Rows.length cp4]) 0 p1 a0 aH S1) rfl (lb rfl) fun aT a w S => ?_
 obtain ⟨aU, rfl, ao⟩ := S.mem.know (i := 0) (e := fRep r_api_Chart (aT) a0.1) rfl
 have S := S.learn (fRep (rL r_api_Row) aU a0.1.Rows) ao
 obtain ⟨a4, a5, _, rfl, _⟩ := ao
 refine sM S fun a S => ?_
 refine sExtract (vs := [.agg #[iv a0.1.Start, .slice a4 a0.1.Rows.length a5], iv a0.2]) (.agg #[iv a0.1.Start, .slice a4 a0.1.Rows.length a5]) S (wN rfl) rfl rfl rfl rfl (lb rfl) fun a S => ?_
 refine sExtract (vs := [.agg #[iv a0.1.Start, .slice a4 a0.1.Rows.length a5], iv a0.2]) (iv a0.2) S (wN rfl) rfl rfl rfl rfl (lb rfl) fun a S => ?_
 refine sAlloc (.agg #[iv 0, .slice none 0 0]) S (wN rfl) rfl rfl [iv 0, .slice none 0 0] rfl rfl (lb rfl) fun a av w S => ?_
 refine sStore (p := av) (off := 0) (T := 24) (vs := [iv 0, .slice none 0 0]) (v := .agg #[iv a0.1.Start, .slice a4 a0.1.Rows.length a5]) 0 [iv a0.1.Start, .slice a4 a0.1.Rows.length a5] S (wN rfl) rfl rfl rfl rfl rfl rfl rfl (by simp) rfl fun a w S => ?_
 refine sN S fun a S => ?_
 refine lT (aG _ _ (sSeq (fun bf aI => sRegion (sLoadN (p := b6) (off := 0) (T := 24) (vs := [iv p0.Start, .slice ad3 p0.Rows.length cp4]) 1 [iv p0.Start, .slice ad3 p0.Rows.length cp4] S (wN rfl) rfl rfl rfl rfl rfl rfl rfl (lb rfl) fun a S => ?_))))
 obtain ⟨a9, aJ, h⟩ := bS h
 refine sCall (X := Value) (f := 11) (vs := [.agg #[iv p0.Start, .slice ad3 p0.Rows.length cp4]]) (val := c_loops_Of_val a9) (B' := fun _ => []) (D' := c_loops_Of_D a9) [] [eBox av 24 [iv a0.1.Start, .slice a4 a0.1.Rows.length a5], eBox b6 24 [iv p0.Start, .slice ad3 p0.Rows.length cp4]] [fRep r_api_Chart (.agg #[iv p0.Start, .slice ad3 p0.Rows.length cp4]) p0] [0, 1] [2] S (wN rfl) rfl callee11 rfl (by decide) rfl rfl (fun E1 w1 S1 => c_loops_Of E1 w1 p0 (.agg #[iv p0.Start, .slice ad3 p0.Rows.length cp4]) a9 aJ S1) rfl (lb rfl) fun aV a w S => ?_
 obtain ⟨ah, ai, _, rfl, _⟩ := S.mem.know (i := 0) (e := fRep (rL r_api_Loop) (aV) a9.1) rfl
 refine sM S fun a S => ?_
 refine sExtract (vs := [.slice ah a9.1.length ai, iv a9.2]) (.slice ah a9.1.length ai) S (wN rfl) rfl rfl rfl rfl (lb rfl) fun a S => ?_
 refine sExtract (vs := [.slice ah a9.1.length ai, iv a9.2]) (iv a9.2) S (wN rfl) rfl rfl rfl rfl (lb rfl) fun a S => ?_
 refine sN S fun a S => ?_
 refine sN S fun a S => ?_
 refine lT (aI _ _ (sSeq (fun bg aK => sRegion (sLoadN (p := av) (off := 0) (T := 24) (vs := [iv a0.1.Start, .slice a4 a0.1.Rows.length a5]) 0 [iv a0.1.Start, .slice a4 a0.1.Rows.length a5] S (wN rfl) rfl rfl rfl rfl rfl rfl rfl (lb rfl) fun a S => ?_))))
 obtain ⟨a6, aL, h⟩ := bS h
 refine sCall (X := Value) (f := 11) (vs := [.agg #[iv a0.1.Start, .slice a4 a0.1.Rows.length a5]]) (val := c_loops_Of_val a6) (B' := fun _ => []) (D' := c_loops_Of_D a6) [] [eBox av 24 [iv a0.1.Start, .slice a4 a0.1.Rows.length a5], eBox b6 24 [iv p0.Start, .slice ad3 p0.Rows.length cp4]] [fRep r_api_Chart (.agg #[iv a0.1.Start, .slice a4 a0.1.Rows.length a5]) a0.1] [0, 1] [2] S (wN rfl) rfl callee11 rfl (by decide) rfl rfl (fun E1 w1 S1 => c_loops_Of E1 w1 a0.1 (.agg #[iv a0.1.Start, .slice a4 a0.1.Rows.length a5]) a6 aL S1) rfl (lb rfl) fun aW a w S => ?_
 obtain ⟨ab, ac, _, rfl, _⟩ := S.mem.know (i := 0) (e := fRep (rL r_api_Loop) (aW) a6.1) rfl
 refine sM S fun a S => ?_
 refine sExtract (vs := [.slice ab a6.1.length ac, iv a6.2]) (.slice ab a6.1.length ac) S (wN rfl) rfl rfl rfl rfl (lb rfl) fun a S => ?_
 refine sExtract (vs := [.slice ab a6.1.length ac, iv a6.2]) (iv a6.2) S (wN rfl) rfl rfl rfl rfl (lb rfl) fun a S => ?_
 refine sN S fun a S => ?_
 refine sN S fun a S => ?_
 refine lT (aK _ _ ?_)
 obtain ⟨aX, h, aZ⟩ := bS h
 refine sCut (fun a w => ∃ ap, ap = aX ∧ St [] E [] w0 80 a w [(4, .bool ap)] [] []) ?_ (fun a w hI => ?_)
 rotate_left
 ·obtain ⟨ap, rfl, S⟩ := hI
  have h := aZ
  try dsimp only at h
  obtain rfl := tS h
  exact wp_ret (sRet (.bool ap) S (rsl1 rfl (rvT (t := 4) (v := .bool ap) S rfl)) ⟨(), rfl, S.mem.sel [] [] (by decide) rfl rfl⟩)
 refine sRegion (sM S fun a S => ?_)
 refine sM S fun a S => ?_
 rcases iS h with ⟨aj, h⟩ | ⟨aj, h⟩
 rotate_left
 ·refine sSkN 2 1 true 53 S rfl rfl aj rfl fun a S => ?_
  refine sPickF (.bool false) S (wN rfl) rfl rfl aj rfl rfl (lb rfl) fun a S => ?_
  refine sM S fun a S => ?_
  refine sSkN 2 5 true 57 S rfl rfl rfl rfl fun a S => ?_
  refine sPickF (.bool false) S (wN rfl) rfl rfl rfl rfl rfl (lb rfl) fun a S => ?_
  refine sM S fun a S => ?_
  refine sSkN 2 9 true 61 S rfl rfl rfl rfl fun a S => ?_
  refine sPickF (.bool false) S (wN rfl) rfl rfl rfl rfl rfl (lb rfl) fun a S => ?_
  refine sM S fun a S => ?_
  refine sSkN 5 13 true 65 S rfl rfl rfl rfl fun a S => ?_
  refine sPickF (.bool false) S (wN rfl) rfl rfl rfl rfl rfl (lb rfl) fun a S => ?_
  refine sM S fun a S => ?_
  refine sSkN 6 20 true 72 S rfl rfl rfl rfl fun a S => ?_
  refine sPickF (.bool false) S (wN rfl) rfl rfl rfl rfl rfl (lb rfl) fun a S => ?_
  refine sN S fun a S => ?_
  exact lT (⟨false, Option.some.inj h, S.fix [] [] (by decide) rfl rfl rfl⟩)
 refine sMove (iv a0.2) S (wG 1 true 53 rfl rfl rfl aj) (.inl rfl) rfl rfl (lb rfl) fun a S => ?_
 refine sBin _ S (wG 1 true 53 rfl rfl rfl aj) rfl rfl rfl (bEq _ _ _ _ .i64 a0.2 0) rfl (lb rfl) fun a S => ?_
 refine sPickT (.bool (a0.2 == 0)) S (wN rfl) rfl rfl aj rfl rfl (lb rfl) fun a S => ?_
 refine sM S fun a S => ?_
 rcases iS h with ⟨ak, h⟩ | ⟨ak, h⟩
 rotate_left
 ·refine sSkN 2 5 true 57 S rfl rfl ak rfl fun a S => ?_
  refine sPickF (.bool false) S (wN rfl) rfl rfl ak rfl rfl (lb rfl) fun a S => ?_
  refine sM S fun a S => ?_
  refine sSkN 2 9 true 61 S rfl rfl rfl rfl fun a S => ?_
  refine sPickF (.bool false) S (wN rfl) rfl rfl rfl rfl rfl (lb rfl) fun a S => ?_
  refine sM S fun a S => ?_
  refine sSkN 5 13 true 65 S rfl rfl rfl rfl fun a S => ?_
  refine sPickF (.bool false) S (wN rfl) rfl rfl rfl rfl rfl (lb rfl) fun a S => ?_
  refine sM S fun a S => ?_
  refine sSkN 6 20 true 72 S rfl rfl rfl rfl fun a S => ?_
  refine sPickF (.bool false) S (wN rfl) rfl rfl rfl rfl rfl (lb rfl) fun a S => ?_
  refine sN S fun a S => ?_
  exact lT (⟨false, Option.some.inj h, S.fix [] [] (by decide) rfl rfl rfl⟩)
 refine sMove (iv a9.2) S (wG 5 true 57 rfl rfl rfl ak) (.inl rfl) rfl rfl (lb rfl) fun a S => ?_
 refine sBin _ S (wG 5 true 57 rfl rfl rfl ak) rfl rfl rfl (bEq _ _ _ _ .i64 a9.2 0) rfl (lb rfl) fun a S => ?_
 refine sPickT (.bool (a9.2 == 0)) S (wN rfl) rfl rfl ak rfl rfl (lb rfl) fun a S => ?_
 refine sM S fun a S => ?_
 rcases iS h with ⟨al, h⟩ | ⟨al, h⟩
 rotate_left
 ·refine sSkN 2 9 true 61 S rfl rfl al rfl fun a S => ?_
  refine sPickF (.bool false) S (wN rfl) rfl rfl al rfl rfl (lb rfl) fun a S => ?_
  refine sM S fun a S => ?_
  refine sSkN 5 13 true 65 S rfl rfl rfl rfl fun a S => ?_
  refine sPickF (.bool false) S (wN rfl) rfl rfl rfl rfl rfl (lb rfl) fun a S => ?_
  refine sM S fun a S => ?_
  refine sSkN 6 20 true 72 S rfl rfl rfl rfl fun a S => ?_
  refine sPickF (.bool false) S (wN rfl) rfl rfl rfl rfl rfl (lb rfl) fun a S => ?_
  refine sN S fun a S => ?_
  exact lT (⟨false, Option.some.inj h, S.fix [] [] (by decide) rfl rfl rfl⟩)
 refine sMove (iv a6.2) S (wG 9 true 61 rfl rfl rfl al) (.inl rfl) rfl rfl (lb rfl) fun a S => ?_
 refine sBin _ S (wG 9 true 61 rfl rfl rfl al) rfl rfl rfl (bEq _ _ _ _ .i64 a6.2 0) rfl (lb rfl) fun a S => ?_
 refine sPickT (.bool (a6.2 == 0)) S (wN rfl) rfl rfl al rfl rfl (lb rfl) fun a S => ?_
 refine sM S fun a S => ?_
 rcases iS h with ⟨aa, h⟩ | ⟨aa, h⟩
 rotate_left
 ·refine sSkN 5 13 true 65 S rfl rfl aa rfl fun a S => ?_
  refine sPickF (.bool false) S (wN rfl) rfl rfl aa rfl rfl (lb rfl) fun a S => ?_
  refine sM S fun a S => ?_
  refine sSkN 6 20 true 72 S rfl rfl rfl rfl fun a S => ?_
  refine sPickF (.bool false) S (wN rfl) rfl rfl rfl rfl rfl (lb rfl) fun a S => ?_
  refine sN S fun a S => ?_
  exact lT (⟨false, Option.some.inj h, S.fix [] [] (by decide) rfl rfl rfl⟩)
 refine sMove (.slice ab a6.1.length ac) S (wG 13 true 65 rfl rfl rfl aa) (.inl rfl) rfl rfl (lb rfl) fun a S => ?_
 refine sLen S (wG 13 true 65 rfl rfl rfl aa) rfl Try.underlying26 rfl rfl (lb rfl) fun a S => ?_
 refine sMove (.slice ah a9.1.length ai) S (wG 13 true 65 rfl rfl rfl aa) (.inl rfl) rfl rfl (lb rfl) fun a S => ?_
 refine sLen S (wG 13 true 65 rfl rfl rfl aa) rfl Try.underlying26 rfl rfl (lb rfl) fun a S => ?_
 refine sBin _ S (wG 13 true 65 rfl rfl rfl aa) rfl rfl rfl (bLe _ _ _ _ .i64 (a6.1.length : Int) (a9.1.length : Int)) rfl (lb rfl) fun a S => ?_
 refine sPickT (.bool (decide ((a6.1.length : Int) ≤ (a9.1.length : Int)))) S (wN rfl) rfl rfl aa rfl rfl (lb rfl) fun a S => ?_
 refine sM S fun a S => ?_
 rcases iS h with ⟨a7, h⟩ | ⟨a7, h⟩
 rotate_left
 ·refine sSkN 6 20 true 72 S rfl rfl a7 rfl fun a S => ?_
  refine sPickF (.bool false) S (wN rfl) rfl rfl a7 rfl rfl (lb rfl) fun a S => ?_
  refine sN S fun a S => ?_
  exact lT (⟨false, Option.some.inj h, S.fix [] [] (by decide) rfl rfl rfl⟩)
 refine sMove (.slice ab a6.1.length ac) S (wG 20 true 72 rfl rfl rfl a7) (.inl rfl) rfl rfl (lb rfl) fun a S => ?_
 refine sMove (.slice ah a9.1.length ai) S (wG 20 true 72 rfl rfl rfl a7) (.inl rfl) rfl rfl (lb rfl) fun a S => ?_
 refine sMove (.slice ab a6.1.length ac) S (wG 20 true 72 rfl rfl rfl a7) (.inl rfl) rfl rfl (lb rfl) fun a S => ?_
 refine sLen S (wG 20 true 72 rfl rfl rfl a7) rfl Try.underlying26 rfl rfl (lb rfl) fun a S => ?_
 obtain ⟨aM, aO, h⟩ := bS h
 refine sSlice (r := r_api_Loop) (v := .slice ah a9.1.length ai) (xs := a9.1) (vlo := none) (vhi := (some (.int .i64 (a6.1.length : Int)))) (lo' := 0) (hi' := (a6.1.length : Int)) 1 S (wG 20 true 72 rfl rfl rfl a7) rfl Try.underlying26 rfl rfl rfl rfl rfl (.inr ⟨rfl, rfl⟩) (.inl rfl) aO rfl (lb rfl) fun a aq ar S => ?_
 obtain ⟨aw, aP, h⟩ := bS h
 have S1 := S.mem
 refine sCallQ (X := Unit) (f := 17) (vs := [.slice ab a6.1.length ac, .slice aq aM.length ar]) (val := fun _ => .bool aw) S (wG 20 true 72 rfl rfl rfl a7) rfl callee17 rfl (S1.quiet [1, 0] rfl) (fun E1 w1 S1 => c_raddleref27_Same E1 w1 a6.1 (.slice ab a6.1.length ac) aM (.slice aq aM.length ar) aw aP S1) rfl (lb rfl) fun _ a w S => ?_
 refine sPickT (.bool aw) S (wN rfl) rfl rfl a7 rfl rfl (lb rfl) fun a S => ?_
 refine sN S fun a S => ?_
 exact lT (⟨aw, Option.some.inj h, S.fix [] [] (by decide) rfl rfl rfl⟩)
theorem cellsW_pre (R : Nat) : ∀ (l : List api_Stitch) (k : Nat) (z : Wk), ∃ rest, (cellsW R k l z).L = z.L ++ rest
 | [], k, z => ⟨[], by simp [cellsW]⟩
 | s :: l, k, z => by
  obtain ⟨rest, h⟩ := cellsW_pre R l (k + 1) (stepW R k s z)
  refine ⟨mkL R k (side z.L s z.u) (pars s z.u) ++ rest, ?_⟩
  rw [cellsW, h, stepW, List.append_assoc]
theorem rowsW_pre : ∀ (fs : List (List api_Stitch)) (i : Nat) (z : Wk × List Int), ∃ rest, (rowsW i fs z).1.L = z.1.L ++ rest
 | [], i, z => ⟨[], by simp [rowsW]⟩
 | f :: fs, i, z => by
  obtain ⟨r1, h1⟩ := rowsW_pre fs (i + 1) (cellsW (i + 1) 0 f z.1, z.2 ++ [((cellsW (i + 1) 0 f z.1).L.length : Int)])
  obtain ⟨r2, h2⟩ := cellsW_pre (i + 1) f 0 z.1
  refine ⟨r2 ++ r1, ?_⟩
  rw [rowsW, h1]
  simp only [h2, List.append_assoc]
theorem rowsW_app (gs : List (List api_Stitch)) : ∀ (fs : List (List api_Stitch)) (i : Nat) (z : Wk × List Int), rowsW i (fs ++ gs) z = rowsW (i + fs.length) gs (rowsW i fs z)
 | [], i, z => rfl
 | f :: fs, i, z => by
  simp only [List.cons_append, rowsW, List.length_cons]
  rw [rowsW_app gs fs (i + 1)]
  congr 1; omega
theorem part_pre (c : api_Chart) (k : Nat) : ∃ rest, (workC c).1.L = (workC ⟨c.Start, c.Rows.take k⟩).1.L ++ rest := by
 have e : c.Rows.map faceR = (c.Rows.take k).map faceR ++ (c.Rows.drop k).map faceR := by rw [← List.map_append, List.take_append_drop]
 unfold workC
 rw [e, rowsW_app]
 exact rowsW_pre _ _ _
theorem law_LoopsParts' (ha : F_raddlelaw27_alive = some true) (c : api_Chart) (at_ : Int) (wc : wf_api_Chart c) : F_raddlelaw27_LoopsParts c at_ = some true := by
 have hw := wfR_of wc
 obtain ⟨b, hb⟩ := rgreat26_eq c
 unfold F_raddlelaw27_LoopsParts
 rw [ha, Option.bind_some, hb, Option.bind_some, rchart_check_eq, Option.bind_some]
 cases b with
 | true => rfl
 | false =>
  by_cases hk : chk c = 0
  ·rw [hk]
   simp only [Bool.false_eq_true, if_false, show ((0 : Int) != 0) = false from rfl]
   by_cases h0 : at_ < 0
   ·rw [dT h0]; rfl
   ·rw [dF h0]
    by_cases h1 : (c.Rows.length : Int) < at_
    ·rw [dT h1]; rfl
    ·rw [dF h1]
     obtain ⟨k, rfl⟩ := Int.eq_ofNat_of_zero_le (show 0 ≤ at_ by omega)
     obtain ⟨m, hp, _, hc, _⟩ := part_eq c hw hk k (by omega)
     have hw2 : wfR (⟨c.Start, c.Rows.take k⟩ : api_Chart).Rows := fun r hr => hw r (List.mem_of_mem_take hr)
     obtain ⟨rest, hr⟩ := part_pre c k
     obtain ⟨_, _, _, _, _, hL, _, _, hpr, _, _⟩ := wfin_of hc
     unfold F_loops_Of
     rw [of_eq c hw, hp, if_pos hk]
     simp only [Bool.false_eq_true, if_false, if_true, Option.bind_some, Bool.not_true]
     rw [of_eq _ hw2, if_pos hc]
     unfold pieceOf
     simp only [Bool.false_eq_true, if_false, if_true, Option.bind_some, Bool.not_true, beq_self_eq_true]
     rw [hr]
     have hle : (((workC ⟨c.Start, c.Rows.take k⟩).1.L.length : Nat) : Int) ≤ ((((workC ⟨c.Start, c.Rows.take k⟩).1.L ++ rest).length : Nat) : Int) := by rw [List.length_append]; omega
     simp only [dT hle, if_true]
     rw [sliceO_of (lo := 0) (l := 0) (k := (workC ⟨c.Start, c.Rows.take k⟩).1.L.length) rfl rfl (Nat.zero_le _) (by rw [List.length_append]; omega), Option.bind_some, List.drop_zero, List.take_append_of_le_length (Nat.le_refl _), List.take_length, same27_eq _ (by omega) (fun l hl => by have := (hpr l hl).1; omega)]
     rfl
  ·simp only [nT hk, if_true, Bool.false_eq_true, if_false, Option.bind_some]
theorem law_LoopsParts (c : api_Chart) (at_ : Int) (wc : wf_api_Chart c) (_ : InK .i64 at_) : F_raddlelaw27_LoopsParts c at_ = some true := law_LoopsParts' k_raddlelaw27_alive c at_ wc
namespace frameLoopsParts
open Go.ChangeShapes Go.WideShapes Go.ChangeAt Go.Joins
theorem own : ownKnob Try.prog.godebug = none := by kernel_rfl
theorem laidOut : laidOutB Try.prog = true := by kernel_rfl
theorem lifted (os : Os) (started : os.Started) (H : Type) (enc : TypeId × Value → H) :
 ReturnsInHanded {} Try.checked os 7 .any (Rows.loopsPartsSpec.pre6 enc Try.prog Try.f7 Rows.loopsPartsRow.domain false) (Rows.loopsPartsSpec.post enc Try.prog Try.f7 false true false false) := by
 refine returnsInHanded_of_change (C := Try.checked) own started (by kernel_rfl) Try.func7
  (ChangeSpec.witness6 (enc := enc) (C := Try.checked) false ⟨#[], #[.agg #[iv 0, .slice none 0 0], .int .i64 0], []⟩ 8 (by kernel_rfl) (by kernel_rfl) (by kernel_rfl) (by kernel_rfl)) ?_
 intro W base args ds gs before hval0 hW hcnd _
 have hval : ∀ (j : Nat) t v, Try.f7.params[j]? = some t → args[j]? = some v → Value.okWide Try.prog W .any base t v := hval0
 have hW' := hW
 obtain ⟨p, q, hA0, hV, rfl, hfz, hnd⟩ := hW
 have hA : DataW.TrodAll enc Try.prog W 0 (fun _ => true) true Try.f7.params.toList args.toList ds p := hA0
 rw [Try.params7] at hA hval
 obtain ⟨v0, vs0, d0, ds0, p0, q0, hargs, rfl, rfl, h0, r0⟩ := trodAll_cons hA
 obtain ⟨v1, vs1, d1, ds1, p1, q1, rfl, rfl, rfl, h1, r1⟩ := trodAll_cons r0
 obtain ⟨rfl, rfl, rfl⟩ := trodAll_nil r1
 obtain rfl : args = #[v0, v1] := by cases args; simp_all
 obtain ⟨rfl, rfl⟩ := trodVars_none hV
 have k0 := h0
 have lt0 : ∀ x ∈ p0, x.block < W.heap.size := by obtain ⟨m, hm⟩ := k0; exact DataW.trod_lt m _ _ _ hm
 have k1 := h1
 have lt1 : ∀ x ∈ p1, x.block < W.heap.size := by obtain ⟨m, hm⟩ := k1; exact DataW.trod_lt m _ _ _ hm
 obtain ⟨x0, rep0, wf0⟩ := top_agg Try.underlying24 aggr_api_Chart op_api_Chart (hval 0 _ v0 rfl rfl) h0
 obtain ⟨x1, rfl, rfl, rfl, wf1⟩ := open_int Try.underlying3 (hval 1 _ v1 rfl rfl) h1
 clear hA0 hval0
 refine (c_raddlelaw27_LoopsParts (fun _ => False) W x0 v0 x1 true (law_LoopsParts x0 x1 wf0 wf1) (St0.start (by intro d hd; simp only [List.mem_cons, List.not_mem_nil, or_false] at hd; subst hd; exact rep0))).mono fun e W' hr => ?_
 obtain ⟨_, he, hS⟩ := hr
 have bel := hS.chg.below
 subst he
 exact ⟨_, rfl, _, _, _, [], _, [], hW', trodAll_mk1 (shut_bool Try.underlying4 _), (trodAll_cons_mk (Below.trod laidOut (by kernel_rfl) (of_decide_eq_true (by kernel_rfl)) k0 bel lt0) (trodAll_cons_mk (Below.trod laidOut (by kernel_rfl) (of_decide_eq_true (by kernel_rfl)) k1 bel lt1) trodAll_mk0)), rfl, bel.frame _, fun h => by cases h⟩
theorem over : Rows.loopsPartsRow.holds Try.pinned (OpenSpec.ofChange Rows.loopsPartsSpec) :=
 OpenClaim.holds_of_wide 7 Try.f7 rfl rfl rfl rfl rfl rfl rfl ⟨rfl, rfl, rfl, rfl, rfl⟩ rfl rfl rfl rfl rfl (by kernel_rfl) Try.func7 (by kernel_rfl)
  (of_decide_eq_true (by kernel_rfl)) (by unfold Func.isWrapper; first | (rw [if_pos (by decide +kernel)]; kernel_rfl) | (rw [if_neg (by decide +kernel)]; exact ⟨rfl, rfl⟩))
  (fun os started H enc _ => lifted os started H enc)
end frameLoopsParts
theorem loopsParts_holds : Rows.LoopsPartsSaid := frameLoopsParts.over
end Go.Proofs.Yticjoiolfibmlaa
