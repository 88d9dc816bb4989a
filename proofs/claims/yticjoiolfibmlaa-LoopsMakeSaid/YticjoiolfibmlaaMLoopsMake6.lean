/- Several texts in one: PlLo PlLx PlLv PlLr G32 G10 G18 G17 G19 G3 -/
import Derived.WalkKit
import Derived.Maps.AppendAt
import Derived.Deep.AppendLies
import Derived.KernelRfl
import Derived.Laws.OwnMore
import Derived.Great.BuildSlice
import Derived.Orders
import Derived.Laws.StructEq
import Derived.ChangeKeysEq
import Derived.Defers
import Derived.Laws.BytesString
import Derived.RangeFuncNested
import Derived.RangeFuncBound
import Derived.RangeFuncCalls
import Derived.RangeFuncLeaves
import Derived.OrdersIn
import Derived.LoopNIn
import Derived.ArgAppend
import Derived.Lib.AppendZeros
import Derived.Test.YticjoiolfibmlaaProg
import Derived.ProofKit
import Derived.OpenShut
import Derived.ChangeOld
import Derived.Deep.Slices
import Derived.Lib.SmallJoins
import Derived.JoinedOf
import Derived.JoinedAt
import Derived.Below
import Derived.Test.YticjoiolfibmlaaRows
import Derived.Test.YticjoiolfibmlaaMLoopsMake5
namespace Go.Proofs.Yticjoiolfibmlaa
open Go.RowKit
set_option linter.unusedVariables false

/-- where the lists are that have a number -/
def kidsP : Nat → List (List Int) → Int → List Nat
  | _, [], _ => []
  | o, p :: P, i => (if i ∈ p then [o] else []) ++ kidsP (o + 1) P i
theorem kidsP_append (i : Int) (Q : List (List Int)) : ∀ (P : List (List Int)) (o : Nat), kidsP o (P ++ Q) i = kidsP o P i ++ kidsP (o + P.length) Q i
  | [], o => by simp [kidsP]
  | p :: P, o => by
    simp only [List.cons_append, kidsP, List.length_cons]
    rw [kidsP_append i Q P (o + 1), List.append_assoc]
    congr 3; omega
theorem kidsP_none {i : Int} : ∀ (P : List (List Int)) (o : Nat), (∀ p, p ∈ P → i ∉ p) → kidsP o P i = []
  | [], o, _ => rfl
  | p :: P, o, h => by
    simp only [kidsP]
    rw [if_neg (h p (by simp)), kidsP_none P (o + 1) fun q hq => h q (by simp [hq])]; rfl
theorem kidsP_rep (u : Int) : ∀ (n o : Nat), kidsP o (List.replicate n [u]) u = List.range' o n
  | 0, o => rfl
  | n + 1, o => by
    simp only [List.replicate_succ, kidsP, List.mem_singleton, if_true]
    rw [kidsP_rep u n (o + 1), List.range'_succ]; rfl
theorem kidsP_single {i : Int} : ∀ (Q : List Int) (o : Nat), Q.Nodup → i ∈ Q → ∃ x, x < Q.length ∧ kidsP o (Q.map fun x => [x]) i = List.range' (o + x) 1
  | [], o, _, h => by simp at h
  | q :: Q, o, hn, h => by
    simp only [List.map_cons, kidsP]
    rw [List.nodup_cons] at hn
    by_cases e : i = q
    · subst e
      refine ⟨0, by simp, ?_⟩
      rw [if_pos (by simp), kidsP_none _ _ (by
        intro p hp
        obtain ⟨y, hy, rfl⟩ := List.mem_map.1 hp
        intro hi
        simp at hi
        exact hn.1 (hi ▸ hy))]
      rfl
    · obtain ⟨x, hx, hk⟩ := kidsP_single Q (o + 1) hn.2 (by simpa [e] using h)
      refine ⟨x + 1, by simp; omega, ?_⟩
      rw [if_neg (by simpa using e), hk]
      simp only [List.nil_append]
      congr 1; omega
/-- the kids that a cell gives to a loop that it uses -/
theorem kids_new {s : api_Stitch} (h : okS s) (u o : Nat) {i : Int} (h0 : (u : Int) ≤ i) (h1 : i < ((u + uN s : Nat) : Int)) :
    (s.Kind = 10 ∧ i ∈ offB s u) ∨ (s.Kind ≠ 10 ∧ ∃ a m, 1 ≤ m ∧ a + m ≤ mN s ∧ kidsP o (pars s u) i = List.range' (o + a) m) := by
  have one : ∀ p : List Int, i ∈ p → kidsP o [p] i = List.range' (o + 0) 1 := fun p hp => by simp [kidsP, hp, List.range'_succ]
  rcases knd h with ⟨b, rfl⟩ | ⟨b, rfl⟩ | rfl | ⟨b, a, h2, h3, rfl⟩ | ⟨b, a, h2, h3, rfl⟩ | ⟨b, a, h2, h3, rfl⟩ | ⟨k, b, a, c, hk, h2, h3, h4, h5, rfl⟩ | ⟨a, h2, h3, rfl⟩ | ⟨b, a, h2, h3, rfl⟩
  · have e : i = (u : Int) := by simp [uN, usedS] at h1; omega
    exact .inr ⟨by simp, 0, 1, by omega, by simp [mN, madeS], one _ (by simp [e])⟩
  · have e : i = (u : Int) := by simp [uN, usedS] at h1; omega
    exact .inr ⟨by simp, 0, 1, by omega, by simp [mN, madeS], one _ (by simp [e])⟩
  · simp [uN, usedS] at h1; omega
  · refine .inr ⟨by simp, 0, 1, by omega, by simp [mN, madeS], ?_⟩
    have e : pars ⟨3, b, (a : Int), 0⟩ u = [ups u a] := by simp [pars]
    rw [e]; exact one _ (ups_mem.2 ⟨h0, by simpa [uN, usedS] using h1⟩)
  · refine .inr ⟨by simp, 0, 1, by omega, by simp [mN, madeS], ?_⟩
    have e : pars ⟨4, b, (a : Int), 0⟩ u = [(ups u a).reverse] := by simp [pars]
    rw [e]; exact one _ (List.mem_reverse.2 (ups_mem.2 ⟨h0, by simpa [uN, usedS] using h1⟩))
  · have e : i = (u : Int) := by simp [uN, usedS] at h1; omega
    refine .inr ⟨by simp, 0, a, by omega, by simp [mN, madeS], ?_⟩
    have e2 : pars ⟨5, b, (a : Int), 0⟩ u = List.replicate a [(u : Int)] := by simp [pars]
    rw [e2, e]; exact kidsP_rep _ _ _
  · have e : pars ⟨k, b, (a : Int), (c : Int)⟩ u = ((ups u (a + c)).drop a ++ (ups u (a + c)).take a).map fun x => [x] := by rcases hk with rfl | rfl <;> simp [pars]
    have e2 : uN ⟨k, b, (a : Int), (c : Int)⟩ = a + c := by rcases hk with rfl | rfl <;> simp [uN, usedS] <;> omega
    have e3 : mN ⟨k, b, (a : Int), (c : Int)⟩ = a + c := by rcases hk with rfl | rfl <;> simp [mN, madeS] <;> omega
    have hp : ((ups u (a + c)).drop a ++ (ups u (a + c)).take a).Perm (ups u (a + c)) := List.perm_append_comm.trans (by rw [List.take_append_drop])
    rw [e2] at h1
    obtain ⟨x, hx, hx2⟩ := kidsP_single (i := i) _ o (hp.nodup_iff.2 (ups_nodup _ _)) (hp.mem_iff.2 (ups_mem.2 ⟨h0, h1⟩))
    rw [hp.length_eq, ups_len] at hx
    refine .inr ⟨by rcases hk with rfl | rfl <;> simp, x, 1, by omega, by rw [e3]; omega, ?_⟩
    rw [e]; exact hx2
  · simp [uN, usedS] at h1; omega
  · exact .inl ⟨rfl, by simp only [offB, if_true]; exact ups_mem.2 ⟨h0, by simpa [uN, usedS] using h1⟩⟩
theorem offB_mem {s : api_Stitch} (h : okS s) {u : Nat} {i : Int} (hi : i ∈ offB s u) : s.Kind = 10 ∧ (u : Int) ≤ i ∧ i < ((u + uN s : Nat) : Int) := by
  unfold offB at hi
  split at hi
  · rename_i hk
    refine ⟨hk, ?_⟩
    have hb := okS_bd h
    have := ups_mem.1 hi
    have e : uN s = s.A.toNat := by simp [uN, usedS, hk]
    rw [e]; exact this
  · simp at hi
def parL (L : List api_Loop) : List (List Int) := L.map fun l => l.Parents
def kidsL (L : List api_Loop) (i : Int) : List Nat := kidsP 0 (parL L) i
theorem parL_mk (R K : Nat) (pl : Bool) (ps : List (List Int)) : parL (mkL R K pl ps) = ps := by simp [parL, mkL, List.map_map, Function.comp_def]
theorem parL_app (L M : List api_Loop) : parL (L ++ M) = parL L ++ parL M := by simp [parL]
/-- each loop below u is used once, the others are not used yet -/
structure once (L : List api_Loop) (B : List Int) (u : Nat) : Prop where
  below : ∀ i : Int, 0 ≤ i → i < (u : Int) → (i ∈ B ∧ kidsL L i = []) ∨ (i ∉ B ∧ ∃ a m, 1 ≤ m ∧ a + m ≤ L.length ∧ kidsL L i = List.range' a m ∧ ∃ K, ∀ j, a ≤ j → j < a + m → ∃ l, L[j]? = some l ∧ l.Cell = K)
  above : ∀ i : Int, (u : Int) ≤ i → i ∉ B ∧ kidsL L i = []
  lo : ∀ i : Int, i < 0 → i ∉ B ∧ kidsL L i = []
theorem once.step {R K : Nat} {s : api_Stitch} {z : Wk} (hs : okS s) (h : once z.L z.B z.u) : once (stepW R K s z).L (stepW R K s z).B (stepW R K s z).u := by
  have hk : ∀ i, kidsL (stepW R K s z).L i = kidsL z.L i ++ kidsP z.L.length (pars s z.u) i := by
    intro i
    simp only [kidsL, stepW, parL_app, parL_mk, kidsP_append]
    congr 2; simp [parL]
  have hp := pars_bd hs z.u
  have hno : ∀ i : Int, i < (z.u : Int) ∨ ((z.u + uN s : Nat) : Int) ≤ i → kidsP z.L.length (pars s z.u) i = [] := by
    intro i hi
    refine kidsP_none _ _ fun p hp1 hm => ?_
    have := (hp p hp1).2 i hm
    omega
  have hnb : ∀ i : Int, i < (z.u : Int) ∨ ((z.u + uN s : Nat) : Int) ≤ i → i ∉ offB s z.u := by
    intro i hi hm
    have := offB_mem hs hm
    omega
  refine ⟨?_, ?_, ?_⟩
  · intro i h0 h1
    rw [hk]
    simp only [stepW] at h1 ⊢
    by_cases hlt : i < (z.u : Int)
    · rw [hno i (.inl hlt), List.append_nil]
      rcases h.below i h0 hlt with ⟨h2, h3⟩ | ⟨h2, a, m, h3, h4, h5, Kc, h6⟩
      · exact .inl ⟨List.mem_append_left _ h2, h3⟩
      · refine .inr ⟨fun hm => ?_, a, m, h3, by simp; omega, h5, Kc, fun j hj1 hj2 => ?_⟩
        · rcases List.mem_append.1 hm with hm | hm
          · exact h2 hm
          · exact hnb i (.inl hlt) hm
        · obtain ⟨l, hl, hc⟩ := h6 j hj1 hj2
          exact ⟨l, by rw [List.getElem?_append_left (by omega)]; exact hl, hc⟩
    · obtain ⟨h2, h3⟩ := h.above i (by omega)
      rw [h3, List.nil_append]
      rcases kids_new hs z.u z.L.length (i := i) (by omega) h1 with ⟨hk10, hm⟩ | ⟨hk10, a, m, h4, h5, h6⟩
      · refine .inl ⟨List.mem_append_right _ hm, ?_⟩
        have : pars s z.u = [] := by
          have e := pars_len hs z.u
          have e2 : mN s = 0 := by simp [mN, madeS, hk10]
          exact List.eq_nil_of_length_eq_zero (by omega)
        rw [this]; rfl
      · refine .inr ⟨fun hm => ?_, z.L.length + a, m, h4, by simp [mkL_len, pars_len hs]; omega, h6, (K : Int), fun j hj1 hj2 => ?_⟩
        · rcases List.mem_append.1 hm with hm | hm
          · exact h2 hm
          · exact hk10 (offB_mem hs hm).1
        · have hj : j - z.L.length < (pars s z.u).length := by rw [pars_len hs]; omega
          refine ⟨⟨(R : Int), (K : Int), (pars s z.u)[j - z.L.length], side z.L s z.u⟩, ?_, rfl⟩
          rw [List.getElem?_append_right (by omega)]
          simp only [mkL, List.getElem?_map, List.getElem?_eq_getElem hj, Option.map_some]
  · intro i hi
    simp only [stepW] at hi
    obtain ⟨h2, h3⟩ := h.above i (by omega)
    rw [hk, h3, hno i (.inr (by omega))]
    refine ⟨fun hm => ?_, rfl⟩
    simp only [stepW] at hm
    rcases List.mem_append.1 hm with hm | hm
    · exact h2 hm
    · exact hnb i (.inr (by omega)) hm
  · intro i hi
    obtain ⟨h2, h3⟩ := h.lo i hi
    rw [hk, h3, hno i (.inl (by omega))]
    refine ⟨fun hm => ?_, rfl⟩
    simp only [stepW] at hm
    rcases List.mem_append.1 hm with hm | hm
    · exact h2 hm
    · exact hnb i (.inl (by omega)) hm
theorem once.start (S : Nat) : once (zeroL S) [] 0 := by
  have h : ∀ i : Int, kidsL (zeroL S) i = [] := by
    intro i
    refine kidsP_none _ _ fun p hp hm => ?_
    simp only [parL, zeroL, List.map_map, List.mem_map] at hp
    obtain ⟨_, _, rfl⟩ := hp
    simp at hm
  exact ⟨fun i h0 h1 => by omega, fun i _ => ⟨by simp, h i⟩, fun i _ => ⟨by simp, h i⟩⟩

end Go.Proofs.Yticjoiolfibmlaa
namespace Go.Proofs.Yticjoiolfibmlaa
open Go.RowKit
set_option linter.unusedVariables false

def norm (p : Int × Int) : Int × Int := if p.1 ≤ p.2 then p else (p.2, p.1)
theorem pars_x {k : Int} {b : Bool} {a c u i : Nat} (hk : k = 6 ∨ k = 7) (hi : i < a + c) : (pars ⟨k, b, (a : Int), (c : Int)⟩ u)[i]? = some [((u + (if i < c then a + i else i - c) : Nat) : Int)] := by
  have e : pars ⟨k, b, (a : Int), (c : Int)⟩ u = ((ups u (a + c)).drop a ++ (ups u (a + c)).take a).map fun x => [x] := by rcases hk with rfl | rfl <;> simp [pars]
  have hd : ((ups u (a + c)).drop a).length = c := by rw [List.length_drop, ups_len]; omega
  rw [e, List.getElem?_map]
  by_cases h : i < c
  · rw [List.getElem?_append_left (by rw [hd]; exact h), List.getElem?_drop, List.getElem?_eq_getElem (by rw [ups_len]; omega), ups_get, if_pos h]; rfl
  · rw [List.getElem?_append_right (by rw [hd]; omega), hd, List.getElem?_take_of_lt (by omega), List.getElem?_eq_getElem (by rw [ups_len]; omega), ups_get, if_neg h]; rfl
/-- the parents of two loops have the opposite order -/
def inv (L : List api_Loop) (a b : Nat) : Prop := a < b ∧ ∃ l k x y, L[a]? = some l ∧ L[b]? = some k ∧ l.Parents = [x] ∧ k.Parents = [y] ∧ y < x
theorem crs_x {k : Int} {b : Bool} {a c n : Nat} (hk : k = 6 ∨ k = 7) : (crs ⟨k, b, (a : Int), (c : Int)⟩ n).map norm = ((List.range a).map fun i => (List.range c).map fun j => (((n + j : Nat) : Int), ((n + c + i : Nat) : Int))).flatten := by
  have e : crs ⟨k, b, (a : Int), (c : Int)⟩ n = ((List.range a).map fun i => (List.range c).map fun j => if k = 7 then (((n + j : Nat) : Int), ((n + c + i : Nat) : Int)) else (((n + c + i : Nat) : Int), ((n + j : Nat) : Int))).flatten := by
    simp [crs, hk]
  rw [e, List.map_flatten, List.map_map]
  congr 1
  apply List.map_congr_left
  intro i _
  simp only [Function.comp, List.map_map]
  apply List.map_congr_left
  intro j hj
  have hj := List.mem_range.1 hj
  simp only [Function.comp, norm]
  rcases hk with rfl | rfl
  · simp only [show ((6 : Int) = 7) = False by simp, if_false]; rw [if_neg (by omega)]
  · simp only [if_true]; rw [if_pos (by omega)]
theorem crs_mem {k : Int} {b : Bool} {a c n : Nat} (hk : k = 6 ∨ k = 7) {q : Int × Int} : q ∈ (crs ⟨k, b, (a : Int), (c : Int)⟩ n).map norm ↔ ∃ i j : Nat, i < a ∧ j < c ∧ q = (((n + j : Nat) : Int), ((n + c + i : Nat) : Int)) := by
  rw [crs_x hk]
  simp only [List.mem_flatten, List.mem_map, List.mem_range]
  constructor
  · rintro ⟨_, ⟨i, hi, rfl⟩, h⟩
    simp only [List.mem_map, List.mem_range] at h
    obtain ⟨j, hj, rfl⟩ := h
    exact ⟨i, j, hi, hj, rfl⟩
  · rintro ⟨i, j, hi, hj, rfl⟩
    exact ⟨_, ⟨i, hi, rfl⟩, by simp only [List.mem_map, List.mem_range]; exact ⟨j, hj, rfl⟩⟩
theorem nodup_grid {α : Type} (f : Nat → Nat → α) (hf : ∀ i j i' j', f i j = f i' j' → i = i' ∧ j = j') (c : Nat) : ∀ a, ((List.range a).map fun i => (List.range c).map fun j => f i j).flatten.Nodup
  | 0 => by simp
  | a + 1 => by
    rw [List.range_succ, List.map_append, List.flatten_append, List.nodup_append]
    refine ⟨nodup_grid f hf c a, ?_, ?_⟩
    · simp only [List.map_cons, List.map_nil, List.flatten_cons, List.flatten_nil, List.append_nil]
      rw [List.nodup_iff_pairwise_ne]
      refine List.pairwise_map.2 (List.Pairwise.imp ?_ (List.pairwise_lt_range (n := c)))
      intro x y h e
      have := (hf _ _ _ _ e).2; omega
    · intro x hx y hy e
      subst e
      simp only [List.mem_flatten, List.mem_map, List.mem_range] at hx hy
      obtain ⟨_, ⟨i, hi, rfl⟩, hx⟩ := hx
      obtain ⟨_, ⟨i', hi', rfl⟩, hy⟩ := hy
      simp only [List.mem_map, List.mem_range] at hx hy
      obtain ⟨j, _, rfl⟩ := hx
      obtain ⟨j', _, e⟩ := hy
      simp at hi'
      have := (hf _ _ _ _ e).1; omega
/-- what a cell adds: its pairs, each once, are the pairs of its loops whose parents have the opposite order -/
theorem cross_new {s : api_Stitch} (h : okS s) (u n : Nat) : ((crs s n).map norm).Nodup ∧ ∀ a b : Nat, (((n + a : Nat) : Int), ((n + b : Nat) : Int)) ∈ (crs s n).map norm ↔ a < b ∧ ∃ x y, (pars s u)[a]? = some [x] ∧ (pars s u)[b]? = some [y] ∧ y < x := by
  have short : (pars s u).length ≤ 1 → crs s n = [] → ((crs s n).map norm).Nodup ∧ ∀ a b : Nat, (((n + a : Nat) : Int), ((n + b : Nat) : Int)) ∈ (crs s n).map norm ↔ a < b ∧ ∃ x y, (pars s u)[a]? = some [x] ∧ (pars s u)[b]? = some [y] ∧ y < x := by
    intro hl hc
    rw [hc]
    refine ⟨by simp, fun a b => ⟨fun h => by simp at h, ?_⟩⟩
    rintro ⟨hab, x, y, _, h2, _⟩
    have := (List.getElem?_eq_some_iff.1 h2).1
    omega
  have hl := pars_len h u
  rcases knd h with ⟨b, rfl⟩ | ⟨b, rfl⟩ | rfl | ⟨b, a, h2, h3, rfl⟩ | ⟨b, a, h2, h3, rfl⟩ | ⟨b, a, h2, h3, rfl⟩ | ⟨k, b, a, c, hk, h2, h3, h4, h5, rfl⟩ | ⟨a, h2, h3, rfl⟩ | ⟨b, a, h2, h3, rfl⟩
  · exact short (by simp [pars]) (by simp [crs])
  · exact short (by simp [pars]) (by simp [crs])
  · exact short (by simp [pars]) (by simp [crs])
  · exact short (by simp [pars]) (by simp [crs])
  · exact short (by simp [pars]) (by simp [crs])
  · have e : crs ⟨5, b, (a : Int), 0⟩ n = [] := by simp [crs]
    have e2 : pars ⟨5, b, (a : Int), 0⟩ u = List.replicate a [(u : Int)] := by simp [pars]
    rw [e, e2]
    refine ⟨by simp, fun i j => ⟨fun h => by simp at h, ?_⟩⟩
    rintro ⟨_, x, y, h5, h6, h7⟩
    rw [List.getElem?_replicate] at h5 h6
    split at h5
    · split at h6
      · simp at h5 h6; omega
      · cases h6
    · cases h5
  · have e3 : mN ⟨k, b, (a : Int), (c : Int)⟩ = a + c := by rcases hk with rfl | rfl <;> simp [mN, madeS] <;> omega
    refine ⟨?_, fun i j => ?_⟩
    · rw [crs_x hk]
      refine nodup_grid _ (fun i j i' j' e => ?_) c a
      simp only [Prod.mk.injEq] at e
      omega
    · rw [crs_mem hk]
      constructor
      · rintro ⟨p, q, hp, hq, e⟩
        simp only [Prod.mk.injEq] at e
        obtain ⟨rfl, rfl⟩ : i = q ∧ j = c + p := by omega
        refine ⟨by omega, _, _, pars_x hk (by omega), pars_x hk (by omega), ?_⟩
        rw [if_pos hq, if_neg (by omega)]
        omega
      · rintro ⟨hij, x, y, h6, h7, h8⟩
        have l1 := (List.getElem?_eq_some_iff.1 h7).1
        rw [hl, e3] at l1
        rw [pars_x hk (by omega)] at h6 h7
        simp only [Option.some.injEq, List.cons.injEq, and_true] at h6 h7
        subst h6 h7
        by_cases c1 : i < c
        · by_cases c2 : j < c
          · rw [if_pos c1, if_pos c2] at h8; omega
          · exact ⟨j - c, i, by omega, c1, by rw [Prod.mk.injEq]; exact ⟨rfl, by omega⟩⟩
        · rw [if_neg c1, if_neg (show ¬ j < c by omega)] at h8; omega
  · have e : crs ⟨9, false, (a : Int), 0⟩ n = [] := by simp [crs]
    have e2 : pars ⟨9, false, (a : Int), 0⟩ u = List.replicate a [] := by simp [pars]
    rw [e, e2]
    refine ⟨by simp, fun i j => ⟨fun h => by simp at h, ?_⟩⟩
    rintro ⟨_, x, y, h5, _⟩
    rw [List.getElem?_replicate] at h5
    split at h5 <;> simp at h5
  · exact short (by simp [pars]) (by simp [crs])
theorem crs_ge {s : api_Stitch} (h : okS s) {n : Nat} {q : Int × Int} (hq : q ∈ (crs s n).map norm) : ∃ a b : Nat, q = (((n + a : Nat) : Int), ((n + b : Nat) : Int)) ∧ a < b ∧ b < mN s := by
  rcases knd h with ⟨b, rfl⟩ | ⟨b, rfl⟩ | rfl | ⟨b, a, h2, h3, rfl⟩ | ⟨b, a, h2, h3, rfl⟩ | ⟨b, a, h2, h3, rfl⟩ | ⟨k, b, a, c, hk, h2, h3, h4, h5, rfl⟩ | ⟨a, h2, h3, rfl⟩ | ⟨b, a, h2, h3, rfl⟩
  · simp [crs] at hq
  · simp [crs] at hq
  · simp [crs] at hq
  · simp [crs] at hq
  · simp [crs] at hq
  · simp [crs] at hq
  · have e3 : mN ⟨k, b, (a : Int), (c : Int)⟩ = a + c := by rcases hk with rfl | rfl <;> simp [mN, madeS] <;> omega
    obtain ⟨i, j, hi, hj, rfl⟩ := (crs_mem hk).1 hq
    exact ⟨j, c + i, by rw [Prod.mk.injEq]; exact ⟨rfl, by omega⟩, by omega, by rw [e3]; omega⟩
  · simp [crs] at hq
  · simp [crs] at hq
structure cinv (L : List api_Loop) (C : List (Int × Int)) (u : Nat) : Prop where
  par : ∀ l, l ∈ L → ∀ p, p ∈ l.Parents → 0 ≤ p ∧ p < (u : Int)
  nd : (C.map norm).Nodup
  bd : ∀ q, q ∈ C.map norm → ∃ a b : Nat, q = ((a : Int), (b : Int)) ∧ a < b ∧ b < L.length
  iff : ∀ a b : Nat, (((a : Nat) : Int), ((b : Nat) : Int)) ∈ C.map norm ↔ inv L a b
  cell : ∀ a b l k, inv L a b → L[a]? = some l → L[b]? = some k → l.Cell = k.Cell
theorem cinv.step {R K : Nat} {s : api_Stitch} {z : Wk} (hs : okS s) (h : cinv z.L z.C z.u) : cinv (stepW R K s z).L (stepW R K s z).C (stepW R K s z).u := by
  have hp := pars_bd hs z.u
  have hl := pars_len hs z.u
  have hget : ∀ b l, z.L.length ≤ b → (stepW R K s z).L[b]? = some l → ∃ ps, (pars s z.u)[b - z.L.length]? = some ps ∧ l.Parents = ps ∧ l.Cell = (K : Int) := by
    intro b l hb hg
    simp only [stepW] at hg
    rw [List.getElem?_append_right hb] at hg
    simp only [mkL, List.getElem?_map, Option.map_eq_some_iff] at hg
    obtain ⟨ps, h1, rfl⟩ := hg
    exact ⟨ps, h1, rfl, rfl⟩
  have hold : ∀ b, b < z.L.length → (stepW R K s z).L[b]? = z.L[b]? := fun b hb => by simp only [stepW]; rw [List.getElem?_append_left hb]
  obtain ⟨hn1, hn2⟩ := cross_new hs z.u z.L.length
  have hinv : ∀ a b, inv (stepW R K s z).L a b ↔ inv z.L a b ∨ ∃ i j, a = z.L.length + i ∧ b = z.L.length + j ∧ i < j ∧ ∃ x y, (pars s z.u)[i]? = some [x] ∧ (pars s z.u)[j]? = some [y] ∧ y < x := by
    intro a b
    constructor
    · rintro ⟨hab, l, k, x, y, h1, h2, h3, h4, h5⟩
      by_cases hb : b < z.L.length
      · rw [hold a (by omega)] at h1
        rw [hold b hb] at h2
        exact .inl ⟨hab, l, k, x, y, h1, h2, h3, h4, h5⟩
      · obtain ⟨pb, g1, g2, _⟩ := hget b k (by omega) h2
        by_cases ha : a < z.L.length
        · rw [hold a ha] at h1
          have e1 := (h.par l (List.mem_of_getElem? h1) x (by rw [h3]; simp)).2
          have e2 := (hp pb (List.mem_of_getElem? g1)).2 y (by rw [← g2, h4]; simp)
          omega
        · obtain ⟨pa, f1, f2, _⟩ := hget a l (by omega) h1
          refine .inr ⟨a - z.L.length, b - z.L.length, by omega, by omega, by omega, x, y, ?_, ?_, h5⟩
          · rw [f1, ← f2, h3]
          · rw [g1, ← g2, h4]
    · rintro (⟨hab, l, k, x, y, h1, h2, h3, h4, h5⟩ | ⟨i, j, rfl, rfl, hij, x, y, h1, h2, h3⟩)
      · exact ⟨hab, l, k, x, y, by rw [hold a (List.getElem?_eq_some_iff.1 h1).1]; exact h1, by rw [hold b (List.getElem?_eq_some_iff.1 h2).1]; exact h2, h3, h4, h5⟩
      · refine ⟨by omega, ⟨R, K, [x], side z.L s z.u⟩, ⟨R, K, [y], side z.L s z.u⟩, x, y, ?_, ?_, rfl, rfl, h3⟩
        · simp only [stepW]; rw [List.getElem?_append_right (by omega), Nat.add_sub_cancel_left]; simp only [mkL, List.getElem?_map, h1, Option.map_some]
        · simp only [stepW]; rw [List.getElem?_append_right (by omega), Nat.add_sub_cancel_left]; simp only [mkL, List.getElem?_map, h2, Option.map_some]
  refine ⟨?_, ?_, ?_, ?_, ?_⟩
  · intro l hm p hpm
    simp only [stepW] at hm ⊢
    rcases List.mem_append.1 hm with hm | hm
    · have := h.par l hm p hpm; omega
    · simp only [mkL, List.mem_map] at hm
      obtain ⟨ps, h1, rfl⟩ := hm
      have := (hp ps h1).2 p hpm; omega
  · simp only [stepW, List.map_append]
    rw [List.nodup_append]
    refine ⟨h.nd, hn1, fun x hx y hy e => ?_⟩
    subst e
    obtain ⟨a, b, rfl, _, hb⟩ := h.bd x hx
    obtain ⟨i, j, e, _, _⟩ := crs_ge hs hy
    simp only [Prod.mk.injEq] at e
    omega
  · intro q hq
    simp only [stepW, List.map_append, List.mem_append, List.length_append, mkL_len, hl] at hq ⊢
    rcases hq with hq | hq
    · obtain ⟨a, b, rfl, h1, h2⟩ := h.bd q hq; exact ⟨a, b, rfl, h1, by omega⟩
    · obtain ⟨a, b, rfl, h1, h2⟩ := crs_ge hs hq; exact ⟨_, _, rfl, by omega, by omega⟩
  · intro a b
    rw [hinv]
    simp only [stepW, List.map_append, List.mem_append]
    rw [h.iff a b]
    constructor
    · rintro (h1 | h1)
      · exact .inl h1
      · obtain ⟨i, j, e, _, _⟩ := crs_ge hs h1
        simp only [Prod.mk.injEq] at e
        obtain ⟨rfl, rfl⟩ : a = z.L.length + i ∧ b = z.L.length + j := by omega
        obtain ⟨hij, hx⟩ := (hn2 i j).1 h1
        exact .inr ⟨i, j, rfl, rfl, hij, hx⟩
    · rintro (h1 | ⟨i, j, rfl, rfl, hij, hx⟩)
      · exact .inl h1
      · exact .inr ((hn2 i j).2 ⟨hij, hx⟩)
  · intro a b l k hi h1 h2
    rcases (hinv a b).1 hi with h3 | ⟨i, j, rfl, rfl, _, _⟩
    · have hb : b < z.L.length := by obtain ⟨_, _, _, _, _, _, g, _⟩ := h3; exact (List.getElem?_eq_some_iff.1 g).1
      rw [hold a (by have := h3.1; omega)] at h1
      rw [hold b hb] at h2
      exact h.cell a b l k h3 h1 h2
    · obtain ⟨_, _, _, e1⟩ := hget _ l (by omega) h1
      obtain ⟨_, _, _, e2⟩ := hget _ k (by omega) h2
      rw [e1, e2]
theorem cinv.start (S : Nat) : cinv (zeroL S) [] 0 := by
  have hp : ∀ l, l ∈ zeroL S → l.Parents = [] := by
    intro l hl
    simp only [zeroL, List.mem_map] at hl
    obtain ⟨_, _, rfl⟩ := hl; rfl
  have hi : ∀ a b, ¬ inv (zeroL S) a b := by
    rintro a b ⟨_, l, _, x, _, h1, _, h3, _⟩
    rw [hp l (List.mem_of_getElem? h1)] at h3; cases h3
  exact ⟨fun l hl p hpm => by rw [hp l hl] at hpm; simp at hpm, by simp, fun q hq => by simp at hq, fun a b => ⟨fun h => by simp at h, fun h => absurd h (hi a b)⟩, fun a b l k h => absurd h (hi a b)⟩

end Go.Proofs.Yticjoiolfibmlaa
namespace Go.Proofs.Yticjoiolfibmlaa
open Go.RowKit
set_option linter.unusedVariables false

theorem cells_all {R : Nat} {l : List api_Stitch} {z : Wk} (P : Nat → Wk → Prop) (h0 : P 0 z) (step : ∀ (j : Nat) (hj : j < l.length) (y : Wk), P j y → P (j + 1) (stepW R j l[j] y)) : ∀ k, k ≤ l.length → P k (cellsW R 0 (l.take k) z) := by
  intro k
  induction k with
  | zero => intro _; exact h0
  | succ k ih =>
    intro hk
    rw [List.take_succ_eq_append_getElem (by omega), cellsW_snoc]
    have := step k (by omega) _ (ih (by omega))
    rwa [Nat.zero_add, List.length_take, Nat.min_eq_left (by omega)]
theorem rows_all {fs : List (List api_Stitch)} {z : Wk × List Int} (P : Nat → Wk × List Int → Prop) (h0 : P 0 z)
    (step : ∀ (i : Nat) (hi : i < fs.length) (y : Wk × List Int), P i y → P (i + 1) (cellsW (i + 1) 0 fs[i] y.1, y.2 ++ [((cellsW (i + 1) 0 fs[i] y.1).L.length : Int)])) : ∀ k, k ≤ fs.length → P k (rowsW 0 (fs.take k) z) := by
  intro k
  induction k with
  | zero => intro _; exact h0
  | succ k ih =>
    intro hk
    rw [List.take_succ_eq_append_getElem (by omega), rowsW_snoc]
    have := step k (by omega) _ (ih (by omega))
    rwa [Nat.zero_add, List.length_take, Nat.min_eq_left (by omega)]
theorem offs_snoc (S : Nat) (fs : List (List api_Stitch)) (k : Nat) : ((List.range (k + 2)).map fun r => (off S fs r : Int)) ++ [(off S fs (k + 2) : Int)] = (List.range (k + 1 + 2)).map fun r => (off S fs r : Int) := by
  rw [List.range_succ (n := k + 1 + 1), List.map_append]; rfl
/-- the bounds of what is bound off and of the pairs -/
structure Bd (k j : Nat) (z : Wk) : Prop where
  B : z.B.length ≤ z.u
  C : z.C.length ≤ 36 * (200 * k + j)
theorem offB_len {s : api_Stitch} (u : Nat) : (offB s u).length ≤ uN s := by
  unfold offB
  split
  · rename_i h; rw [ups_len]; simp [uN, usedS, h]
  · simp
theorem crs_len {s : api_Stitch} (h : okS s) (n : Nat) : (crs s n).length ≤ 36 := by
  rcases knd h with ⟨b, rfl⟩ | ⟨b, rfl⟩ | rfl | ⟨b, a, h2, h3, rfl⟩ | ⟨b, a, h2, h3, rfl⟩ | ⟨b, a, h2, h3, rfl⟩ | ⟨k, b, a, c, hk, h2, h3, h4, h5, rfl⟩ | ⟨a, h2, h3, rfl⟩ | ⟨b, a, h2, h3, rfl⟩
  · simp [crs]
  · simp [crs]
  · simp [crs]
  · simp [crs]
  · simp [crs]
  · simp [crs]
  · have e : ((crs ⟨k, b, (a : Int), (c : Int)⟩ n).map norm).length = a * c := by
      rw [crs_x hk]
      have : ∀ m, ((List.range m).map fun i => (List.range c).map fun j => (((n + j : Nat) : Int), ((n + c + i : Nat) : Int))).flatten.length = m * c := by
        intro m
        induction m with
        | zero => simp
        | succ m ih => rw [List.range_succ, List.map_append, List.flatten_append, List.length_append, ih]; simp [Nat.add_mul]
      exact this a
    rw [List.length_map] at e
    have := Nat.mul_le_mul h3 h5
    omega
  · simp [crs]
  · simp [crs]
theorem Bd.step {k j R K : Nat} {s : api_Stitch} {z : Wk} (hs : okS s) (h : Bd k j z) : Bd k (j + 1) (stepW R K s z) := by
  have h1 := offB_len (s := s) z.u
  have h2 := crs_len hs z.L.length
  have := h.B
  have := h.C
  exact ⟨by simp only [stepW, List.length_append]; omega, by simp only [stepW, List.length_append]; omega⟩
/-- what is there after k rows -/
def stC (S : Nat) (fs : List (List api_Stitch)) (k : Nat) : Wk × List Int := rowsW 0 (fs.take k) (⟨zeroL S, [], [], 0⟩, [0, (S : Int)])
theorem stC_all {S : Nat} {fs : List (List api_Stitch)} (hf : okF S fs) (P : Nat → Nat → Wk → Prop) (h0 : P 0 0 ⟨zeroL S, [], [], 0⟩)
    (step : ∀ (k j : Nat) (hk : k < fs.length) (hj : j < fs[k].length) (z : Wk), LInv S fs k j z → P k j z → P k (j + 1) (stepW (k + 1) j (fs[k][j]) z))
    (row : ∀ (k : Nat) (hk : k < fs.length) (z : Wk), LInv S fs (k + 1) 0 z → P k fs[k].length z → P (k + 1) 0 z) :
    ∀ k, k ≤ fs.length → LInv S fs k 0 (stC S fs k).1 ∧ P k 0 (stC S fs k).1 ∧ (stC S fs k).2 = (List.range (k + 2)).map fun r => (off S fs r : Int) := by
  refine rows_all (fun k z => LInv S fs k 0 z.1 ∧ P k 0 z.1 ∧ z.2 = (List.range (k + 2)).map fun r => (off S fs r : Int)) ⟨LInv.start S fs, h0, by simp [off, nR, List.range_succ]⟩ ?_
  rintro k hk ⟨z, rs⟩ ⟨h1, h2, h3⟩
  simp only at h1 h2 h3
  have hc : LInv S fs k fs[k].length (cellsW (k + 1) 0 fs[k] z) ∧ P k fs[k].length (cellsW (k + 1) 0 fs[k] z) :=
    cells_ind (fun j y => LInv S fs k j y ∧ P k j y) ⟨h1, h2⟩ fun j hj y hy => ⟨hy.1.step hf hk hj, step k j hk hj y hy.1 hy.2⟩
  have hr := hc.1.row hf hk
  refine ⟨hr, row k hk _ hr hc.2, ?_⟩
  simp only
  rw [h3, hr.len, ← offs_snoc]
  simp [pm, smN]
theorem stC_cells {S : Nat} {fs : List (List api_Stitch)} (hf : okF S fs) {k : Nat} (hk : k < fs.length) (P : Nat → Wk → Prop) (h0 : P 0 (stC S fs k).1)
    (step : ∀ (j : Nat) (hj : j < fs[k].length) (z : Wk), LInv S fs k j z → P j z → P (j + 1) (stepW (k + 1) j (fs[k][j]) z)) :
    ∀ j, j ≤ fs[k].length → LInv S fs k j (cellsW (k + 1) 0 (fs[k].take j) (stC S fs k).1) ∧ P j (cellsW (k + 1) 0 (fs[k].take j) (stC S fs k).1) := by
  have hz := (stC_all hf (fun _ _ _ => True) trivial (fun _ _ _ _ _ _ _ => trivial) (fun _ _ _ _ _ => trivial) k (by omega)).1
  exact cells_all (fun j y => LInv S fs k j y ∧ P j y) ⟨hz, h0⟩ fun j hj y hy => ⟨hy.1.step hf hk hj, step j hj y hy.1 hy.2⟩
theorem stC_succ {S : Nat} {fs : List (List api_Stitch)} {k : Nat} (hk : k < fs.length) : stC S fs (k + 1) = (cellsW (k + 1) 0 fs[k] (stC S fs k).1, (stC S fs k).2 ++ [((cellsW (k + 1) 0 fs[k] (stC S fs k).1).L.length : Int)]) := by
  unfold stC
  rw [List.take_succ_eq_append_getElem hk, rowsW_snoc, Nat.zero_add, List.length_take, Nat.min_eq_left (by omega)]
theorem stC_bd {S : Nat} {fs : List (List api_Stitch)} (hf : okF S fs) (k : Nat) (hk : k ≤ fs.length) : Bd k 0 (stC S fs k).1 := by
  refine (stC_all hf (fun k j z => Bd k j z) ⟨by simp, by simp⟩ ?_ ?_ k hk).2.1
  · intro k j hk hj z _ h
    exact h.step ((hf.2 k hk).1 _ (List.getElem_mem _))
  · intro k hk z _ h
    have := (hf.2 k hk).2.1
    exact ⟨h.B, Nat.le_trans h.C (by omega)⟩
/-- one row, as the program works it -/
theorem pu_le {S : Nat} {fs : List (List api_Stitch)} (hf : okF S fs) {k j : Nat} (hk : k < fs.length) (hj : j < fs[k].length) : pu S fs k j + uN (fs[k][j]) ≤ off S fs (k + 1) := by
  have hg : fs.getD k [] = fs[k] := by simp [List.getD_eq_getElem?_getD, List.getElem?_eq_getElem hk]
  have h1 := smN_take uN fs[k] hj
  have h2 := smN_take_le uN fs[k] (j + 1)
  have h3 := (hf.2 k hk).2.2.2
  simp only [pu, hg, off]
  omega
theorem pm_le {S : Nat} {fs : List (List api_Stitch)} (hf : okF S fs) {k j : Nat} (hk : k < fs.length) : off S fs (k + 1) ≤ pm S fs k j ∧ pm S fs k j ≤ off S fs (k + 2) := by
  have hg : fs.getD k [] = fs[k] := by simp [List.getD_eq_getElem?_getD, List.getElem?_eq_getElem hk]
  have h2 := smN_take_le mN fs[k] j
  have h3 := nR_succ (S := S) hk
  simp only [pm, hg, off, h3]
  omega
theorem cells_at (R : Nat) (l : List api_Stitch) (z : Wk) {j : Nat} (hj : j < l.length) : cellsW R 0 (l.take (j + 1)) z = stepW R j l[j] (cellsW R 0 (l.take j) z) := by
  rw [List.take_succ_eq_append_getElem hj, cellsW_snoc, Nat.zero_add, List.length_take, Nat.min_eq_left (by omega)]
theorem row_loop {S : Nat} {fs : List (List api_Stitch)} (hf : okF S fs) (hfl : fs.length ≤ 100) {k : Nat} (hk : k < fs.length) (e : Int) (rs : List Int) :
    whileO (loops_of_l2 (fs[k], e) (k : Int)) (0, (stC S fs k).1.L, rs, (stC S fs k).1.B, (stC S fs k).1.C, ((stC S fs k).1.u : Int)) =
      some ((stC S fs (k + 1)).1.L, rs, (stC S fs (k + 1)).1.B, (stC S fs (k + 1)).1.C, ((stC S fs (k + 1)).1.u : Int)) := by
  have hall := stC_cells hf hk (fun j z => Bd k j z) (stC_bd hf k (by omega)) fun j hj z _ h => h.step ((hf.2 k hk).1 _ (List.getElem_mem _))
  have hlen := (hf.2 k hk).2.1
  rw [stC_succ hk]
  generalize stC S fs k = z at hall
  refine loop_sq (fun j => ((j : Int), (cellsW (k + 1) 0 (fs[k].take j) z.1).L, rs, (cellsW (k + 1) 0 (fs[k].take j) z.1).B, (cellsW (k + 1) 0 (fs[k].take j) z.1).C, ((cellsW (k + 1) 0 (fs[k].take j) z.1).u : Int))) fs[k].length (by simp [cellsW]) ?_ ?_
  · intro j hj
    obtain ⟨hL, hB⟩ := hall j (by omega)
    have h1 := pu_le hf hk hj
    have h2 := pm_le hf hk (j := j)
    have h3 := off_le hf (r := k + 2) (by omega)
    have h4 := off_mono (S := S) (fs := fs) (a := k + 1) (b := k + 2) (by omega)
    have h5 := hB.B
    have h6 := hB.C
    have h7 := hL.len
    have h8 := hL.u
    unfold loops_of_l2
    simp only [dT (show (j : Int) < (fs[k].length : Int) by omega), if_true]
    rw [idxO_nat hj, Option.bind_some, w64_succ (by omega), work_eq (k + 1) j (cellsW (k + 1) 0 (fs[k].take j) z.1).u ((hf.2 k hk).1 _ (List.getElem_mem _)) rfl (by simp only; omega) (by simp only; omega) (by simp only; omega) (by simp only; omega), Option.bind_some, w64_succ (by omega), cells_at (k + 1) fs[k] z.1 hj]
    rfl
  · unfold loops_of_l2
    simp only [dF (show ¬ (fs[k].length : Int) < (fs[k].length : Int) by omega), Bool.false_eq_true, if_false, List.take_length]
theorem face_eq {c : api_Chart} (hw : wfR c.Rows) (hk : chk c = 0) {i : Nat} (hi : i < c.Rows.length) : F_chart_Face c (i : Int) = some (faceR c.Rows[i], 0) := by
  have hrows := chk_ok hk
  have hall := chkR_mem hrows.2.2.2 _ (List.getElem_mem hi)
  have hlen := (allS_ok hall).1
  unfold F_chart_Face
  rw [chart_check_eq c hw, Option.bind_some, hk]
  simp only [show ((0 : Int) != 0) = false from rfl, Bool.false_eq_true, if_false, dF (show ¬ (i : Int) < 0 by omega), dF (show ¬ (c.Rows.length : Int) ≤ (i : Int) by omega), Option.bind_some]
  rw [idxO_nat hi, Option.bind_some]
  unfold faceR
  by_cases hb : c.Rows[i].Back = true
  · rw [if_pos hb, if_pos hb, turn_eq (hw _ (List.getElem_mem hi)), if_pos hall]; rfl
  · rw [if_neg hb, if_neg hb]
    unfold F_slices_Clone___api_Stitch_api_Stitch_
    rw [appO_of (by simp; omega), Option.bind_some]; rfl
theorem okF_of {c : api_Chart} (hk : chk c = 0) : okF c.Start.toNat (c.Rows.map faceR) ∧ c.Rows.length ≤ 100 ∧ ((c.Start.toNat : Nat) : Int) = c.Start := by
  obtain ⟨h1, h2, h3, h4⟩ := chk_ok hk
  have hface : ∀ r : api_Row, allS r.Cells = 0 → allS (faceR r) = 0 ∧ sm usedS (faceR r) = sm usedS r.Cells ∧ sm madeS (faceR r) = sm madeS r.Cells := by
    intro r hr
    unfold faceR
    split
    · exact turned_ok hr
    · exact ⟨hr, rfl, rfl⟩
  have key : ∀ (rs : List api_Row) (S : Nat), S ≤ 200 → chkR (S : Int) rs = 0 → okF S (rs.map faceR) := by
    intro rs
    induction rs with
    | nil => intro S hS _; exact ⟨hS, fun i h => absurd h (by simp)⟩
    | cons r rs ih =>
      intro S hS hc
      obtain ⟨a1, a2, a3⟩ := chkR_cons.1 hc
      obtain ⟨b1, b2, b3⟩ := hface r a1
      obtain ⟨c1, c2, c3, c4⟩ := allS_ok b1
      have u1 := smN_used c2
      have m1 := smN_made c2
      have hm : ((smN mN (faceR r) : Nat) : Int) = sm madeS r.Cells := by omega
      have ih := ih (smN mN (faceR r)) (by omega) (by rw [hm]; exact a3)
      refine ⟨hS, fun i hi => ?_⟩
      cases i with
      | zero =>
        simp only [List.map_cons, List.getElem_cons_zero]
        refine ⟨c2, c1, by omega, ?_⟩
        simp only [nR, if_true]; omega
      | succ i =>
        have hi' : i < (rs.map faceR).length := by simpa using hi
        have := ih.2 i hi'
        simp only [List.map_cons, List.getElem_cons_succ]
        refine ⟨this.1, this.2.1, this.2.2.1, ?_⟩
        rw [this.2.2.2]
        unfold nR
        by_cases e : i = 0
        · subst e; simp
        · obtain ⟨m, rfl⟩ : ∃ m, i = m + 1 := ⟨i - 1, by omega⟩
          simp
  have e : ((c.Start.toNat : Nat) : Int) = c.Start := by omega
  exact ⟨key c.Rows c.Start.toNat (by omega) (by rw [e]; exact h4), h1, e⟩
theorem workC_eq {c : api_Chart} (hk : chk c = 0) : workC c = stC c.Start.toNat (c.Rows.map faceR) (c.Rows.map faceR).length := by
  have e := (okF_of hk).2.2
  unfold workC stC
  rw [List.take_length, e]
theorem zeroL_succ (i : Nat) : zeroL (i + 1) = zeroL i ++ [⟨0, (i : Int), [], false⟩] := by simp [zeroL, List.range_succ]
def pieceOf (z : Wk × List Int) : loops_piece := ⟨z.1.L, z.2, z.1.B, z.1.C, (z.1.u : Int)⟩
theorem of_eq (c : api_Chart) (hw : wfR c.Rows) : F_loops_of c = some (if chk c = 0 then (pieceOf (workC c), 0) else (⟨[], [], [], [], 0⟩, chk c)) := by
  unfold F_loops_of
  rw [chart_check_eq c hw, Option.bind_some]
  by_cases hk : chk c = 0
  · rw [if_pos hk, hk]
    simp only [show ((0 : Int) != 0) = false from rfl, Bool.false_eq_true, if_false]
    obtain ⟨hf, hl, hs⟩ := okF_of hk
    rw [workC_eq hk]
    generalize hS : c.Start.toNat = S at *
    generalize hfs : c.Rows.map faceR = fs at *
    have hfl : fs.length = c.Rows.length := by rw [← hfs, List.length_map]
    have k1 : whileO (loops_of_l1 c) (0, ([] : List api_Loop)) = some (zeroL S) := by
      refine loop_sq (fun i => ((i : Int), zeroL i)) S (by simp [zeroL]) ?_ ?_
      · intro i hi
        unfold loops_of_l1
        simp only [dT (show (i : Int) < c.Start by omega), if_true]
        have := hf.1
        rw [appO_of (by simp [zeroL]; omega), Option.bind_some, zeroL_succ, w64_succ (by omega)]
      · unfold loops_of_l1
        simp only [dF (show ¬ (S : Int) < c.Start by omega), Bool.false_eq_true, if_false]
    have k3 : whileO (loops_of_l3 c) (0, zeroL S, ([0, c.Start] : List Int), ([] : List Int), ([] : List (Int × Int)), 0) =
        some ((stC S fs fs.length).1.L, (stC S fs fs.length).2, (stC S fs fs.length).1.B, (stC S fs fs.length).1.C, ((stC S fs fs.length).1.u : Int)) := by
      refine loop_sq (fun k => ((k : Int), (stC S fs k).1.L, (stC S fs k).2, (stC S fs k).1.B, (stC S fs k).1.C, ((stC S fs k).1.u : Int))) fs.length (by simp [stC, rowsW, hs]) ?_ ?_
      · intro k hk'
        have hk2 : k < c.Rows.length := by omega
        have hfk : fs[k] = faceR c.Rows[k] := by simp [← hfs]
        have hrs := (stC_all hf (fun _ _ _ => True) trivial (fun _ _ _ _ _ _ _ => trivial) (fun _ _ _ _ _ => trivial) k (by omega)).2.2
        unfold loops_of_l3
        simp only [dT (show (k : Int) < (c.Rows.length : Int) by omega), if_true]
        rw [face_eq hw hk hk2, Option.bind_some, ← hfk, row_loop hf (by omega) hk' 0 _]
        simp only [Option.bind_some]
        rw [appO_of (by rw [hrs]; simp; omega), w64_succ (by omega)]
        simp only [Option.bind_some]
        rw [stC_succ hk']
      · unfold loops_of_l3
        simp only [dF (show ¬ (fs.length : Int) < (c.Rows.length : Int) by omega), Bool.false_eq_true, if_false]
    rw [k1]
    simp only [Option.bind_some]
    rw [k3]
    rfl
  · rw [if_neg hk, nT hk, if_pos rfl]

end Go.Proofs.Yticjoiolfibmlaa
namespace Go.Proofs.Yticjoiolfibmlaa
open Go.RowKit
set_option linter.unusedVariables false

theorem rput_eq (p : raddleref27_Piece) (R K : Int) (q : List Int) (b : Bool) (h : p.Loops.length ≤ 1000000) : F_raddleref27_Piece_put_s1 p R K q b = some ⟨p.Loops ++ [⟨R, K, q, b⟩], p.Bound, p.Cross, p.Rows⟩ := by
  unfold F_raddleref27_Piece_put_s1
  rw [appO_of (by simp; omega)]; rfl
theorem rcell_eq {p : raddleref27_Piece} {s : api_Stitch} (R K u : Nat) (h : okS s) (hl : p.Loops.length ≤ 100000) (hb : p.Bound.length ≤ 100000) (hx : p.Cross.length ≤ 900000) (hul : u + uN s ≤ p.Loops.length) :
    F_raddleref27_Piece_cell_s1 p (R : Int) (K : Int) s (ups u (uN s)) = some ⟨p.Loops ++ mkL R K (side p.Loops s u) (pars s u), p.Bound ++ offB s u, p.Cross ++ crs s p.Loops.length, p.Rows⟩ := by
  unfold F_raddleref27_Piece_cell_s1
  rcases knd h with ⟨b, rfl⟩ | ⟨b, rfl⟩ | rfl | ⟨b, a, h1, h2, rfl⟩ | ⟨b, a, h1, h2, rfl⟩ | ⟨b, a, h1, h2, rfl⟩ | ⟨k, b, a, c, hk, h1, h2, h3, h4, rfl⟩ | ⟨a, h1, h2, rfl⟩ | ⟨b, a, h1, h2, rfl⟩
  · have e : uN ⟨1, b, 0, 0⟩ = 1 := by simp [uN, usedS]
    rw [e]
    simp only [show ((1 : Int) == 1) = true from rfl, if_true]
    rw [show idxO (ups u 1) 0 = some ((u : Nat) : Int) from rfl, Option.bind_some, rput_eq _ _ _ _ _ (by omega), Option.bind_some]
    simp [mkL, pars, offB, crs, side]
  · have e : uN ⟨8, b, 0, 0⟩ = 1 := by simp [uN, usedS]
    rw [e] at hul ⊢
    have hlt : u < p.Loops.length := by omega
    simp only [show ((8 : Int) == 1) = false from rfl, show ((8 : Int) == 2) = false from rfl, show ((8 : Int) == 9) = false from rfl, show ((8 : Int) == 3) = false from rfl, show ((8 : Int) == 4) = false from rfl, show ((8 : Int) == 5) = false from rfl, show ((8 : Int) == 6) = false from rfl, show ((8 : Int) == 7) = false from rfl, show ((8 : Int) == 8) = true from rfl, Bool.false_eq_true, if_false, if_true, Option.bind_some]
    rw [show idxO (ups u 1) 0 = some ((u : Nat) : Int) from rfl, Option.bind_some, idxO_nat hlt, Option.bind_some, rput_eq _ _ _ _ _ (by omega), Option.bind_some]
    simp [mkL, pars, offB, crs, side, List.getElem?_eq_getElem hlt]
  · simp only [show ((2 : Int) == 1) = false from rfl, show ((2 : Int) == 2) = true from rfl, Bool.false_eq_true, if_false, if_true]
    rw [rput_eq _ _ _ _ _ (by omega), Option.bind_some]
    simp [mkL, pars, offB, crs, side]
  · have e : uN ⟨3, b, (a : Int), 0⟩ = a := by simp [uN, usedS]
    rw [e]
    simp only [show ((3 : Int) == 1) = false from rfl, show ((3 : Int) == 2) = false from rfl, show ((3 : Int) == 9) = false from rfl, show ((3 : Int) == 3) = true from rfl, Bool.false_eq_true, if_false, if_true, Option.bind_some]
    have key : whileO (raddleref27_Piece_cell_s1_l2 (ups u a) ⟨3, b, (a : Int), 0⟩) (([] : List Int), 0) = some (ups u a) := by
      refine loop_sq (fun i => ((ups u a).take i, (i : Int))) a (by simp) ?_ ?_
      · intro i hi
        have hiu : i < (ups u a).length := by rw [ups_len]; exact hi
        unfold raddleref27_Piece_cell_s1_l2
        simp only [dT (show (i : Int) < ((ups u a).length : Int) by omega), show ((3 : Int) == 3) = true from rfl, if_true]
        rw [idxO_nat hiu, Option.bind_some, appO_of (by simp; omega), w64_succ (by omega), take_snoc _ hiu]; rfl
      · unfold raddleref27_Piece_cell_s1_l2
        simp only [dF (show ¬ (a : Int) < ((ups u a).length : Int) by rw [ups_len]; omega), Bool.false_eq_true, if_false]
        rw [List.take_of_length_le (by rw [ups_len]; exact Nat.le_refl _)]
    rw [key]
    simp only [Option.bind_some]
    rw [rput_eq _ _ _ _ _ (by omega), Option.bind_some]
    simp [mkL, pars, offB, crs, side]
  · have e : uN ⟨4, b, (a : Int), 0⟩ = a := by simp [uN, usedS]
    rw [e]
    simp only [show ((4 : Int) == 1) = false from rfl, show ((4 : Int) == 2) = false from rfl, show ((4 : Int) == 9) = false from rfl, show ((4 : Int) == 3) = false from rfl, show ((4 : Int) == 4) = true from rfl, Bool.false_eq_true, if_false, if_true, Option.bind_some]
    have key : whileO (raddleref27_Piece_cell_s1_l2 (ups u a) ⟨4, b, (a : Int), 0⟩) (([] : List Int), 0) = some (ups u a).reverse := by
      refine loop_sq (fun i => ((ups u a).reverse.take i, (i : Int))) a (by simp) ?_ ?_
      · intro i hi
        have hiu : i < (ups u a).length := by rw [ups_len]; exact hi
        have hil : a - 1 - i < (ups u a).length := by rw [ups_len]; omega
        unfold raddleref27_Piece_cell_s1_l2
        simp only [dT (show (i : Int) < ((ups u a).length : Int) by omega), show ((4 : Int) == 3) = false from rfl, Bool.false_eq_true, if_false, if_true]
        rw [ups_len, show w64 ((a : Int) - 1) = (a : Int) - 1 from w64_of (by omega) (by omega), w64_of (by omega) (by omega), idxO_of (k := a - 1 - i) (by omega) hil, Option.bind_some, appO_of (by simp; omega), w64_succ (by omega), take_snoc _ (by rw [List.length_reverse]; exact hiu), List.getElem_reverse]
        simp only [ups_len]; rfl
      · unfold raddleref27_Piece_cell_s1_l2
        simp only [dF (show ¬ (a : Int) < ((ups u a).length : Int) by rw [ups_len]; omega), Bool.false_eq_true, if_false]
        rw [List.take_of_length_le (by rw [List.length_reverse, ups_len]; exact Nat.le_refl _)]
    rw [key]
    simp only [Option.bind_some]
    rw [rput_eq _ _ _ _ _ (by omega), Option.bind_some]
    simp [mkL, pars, offB, crs, side]
  · have e : uN ⟨5, b, (a : Int), 0⟩ = 1 := by simp [uN, usedS]
    rw [e]
    simp only [show ((5 : Int) == 1) = false from rfl, show ((5 : Int) == 2) = false from rfl, show ((5 : Int) == 9) = false from rfl, show ((5 : Int) == 3) = false from rfl, show ((5 : Int) == 4) = false from rfl, show ((5 : Int) == 5) = true from rfl, Bool.false_eq_true, if_false, if_true, Option.bind_some]
    have key : whileO (raddleref27_Piece_cell_s1_l3 ⟨5, b, (a : Int), 0⟩ (ups u 1) (R : Int) (K : Int)) (0, p.Loops, p.Bound, p.Cross, p.Rows) = some (p.Loops ++ List.replicate a ⟨(R : Int), (K : Int), [(u : Int)], b⟩, p.Bound, p.Cross, p.Rows) := by
      refine loop_sq (fun i => ((i : Int), p.Loops ++ List.replicate i (⟨(R : Int), (K : Int), [(u : Int)], b⟩ : api_Loop), p.Bound, p.Cross, p.Rows)) a (by simp) ?_ ?_
      · intro i hi
        unfold raddleref27_Piece_cell_s1_l3
        simp only [dT (show (i : Int) < (a : Int) by omega), if_true]
        rw [show idxO (ups u 1) 0 = some ((u : Nat) : Int) from rfl, Option.bind_some, rput_eq _ _ _ _ _ (by simp; omega), Option.bind_some, w64_succ (by omega), List.replicate_succ', List.append_assoc]
      · unfold raddleref27_Piece_cell_s1_l3
        simp only [dF (show ¬ (a : Int) < (a : Int) by omega), Bool.false_eq_true, if_false]
    rw [key]
    simp [mkL, pars, offB, crs, side]
  · have e : uN ⟨k, b, (a : Int), (c : Int)⟩ = a + c := by rcases hk with rfl | rfl <;> simp [uN, usedS] <;> omega
    rw [e]
    have ht : ∀ q : Int, q ≠ 6 → q ≠ 7 → (k == q) = false := by intro q h6 h7; rcases hk with rfl | rfl <;> simp <;> omega
    simp only [ht 1 (by omega) (by omega), ht 2 (by omega) (by omega), ht 9 (by omega) (by omega), ht 3 (by omega) (by omega), ht 4 (by omega) (by omega), ht 5 (by omega) (by omega), Bool.false_eq_true, if_false, Option.bind_some]
    have h67 : (if (k == 6) = true then some (k == 6) else some (k == 7)) = some true := by rcases hk with rfl | rfl <;> rfl
    rw [h67, Option.bind_some, if_pos rfl]
    have ep : pars ⟨k, b, (a : Int), (c : Int)⟩ u = ((ups u (a + c)).drop a ++ (ups u (a + c)).take a).map fun x => [x] := by rcases hk with rfl | rfl <;> simp [pars]
    have hpl : (pars ⟨k, b, (a : Int), (c : Int)⟩ u).length = a + c := by rw [ep]; simp [ups_len]; omega
    have k1 : whileO (raddleref27_Piece_cell_s1_l4 ⟨k, b, (a : Int), (c : Int)⟩ (ups u (a + c)) (R : Int) (K : Int)) (0, p.Loops, p.Bound, p.Cross, p.Rows) = some (p.Loops ++ mkL R K b (pars ⟨k, b, (a : Int), (c : Int)⟩ u), p.Bound, p.Cross, p.Rows) := by
      refine loop_sq (fun i => ((i : Int), p.Loops ++ mkL R K b ((pars ⟨k, b, (a : Int), (c : Int)⟩ u).take i), p.Bound, p.Cross, p.Rows)) (a + c) (by simp [mkL]) ?_ ?_
      · intro i hi
        have hx := pars_x (b := b) (u := u) hk hi
        have hm : (a + i) % (a + c) = if i < c then a + i else i - c := by
          split
          · exact Nat.mod_eq_of_lt (by omega)
          · rw [show a + i = (i - c) + (a + c) by omega, Nat.add_mod_right, Nat.mod_eq_of_lt (by omega)]
        have hmlt : (a + i) % (a + c) < (ups u (a + c)).length := by rw [ups_len]; exact Nat.mod_lt _ (by omega)
        have hip : i < (pars ⟨k, b, (a : Int), (c : Int)⟩ u).length := by omega
        unfold raddleref27_Piece_cell_s1_l4
        simp only [show w64 ((a : Int) + (c : Int)) = ((a + c : Nat) : Int) by rw [w64_of (by omega) (by omega)]; omega, dT (show (i : Int) < ((a + c : Nat) : Int) by omega), if_true]
        rw [show w64 ((a : Int) + (i : Int)) = ((a + i : Nat) : Int) by rw [w64_of (by omega) (by omega)]; omega, rem_nat (by omega), Option.bind_some, idxO_nat hmlt, Option.bind_some, rput_eq _ _ _ _ _ (by simp [mkL]; omega), Option.bind_some, w64_succ (by omega), take_snoc _ hip, ups_get, hm]
        rw [List.getElem?_eq_getElem hip] at hx
        rw [Option.some.inj hx]
        simp [mkL]
      · unfold raddleref27_Piece_cell_s1_l4
        simp only [show w64 ((a : Int) + (c : Int)) = ((a + c : Nat) : Int) by rw [w64_of (by omega) (by omega)]; omega, dF (show ¬ ((a + c : Nat) : Int) < ((a + c : Nat) : Int) by omega), Bool.false_eq_true, if_false]
        rw [List.take_of_length_le (by omega)]
    have hlb : p.Loops.length ≤ 100000 := hl
    generalize hn : p.Loops.length = n at *
    have k2 : ∀ (i : Nat) (X : List (Int × Int)), i < a → X.length ≤ 950000 → whileO (raddleref27_Piece_cell_s1_l5 ⟨k, b, (a : Int), (c : Int)⟩ p (i : Int)) (0, X) = some (X ++ crow k n a c i c) := by
      intro i X hi hX
      refine loop_sq (fun j => ((j : Int), X ++ crow k n a c i j)) c (by simp [crow]) ?_ ?_
      · intro j hj
        unfold raddleref27_Piece_cell_s1_l5
        rw [hn]
        simp only [dT (show (j : Int) < (c : Int) by omega), if_true]
        rw [show w64 ((n : Int) + (c : Int)) = ((n + c : Nat) : Int) by rw [w64_of (by omega) (by omega)]; omega, show w64 (((n + c : Nat) : Int) + (i : Int)) = ((n + c + i : Nat) : Int) by rw [w64_of (by omega) (by omega)]; omega, show w64 ((n : Int) + (j : Int)) = ((n + j : Nat) : Int) by rw [w64_of (by omega) (by omega)]; omega, crow_succ, w64_succ (by omega)]
        rcases hk with rfl | rfl
        · simp only [show ((6 : Int) == 7) = false from rfl, show ((6 : Int) = 7) = False by simp, Bool.false_eq_true, if_false, Option.bind_some]
          rw [appO_of (by simp [crow_len]; omega), Option.bind_some, List.append_assoc]
        · simp only [show ((7 : Int) == 7) = true from rfl, if_true, Option.bind_some]
          rw [appO_of (by simp [crow_len]; omega), Option.bind_some, List.append_assoc]
      · unfold raddleref27_Piece_cell_s1_l5
        simp only [dF (show ¬ (c : Int) < (c : Int) by omega), Bool.false_eq_true, if_false]
    have hlen : ∀ i, i ≤ a → ((List.range i).map fun x => crow k n a c x c).flatten.length = i * c := by
      intro i _
      induction i with
      | zero => simp
      | succ i ih => rw [List.range_succ, List.map_append, List.flatten_append, List.length_append, ih (by omega)]; simp [crow_len, Nat.add_mul]
    have k3 : whileO (raddleref27_Piece_cell_s1_l6 ⟨k, b, (a : Int), (c : Int)⟩ p) (0, p.Cross) = some (p.Cross ++ ((List.range a).map fun x => crow k n a c x c).flatten) := by
      refine loop_sq (fun i => ((i : Int), p.Cross ++ ((List.range i).map fun x => crow k n a c x c).flatten)) a (by simp) ?_ ?_
      · intro i hi
        have hm : i * c ≤ 6 * 6 := Nat.mul_le_mul (by omega) (by omega)
        unfold raddleref27_Piece_cell_s1_l6
        simp only [dT (show (i : Int) < (a : Int) by omega), if_true]
        rw [k2 i _ hi (by rw [List.length_append, hlen i (by omega)]; omega), List.range_succ, w64_succ (by omega)]
        simp
      · unfold raddleref27_Piece_cell_s1_l6
        simp only [dF (show ¬ (a : Int) < (a : Int) by omega), Bool.false_eq_true, if_false]
    have e2 : crs ⟨k, b, (a : Int), (c : Int)⟩ n = ((List.range a).map fun x => crow k n a c x c).flatten := by simp [crs, hk, crow]
    have e1 : offB ⟨k, b, (a : Int), (c : Int)⟩ u = [] := by rcases hk with rfl | rfl <;> simp [offB]
    have e3 : side p.Loops ⟨k, b, (a : Int), (c : Int)⟩ u = b := by rcases hk with rfl | rfl <;> simp [side]
    rw [k1]
    simp only [Option.bind_some]
    rw [k3, e1, e2, e3, List.append_nil]
    rfl
  · simp only [show ((9 : Int) == 1) = false from rfl, show ((9 : Int) == 2) = false from rfl, show ((9 : Int) == 9) = true from rfl, Bool.false_eq_true, if_false, if_true]
    have key : whileO (raddleref27_Piece_cell_s1_l1 ⟨9, false, (a : Int), 0⟩ (R : Int) (K : Int)) (0, p.Loops, p.Bound, p.Cross, p.Rows) = some (p.Loops ++ List.replicate a ⟨(R : Int), (K : Int), [], false⟩, p.Bound, p.Cross, p.Rows) := by
      refine loop_sq (fun i => ((i : Int), p.Loops ++ List.replicate i (⟨(R : Int), (K : Int), [], false⟩ : api_Loop), p.Bound, p.Cross, p.Rows)) a (by simp) ?_ ?_
      · intro i hi
        unfold raddleref27_Piece_cell_s1_l1
        simp only [dT (show (i : Int) < (a : Int) by omega), if_true]
        rw [rput_eq _ _ _ _ _ (by simp; omega), Option.bind_some, w64_succ (by omega), List.replicate_succ', List.append_assoc]
      · unfold raddleref27_Piece_cell_s1_l1
        simp only [dF (show ¬ (a : Int) < (a : Int) by omega), Bool.false_eq_true, if_false]
    rw [key]
    simp [mkL, pars, offB, crs, side]
  · have e : uN ⟨10, b, (a : Int), 0⟩ = a := by simp [uN, usedS]
    rw [e]
    simp only [show ((10 : Int) == 1) = false from rfl, show ((10 : Int) == 2) = false from rfl, show ((10 : Int) == 9) = false from rfl, show ((10 : Int) == 3) = false from rfl, show ((10 : Int) == 4) = false from rfl, show ((10 : Int) == 5) = false from rfl, show ((10 : Int) == 6) = false from rfl, show ((10 : Int) == 7) = false from rfl, show ((10 : Int) == 8) = false from rfl, show ((10 : Int) == 10) = true from rfl, Bool.false_eq_true, if_false, if_true, Option.bind_some]
    rw [appO_of (by simp [ups_len]; omega), Option.bind_some]
    simp [mkL, pars, offB, crs, side]
theorem rrow_loop {S : Nat} {fs : List (List api_Stitch)} (hf : okF S fs) (hfl : fs.length ≤ 100) {k : Nat} (hk : k < fs.length) (rs : List Int) :
    whileO (raddleref27_Work_l3 fs[k] (k : Int)) ((off S fs k : Int), 0, (stC S fs k).1.L, (stC S fs k).1.B, (stC S fs k).1.C, rs) =
      some ((stC S fs (k + 1)).1.L, (stC S fs (k + 1)).1.B, (stC S fs (k + 1)).1.C, rs) := by
  have hall := stC_cells hf hk (fun j z => Bd k j z) (stC_bd hf k (by omega)) fun j hj z _ h => h.step ((hf.2 k hk).1 _ (List.getElem_mem _))
  have hlen := (hf.2 k hk).2.1
  rw [stC_succ hk]
  generalize stC S fs k = z at hall
  have h0 : pu S fs k 0 = off S fs k := by simp [pu, smN]
  refine loop_sq (fun j => ((pu S fs k j : Int), (j : Int), (cellsW (k + 1) 0 (fs[k].take j) z.1).L, (cellsW (k + 1) 0 (fs[k].take j) z.1).B, (cellsW (k + 1) 0 (fs[k].take j) z.1).C, rs)) fs[k].length (by simp [cellsW, h0]) ?_ ?_
  · intro j hj
    obtain ⟨hL, hB⟩ := hall j (by omega)
    have h1 := pu_le hf hk hj
    have h2 := pm_le hf hk (j := j)
    have h3 := off_le hf (r := k + 2) (by omega)
    have h4 := off_mono (S := S) (fs := fs) (a := k + 1) (b := k + 2) (by omega)
    have h5 := hB.B
    have h6 := hB.C
    have h7 := hL.len
    have h8 := hL.u
    have hok := (hf.2 k hk).1 _ (List.getElem_mem hj)
    have hub := usedS_bd hok
    have hus : usedS (fs[k][j]) = ((uN (fs[k][j]) : Nat) : Int) := by unfold uN; omega
    have hg : fs.getD k [] = fs[k] := by simp [List.getD_eq_getElem?_getD, List.getElem?_eq_getElem hk]
    have hpu : pu S fs k (j + 1) = pu S fs k j + uN (fs[k][j]) := by simp only [pu, hg]; rw [smN_take uN _ hj]; omega
    unfold raddleref27_Work_l3
    simp only [dT (show (j : Int) < (fs[k].length : Int) by omega), if_true]
    have key : whileO (raddleref27_Work_l2 fs[k] (j : Int)) ((pu S fs k j : Int), ([] : List Int), 0) = some ((pu S fs k (j + 1) : Int), ups (pu S fs k j) (uN (fs[k][j]))) := by
      rw [hpu]
      refine loop_sq (fun i => (((pu S fs k j + i : Nat) : Int), ups (pu S fs k j) i, (i : Int))) (uN (fs[k][j])) (by simp [ups]) ?_ ?_
      · intro i hi
        unfold raddleref27_Work_l2
        dsimp only
        rw [idxO_nat hj, Option.bind_some, rused_eq hok, Option.bind_some, hus, dT (show (i : Int) < ((uN (fs[k][j]) : Nat) : Int) by omega), if_pos rfl, appO_of (by simp [ups_len]; omega), Option.bind_some, w64_succ (by omega), w64_succ (by omega), ups_succ]
        rfl
      · unfold raddleref27_Work_l2
        dsimp only
        rw [idxO_nat hj, Option.bind_some, rused_eq hok, Option.bind_some, hus, dF (show ¬ ((uN (fs[k][j]) : Nat) : Int) < ((uN (fs[k][j]) : Nat) : Int) by omega), if_neg (by simp)]
    rw [key]
    simp only [Option.bind_some]
    rw [idxO_nat hj, Option.bind_some, w64_succ (by omega), rcell_eq (k + 1) j (pu S fs k j) hok (by simp only; omega) (by simp only; omega) (by simp only; omega) (by simp only; omega)]
    simp only [Option.bind_some]
    rw [w64_succ (by omega), cells_at (k + 1) fs[k] z.1 hj, ← h8]
    rfl
  · unfold raddleref27_Work_l3
    simp only [dF (show ¬ (fs[k].length : Int) < (fs[k].length : Int) by omega), Bool.false_eq_true, if_false, List.take_length]
theorem rseen_eq {r : api_Row} (h : allS r.Cells = 0) : F_raddleref26_Seen r = some (faceR r) := by
  have hl := (allS_ok h).1
  unfold F_raddleref26_Seen faceR
  by_cases hb : r.Back = true
  · rw [if_pos hb, if_pos hb, rturned_eq (by omega)]; rfl
  · rw [if_neg hb, if_neg hb, appO_of (by simp; omega)]; rfl
theorem rwork_eq {c : api_Chart} (hk : chk c = 0) : F_raddleref27_Work c = some ⟨(workC c).1.L, (workC c).1.B, (workC c).1.C, (workC c).2⟩ := by
  obtain ⟨hf, hl, hs⟩ := okF_of hk
  have hrows := chk_ok hk
  rw [workC_eq hk]
  generalize hS : c.Start.toNat = S at *
  generalize hfs0 : c.Rows.map faceR = fs at *
  have hfl : fs.length = c.Rows.length := by rw [← hfs0, List.length_map]
  have hfs : ∀ k (h : k < c.Rows.length), fs[k] = faceR c.Rows[k] := fun k h => by simp [← hfs0]
  have h200 := hf.1
  unfold F_raddleref27_Work
  rw [appO_of (by simp), Option.bind_some]
  have k1 : whileO (raddleref27_Work_l1 c) (0, ([] : List api_Loop), ([] : List Int), ([] : List (Int × Int)), ([] : List Int) ++ [0]) = some (zeroL S, [], [], [0]) := by
    refine loop_sq (fun i => ((i : Int), zeroL i, ([] : List Int), ([] : List (Int × Int)), ([0] : List Int))) S (by simp [zeroL]) ?_ ?_
    · intro i hi
      unfold raddleref27_Work_l1
      simp only [dT (show (i : Int) < c.Start by omega), if_true]
      rw [rput_eq _ _ _ _ _ (by simp [zeroL]; omega), Option.bind_some, zeroL_succ, w64_succ (by omega)]
    · unfold raddleref27_Work_l1
      simp only [dF (show ¬ (S : Int) < c.Start by omega), Bool.false_eq_true, if_false]
  rw [k1]
  simp only [Option.bind_some]
  rw [appO_of (by simp), Option.bind_some]
  have k3 : whileO (raddleref27_Work_l4 c) (0, zeroL S, ([] : List Int), ([] : List (Int × Int)), [0] ++ [((zeroL S).length : Int)]) = some ((stC S fs fs.length).1.L, (stC S fs fs.length).1.B, (stC S fs fs.length).1.C, (stC S fs fs.length).2) := by
    refine loop_sq (fun k => ((k : Int), (stC S fs k).1.L, (stC S fs k).1.B, (stC S fs k).1.C, (stC S fs k).2)) fs.length (by simp [stC, rowsW, zeroL]) ?_ ?_
    · intro k hk'
      have hk2 : k < c.Rows.length := by omega
      have hrs := (stC_all hf (fun _ _ _ => True) trivial (fun _ _ _ _ _ _ _ => trivial) (fun _ _ _ _ _ => trivial) k (by omega)).2.2
      have hidx : idxO (stC S fs k).2 (k : Int) = some ((off S fs k : Nat) : Int) := by
        rw [hrs, idxO_nat (by simp)]; simp
      unfold raddleref27_Work_l4
      simp only [dT (show (k : Int) < (c.Rows.length : Int) by omega), if_true]
      rw [hidx, Option.bind_some, idxO_nat hk2, Option.bind_some, rseen_eq (chkR_mem hrows.2.2.2 _ (List.getElem_mem hk2)), Option.bind_some, ← hfs k hk2, rrow_loop hf (by omega) hk' _]
      simp only [Option.bind_some]
      rw [appO_of (by rw [hrs]; simp; omega), w64_succ (by omega)]
      simp only [Option.bind_some]
      rw [stC_succ hk']
    · unfold raddleref27_Work_l4
      simp only [dF (show ¬ (fs.length : Int) < (c.Rows.length : Int) by omega), Bool.false_eq_true, if_false]
  rw [k3]
  rfl

end Go.Proofs.Yticjoiolfibmlaa
namespace Go.Proofs.Yticjoiolfibmlaa
open Go.RowKit
set_option linter.unusedVariables false

noncomputable def F_raddleref25_Great (p0 : (List api_Stitch)) : Option Bool :=
  Option.bind (α := Bool) (
    if decide (60 < (p0.length : Int)) then
      if decide ((p0.length : Int) ≤ 200) then
        some true
      else
        some (decide (300 < (p0.length : Int)))
    else
      some (decide (300 < (p0.length : Int)))) fun o4 =>
  some o4
set_option maxHeartbeats 4000000 in
set_option maxRecDepth 100000 in
theorem c_raddleref25_Great (E : Nat → Prop) (w0 : World) (p0 : (List api_Stitch)) (v0 : Value) (r : Bool) (h : F_raddleref25_Great p0 = some r) (S : St0 E [] w0 w0 [] [fRep (rL r_api_Stitch) (v0) p0]) :
    Calls Try.prog 32 #[v0] w0 (Ret (X := Unit) E [] w0 (fun _ => .bool r) (fun _ => []) (fun _ => [])) := by
  unfold F_raddleref25_Great at h
  obtain ⟨ad1, cp2, _, rfl, _⟩ := S.know (i := 0) (e := fRep (rL r_api_Stitch) (v0) p0) rfl
  refine sEnter (args := [.slice ad1 p0.length cp2]) 16 Try.func32 rfl rfl (by simp) S (fun a S => ?_)
  refine sSeq (fun K3 hK3 => ?_)
  refine sRegion ?_
  refine sMove (.bool false) S (wN rfl) (.inr rfl) rfl rfl (lb rfl) fun a S => ?_
  refine leafL (leafT (hK3 _ _ ?_))
  obtain ⟨t5, h, g6⟩ := bindSome h
  refine sCut (fun a w => ∃ o4, o4 = t5 ∧ St [] E [] w0 16 a w [(2, .bool o4)] [] []) ?_ (fun a w hI => ?_)
  rotate_left
  · obtain ⟨o4, rfl, S⟩ := hI
    have h := g6
    clear g6
    try dsimp only at h
    obtain rfl := Option.some.inj h
    exact wp_ret (sRet (.bool o4) S (rsl1 rfl (rvT (t := 2) (v := .bool o4) S rfl)) ⟨(), rfl, S.mem.sel [] [] (by decide) rfl rfl⟩)
  refine sRegion ?_
  refine sMove (.slice ad1 p0.length cp2) S (wN rfl) (.inl rfl) rfl rfl (lb rfl) fun a S => ?_
  refine sLen (ad := ad1) (m := p0.length) (c := cp2) S (wN rfl) rfl Try.underlying62 rfl rfl (lb rfl) fun a S => ?_
  refine sBin (.bool (decide (60 < (p0.length : Int)))) S (wN rfl) rfl rfl rfl (bGt _ _ _ _ .i64 (p0.length : Int) 60) rfl (lb rfl) fun a S => ?_
  refine sMove (.bool (decide (60 < (p0.length : Int)))) S (wN rfl) (.inl rfl) rfl rfl (lb rfl) fun a S => ?_
  rcases iteSome h with ⟨hc7, h⟩ | ⟨hc7, h⟩
  rotate_left
  · refine sSkip 3 true 6 7 S rfl rfl rfl hc7 rfl (lb rfl) fun a S => ?_
    refine sSkip 3 true 6 8 S rfl rfl rfl hc7 rfl (lb rfl) fun a S => ?_
    refine sSkip 3 true 6 9 S rfl rfl rfl hc7 rfl (lb rfl) fun a S => ?_
    refine sPickF (.bool false) S (wN rfl) rfl rfl hc7 rfl rfl (lb rfl) fun a S => ?_
    refine sMove (.bool false) S (wN rfl) (.inl rfl) rfl rfl (lb rfl) fun a S => ?_
    refine sMove (.slice ad1 p0.length cp2) S (wG 8 false 11 rfl rfl rfl rfl) (.inl rfl) rfl rfl (lb rfl) fun a S => ?_
    refine sLen (ad := ad1) (m := p0.length) (c := cp2) S (wG 8 false 11 rfl rfl rfl rfl) rfl Try.underlying62 rfl rfl (lb rfl) fun a S => ?_
    refine sBin (.bool (decide (300 < (p0.length : Int)))) S (wG 8 false 11 rfl rfl rfl rfl) rfl rfl rfl (bGt _ _ _ _ .i64 (p0.length : Int) 300) rfl (lb rfl) fun a S => ?_
    refine sPickF (.bool (decide (300 < (p0.length : Int)))) S (wN rfl) rfl rfl rfl rfl rfl (lb rfl) fun a S => ?_
    refine sMove (.bool (decide (300 < (p0.length : Int)))) S (wN rfl) (.inr rfl) rfl rfl (lb rfl) fun a S => ?_
    exact leafL (leafT (⟨decide (300 < (p0.length : Int)), Option.some.inj h, S.fix [] [] (by decide) rfl rfl rfl⟩))
  refine sMove (.slice ad1 p0.length cp2) S (wG 3 true 6 rfl rfl rfl hc7) (.inl rfl) rfl rfl (lb rfl) fun a S => ?_
  refine sLen (ad := ad1) (m := p0.length) (c := cp2) S (wG 3 true 6 rfl rfl rfl hc7) rfl Try.underlying62 rfl rfl (lb rfl) fun a S => ?_
  refine sBin (.bool (decide ((p0.length : Int) ≤ 200))) S (wG 3 true 6 rfl rfl rfl hc7) rfl rfl rfl (bLe _ _ _ _ .i64 (p0.length : Int) 200) rfl (lb rfl) fun a S => ?_
  refine sPickT (.bool (decide ((p0.length : Int) ≤ 200))) S (wN rfl) rfl rfl hc7 rfl rfl (lb rfl) fun a S => ?_
  refine sMove (.bool (decide ((p0.length : Int) ≤ 200))) S (wN rfl) (.inl rfl) rfl rfl (lb rfl) fun a S => ?_
  rcases iteSome h with ⟨hc8, h⟩ | ⟨hc8, h⟩
  · refine sSkip 8 false 11 12 S rfl rfl rfl hc8 rfl (lb rfl) fun a S => ?_
    refine sSkip 8 false 11 13 S rfl rfl rfl hc8 rfl (lb rfl) fun a S => ?_
    refine sSkip 8 false 11 14 S rfl rfl rfl hc8 rfl (lb rfl) fun a S => ?_
    refine sPickT (.bool true) S (wN rfl) rfl rfl hc8 rfl rfl (lb rfl) fun a S => ?_
    refine sMove (.bool true) S (wN rfl) (.inr rfl) rfl rfl (lb rfl) fun a S => ?_
    exact leafL (leafT (⟨true, Option.some.inj h, S.fix [] [] (by decide) rfl rfl rfl⟩))
  refine sMove (.slice ad1 p0.length cp2) S (wG 8 false 11 rfl rfl rfl hc8) (.inl rfl) rfl rfl (lb rfl) fun a S => ?_
  refine sLen (ad := ad1) (m := p0.length) (c := cp2) S (wG 8 false 11 rfl rfl rfl hc8) rfl Try.underlying62 rfl rfl (lb rfl) fun a S => ?_
  refine sBin (.bool (decide (300 < (p0.length : Int)))) S (wG 8 false 11 rfl rfl rfl hc8) rfl rfl rfl (bGt _ _ _ _ .i64 (p0.length : Int) 300) rfl (lb rfl) fun a S => ?_
  refine sPickF (.bool (decide (300 < (p0.length : Int)))) S (wN rfl) rfl rfl hc8 rfl rfl (lb rfl) fun a S => ?_
  refine sMove (.bool (decide (300 < (p0.length : Int)))) S (wN rfl) (.inr rfl) rfl rfl (lb rfl) fun a S => ?_
  exact leafL (leafT (⟨decide (300 < (p0.length : Int)), Option.some.inj h, S.fix [] [] (by decide) rfl rfl rfl⟩))

end Go.Proofs.Yticjoiolfibmlaa
namespace Go.Proofs.Yticjoiolfibmlaa
open Go.RowKit
set_option linter.unusedVariables false

noncomputable def raddleref26_Great_l1 (p0 : api_Chart) : Int → Option (Int ⊕ (Bool ⊕ Unit)) := fun s0 => match s0 with
  | s10 =>
    Option.bind (α := Bool) (
      if decide (s10 < (p0.Rows.length : Int)) then
        some (decide (s10 < 150))
      else
        some false) fun o15 =>
    if o15 then
      Option.bind (idxO p0.Rows s10) fun x22 =>
      Option.bind (F_raddleref25_Great x22.Cells) fun r31 =>
      if r31 then
        some (.inr (.inl true))
      else
        some (.inl (w64 (s10 + 1)))
    else
      some (.inr (.inr ()))
noncomputable def F_raddleref26_Great (p0 : api_Chart) : Option Bool :=
  Option.bind (α := Unit ⊕ Bool) (
    Option.bind (whileO (raddleref26_Great_l1 p0) 0) fun z0 => match z0 with
      | .inl z =>
        some (.inr z)
      | .inr _ =>
        some (.inl ())) fun z0 => match z0 with
    | .inl _ =>
      Option.bind (α := Bool) (
        if decide (12 < (p0.Rows.length : Int)) then
          if decide ((p0.Rows.length : Int) ≤ 100) then
            some true
          else
            some (decide (150 < (p0.Rows.length : Int)))
        else
          some (decide (150 < (p0.Rows.length : Int)))) fun o35 =>
      some o35
    | .inr z =>
      some z
set_option maxHeartbeats 4000000 in
set_option maxRecDepth 100000 in
theorem c_raddleref26_Great (E : Nat → Prop) (w0 : World) (p0 : api_Chart) (v0 : Value) (r : Bool) (h : F_raddleref26_Great p0 = some r) (S : St0 E [] w0 w0 [] [fRep r_api_Chart (v0) p0]) :
    Calls Try.prog 10 #[v0] w0 (Ret (X := Unit) E [] w0 (fun _ => .bool r) (fun _ => []) (fun _ => [])) := by
  unfold F_raddleref26_Great at h
  obtain ⟨u1, rfl, hu2⟩ := S.know (i := 0) (e := fRep r_api_Chart (v0) p0) rfl
  have S := S.learn (fRep (rL r_api_Row) u1 p0.Rows) hu2
  obtain ⟨ad3, cp4, _, rfl, _⟩ := hu2
  refine sEnter (args := [.agg #[iv p0.Start, .slice ad3 p0.Rows.length cp4]]) 38 Try.func10 rfl rfl (by simp) S (fun a S => ?_)
  refine sSeq (fun K5 hK5 => ?_)
  refine sRegion ?_
  refine sBox (v := .agg #[iv p0.Start, .slice ad3 p0.Rows.length cp4]) S (wN rfl) rfl rfl [iv p0.Start, .slice ad3 p0.Rows.length cp4] rfl rfl (lb rfl) fun a b6 w S => ?_
  refine sMove (.bool false) S (wN rfl) (.inr rfl) rfl rfl (lb rfl) fun a S => ?_
  refine leafL (leafT (hK5 _ _ ?_))
  obtain ⟨t7, h, g8⟩ := bindSome h
  refine sCut (fun a w => .inl () = t7 ∧ St [] E [] w0 38 a w [(1, .pointer (some ⟨b6, 0, none⟩))] [eBox b6 24 [iv p0.Start, .slice ad3 p0.Rows.length cp4]] [fRep (rL r_api_Row) (.slice ad3 p0.Rows.length cp4) p0.Rows]) ?_ (fun a w hI => ?_)
  rotate_left
  · obtain ⟨rfl, S⟩ := hI
    have h := g8
    clear g8
    try dsimp only at h
    obtain ⟨t36, h, g37⟩ := bindSome h
    refine sCut (fun a w => ∃ o35, o35 = t36 ∧ St [] E [] w0 38 a w [(2, .bool o35)] [] []) ?_ (fun a w hI => ?_)
    rotate_left
    · obtain ⟨o35, rfl, S⟩ := hI
      have h := g37
      clear g37
      try dsimp only at h
      obtain rfl := Option.some.inj h
      exact wp_ret (sRet (.bool o35) S (rsl1 rfl (rvT (t := 2) (v := .bool o35) S rfl)) ⟨(), rfl, S.mem.sel [] [] (by decide) rfl rfl⟩)
    refine sRegion ?_
    refine sField (b := b6) (off := 0) 1 1 S (wN rfl) rfl rfl rfl rfl rfl (lb rfl) fun a S => ?_
    refine sLoad1 (p := b6) (off := 1) (T := 24) (vs := [iv p0.Start, .slice ad3 p0.Rows.length cp4]) 0 (.slice ad3 p0.Rows.length cp4) S (wN rfl) rfl rfl rfl rfl rfl rfl (lb rfl) fun a S => ?_
    refine sLen (ad := ad3) (m := p0.Rows.length) (c := cp4) S (wN rfl) rfl Try.underlying22 rfl rfl (lb rfl) fun a S => ?_
    refine sBin (.bool (decide (12 < (p0.Rows.length : Int)))) S (wN rfl) rfl rfl rfl (bGt _ _ _ _ .i64 (p0.Rows.length : Int) 12) rfl (lb rfl) fun a S => ?_
    refine sMove (.bool (decide (12 < (p0.Rows.length : Int)))) S (wN rfl) (.inl rfl) rfl rfl (lb rfl) fun a S => ?_
    rcases iteSome h with ⟨hc38, h⟩ | ⟨hc38, h⟩
    rotate_left
    · refine sSkip 4 true 26 27 S rfl rfl rfl hc38 rfl (lb rfl) fun a S => ?_
      refine sSkip 4 true 26 28 S rfl rfl rfl hc38 rfl (lb rfl) fun a S => ?_
      refine sSkip 4 true 26 29 S rfl rfl rfl hc38 rfl (lb rfl) fun a S => ?_
      refine sSkip 4 true 26 30 S rfl rfl rfl hc38 rfl (lb rfl) fun a S => ?_
      refine sPickF (.bool false) S (wN rfl) rfl rfl hc38 rfl rfl (lb rfl) fun a S => ?_
      refine sMove (.bool false) S (wN rfl) (.inl rfl) rfl rfl (lb rfl) fun a S => ?_
      refine sField (b := b6) (off := 0) 1 1 S (wG 10 false 32 rfl rfl rfl rfl) rfl rfl rfl rfl rfl (lb rfl) fun a S => ?_
      refine sLoad1 (p := b6) (off := 1) (T := 24) (vs := [iv p0.Start, .slice ad3 p0.Rows.length cp4]) 0 (.slice ad3 p0.Rows.length cp4) S (wG 10 false 32 rfl rfl rfl rfl) rfl rfl rfl rfl rfl rfl (lb rfl) fun a S => ?_
      refine sLen (ad := ad3) (m := p0.Rows.length) (c := cp4) S (wG 10 false 32 rfl rfl rfl rfl) rfl Try.underlying22 rfl rfl (lb rfl) fun a S => ?_
      refine sBin (.bool (decide (150 < (p0.Rows.length : Int)))) S (wG 10 false 32 rfl rfl rfl rfl) rfl rfl rfl (bGt _ _ _ _ .i64 (p0.Rows.length : Int) 150) rfl (lb rfl) fun a S => ?_
      refine sPickF (.bool (decide (150 < (p0.Rows.length : Int)))) S (wN rfl) rfl rfl rfl rfl rfl (lb rfl) fun a S => ?_
      refine sMove (.bool (decide (150 < (p0.Rows.length : Int)))) S (wN rfl) (.inr rfl) rfl rfl (lb rfl) fun a S => ?_
      exact leafL (leafT (⟨decide (150 < (p0.Rows.length : Int)), Option.some.inj h, S.fix [] [] (by decide) rfl rfl rfl⟩))
    refine sField (b := b6) (off := 0) 1 1 S (wG 4 true 26 rfl rfl rfl hc38) rfl rfl rfl rfl rfl (lb rfl) fun a S => ?_
    refine sLoad1 (p := b6) (off := 1) (T := 24) (vs := [iv p0.Start, .slice ad3 p0.Rows.length cp4]) 0 (.slice ad3 p0.Rows.length cp4) S (wG 4 true 26 rfl rfl rfl hc38) rfl rfl rfl rfl rfl rfl (lb rfl) fun a S => ?_
    refine sLen (ad := ad3) (m := p0.Rows.length) (c := cp4) S (wG 4 true 26 rfl rfl rfl hc38) rfl Try.underlying22 rfl rfl (lb rfl) fun a S => ?_
    refine sBin (.bool (decide ((p0.Rows.length : Int) ≤ 100))) S (wG 4 true 26 rfl rfl rfl hc38) rfl rfl rfl (bLe _ _ _ _ .i64 (p0.Rows.length : Int) 100) rfl (lb rfl) fun a S => ?_
    refine sPickT (.bool (decide ((p0.Rows.length : Int) ≤ 100))) S (wN rfl) rfl rfl hc38 rfl rfl (lb rfl) fun a S => ?_
    refine sMove (.bool (decide ((p0.Rows.length : Int) ≤ 100))) S (wN rfl) (.inl rfl) rfl rfl (lb rfl) fun a S => ?_
    rcases iteSome h with ⟨hc39, h⟩ | ⟨hc39, h⟩
    · refine sSkip 10 false 32 33 S rfl rfl rfl hc39 rfl (lb rfl) fun a S => ?_
      refine sSkip 10 false 32 34 S rfl rfl rfl hc39 rfl (lb rfl) fun a S => ?_
      refine sSkip 10 false 32 35 S rfl rfl rfl hc39 rfl (lb rfl) fun a S => ?_
      refine sSkip 10 false 32 36 S rfl rfl rfl hc39 rfl (lb rfl) fun a S => ?_
      refine sPickT (.bool true) S (wN rfl) rfl rfl hc39 rfl rfl (lb rfl) fun a S => ?_
      refine sMove (.bool true) S (wN rfl) (.inr rfl) rfl rfl (lb rfl) fun a S => ?_
      exact leafL (leafT (⟨true, Option.some.inj h, S.fix [] [] (by decide) rfl rfl rfl⟩))
    refine sField (b := b6) (off := 0) 1 1 S (wG 10 false 32 rfl rfl rfl hc39) rfl rfl rfl rfl rfl (lb rfl) fun a S => ?_
    refine sLoad1 (p := b6) (off := 1) (T := 24) (vs := [iv p0.Start, .slice ad3 p0.Rows.length cp4]) 0 (.slice ad3 p0.Rows.length cp4) S (wG 10 false 32 rfl rfl rfl hc39) rfl rfl rfl rfl rfl rfl (lb rfl) fun a S => ?_
    refine sLen (ad := ad3) (m := p0.Rows.length) (c := cp4) S (wG 10 false 32 rfl rfl rfl hc39) rfl Try.underlying22 rfl rfl (lb rfl) fun a S => ?_
    refine sBin (.bool (decide (150 < (p0.Rows.length : Int)))) S (wG 10 false 32 rfl rfl rfl hc39) rfl rfl rfl (bGt _ _ _ _ .i64 (p0.Rows.length : Int) 150) rfl (lb rfl) fun a S => ?_
    refine sPickF (.bool (decide (150 < (p0.Rows.length : Int)))) S (wN rfl) rfl rfl hc39 rfl rfl (lb rfl) fun a S => ?_
    refine sMove (.bool (decide (150 < (p0.Rows.length : Int)))) S (wN rfl) (.inr rfl) rfl rfl (lb rfl) fun a S => ?_
    exact leafL (leafT (⟨decide (150 < (p0.Rows.length : Int)), Option.some.inj h, S.fix [] [] (by decide) rfl rfl rfl⟩))
  refine sSeq (fun K9 hK9 => ?_)
  refine sRegion ?_
  refine sMove (iv 0) S (wN rfl) (.inr rfl) rfl rfl (lb rfl) fun a S => ?_
  refine leafL (leafT (hK9 _ _ ?_))
  refine wp_block ?_
  obtain ⟨t13, hl, g12⟩ := bindSome h
  refine sLoop hl (fun s0 a w => match s0 with | s10 => St [] E [] w0 38 a w [(1, .pointer (some ⟨b6, 0, none⟩)), (3, iv s10)] [eBox b6 24 [iv p0.Start, .slice ad3 p0.Rows.length cp4]] [fRep (rL r_api_Row) (.slice ad3 p0.Rows.length cp4) p0.Rows]) (S.fix [0] [0] (by decide) rfl rfl rfl) ?_
  clear hl h
  intro s10 a w c0 hI h hu11
  unfold raddleref26_Great_l1 at h
  dsimp only at h hI
  have S := hI
  refine sSeq (fun K14 hK14 => ?_)
  obtain ⟨t16, h, g17⟩ := bindSome h
  refine sCut (fun a w => ∃ o15, o15 = t16 ∧ St [] E [] w0 38 a w [(1, .pointer (some ⟨b6, 0, none⟩)), (3, iv s10), (12, .bool o15)] [eBox b6 24 [iv p0.Start, .slice ad3 p0.Rows.length cp4]] [fRep (rL r_api_Row) (.slice ad3 p0.Rows.length cp4) p0.Rows]) ?_ (fun a w hI => ?_)
  · refine sRegion ?_
    refine sMove (iv s10) S (wN rfl) (.inl rfl) rfl rfl (lb rfl) fun a S => ?_
    refine sField (b := b6) (off := 0) 1 1 S (wN rfl) rfl rfl rfl rfl rfl (lb rfl) fun a S => ?_
    refine sLoad1 (p := b6) (off := 1) (T := 24) (vs := [iv p0.Start, .slice ad3 p0.Rows.length cp4]) 0 (.slice ad3 p0.Rows.length cp4) S (wN rfl) rfl rfl rfl rfl rfl rfl (lb rfl) fun a S => ?_
    refine sLen (ad := ad3) (m := p0.Rows.length) (c := cp4) S (wN rfl) rfl Try.underlying22 rfl rfl (lb rfl) fun a S => ?_
    refine sBin (.bool (decide (s10 < (p0.Rows.length : Int)))) S (wN rfl) rfl rfl rfl (bLt _ _ _ _ .i64 s10 (p0.Rows.length : Int)) rfl (lb rfl) fun a S => ?_
    refine sMove (.bool (decide (s10 < (p0.Rows.length : Int)))) S (wN rfl) (.inl rfl) rfl rfl (lb rfl) fun a S => ?_
    rcases iteSome h with ⟨hc18, h⟩ | ⟨hc18, h⟩
    rotate_left
    · refine sSkip 5 true 9 10 S rfl rfl rfl hc18 rfl (lb rfl) fun a S => ?_
      refine sSkip 5 true 9 11 S rfl rfl rfl hc18 rfl (lb rfl) fun a S => ?_
      refine sPickF (.bool false) S (wN rfl) rfl rfl hc18 rfl rfl (lb rfl) fun a S => ?_
      exact leafL (leafT (⟨false, Option.some.inj h, S.fix [0] [0] (by decide) rfl rfl rfl⟩))
    refine sMove (iv s10) S (wG 5 true 9 rfl rfl rfl hc18) (.inl rfl) rfl rfl (lb rfl) fun a S => ?_
    refine sBin (.bool (decide (s10 < 150))) S (wG 5 true 9 rfl rfl rfl hc18) rfl rfl rfl (bLt _ _ _ _ .i64 s10 150) rfl (lb rfl) fun a S => ?_
    refine sPickT (.bool (decide (s10 < 150))) S (wN rfl) rfl rfl hc18 rfl rfl (lb rfl) fun a S => ?_
    exact leafL (leafT (⟨decide (s10 < 150), Option.some.inj h, S.fix [0] [0] (by decide) rfl rfl rfl⟩))
  obtain ⟨o15, rfl, S⟩ := hI
  have h := g17
  clear g17
  try dsimp only at h
  rcases iteSome h with ⟨hc19, h⟩ | ⟨hc19, h⟩
  rotate_left
  · refine sCondF S rfl hc19 ?_
    obtain rfl := Option.some.inj h
    obtain rfl := hu11 _ rfl
    have h := g12
    clear g12
    try dsimp only at h
    exact wp_exit (xThen (xThen (xHit (leafT (⟨Option.some.inj h, S.fix [0] [0] (by decide) rfl rfl rfl⟩)))))
  refine sCondT S rfl hc19 ?_
  refine wp_skip (leafT (hK14 _ _ ?_))
  refine sSeq (fun K20 hK20 => ?_)
  refine wp_block ?_
  refine sSeq (fun K21 hK21 => ?_)
  refine sRegion ?_
  refine sField (b := b6) (off := 0) 1 1 S (wN rfl) rfl rfl rfl rfl rfl (lb rfl) fun a S => ?_
  refine sLoad1 (p := b6) (off := 1) (T := 24) (vs := [iv p0.Start, .slice ad3 p0.Rows.length cp4]) 0 (.slice ad3 p0.Rows.length cp4) S (wN rfl) rfl rfl rfl rfl rfl rfl (lb rfl) fun a S => ?_
  refine sMove (iv s10) S (wN rfl) (.inl rfl) rfl rfl (lb rfl) fun a S => ?_
  obtain ⟨x22, hx23, h⟩ := bindSome h
  obtain ⟨q24, hq25, S⟩ := pIdx (P := Try.prog) (r := r_api_Row) (v := .slice ad3 p0.Rows.length cp4) (xs := p0.Rows) (j := s10) 22 65 0 S Try.underlying22 rfl rfl hx23
  refine sIdxV (v := .slice ad3 p0.Rows.length cp4) (k := .i64) (j := s10) S (wN rfl) rfl rfl rfl hq25 rfl (lb rfl) fun a S => ?_
  obtain ⟨q26, hq27, S⟩ := pFld (P := Try.prog) (r := r_api_Row) (s2 := (rL r_api_Stitch)) (g := (·.Cells)) (q := q24) (z := x22) 65 1 0 1 S rfl rfl comp_api_Row_Cells
  refine sFldV (q := q24) S (wN rfl) rfl rfl hq27 rfl (lb rfl) fun a S => ?_
  obtain ⟨u28, S⟩ := pLoad (r := (rL r_api_Stitch)) (q := q26) (x := x22.Cells) 0 S rfl
  obtain ⟨ad29, cp30, _, rfl, _⟩ := S.mem.know (i := 1) (e := fRep (rL r_api_Stitch) (u28) x22.Cells) rfl
  refine sLoadV1 (vq := q26) 0 (.slice ad29 x22.Cells.length cp30) S (wN rfl) rfl rfl rfl rfl rfl (lb rfl) fun a S => ?_
  obtain ⟨r31, hx32, h⟩ := bindSome h
  have S1 := S.mem
  refine sCallQ (X := Unit) (f := 32) (vs := [.slice ad29 x22.Cells.length cp30]) (val := fun _ => .bool r31) S (wN rfl) rfl callee32 rfl (S1.quiet [1] rfl) (fun E1 w1 S1 => c_raddleref25_Great E1 w1 x22.Cells (.slice ad29 x22.Cells.length cp30) r31 hx32 S1) rfl (lb rfl) fun _ a w S => ?_
  refine leafL (leafT (hK21 _ _ ?_))
  rcases iteSome h with ⟨hc33, h⟩ | ⟨hc33, h⟩
  rotate_left
  · refine sCondF S rfl hc33 ?_
    refine wp_skip (leafB (leafT (hK20 _ _ ?_)))
    refine sRegion ?_
    refine sMove (iv s10) S (wN rfl) (.inl rfl) rfl rfl (lb rfl) fun a S => ?_
    refine sBin (iv (w64 (s10 + 1))) S (wN rfl) rfl rfl rfl (bAdd _ _ _ _ s10 1) rfl (lb rfl) fun a S => ?_
    refine sMove (iv (w64 (s10 + 1))) S (wN rfl) (.inr rfl) rfl rfl (lb rfl) fun a S => ?_
    exact leafL (leafT (⟨w64 (s10 + 1), (Option.some.inj h).symm, (S.fix [0] [4] (by decide) rfl rfl rfl)⟩))
  refine sCondT S rfl hc33 ?_
  refine sSeq (fun K34 hK34 => ?_)
  refine sRegion ?_
  refine sMove (.bool true) S (wN rfl) (.inr rfl) rfl rfl (lb rfl) fun a S => ?_
  refine leafL (leafT (hK34 _ _ ?_))
  obtain rfl := Option.some.inj h
  obtain rfl := hu11 _ rfl
  have h := g12
  clear g12
  try dsimp only at h
  obtain rfl := Option.some.inj h
  have h := g8
  clear g8
  try dsimp only at h
  obtain rfl := Option.some.inj h
  exact wp_ret (rBlock (rThen (rThen (rBlock (rThen (sRet (.bool true) S (rsl1 rfl (rvT (t := 2) (v := .bool true) S rfl)) ⟨(), rfl, S.mem.sel [] [] (by decide) rfl rfl⟩))))))

end Go.Proofs.Yticjoiolfibmlaa
namespace Go.Proofs.Yticjoiolfibmlaa
open Go.RowKit
set_option linter.unusedVariables false

def anc_raddleref26_SameInts_0 : List (List Nat) := [[], [], [0, 1], [0, 1, 2], [], [], [4, 5], [4, 5, 6], [0, 1, 2, 3, 4, 5, 6, 7]]
noncomputable def raddleref26_SameInts_l1 (p0 : (List Int)) (p1 : (List Int)) : Int → Option (Int ⊕ (Bool ⊕ Unit)) := fun s0 => match s0 with
  | s13 =>
    if decide (s13 < (p0.length : Int)) then
      Option.bind (idxO p0 s13) fun x22 =>
      Option.bind (idxO p1 s13) fun x27 =>
      if x22 != x27 then
        some (.inr (.inl false))
      else
        some (.inl (w64 (s13 + 1)))
    else
      some (.inr (.inr ()))
noncomputable def F_raddleref26_SameInts (p0 : (List Int)) (p1 : (List Int)) : Option Bool :=
  if (p0.length : Int) != (p1.length : Int) then
    some false
  else
    Option.bind (α := Unit ⊕ Bool) (
      Option.bind (whileO (raddleref26_SameInts_l1 p0 p1) 0) fun z0 => match z0 with
        | .inl z =>
          some (.inr z)
        | .inr _ =>
          some (.inl ())) fun z0 => match z0 with
      | .inl _ =>
        some true
      | .inr z =>
        some z
set_option maxHeartbeats 4000000 in
set_option maxRecDepth 100000 in
theorem c_raddleref26_SameInts (E : Nat → Prop) (w0 : World) (p0 : (List Int)) (v0 : Value) (p1 : (List Int)) (v1 : Value) (r : Bool) (h : F_raddleref26_SameInts p0 p1 = some r) (S : St0 E [] w0 w0 [] [fRep (rL (rI .i64)) (v0) p0, fRep (rL (rI .i64)) (v1) p1]) :
    Calls Try.prog 18 #[v0, v1] w0 (Ret (X := Unit) E [] w0 (fun _ => .bool r) (fun _ => []) (fun _ => [])) := by
  unfold F_raddleref26_SameInts at h
  obtain ⟨ad1, cp2, _, rfl, _⟩ := S.know (i := 0) (e := fRep (rL (rI .i64)) (v0) p0) rfl
  obtain ⟨ad3, cp4, _, rfl, _⟩ := S.know (i := 1) (e := fRep (rL (rI .i64)) (v1) p1) rfl
  refine sEnter (args := [.slice ad1 p0.length cp2, .slice ad3 p1.length cp4]) 26 Try.func18 rfl rfl (by simp) S (fun a S => ?_)
  refine sSeq (fun K5 hK5 => ?_)
  refine sRegion ?_
  refine sMove (.bool false) S (wN rfl) (.inr rfl) rfl rfl (lb rfl) fun a S => ?_
  refine leafL (leafT (hK5 _ _ ?_))
  refine sSeq (fun K6 hK6 => ?_)
  refine sSeq (fun K7 hK7 => ?_)
  refine sRegion ?_
  refine sMove (.slice ad1 p0.length cp2) S (wN rfl) (.inl rfl) rfl rfl (lb rfl) fun a S => ?_
  refine sLen (ad := ad1) (m := p0.length) (c := cp2) S (wN rfl) rfl Try.underlying32 rfl rfl (lb rfl) fun a S => ?_
  refine sMove (.slice ad3 p1.length cp4) S (wN rfl) (.inl rfl) rfl rfl (lb rfl) fun a S => ?_
  refine sLen (ad := ad3) (m := p1.length) (c := cp4) S (wN rfl) rfl Try.underlying32 rfl rfl (lb rfl) fun a S => ?_
  refine sBin (.bool ((p0.length : Int) != (p1.length : Int))) S (wN rfl) rfl rfl rfl (bNe _ _ _ _ .i64 (p0.length : Int) (p1.length : Int)) rfl (lb rfl) fun a S => ?_
  refine leafL (leafT (hK7 _ _ ?_))
  rcases iteSome h with ⟨hc8, h⟩ | ⟨hc8, h⟩
  · refine sCondT S rfl hc8 ?_
    refine sSeq (fun K9 hK9 => ?_)
    refine sRegion ?_
    refine sMove (.bool false) S (wN rfl) (.inr rfl) rfl rfl (lb rfl) fun a S => ?_
    refine leafL (leafT (hK9 _ _ ?_))
    obtain rfl := Option.some.inj h
    exact wp_ret (rThen (sRet (.bool false) S (rsl1 rfl (rvT (t := 4) (v := .bool false) S rfl)) ⟨(), rfl, S.mem.sel [] [] (by decide) rfl rfl⟩))
  refine sCondF S rfl hc8 ?_
  refine wp_skip (leafT (hK6 _ _ ?_))
  obtain ⟨t10, h, g11⟩ := bindSome h
  refine sCut (fun a w => .inl () = t10 ∧ St [] E [] w0 26 a w [] [] []) ?_ (fun a w hI => ?_)
  rotate_left
  · obtain ⟨rfl, S⟩ := hI
    have h := g11
    clear g11
    try dsimp only at h
    refine sSeq (fun K40 hK40 => ?_)
    refine sRegion ?_
    refine sMove (.bool true) S (wN rfl) (.inr rfl) rfl rfl (lb rfl) fun a S => ?_
    refine leafL (leafT (hK40 _ _ ?_))
    obtain rfl := Option.some.inj h
    exact wp_ret (sRet (.bool true) S (rsl1 rfl (rvT (t := 4) (v := .bool true) S rfl)) ⟨(), rfl, S.mem.sel [] [] (by decide) rfl rfl⟩)
  refine sSeq (fun K12 hK12 => ?_)
  refine sRegion ?_
  refine sMove (iv 0) S (wN rfl) (.inr rfl) rfl rfl (lb rfl) fun a S => ?_
  refine leafL (leafT (hK12 _ _ ?_))
  refine wp_block ?_
  obtain ⟨t16, hl, g15⟩ := bindSome h
  refine sLoop hl (fun s0 a w => match s0 with | s13 => St [] E [] w0 26 a w [(0, .slice ad1 p0.length cp2), (1, .slice ad3 p1.length cp4), (5, iv s13)] [] [fRep (rL (rI .i64)) (.slice ad1 p0.length cp2) p0, fRep (rL (rI .i64)) (.slice ad3 p1.length cp4) p1]) (S.fix [] [0, 1] (by decide) rfl rfl rfl) ?_
  clear hl h
  intro s13 a w c0 hI h hu14
  unfold raddleref26_SameInts_l1 at h
  dsimp only at h hI
  have S := hI
  refine sSeq (fun K17 hK17 => ?_)
  refine sSeq (fun K18 hK18 => ?_)
  refine sRegion ?_
  refine sMove (iv s13) S (wN rfl) (.inl rfl) rfl rfl (lb rfl) fun a S => ?_
  refine sMove (.slice ad1 p0.length cp2) S (wN rfl) (.inl rfl) rfl rfl (lb rfl) fun a S => ?_
  refine sLen (ad := ad1) (m := p0.length) (c := cp2) S (wN rfl) rfl Try.underlying32 rfl rfl (lb rfl) fun a S => ?_
  refine sBin (.bool (decide (s13 < (p0.length : Int)))) S (wN rfl) rfl rfl rfl (bLt _ _ _ _ .i64 s13 (p0.length : Int)) rfl (lb rfl) fun a S => ?_
  refine leafL (leafT (hK18 _ _ ?_))
  rcases iteSome h with ⟨hc19, h⟩ | ⟨hc19, h⟩
  rotate_left
  · refine sCondF S rfl hc19 ?_
    obtain rfl := Option.some.inj h
    obtain rfl := hu14 _ rfl
    have h := g15
    clear g15
    try dsimp only at h
    exact wp_exit (xThen (xThen (xHit (leafT (⟨Option.some.inj h, S.fix [] [] (by decide) rfl rfl rfl⟩)))))
  refine sCondT S rfl hc19 ?_
  refine wp_skip (leafT (hK17 _ _ ?_))
  refine sSeq (fun K20 hK20 => ?_)
  refine wp_block ?_
  refine sSeq (fun K21 hK21 => ?_)
  obtain ⟨x22, hx23, h⟩ := bindSome h
  obtain ⟨x27, hx28, h⟩ := bindSome h
  obtain ⟨q32, hq33, S⟩ := pIdx (P := Try.prog) (r := (rI .i64)) (v := .slice ad1 p0.length cp2) (xs := p0) (j := s13) 32 3 0 S Try.underlying32 rfl rfl hx23
  obtain ⟨u34, S⟩ := pLoad (r := (rI .i64)) (q := q32) (x := x22) 0 S rfl
  obtain rfl : u34 = iv x22 := S.mem.know (i := 1) (e := fRep (rI .i64) (u34) x22) rfl
  obtain ⟨q35, hq36, S⟩ := pIdx (P := Try.prog) (r := (rI .i64)) (v := .slice ad3 p1.length cp4) (xs := p1) (j := s13) 32 3 4 S Try.underlying32 rfl rfl hx28
  obtain ⟨u37, S⟩ := pLoad (r := (rI .i64)) (q := q35) (x := x27) 0 S rfl
  obtain rfl : u37 = iv x27 := S.mem.know (i := 1) (e := fRep (rI .i64) (u37) x27) rfl
  refine sDraw (nf := []) (W := [(0, 17, .slice ad1 p0.length cp2), (1, 18, iv s13), (2, 19, q32), (3, 20, iv x22), (4, 21, .slice ad3 p1.length cp4), (5, 22, iv s13), (6, 23, q35), (7, 24, iv x27), (8, 25, .bool (x22 != x27))]) rfl S ?_
  refine node_by (A := anc_raddleref26_SameInts_0) (nf := []) (Y := []) (W := [(0, 17, .slice ad1 p0.length cp2), (1, 18, iv s13), (2, 19, q32), (3, 20, iv x22), (4, 21, .slice ad3 p1.length cp4), (5, 22, iv s13), (6, 23, q35), (7, 24, iv x27), (8, 25, .bool (x22 != x27))]) 9 (by kernel_rfl) (by kernel_rfl) (by kernel_rfl) (by kernel_rfl) (by kernel_rfl) [0, 1, 2, 3, 4, 5, 6, 7, 8] (by kernel_rfl) (by decide) (by decide) (aF 0 8 (by decide) ?_ (aF 1 7 (by decide) ?_ (aF 2 6 (by decide) ?_ (aF 3 5 (by decide) ?_ (aF 4 4 (by decide) ?_ (aF 5 3 (by decide) ?_ (aF 6 2 (by decide) ?_ (aF 7 1 (by decide) ?_ (aF 8 0 (by decide) ?_ (trivial)))))))))) [(0, .slice ad1 p0.length cp2), (1, .slice ad3 p1.length cp4), (5, iv s13), (25, .bool (x22 != x27))] (fin_of [none, none, none, some 8] rfl (by kernel_rfl) (by kernel_rfl)) (fun _ a w S => ?_)
  · refine fI 17 (.slice ad1 p0.length cp2) [(0, .slice ad1 p0.length cp2)] 0 [none] rfl rfl rfl rfl rfl rfl fun G a w S => ?_
    refine sMove (.slice ad1 p0.length cp2) S (wN rfl) (.inl rfl) rfl rfl (lb rfl) fun a S => ?_
    exact leafL ⟨rfl, S⟩
  · refine fI 18 (iv s13) [(5, iv s13)] 1 [none] rfl rfl rfl rfl rfl rfl fun G a w S => ?_
    refine sMove (iv s13) S (wN rfl) (.inl rfl) rfl rfl (lb rfl) fun a S => ?_
    exact leafL ⟨rfl, S⟩
  · refine fI 19 q32 [(17, .slice ad1 p0.length cp2), (18, iv s13)] 2 [some 0, some 1] rfl rfl rfl rfl rfl rfl fun G a w S => ?_
    refine sIdxV (v := .slice ad1 p0.length cp2) (k := .i64) (j := s13) S (wN rfl) rfl rfl rfl hq33 rfl (lb rfl) fun a S => ?_
    exact leafL ⟨rfl, S⟩
  · refine fI 20 (iv x22) [(19, q32)] 3 [some 2] rfl rfl rfl rfl rfl rfl fun G a w S => ?_
    refine sLoadV1 (vq := q32) 3 (iv x22) S (wN rfl) rfl rfl rfl rfl rfl (lb rfl) fun a S => ?_
    exact leafL ⟨rfl, S⟩
  · refine fI 21 (.slice ad3 p1.length cp4) [(1, .slice ad3 p1.length cp4)] 4 [none] rfl rfl rfl rfl rfl rfl fun G a w S => ?_
    refine sMove (.slice ad3 p1.length cp4) S (wN rfl) (.inl rfl) rfl rfl (lb rfl) fun a S => ?_
    exact leafL ⟨rfl, S⟩
  · refine fI 22 (iv s13) [(5, iv s13)] 5 [none] rfl rfl rfl rfl rfl rfl fun G a w S => ?_
    refine sMove (iv s13) S (wN rfl) (.inl rfl) rfl rfl (lb rfl) fun a S => ?_
    exact leafL ⟨rfl, S⟩
  · refine fI 23 q35 [(21, .slice ad3 p1.length cp4), (22, iv s13)] 6 [some 4, some 5] rfl rfl rfl rfl rfl rfl fun G a w S => ?_
    refine sIdxV (v := .slice ad3 p1.length cp4) (k := .i64) (j := s13) S (wN rfl) rfl rfl rfl hq36 rfl (lb rfl) fun a S => ?_
    exact leafL ⟨rfl, S⟩
  · refine fI 24 (iv x27) [(23, q35)] 7 [some 6] rfl rfl rfl rfl rfl rfl fun G a w S => ?_
    refine sLoadV1 (vq := q35) 0 (iv x27) S (wN rfl) rfl rfl rfl rfl rfl (lb rfl) fun a S => ?_
    exact leafL ⟨rfl, S⟩
  · refine fI 25 (.bool (x22 != x27)) [(20, iv x22), (24, iv x27)] 8 [some 3, some 7] rfl rfl rfl rfl rfl rfl fun G a w S => ?_
    refine sBin (.bool (x22 != x27)) S (wN rfl) rfl rfl rfl (bNe _ _ _ _ .i64 x22 x27) rfl (lb rfl) fun a S => ?_
    exact leafL ⟨rfl, S⟩
  refine leafT (hK21 _ _ ?_)
  rcases iteSome h with ⟨hc38, h⟩ | ⟨hc38, h⟩
  rotate_left
  · refine sCondF S rfl hc38 ?_
    refine wp_skip (leafB (leafT (hK20 _ _ ?_)))
    refine sRegion ?_
    refine sMove (iv s13) S (wN rfl) (.inl rfl) rfl rfl (lb rfl) fun a S => ?_
    refine sBin (iv (w64 (s13 + 1))) S (wN rfl) rfl rfl rfl (bAdd _ _ _ _ s13 1) rfl (lb rfl) fun a S => ?_
    refine sMove (iv (w64 (s13 + 1))) S (wN rfl) (.inr rfl) rfl rfl (lb rfl) fun a S => ?_
    exact leafL (leafT (⟨w64 (s13 + 1), (Option.some.inj h).symm, (S.fix [] [6, 7] (by decide) rfl rfl rfl)⟩))
  refine sCondT S rfl hc38 ?_
  refine sSeq (fun K39 hK39 => ?_)
  refine sRegion ?_
  refine sMove (.bool false) S (wN rfl) (.inr rfl) rfl rfl (lb rfl) fun a S => ?_
  refine leafL (leafT (hK39 _ _ ?_))
  obtain rfl := Option.some.inj h
  obtain rfl := hu14 _ rfl
  have h := g15
  clear g15
  try dsimp only at h
  obtain rfl := Option.some.inj h
  have h := g11
  clear g11
  try dsimp only at h
  obtain rfl := Option.some.inj h
  exact wp_ret (rBlock (rThen (rThen (rBlock (rThen (sRet (.bool false) S (rsl1 rfl (rvT (t := 4) (v := .bool false) S rfl)) ⟨(), rfl, S.mem.sel [] [] (by decide) rfl rfl⟩))))))

end Go.Proofs.Yticjoiolfibmlaa
namespace Go.Proofs.Yticjoiolfibmlaa
open Go.RowKit
set_option linter.unusedVariables false

def anc_raddleref27_Same_0 : List (List Nat) := [[], [], [0, 1], [0, 1, 2], [0, 1, 2, 3], [], [], [5, 6], [5, 6, 7], [5, 6, 7, 8], [0, 1, 2, 3, 4, 5, 6, 7, 8, 9], [0, 1, 2, 3, 4, 5, 6, 7, 8, 9, 10], [0, 1, 2, 3, 4, 5, 6, 7, 8, 9, 10, 11], [0, 1, 2, 3, 4, 5, 6, 7, 8, 9, 10, 11], [0, 1, 2, 3, 4, 5, 6, 7, 8, 9, 10, 11, 12, 13], [0, 1, 2, 3, 4, 5, 6, 7, 8, 9, 10, 11, 12, 13, 14], [0, 1, 2, 3, 4, 5, 6, 7, 8, 9, 10, 11, 12, 13, 14, 15], [0, 1, 2, 3, 4, 5, 6, 7, 8, 9, 10, 11], [0, 1, 2, 3, 4, 5, 6, 7, 8, 9, 10, 11], [0, 1, 2, 3, 4, 5, 6, 7, 8, 9, 10, 11, 17, 18], [0, 1, 2, 3, 4, 5, 6, 7, 8, 9, 10, 11, 17, 18, 19], [0, 1, 2, 3, 4, 5, 6, 7, 8, 9, 10, 11, 17, 18, 19, 20], [0, 1, 2, 3, 4, 5, 6, 7, 8, 9, 10, 11, 12, 13, 14, 15, 16, 17, 18, 19, 20, 21], [0, 1, 2, 3, 4, 5, 6, 7, 8, 9, 10, 11, 12, 13, 14, 15, 16, 17, 18, 19, 20, 21, 22], [0, 1, 2, 3, 4, 5, 6, 7, 8, 9, 10, 11, 12, 13, 14, 15, 16, 17, 18, 19, 20, 21, 22, 23], [0, 1, 2, 3, 4, 5, 6, 7, 8, 9, 10, 11, 12, 13, 14, 15, 16, 17, 18, 19, 20, 21, 22, 23, 24], [0, 1, 2, 3, 4, 5, 6, 7, 8, 9, 10, 11, 12, 13, 14, 15, 16, 17, 18, 19, 20, 21, 22, 23, 24], [0, 1, 2, 3, 4, 5, 6, 7, 8, 9, 10, 11, 12, 13, 14, 15, 16, 17, 18, 19, 20, 21, 22, 23, 24, 25, 26], [0, 1, 2, 3, 4, 5, 6, 7, 8, 9, 10, 11, 12, 13, 14, 15, 16, 17, 18, 19, 20, 21, 22, 23, 24, 25, 26, 27], [0, 1, 2, 3, 4, 5, 6, 7, 8, 9, 10, 11, 12, 13, 14, 15, 16, 17, 18, 19, 20, 21, 22, 23, 24, 25, 26, 27, 28], [0, 1, 2, 3, 4, 5, 6, 7, 8, 9, 10, 11, 12, 13, 14, 15, 16, 17, 18, 19, 20, 21, 22, 23, 24], [0, 1, 2, 3, 4, 5, 6, 7, 8, 9, 10, 11, 12, 13, 14, 15, 16, 17, 18, 19, 20, 21, 22, 23, 24], [0, 1, 2, 3, 4, 5, 6, 7, 8, 9, 10, 11, 12, 13, 14, 15, 16, 17, 18, 19, 20, 21, 22, 23, 24, 30, 31], [0, 1, 2, 3, 4, 5, 6, 7, 8, 9, 10, 11, 12, 13, 14, 15, 16, 17, 18, 19, 20, 21, 22, 23, 24, 30, 31, 32], [0, 1, 2, 3, 4, 5, 6, 7, 8, 9, 10, 11, 12, 13, 14, 15, 16, 17, 18, 19, 20, 21, 22, 23, 24, 30, 31, 32, 33], [0, 1, 2, 3, 4, 5, 6, 7, 8, 9, 10, 11, 12, 13, 14, 15, 16, 17, 18, 19, 20, 21, 22, 23, 24, 25, 26, 27, 28, 29, 30, 31, 32, 33, 34], [0, 1, 2, 3, 4, 5, 6, 7, 8, 9, 10, 11, 12, 13, 14, 15, 16, 17, 18, 19, 20, 21, 22, 23, 24, 25, 26, 27, 28, 29, 30, 31, 32, 33, 34, 35], [0, 1, 2, 3, 4, 5, 6, 7, 8, 9, 10, 11, 12, 13, 14, 15, 16, 17, 18, 19, 20, 21, 22, 23, 24, 25, 26, 27, 28, 29, 30, 31, 32, 33, 34, 35, 36], [0, 1, 2, 3, 4, 5, 6, 7, 8, 9, 10, 11, 12, 13, 14, 15, 16, 17, 18, 19, 20, 21, 22, 23, 24, 25, 26, 27, 28, 29, 30, 31, 32, 33, 34, 35, 36, 37], [0, 1, 2, 3, 4, 5, 6, 7, 8, 9, 10, 11, 12, 13, 14, 15, 16, 17, 18, 19, 20, 21, 22, 23, 24, 25, 26, 27, 28, 29, 30, 31, 32, 33, 34, 35, 36, 37], [0, 1, 2, 3, 4, 5, 6, 7, 8, 9, 10, 11, 12, 13, 14, 15, 16, 17, 18, 19, 20, 21, 22, 23, 24, 25, 26, 27, 28, 29, 30, 31, 32, 33, 34, 35, 36, 37, 38, 39], [0, 1, 2, 3, 4, 5, 6, 7, 8, 9, 10, 11, 12, 13, 14, 15, 16, 17, 18, 19, 20, 21, 22, 23, 24, 25, 26, 27, 28, 29, 30, 31, 32, 33, 34, 35, 36, 37, 38, 39, 40], [0, 1, 2, 3, 4, 5, 6, 7, 8, 9, 10, 11, 12, 13, 14, 15, 16, 17, 18, 19, 20, 21, 22, 23, 24, 25, 26, 27, 28, 29, 30, 31, 32, 33, 34, 35, 36, 37, 38, 39, 40, 41], [0, 1, 2, 3, 4, 5, 6, 7, 8, 9, 10, 11, 12, 13, 14, 15, 16, 17, 18, 19, 20, 21, 22, 23, 24, 25, 26, 27, 28, 29, 30, 31, 32, 33, 34, 35, 36, 37], [0, 1, 2, 3, 4, 5, 6, 7, 8, 9, 10, 11, 12, 13, 14, 15, 16, 17, 18, 19, 20, 21, 22, 23, 24, 25, 26, 27, 28, 29, 30, 31, 32, 33, 34, 35, 36, 37], [0, 1, 2, 3, 4, 5, 6, 7, 8, 9, 10, 11, 12, 13, 14, 15, 16, 17, 18, 19, 20, 21, 22, 23, 24, 25, 26, 27, 28, 29, 30, 31, 32, 33, 34, 35, 36, 37, 43, 44], [0, 1, 2, 3, 4, 5, 6, 7, 8, 9, 10, 11, 12, 13, 14, 15, 16, 17, 18, 19, 20, 21, 22, 23, 24, 25, 26, 27, 28, 29, 30, 31, 32, 33, 34, 35, 36, 37, 43, 44, 45], [0, 1, 2, 3, 4, 5, 6, 7, 8, 9, 10, 11, 12, 13, 14, 15, 16, 17, 18, 19, 20, 21, 22, 23, 24, 25, 26, 27, 28, 29, 30, 31, 32, 33, 34, 35, 36, 37, 43, 44, 45, 46], [0, 1, 2, 3, 4, 5, 6, 7, 8, 9, 10, 11, 12, 13, 14, 15, 16, 17, 18, 19, 20, 21, 22, 23, 24, 25, 26, 27, 28, 29, 30, 31, 32, 33, 34, 35, 36, 37, 38, 39, 40, 41, 42, 43, 44, 45, 46, 47], [0, 1, 2, 3, 4, 5, 6, 7, 8, 9, 10, 11, 12, 13, 14, 15, 16, 17, 18, 19, 20, 21, 22, 23, 24, 25, 26, 27, 28, 29, 30, 31, 32, 33, 34, 35, 36, 37, 38, 39, 40, 41, 42, 43, 44, 45, 46, 47, 48], [0, 1, 2, 3, 4, 5, 6, 7, 8, 9, 10, 11, 12, 13, 14, 15, 16, 17, 18, 19, 20, 21, 22, 23, 24, 25, 26, 27, 28, 29, 30, 31, 32, 33, 34, 35, 36, 37, 38, 39, 40, 41, 42, 43, 44, 45, 46, 47, 48, 49]]
noncomputable def raddleref27_Same_l1 (p0 : (List api_Loop)) (p1 : (List api_Loop)) : Int → Option (Int ⊕ (Bool ⊕ Unit)) := fun s0 => match s0 with
  | s13 =>
    if decide (s13 < (p0.length : Int)) then
      Option.bind (α := Bool) (
        Option.bind (idxO p0 s13) fun x24 =>
        Option.bind (idxO p1 s13) fun x31 =>
        if x24.Row != x31.Row then
          some true
        else
          if x24.Cell != x31.Cell then
            some true
          else
            if x24.Purl != x31.Purl then
              some true
            else
              Option.bind (F_raddleref26_SameInts x24.Parents x31.Parents) fun r135 =>
              some (!r135)) fun o21 =>
      if o21 then
        some (.inr (.inl false))
      else
        some (.inl (w64 (s13 + 1)))
    else
      some (.inr (.inr ()))
noncomputable def F_raddleref27_Same (p0 : (List api_Loop)) (p1 : (List api_Loop)) : Option Bool :=
  if (p0.length : Int) != (p1.length : Int) then
    some false
  else
    Option.bind (α := Unit ⊕ Bool) (
      Option.bind (whileO (raddleref27_Same_l1 p0 p1) 0) fun z0 => match z0 with
        | .inl z =>
          some (.inr z)
        | .inr _ =>
          some (.inl ())) fun z0 => match z0 with
      | .inl _ =>
        some true
      | .inr z =>
        some z
set_option maxHeartbeats 4000000 in
set_option maxRecDepth 100000 in
theorem c_raddleref27_Same (E : Nat → Prop) (w0 : World) (p0 : (List api_Loop)) (v0 : Value) (p1 : (List api_Loop)) (v1 : Value) (r : Bool) (h : F_raddleref27_Same p0 p1 = some r) (S : St0 E [] w0 w0 [] [fRep (rL r_api_Loop) (v0) p0, fRep (rL r_api_Loop) (v1) p1]) :
    Calls Try.prog 17 #[v0, v1] w0 (Ret (X := Unit) E [] w0 (fun _ => .bool r) (fun _ => []) (fun _ => [])) := by
  unfold F_raddleref27_Same at h
  obtain ⟨ad1, cp2, _, rfl, _⟩ := S.know (i := 0) (e := fRep (rL r_api_Loop) (v0) p0) rfl
  obtain ⟨ad3, cp4, _, rfl, _⟩ := S.know (i := 1) (e := fRep (rL r_api_Loop) (v1) p1) rfl
  refine sEnter (args := [.slice ad1 p0.length cp2, .slice ad3 p1.length cp4]) 68 Try.func17 rfl rfl (by simp) S (fun a S => ?_)
  refine sSeq (fun K5 hK5 => ?_)
  refine sRegion ?_
  refine sMove (.bool false) S (wN rfl) (.inr rfl) rfl rfl (lb rfl) fun a S => ?_
  refine leafL (leafT (hK5 _ _ ?_))
  refine sSeq (fun K6 hK6 => ?_)
  refine sSeq (fun K7 hK7 => ?_)
  refine sRegion ?_
  refine sMove (.slice ad1 p0.length cp2) S (wN rfl) (.inl rfl) rfl rfl (lb rfl) fun a S => ?_
  refine sLen (ad := ad1) (m := p0.length) (c := cp2) S (wN rfl) rfl Try.underlying26 rfl rfl (lb rfl) fun a S => ?_
  refine sMove (.slice ad3 p1.length cp4) S (wN rfl) (.inl rfl) rfl rfl (lb rfl) fun a S => ?_
  refine sLen (ad := ad3) (m := p1.length) (c := cp4) S (wN rfl) rfl Try.underlying26 rfl rfl (lb rfl) fun a S => ?_
  refine sBin (.bool ((p0.length : Int) != (p1.length : Int))) S (wN rfl) rfl rfl rfl (bNe _ _ _ _ .i64 (p0.length : Int) (p1.length : Int)) rfl (lb rfl) fun a S => ?_
  refine leafL (leafT (hK7 _ _ ?_))
  rcases iteSome h with ⟨hc8, h⟩ | ⟨hc8, h⟩
  · refine sCondT S rfl hc8 ?_
    refine sSeq (fun K9 hK9 => ?_)
    refine sRegion ?_
    refine sMove (.bool false) S (wN rfl) (.inr rfl) rfl rfl (lb rfl) fun a S => ?_
    refine leafL (leafT (hK9 _ _ ?_))
    obtain rfl := Option.some.inj h
    exact wp_ret (rThen (sRet (.bool false) S (rsl1 rfl (rvT (t := 4) (v := .bool false) S rfl)) ⟨(), rfl, S.mem.sel [] [] (by decide) rfl rfl⟩))
  refine sCondF S rfl hc8 ?_
  refine wp_skip (leafT (hK6 _ _ ?_))
  obtain ⟨t10, h, g11⟩ := bindSome h
  refine sCut (fun a w => .inl () = t10 ∧ St [] E [] w0 68 a w [] [] []) ?_ (fun a w hI => ?_)
  rotate_left
  · obtain ⟨rfl, S⟩ := hI
    have h := g11
    clear g11
    try dsimp only at h
    refine sSeq (fun K183 hK183 => ?_)
    refine sRegion ?_
    refine sMove (.bool true) S (wN rfl) (.inr rfl) rfl rfl (lb rfl) fun a S => ?_
    refine leafL (leafT (hK183 _ _ ?_))
    obtain rfl := Option.some.inj h
    exact wp_ret (sRet (.bool true) S (rsl1 rfl (rvT (t := 4) (v := .bool true) S rfl)) ⟨(), rfl, S.mem.sel [] [] (by decide) rfl rfl⟩)
  refine sSeq (fun K12 hK12 => ?_)
  refine sRegion ?_
  refine sMove (iv 0) S (wN rfl) (.inr rfl) rfl rfl (lb rfl) fun a S => ?_
  refine leafL (leafT (hK12 _ _ ?_))
  refine wp_block ?_
  obtain ⟨t16, hl, g15⟩ := bindSome h
  refine sLoop hl (fun s0 a w => match s0 with | s13 => St [] E [] w0 68 a w [(0, .slice ad1 p0.length cp2), (1, .slice ad3 p1.length cp4), (5, iv s13)] [] [fRep (rL r_api_Loop) (.slice ad1 p0.length cp2) p0, fRep (rL r_api_Loop) (.slice ad3 p1.length cp4) p1]) (S.fix [] [0, 1] (by decide) rfl rfl rfl) ?_
  clear hl h
  intro s13 a w c0 hI h hu14
  unfold raddleref27_Same_l1 at h
  dsimp only at h hI
  have S := hI
  refine sSeq (fun K17 hK17 => ?_)
  refine sSeq (fun K18 hK18 => ?_)
  refine sRegion ?_
  refine sMove (iv s13) S (wN rfl) (.inl rfl) rfl rfl (lb rfl) fun a S => ?_
  refine sMove (.slice ad1 p0.length cp2) S (wN rfl) (.inl rfl) rfl rfl (lb rfl) fun a S => ?_
  refine sLen (ad := ad1) (m := p0.length) (c := cp2) S (wN rfl) rfl Try.underlying26 rfl rfl (lb rfl) fun a S => ?_
  refine sBin (.bool (decide (s13 < (p0.length : Int)))) S (wN rfl) rfl rfl rfl (bLt _ _ _ _ .i64 s13 (p0.length : Int)) rfl (lb rfl) fun a S => ?_
  refine leafL (leafT (hK18 _ _ ?_))
  rcases iteSome h with ⟨hc19, h⟩ | ⟨hc19, h⟩
  rotate_left
  · refine sCondF S rfl hc19 ?_
    obtain rfl := Option.some.inj h
    obtain rfl := hu14 _ rfl
    have h := g15
    clear g15
    try dsimp only at h
    exact wp_exit (xThen (xThen (xHit (leafT (⟨Option.some.inj h, S.fix [] [] (by decide) rfl rfl rfl⟩)))))
  refine sCondT S rfl hc19 ?_
  refine wp_skip (leafT (hK17 _ _ ?_))
  refine sSeq (fun K20 hK20 => ?_)
  refine wp_block ?_
  obtain ⟨t22, h, g23⟩ := bindSome h
  refine sCut (fun a w => ∃ o21, o21 = t22 ∧ St [] E [] w0 68 a w [(0, .slice ad1 p0.length cp2), (1, .slice ad3 p1.length cp4), (5, iv s13), (67, .bool o21)] [] [fRep (rL r_api_Loop) (.slice ad1 p0.length cp2) p0, fRep (rL r_api_Loop) (.slice ad3 p1.length cp4) p1]) ?_ (fun a w hI => ?_)
  rotate_left
  · obtain ⟨o21, rfl, S⟩ := hI
    have h := g23
    clear g23
    try dsimp only at h
    rcases iteSome h with ⟨hc181, h⟩ | ⟨hc181, h⟩
    rotate_left
    · refine sCondF S rfl hc181 ?_
      refine wp_skip (leafB (leafT (hK20 _ _ ?_)))
      refine sRegion ?_
      refine sMove (iv s13) S (wN rfl) (.inl rfl) rfl rfl (lb rfl) fun a S => ?_
      refine sBin (iv (w64 (s13 + 1))) S (wN rfl) rfl rfl rfl (bAdd _ _ _ _ s13 1) rfl (lb rfl) fun a S => ?_
      refine sMove (iv (w64 (s13 + 1))) S (wN rfl) (.inr rfl) rfl rfl (lb rfl) fun a S => ?_
      exact leafL (leafT (⟨w64 (s13 + 1), (Option.some.inj h).symm, (S.fix [] [0, 1] (by decide) rfl rfl rfl)⟩))
    refine sCondT S rfl hc181 ?_
    refine sSeq (fun K182 hK182 => ?_)
    refine sRegion ?_
    refine sMove (.bool false) S (wN rfl) (.inr rfl) rfl rfl (lb rfl) fun a S => ?_
    refine leafL (leafT (hK182 _ _ ?_))
    obtain rfl := Option.some.inj h
    obtain rfl := hu14 _ rfl
    have h := g15
    clear g15
    try dsimp only at h
    obtain rfl := Option.some.inj h
    have h := g11
    clear g11
    try dsimp only at h
    obtain rfl := Option.some.inj h
    exact wp_ret (rBlock (rThen (rThen (rBlock (rThen (sRet (.bool false) S (rsl1 rfl (rvT (t := 4) (v := .bool false) S rfl)) ⟨(), rfl, S.mem.sel [] [] (by decide) rfl rfl⟩))))))
  obtain ⟨x24, hx25, h⟩ := bindSome h
  obtain ⟨x31, hx32, h⟩ := bindSome h
  rcases iteSome h with ⟨hc38, h⟩ | ⟨hc38, h⟩
  · obtain ⟨q39, hq40, S⟩ := pIdx (P := Try.prog) (r := r_api_Loop) (v := .slice ad1 p0.length cp2) (xs := p0) (j := s13) 26 48 0 S Try.underlying26 rfl rfl hx25
    obtain ⟨q41, hq42, S⟩ := pFld (P := Try.prog) (r := r_api_Loop) (s2 := (rI .i64)) (g := (·.Row)) (q := q39) (z := x24) 48 0 0 0 S rfl rfl comp_api_Loop_Row
    obtain ⟨u43, S⟩ := pLoad (r := (rI .i64)) (q := q41) (x := x24.Row) 0 S rfl
    obtain rfl : u43 = iv x24.Row := S.mem.know (i := 1) (e := fRep (rI .i64) (u43) x24.Row) rfl
    obtain ⟨q44, hq45, S⟩ := pIdx (P := Try.prog) (r := r_api_Loop) (v := .slice ad3 p1.length cp4) (xs := p1) (j := s13) 26 48 5 S Try.underlying26 rfl rfl hx32
    obtain ⟨q46, hq47, S⟩ := pFld (P := Try.prog) (r := r_api_Loop) (s2 := (rI .i64)) (g := (·.Row)) (q := q44) (z := x31) 48 0 0 0 S rfl rfl comp_api_Loop_Row
    obtain ⟨u48, S⟩ := pLoad (r := (rI .i64)) (q := q46) (x := x31.Row) 0 S rfl
    obtain rfl : u48 = iv x31.Row := S.mem.know (i := 1) (e := fRep (rI .i64) (u48) x31.Row) rfl
    refine sDraw (nf := []) (W := [(0, 17, .slice ad1 p0.length cp2), (1, 18, iv s13), (2, 19, q39), (3, 20, q41), (4, 21, iv x24.Row), (5, 22, .slice ad3 p1.length cp4), (6, 23, iv s13), (7, 24, q44), (8, 25, q46), (9, 26, iv x31.Row), (10, 27, .bool (x24.Row != x31.Row)), (11, 28, .bool (x24.Row != x31.Row)), (12, 29, undef), (13, 30, undef), (14, 31, undef), (15, 32, undef), (16, 33, undef), (17, 34, undef), (18, 35, undef), (19, 36, undef), (20, 37, undef), (21, 38, undef), (22, 39, undef), (23, 40, .bool true), (24, 41, .bool true), (25, 42, undef), (26, 43, undef), (27, 44, undef), (28, 45, undef), (29, 46, undef), (30, 47, undef), (31, 48, undef), (32, 49, undef), (33, 50, undef), (34, 51, undef), (35, 52, undef), (36, 53, .bool true), (37, 54, .bool true), (38, 55, undef), (39, 56, undef), (40, 57, undef), (41, 58, undef), (42, 59, undef), (43, 60, undef), (44, 61, undef), (45, 62, undef), (46, 63, undef), (47, 64, undef), (48, 65, undef), (49, 66, undef), (50, 67, .bool true)]) rfl S ?_
    refine node_by (A := anc_raddleref27_Same_0) (nf := []) (Y := []) (W := [(0, 17, .slice ad1 p0.length cp2), (1, 18, iv s13), (2, 19, q39), (3, 20, q41), (4, 21, iv x24.Row), (5, 22, .slice ad3 p1.length cp4), (6, 23, iv s13), (7, 24, q44), (8, 25, q46), (9, 26, iv x31.Row), (10, 27, .bool (x24.Row != x31.Row)), (11, 28, .bool (x24.Row != x31.Row)), (12, 29, undef), (13, 30, undef), (14, 31, undef), (15, 32, undef), (16, 33, undef), (17, 34, undef), (18, 35, undef), (19, 36, undef), (20, 37, undef), (21, 38, undef), (22, 39, undef), (23, 40, .bool true), (24, 41, .bool true), (25, 42, undef), (26, 43, undef), (27, 44, undef), (28, 45, undef), (29, 46, undef), (30, 47, undef), (31, 48, undef), (32, 49, undef), (33, 50, undef), (34, 51, undef), (35, 52, undef), (36, 53, .bool true), (37, 54, .bool true), (38, 55, undef), (39, 56, undef), (40, 57, undef), (41, 58, undef), (42, 59, undef), (43, 60, undef), (44, 61, undef), (45, 62, undef), (46, 63, undef), (47, 64, undef), (48, 65, undef), (49, 66, undef), (50, 67, .bool true)]) 51 (by kernel_rfl) (by kernel_rfl) (by kernel_rfl) (by kernel_rfl) (by kernel_rfl) [0, 1, 2, 3, 4, 5, 6, 7, 8, 9, 10, 11, 12, 13, 14, 15, 16, 17, 18, 19, 20, 21, 22, 23, 24, 25, 26, 27, 28, 29, 30, 31, 32, 33, 34, 35, 36, 37, 38, 39, 40, 41, 42, 43, 44, 45, 46, 47, 48, 49, 50] (by kernel_rfl) (by decide) (by decide) (aF 0 50 (by decide) ?_ (aF 1 49 (by decide) ?_ (aF 2 48 (by decide) ?_ (aF 3 47 (by decide) ?_ (aF 4 46 (by decide) ?_ (aF 5 45 (by decide) ?_ (aF 6 44 (by decide) ?_ (aF 7 43 (by decide) ?_ (aF 8 42 (by decide) ?_ (aF 9 41 (by decide) ?_ (aF 10 40 (by decide) ?_ (aF 11 39 (by decide) ?_ (aF 12 38 (by decide) ?_ (aF 13 37 (by decide) ?_ (aF 14 36 (by decide) ?_ (aF 15 35 (by decide) ?_ (aF 16 34 (by decide) ?_ (aF 17 33 (by decide) ?_ (aF 18 32 (by decide) ?_ (aF 19 31 (by decide) ?_ (aF 20 30 (by decide) ?_ (aF 21 29 (by decide) ?_ (aF 22 28 (by decide) ?_ (aF 23 27 (by decide) ?_ (aF 24 26 (by decide) ?_ (aF 25 25 (by decide) ?_ (aF 26 24 (by decide) ?_ (aF 27 23 (by decide) ?_ (aF 28 22 (by decide) ?_ (aF 29 21 (by decide) ?_ (aF 30 20 (by decide) ?_ (aF 31 19 (by decide) ?_ (aF 32 18 (by decide) ?_ (aF 33 17 (by decide) ?_ (aF 34 16 (by decide) ?_ (aF 35 15 (by decide) ?_ (aF 36 14 (by decide) ?_ (aF 37 13 (by decide) ?_ (aF 38 12 (by decide) ?_ (aF 39 11 (by decide) ?_ (aF 40 10 (by decide) ?_ (aF 41 9 (by decide) ?_ (aF 42 8 (by decide) ?_ (aF 43 7 (by decide) ?_ (aF 44 6 (by decide) ?_ (aF 45 5 (by decide) ?_ (aF 46 4 (by decide) ?_ (aF 47 3 (by decide) ?_ (aF 48 2 (by decide) ?_ (aF 49 1 (by decide) ?_ (aF 50 0 (by decide) ?_ (trivial)))))))))))))))))))))))))))))))))))))))))))))))))))) [(0, .slice ad1 p0.length cp2), (1, .slice ad3 p1.length cp4), (5, iv s13), (29, undef), (30, undef), (31, undef), (32, undef), (33, undef), (34, undef), (35, undef), (36, undef), (37, undef), (38, undef), (39, undef), (42, undef), (43, undef), (44, undef), (45, undef), (46, undef), (47, undef), (48, undef), (49, undef), (50, undef), (51, undef), (52, undef), (55, undef), (56, undef), (57, undef), (58, undef), (59, undef), (60, undef), (61, undef), (62, undef), (63, undef), (64, undef), (65, undef), (66, undef), (67, .bool true)] (fin_of [none, none, none, some 12, some 13, some 14, some 15, some 16, some 17, some 18, some 19, some 20, some 21, some 22, some 25, some 26, some 27, some 28, some 29, some 30, some 31, some 32, some 33, some 34, some 35, some 38, some 39, some 40, some 41, some 42, some 43, some 44, some 45, some 46, some 47, some 48, some 49, some 50] rfl (by kernel_rfl) (by kernel_rfl)) (fun _ a w S => ?_)
    · refine fI 17 (.slice ad1 p0.length cp2) [(0, .slice ad1 p0.length cp2)] 0 [none] rfl rfl rfl rfl rfl rfl fun G a w S => ?_
      refine sMove (.slice ad1 p0.length cp2) S (wN rfl) (.inl rfl) rfl rfl (lb rfl) fun a S => ?_
      exact leafL ⟨rfl, S⟩
    · refine fI 18 (iv s13) [(5, iv s13)] 1 [none] rfl rfl rfl rfl rfl rfl fun G a w S => ?_
      refine sMove (iv s13) S (wN rfl) (.inl rfl) rfl rfl (lb rfl) fun a S => ?_
      exact leafL ⟨rfl, S⟩
    · refine fI 19 q39 [(17, .slice ad1 p0.length cp2), (18, iv s13)] 2 [some 0, some 1] rfl rfl rfl rfl rfl rfl fun G a w S => ?_
      refine sIdxV (v := .slice ad1 p0.length cp2) (k := .i64) (j := s13) S (wN rfl) rfl rfl rfl hq40 rfl (lb rfl) fun a S => ?_
      exact leafL ⟨rfl, S⟩
    · refine fI 20 q41 [(19, q39)] 3 [some 2] rfl rfl rfl rfl rfl rfl fun G a w S => ?_
      refine sFldV (q := q39) S (wN rfl) rfl rfl hq42 rfl (lb rfl) fun a S => ?_
      exact leafL ⟨rfl, S⟩
    · refine fI 21 (iv x24.Row) [(20, q41)] 4 [some 3] rfl rfl rfl rfl rfl rfl fun G a w S => ?_
      refine sLoadV1 (vq := q41) 4 (iv x24.Row) S (wN rfl) rfl rfl rfl rfl rfl (lb rfl) fun a S => ?_
      exact leafL ⟨rfl, S⟩
    · refine fI 22 (.slice ad3 p1.length cp4) [(1, .slice ad3 p1.length cp4)] 5 [none] rfl rfl rfl rfl rfl rfl fun G a w S => ?_
      refine sMove (.slice ad3 p1.length cp4) S (wN rfl) (.inl rfl) rfl rfl (lb rfl) fun a S => ?_
      exact leafL ⟨rfl, S⟩
    · refine fI 23 (iv s13) [(5, iv s13)] 6 [none] rfl rfl rfl rfl rfl rfl fun G a w S => ?_
      refine sMove (iv s13) S (wN rfl) (.inl rfl) rfl rfl (lb rfl) fun a S => ?_
      exact leafL ⟨rfl, S⟩
    · refine fI 24 q44 [(22, .slice ad3 p1.length cp4), (23, iv s13)] 7 [some 5, some 6] rfl rfl rfl rfl rfl rfl fun G a w S => ?_
      refine sIdxV (v := .slice ad3 p1.length cp4) (k := .i64) (j := s13) S (wN rfl) rfl rfl rfl hq45 rfl (lb rfl) fun a S => ?_
      exact leafL ⟨rfl, S⟩
    · refine fI 25 q46 [(24, q44)] 8 [some 7] rfl rfl rfl rfl rfl rfl fun G a w S => ?_
      refine sFldV (q := q44) S (wN rfl) rfl rfl hq47 rfl (lb rfl) fun a S => ?_
      exact leafL ⟨rfl, S⟩
    · refine fI 26 (iv x31.Row) [(25, q46)] 9 [some 8] rfl rfl rfl rfl rfl rfl fun G a w S => ?_
      refine sLoadV1 (vq := q46) 0 (iv x31.Row) S (wN rfl) rfl rfl rfl rfl rfl (lb rfl) fun a S => ?_
      exact leafL ⟨rfl, S⟩
    · refine fI 27 (.bool (x24.Row != x31.Row)) [(21, iv x24.Row), (26, iv x31.Row)] 10 [some 4, some 9] rfl rfl rfl rfl rfl rfl fun G a w S => ?_
      refine sBin (.bool (x24.Row != x31.Row)) S (wN rfl) rfl rfl rfl (bNe _ _ _ _ .i64 x24.Row x31.Row) rfl (lb rfl) fun a S => ?_
      exact leafL ⟨rfl, S⟩
    · refine fI 28 (.bool (x24.Row != x31.Row)) [(27, .bool (x24.Row != x31.Row))] 11 [some 10] rfl rfl rfl rfl rfl rfl fun G a w S => ?_
      refine sMove (.bool (x24.Row != x31.Row)) S (wN rfl) (.inl rfl) rfl rfl (lb rfl) fun a S => ?_
      exact leafL ⟨rfl, S⟩
    · refine fI 29 undef [(0, .slice ad1 p0.length cp2), (28, .bool (x24.Row != x31.Row))] 12 [none, some 11] rfl rfl rfl rfl rfl rfl fun G a w S => ?_
      refine sSkip 11 false 28 29 S rfl rfl rfl hc38 rfl (lb rfl) fun a S => ?_
      exact leafL ⟨rfl, S⟩
    · refine fI 30 undef [(5, iv s13), (28, .bool (x24.Row != x31.Row))] 13 [none, some 11] rfl rfl rfl rfl rfl rfl fun G a w S => ?_
      refine sSkip 11 false 28 30 S rfl rfl rfl hc38 rfl (lb rfl) fun a S => ?_
      exact leafL ⟨rfl, S⟩
    · refine fI 31 undef [(29, undef), (30, undef), (28, .bool (x24.Row != x31.Row))] 14 [some 12, some 13, some 11] rfl rfl rfl rfl rfl rfl fun G a w S => ?_
      refine sSkip 11 false 28 31 S rfl rfl rfl hc38 rfl (lb rfl) fun a S => ?_
      exact leafL ⟨rfl, S⟩
    · refine fI 32 undef [(31, undef), (28, .bool (x24.Row != x31.Row))] 15 [some 14, some 11] rfl rfl rfl rfl rfl rfl fun G a w S => ?_
      refine sSkip 11 false 28 32 S rfl rfl rfl hc38 rfl (lb rfl) fun a S => ?_
      exact leafL ⟨rfl, S⟩
    · refine fI 33 undef [(32, undef), (28, .bool (x24.Row != x31.Row))] 16 [some 15, some 11] rfl rfl rfl rfl rfl rfl fun G a w S => ?_
      refine sSkip 11 false 28 33 S rfl rfl rfl hc38 rfl (lb rfl) fun a S => ?_
      exact leafL ⟨rfl, S⟩
    · refine fI 34 undef [(1, .slice ad3 p1.length cp4), (28, .bool (x24.Row != x31.Row))] 17 [none, some 11] rfl rfl rfl rfl rfl rfl fun G a w S => ?_
      refine sSkip 11 false 28 34 S rfl rfl rfl hc38 rfl (lb rfl) fun a S => ?_
      exact leafL ⟨rfl, S⟩
    · refine fI 35 undef [(5, iv s13), (28, .bool (x24.Row != x31.Row))] 18 [none, some 11] rfl rfl rfl rfl rfl rfl fun G a w S => ?_
      refine sSkip 11 false 28 35 S rfl rfl rfl hc38 rfl (lb rfl) fun a S => ?_
      exact leafL ⟨rfl, S⟩
    · refine fI 36 undef [(34, undef), (35, undef), (28, .bool (x24.Row != x31.Row))] 19 [some 17, some 18, some 11] rfl rfl rfl rfl rfl rfl fun G a w S => ?_
      refine sSkip 11 false 28 36 S rfl rfl rfl hc38 rfl (lb rfl) fun a S => ?_
      exact leafL ⟨rfl, S⟩
    · refine fI 37 undef [(36, undef), (28, .bool (x24.Row != x31.Row))] 20 [some 19, some 11] rfl rfl rfl rfl rfl rfl fun G a w S => ?_
      refine sSkip 11 false 28 37 S rfl rfl rfl hc38 rfl (lb rfl) fun a S => ?_
      exact leafL ⟨rfl, S⟩
    · refine fI 38 undef [(37, undef), (28, .bool (x24.Row != x31.Row))] 21 [some 20, some 11] rfl rfl rfl rfl rfl rfl fun G a w S => ?_
      refine sSkip 11 false 28 38 S rfl rfl rfl hc38 rfl (lb rfl) fun a S => ?_
      exact leafL ⟨rfl, S⟩
    · refine fI 39 undef [(33, undef), (38, undef), (28, .bool (x24.Row != x31.Row))] 22 [some 16, some 21, some 11] rfl rfl rfl rfl rfl rfl fun G a w S => ?_
      refine sSkip 11 false 28 39 S rfl rfl rfl hc38 rfl (lb rfl) fun a S => ?_
      exact leafL ⟨rfl, S⟩
    · refine fI 40 (.bool true) [(28, .bool (x24.Row != x31.Row)), (39, undef)] 23 [some 11, some 22] rfl rfl rfl rfl rfl rfl fun G a w S => ?_
      refine sPickT (.bool true) S (wN rfl) rfl rfl hc38 rfl rfl (lb rfl) fun a S => ?_
      exact leafL ⟨rfl, S⟩
    · refine fI 41 (.bool true) [(40, .bool true)] 24 [some 23] rfl rfl rfl rfl rfl rfl fun G a w S => ?_
      refine sMove (.bool true) S (wN rfl) (.inl rfl) rfl rfl (lb rfl) fun a S => ?_
      exact leafL ⟨rfl, S⟩
    · refine fI 42 undef [(0, .slice ad1 p0.length cp2), (41, .bool true)] 25 [none, some 24] rfl rfl rfl rfl rfl rfl fun G a w S => ?_
      refine sSkip 24 false 41 42 S rfl rfl rfl rfl rfl (lb rfl) fun a S => ?_
      exact leafL ⟨rfl, S⟩
    · refine fI 43 undef [(5, iv s13), (41, .bool true)] 26 [none, some 24] rfl rfl rfl rfl rfl rfl fun G a w S => ?_
      refine sSkip 24 false 41 43 S rfl rfl rfl rfl rfl (lb rfl) fun a S => ?_
      exact leafL ⟨rfl, S⟩
    · refine fI 44 undef [(42, undef), (43, undef), (41, .bool true)] 27 [some 25, some 26, some 24] rfl rfl rfl rfl rfl rfl fun G a w S => ?_
      refine sSkip 24 false 41 44 S rfl rfl rfl rfl rfl (lb rfl) fun a S => ?_
      exact leafL ⟨rfl, S⟩
    · refine fI 45 undef [(44, undef), (41, .bool true)] 28 [some 27, some 24] rfl rfl rfl rfl rfl rfl fun G a w S => ?_
      refine sSkip 24 false 41 45 S rfl rfl rfl rfl rfl (lb rfl) fun a S => ?_
      exact leafL ⟨rfl, S⟩
    · refine fI 46 undef [(45, undef), (41, .bool true)] 29 [some 28, some 24] rfl rfl rfl rfl rfl rfl fun G a w S => ?_
      refine sSkip 24 false 41 46 S rfl rfl rfl rfl rfl (lb rfl) fun a S => ?_
      exact leafL ⟨rfl, S⟩
    · refine fI 47 undef [(1, .slice ad3 p1.length cp4), (41, .bool true)] 30 [none, some 24] rfl rfl rfl rfl rfl rfl fun G a w S => ?_
      refine sSkip 24 false 41 47 S rfl rfl rfl rfl rfl (lb rfl) fun a S => ?_
      exact leafL ⟨rfl, S⟩
    · refine fI 48 undef [(5, iv s13), (41, .bool true)] 31 [none, some 24] rfl rfl rfl rfl rfl rfl fun G a w S => ?_
      refine sSkip 24 false 41 48 S rfl rfl rfl rfl rfl (lb rfl) fun a S => ?_
      exact leafL ⟨rfl, S⟩
    · refine fI 49 undef [(47, undef), (48, undef), (41, .bool true)] 32 [some 30, some 31, some 24] rfl rfl rfl rfl rfl rfl fun G a w S => ?_
      refine sSkip 24 false 41 49 S rfl rfl rfl rfl rfl (lb rfl) fun a S => ?_
      exact leafL ⟨rfl, S⟩
    · refine fI 50 undef [(49, undef), (41, .bool true)] 33 [some 32, some 24] rfl rfl rfl rfl rfl rfl fun G a w S => ?_
      refine sSkip 24 false 41 50 S rfl rfl rfl rfl rfl (lb rfl) fun a S => ?_
      exact leafL ⟨rfl, S⟩
    · refine fI 51 undef [(50, undef), (41, .bool true)] 34 [some 33, some 24] rfl rfl rfl rfl rfl rfl fun G a w S => ?_
      refine sSkip 24 false 41 51 S rfl rfl rfl rfl rfl (lb rfl) fun a S => ?_
      exact leafL ⟨rfl, S⟩
    · refine fI 52 undef [(46, undef), (51, undef), (41, .bool true)] 35 [some 29, some 34, some 24] rfl rfl rfl rfl rfl rfl fun G a w S => ?_
      refine sSkip 24 false 41 52 S rfl rfl rfl rfl rfl (lb rfl) fun a S => ?_
      exact leafL ⟨rfl, S⟩
    · refine fI 53 (.bool true) [(41, .bool true), (52, undef)] 36 [some 24, some 35] rfl rfl rfl rfl rfl rfl fun G a w S => ?_
      refine sPickT (.bool true) S (wN rfl) rfl rfl rfl rfl rfl (lb rfl) fun a S => ?_
      exact leafL ⟨rfl, S⟩
    · refine fI 54 (.bool true) [(53, .bool true)] 37 [some 36] rfl rfl rfl rfl rfl rfl fun G a w S => ?_
      refine sMove (.bool true) S (wN rfl) (.inl rfl) rfl rfl (lb rfl) fun a S => ?_
      exact leafL ⟨rfl, S⟩
    · refine fI 55 undef [(0, .slice ad1 p0.length cp2), (54, .bool true)] 38 [none, some 37] rfl rfl rfl rfl rfl rfl fun G a w S => ?_
      refine sSkip 37 false 54 55 S rfl rfl rfl rfl rfl (lb rfl) fun a S => ?_
      exact leafL ⟨rfl, S⟩
    · refine fI 56 undef [(5, iv s13), (54, .bool true)] 39 [none, some 37] rfl rfl rfl rfl rfl rfl fun G a w S => ?_
      refine sSkip 37 false 54 56 S rfl rfl rfl rfl rfl (lb rfl) fun a S => ?_
      exact leafL ⟨rfl, S⟩
    · refine fI 57 undef [(55, undef), (56, undef), (54, .bool true)] 40 [some 38, some 39, some 37] rfl rfl rfl rfl rfl rfl fun G a w S => ?_
      refine sSkip 37 false 54 57 S rfl rfl rfl rfl rfl (lb rfl) fun a S => ?_
      exact leafL ⟨rfl, S⟩
    · refine fI 58 undef [(57, undef), (54, .bool true)] 41 [some 40, some 37] rfl rfl rfl rfl rfl rfl fun G a w S => ?_
      refine sSkip 37 false 54 58 S rfl rfl rfl rfl rfl (lb rfl) fun a S => ?_
      exact leafL ⟨rfl, S⟩
    · refine fI 59 undef [(58, undef), (54, .bool true)] 42 [some 41, some 37] rfl rfl rfl rfl rfl rfl fun G a w S => ?_
      refine sSkip 37 false 54 59 S rfl rfl rfl rfl rfl (lb rfl) fun a S => ?_
      exact leafL ⟨rfl, S⟩
    · refine fI 60 undef [(1, .slice ad3 p1.length cp4), (54, .bool true)] 43 [none, some 37] rfl rfl rfl rfl rfl rfl fun G a w S => ?_
      refine sSkip 37 false 54 60 S rfl rfl rfl rfl rfl (lb rfl) fun a S => ?_
      exact leafL ⟨rfl, S⟩
    · refine fI 61 undef [(5, iv s13), (54, .bool true)] 44 [none, some 37] rfl rfl rfl rfl rfl rfl fun G a w S => ?_
      refine sSkip 37 false 54 61 S rfl rfl rfl rfl rfl (lb rfl) fun a S => ?_
      exact leafL ⟨rfl, S⟩
    · refine fI 62 undef [(60, undef), (61, undef), (54, .bool true)] 45 [some 43, some 44, some 37] rfl rfl rfl rfl rfl rfl fun G a w S => ?_
      refine sSkip 37 false 54 62 S rfl rfl rfl rfl rfl (lb rfl) fun a S => ?_
      exact leafL ⟨rfl, S⟩
    · refine fI 63 undef [(62, undef), (54, .bool true)] 46 [some 45, some 37] rfl rfl rfl rfl rfl rfl fun G a w S => ?_
      refine sSkip 37 false 54 63 S rfl rfl rfl rfl rfl (lb rfl) fun a S => ?_
      exact leafL ⟨rfl, S⟩
    · refine fI 64 undef [(63, undef), (54, .bool true)] 47 [some 46, some 37] rfl rfl rfl rfl rfl rfl fun G a w S => ?_
      refine sSkip 37 false 54 64 S rfl rfl rfl rfl rfl (lb rfl) fun a S => ?_
      exact leafL ⟨rfl, S⟩
    · refine fI 65 undef [(59, undef), (64, undef), (54, .bool true)] 48 [some 42, some 47, some 37] rfl rfl rfl rfl rfl rfl fun G a w S => ?_
      refine sSkip 37 false 54 65 S rfl rfl rfl rfl rfl (lb rfl) fun a S => ?_
      exact leafL ⟨rfl, S⟩
    · refine fI 66 undef [(65, undef), (54, .bool true)] 49 [some 48, some 37] rfl rfl rfl rfl rfl rfl fun G a w S => ?_
      refine sSkip 37 false 54 66 S rfl rfl rfl rfl rfl (lb rfl) fun a S => ?_
      exact leafL ⟨rfl, S⟩
    · refine fI 67 (.bool true) [(54, .bool true), (66, undef)] 50 [some 37, some 49] rfl rfl rfl rfl rfl rfl fun G a w S => ?_
      refine sPickT (.bool true) S (wN rfl) rfl rfl rfl rfl rfl (lb rfl) fun a S => ?_
      exact leafL ⟨rfl, S⟩
    exact leafT (⟨true, Option.some.inj h, S.fix [] [8, 9] (by decide) rfl rfl rfl⟩)
  rcases iteSome h with ⟨hc59, h⟩ | ⟨hc59, h⟩
  · obtain ⟨q60, hq61, S⟩ := pIdx (P := Try.prog) (r := r_api_Loop) (v := .slice ad1 p0.length cp2) (xs := p0) (j := s13) 26 48 0 S Try.underlying26 rfl rfl hx25
    obtain ⟨q62, hq63, S⟩ := pFld (P := Try.prog) (r := r_api_Loop) (s2 := (rI .i64)) (g := (·.Row)) (q := q60) (z := x24) 48 0 0 0 S rfl rfl comp_api_Loop_Row
    obtain ⟨u64, S⟩ := pLoad (r := (rI .i64)) (q := q62) (x := x24.Row) 0 S rfl
    obtain rfl : u64 = iv x24.Row := S.mem.know (i := 1) (e := fRep (rI .i64) (u64) x24.Row) rfl
    obtain ⟨q65, hq66, S⟩ := pIdx (P := Try.prog) (r := r_api_Loop) (v := .slice ad3 p1.length cp4) (xs := p1) (j := s13) 26 48 5 S Try.underlying26 rfl rfl hx32
    obtain ⟨q67, hq68, S⟩ := pFld (P := Try.prog) (r := r_api_Loop) (s2 := (rI .i64)) (g := (·.Row)) (q := q65) (z := x31) 48 0 0 0 S rfl rfl comp_api_Loop_Row
    obtain ⟨u69, S⟩ := pLoad (r := (rI .i64)) (q := q67) (x := x31.Row) 0 S rfl
    obtain rfl : u69 = iv x31.Row := S.mem.know (i := 1) (e := fRep (rI .i64) (u69) x31.Row) rfl
    obtain ⟨q70, hq71, S⟩ := pIdx (P := Try.prog) (r := r_api_Loop) (v := .slice ad1 p0.length cp2) (xs := p0) (j := s13) 26 48 8 S Try.underlying26 rfl rfl hx25
    obtain ⟨q72, hq73, S⟩ := pFld (P := Try.prog) (r := r_api_Loop) (s2 := (rI .i64)) (g := (·.Cell)) (q := q70) (z := x24) 48 1 0 1 S rfl rfl comp_api_Loop_Cell
    obtain ⟨u74, S⟩ := pLoad (r := (rI .i64)) (q := q72) (x := x24.Cell) 0 S rfl
    obtain rfl : u74 = iv x24.Cell := S.mem.know (i := 1) (e := fRep (rI .i64) (u74) x24.Cell) rfl
    obtain ⟨q75, hq76, S⟩ := pIdx (P := Try.prog) (r := r_api_Loop) (v := .slice ad3 p1.length cp4) (xs := p1) (j := s13) 26 48 13 S Try.underlying26 rfl rfl hx32
    obtain ⟨q77, hq78, S⟩ := pFld (P := Try.prog) (r := r_api_Loop) (s2 := (rI .i64)) (g := (·.Cell)) (q := q75) (z := x31) 48 1 0 1 S rfl rfl comp_api_Loop_Cell
    obtain ⟨u79, S⟩ := pLoad (r := (rI .i64)) (q := q77) (x := x31.Cell) 0 S rfl
    obtain rfl : u79 = iv x31.Cell := S.mem.know (i := 1) (e := fRep (rI .i64) (u79) x31.Cell) rfl
    refine sDraw (nf := []) (W := [(0, 17, .slice ad1 p0.length cp2), (1, 18, iv s13), (2, 19, q60), (3, 20, q62), (4, 21, iv x24.Row), (5, 22, .slice ad3 p1.length cp4), (6, 23, iv s13), (7, 24, q65), (8, 25, q67), (9, 26, iv x31.Row), (10, 27, .bool (x24.Row != x31.Row)), (11, 28, .bool (x24.Row != x31.Row)), (12, 29, .slice ad1 p0.length cp2), (13, 30, iv s13), (14, 31, q70), (15, 32, q72), (16, 33, iv x24.Cell), (17, 34, .slice ad3 p1.length cp4), (18, 35, iv s13), (19, 36, q75), (20, 37, q77), (21, 38, iv x31.Cell), (22, 39, .bool (x24.Cell != x31.Cell)), (23, 40, .bool (x24.Cell != x31.Cell)), (24, 41, .bool (x24.Cell != x31.Cell)), (25, 42, undef), (26, 43, undef), (27, 44, undef), (28, 45, undef), (29, 46, undef), (30, 47, undef), (31, 48, undef), (32, 49, undef), (33, 50, undef), (34, 51, undef), (35, 52, undef), (36, 53, .bool true), (37, 54, .bool true), (38, 55, undef), (39, 56, undef), (40, 57, undef), (41, 58, undef), (42, 59, undef), (43, 60, undef), (44, 61, undef), (45, 62, undef), (46, 63, undef), (47, 64, undef), (48, 65, undef), (49, 66, undef), (50, 67, .bool true)]) rfl S ?_
    refine node_by (A := anc_raddleref27_Same_0) (nf := []) (Y := []) (W := [(0, 17, .slice ad1 p0.length cp2), (1, 18, iv s13), (2, 19, q60), (3, 20, q62), (4, 21, iv x24.Row), (5, 22, .slice ad3 p1.length cp4), (6, 23, iv s13), (7, 24, q65), (8, 25, q67), (9, 26, iv x31.Row), (10, 27, .bool (x24.Row != x31.Row)), (11, 28, .bool (x24.Row != x31.Row)), (12, 29, .slice ad1 p0.length cp2), (13, 30, iv s13), (14, 31, q70), (15, 32, q72), (16, 33, iv x24.Cell), (17, 34, .slice ad3 p1.length cp4), (18, 35, iv s13), (19, 36, q75), (20, 37, q77), (21, 38, iv x31.Cell), (22, 39, .bool (x24.Cell != x31.Cell)), (23, 40, .bool (x24.Cell != x31.Cell)), (24, 41, .bool (x24.Cell != x31.Cell)), (25, 42, undef), (26, 43, undef), (27, 44, undef), (28, 45, undef), (29, 46, undef), (30, 47, undef), (31, 48, undef), (32, 49, undef), (33, 50, undef), (34, 51, undef), (35, 52, undef), (36, 53, .bool true), (37, 54, .bool true), (38, 55, undef), (39, 56, undef), (40, 57, undef), (41, 58, undef), (42, 59, undef), (43, 60, undef), (44, 61, undef), (45, 62, undef), (46, 63, undef), (47, 64, undef), (48, 65, undef), (49, 66, undef), (50, 67, .bool true)]) 51 (by kernel_rfl) (by kernel_rfl) (by kernel_rfl) (by kernel_rfl) (by kernel_rfl) [0, 1, 2, 3, 4, 5, 6, 7, 8, 9, 10, 11, 12, 13, 14, 15, 16, 17, 18, 19, 20, 21, 22, 23, 24, 25, 26, 27, 28, 29, 30, 31, 32, 33, 34, 35, 36, 37, 38, 39, 40, 41, 42, 43, 44, 45, 46, 47, 48, 49, 50] (by kernel_rfl) (by decide) (by decide) (aF 0 50 (by decide) ?_ (aF 1 49 (by decide) ?_ (aF 2 48 (by decide) ?_ (aF 3 47 (by decide) ?_ (aF 4 46 (by decide) ?_ (aF 5 45 (by decide) ?_ (aF 6 44 (by decide) ?_ (aF 7 43 (by decide) ?_ (aF 8 42 (by decide) ?_ (aF 9 41 (by decide) ?_ (aF 10 40 (by decide) ?_ (aF 11 39 (by decide) ?_ (aF 12 38 (by decide) ?_ (aF 13 37 (by decide) ?_ (aF 14 36 (by decide) ?_ (aF 15 35 (by decide) ?_ (aF 16 34 (by decide) ?_ (aF 17 33 (by decide) ?_ (aF 18 32 (by decide) ?_ (aF 19 31 (by decide) ?_ (aF 20 30 (by decide) ?_ (aF 21 29 (by decide) ?_ (aF 22 28 (by decide) ?_ (aF 23 27 (by decide) ?_ (aF 24 26 (by decide) ?_ (aF 25 25 (by decide) ?_ (aF 26 24 (by decide) ?_ (aF 27 23 (by decide) ?_ (aF 28 22 (by decide) ?_ (aF 29 21 (by decide) ?_ (aF 30 20 (by decide) ?_ (aF 31 19 (by decide) ?_ (aF 32 18 (by decide) ?_ (aF 33 17 (by decide) ?_ (aF 34 16 (by decide) ?_ (aF 35 15 (by decide) ?_ (aF 36 14 (by decide) ?_ (aF 37 13 (by decide) ?_ (aF 38 12 (by decide) ?_ (aF 39 11 (by decide) ?_ (aF 40 10 (by decide) ?_ (aF 41 9 (by decide) ?_ (aF 42 8 (by decide) ?_ (aF 43 7 (by decide) ?_ (aF 44 6 (by decide) ?_ (aF 45 5 (by decide) ?_ (aF 46 4 (by decide) ?_ (aF 47 3 (by decide) ?_ (aF 48 2 (by decide) ?_ (aF 49 1 (by decide) ?_ (aF 50 0 (by decide) ?_ (trivial)))))))))))))))))))))))))))))))))))))))))))))))))))) [(0, .slice ad1 p0.length cp2), (1, .slice ad3 p1.length cp4), (5, iv s13), (29, .slice ad1 p0.length cp2), (30, iv s13), (31, q70), (32, q72), (33, iv x24.Cell), (34, .slice ad3 p1.length cp4), (35, iv s13), (36, q75), (37, q77), (38, iv x31.Cell), (39, .bool (x24.Cell != x31.Cell)), (42, undef), (43, undef), (44, undef), (45, undef), (46, undef), (47, undef), (48, undef), (49, undef), (50, undef), (51, undef), (52, undef), (55, undef), (56, undef), (57, undef), (58, undef), (59, undef), (60, undef), (61, undef), (62, undef), (63, undef), (64, undef), (65, undef), (66, undef), (67, .bool true)] (fin_of [none, none, none, some 12, some 13, some 14, some 15, some 16, some 17, some 18, some 19, some 20, some 21, some 22, some 25, some 26, some 27, some 28, some 29, some 30, some 31, some 32, some 33, some 34, some 35, some 38, some 39, some 40, some 41, some 42, some 43, some 44, some 45, some 46, some 47, some 48, some 49, some 50] rfl (by kernel_rfl) (by kernel_rfl)) (fun _ a w S => ?_)
    · refine fI 17 (.slice ad1 p0.length cp2) [(0, .slice ad1 p0.length cp2)] 0 [none] rfl rfl rfl rfl rfl rfl fun G a w S => ?_
      refine sMove (.slice ad1 p0.length cp2) S (wN rfl) (.inl rfl) rfl rfl (lb rfl) fun a S => ?_
      exact leafL ⟨rfl, S⟩
    · refine fI 18 (iv s13) [(5, iv s13)] 1 [none] rfl rfl rfl rfl rfl rfl fun G a w S => ?_
      refine sMove (iv s13) S (wN rfl) (.inl rfl) rfl rfl (lb rfl) fun a S => ?_
      exact leafL ⟨rfl, S⟩
    · refine fI 19 q60 [(17, .slice ad1 p0.length cp2), (18, iv s13)] 2 [some 0, some 1] rfl rfl rfl rfl rfl rfl fun G a w S => ?_
      refine sIdxV (v := .slice ad1 p0.length cp2) (k := .i64) (j := s13) S (wN rfl) rfl rfl rfl hq61 rfl (lb rfl) fun a S => ?_
      exact leafL ⟨rfl, S⟩
    · refine fI 20 q62 [(19, q60)] 3 [some 2] rfl rfl rfl rfl rfl rfl fun G a w S => ?_
      refine sFldV (q := q60) S (wN rfl) rfl rfl hq63 rfl (lb rfl) fun a S => ?_
      exact leafL ⟨rfl, S⟩
    · refine fI 21 (iv x24.Row) [(20, q62)] 4 [some 3] rfl rfl rfl rfl rfl rfl fun G a w S => ?_
      refine sLoadV1 (vq := q62) 12 (iv x24.Row) S (wN rfl) rfl rfl rfl rfl rfl (lb rfl) fun a S => ?_
      exact leafL ⟨rfl, S⟩
    · refine fI 22 (.slice ad3 p1.length cp4) [(1, .slice ad3 p1.length cp4)] 5 [none] rfl rfl rfl rfl rfl rfl fun G a w S => ?_
      refine sMove (.slice ad3 p1.length cp4) S (wN rfl) (.inl rfl) rfl rfl (lb rfl) fun a S => ?_
      exact leafL ⟨rfl, S⟩
    · refine fI 23 (iv s13) [(5, iv s13)] 6 [none] rfl rfl rfl rfl rfl rfl fun G a w S => ?_
      refine sMove (iv s13) S (wN rfl) (.inl rfl) rfl rfl (lb rfl) fun a S => ?_
      exact leafL ⟨rfl, S⟩
    · refine fI 24 q65 [(22, .slice ad3 p1.length cp4), (23, iv s13)] 7 [some 5, some 6] rfl rfl rfl rfl rfl rfl fun G a w S => ?_
      refine sIdxV (v := .slice ad3 p1.length cp4) (k := .i64) (j := s13) S (wN rfl) rfl rfl rfl hq66 rfl (lb rfl) fun a S => ?_
      exact leafL ⟨rfl, S⟩
    · refine fI 25 q67 [(24, q65)] 8 [some 7] rfl rfl rfl rfl rfl rfl fun G a w S => ?_
      refine sFldV (q := q65) S (wN rfl) rfl rfl hq68 rfl (lb rfl) fun a S => ?_
      exact leafL ⟨rfl, S⟩
    · refine fI 26 (iv x31.Row) [(25, q67)] 9 [some 8] rfl rfl rfl rfl rfl rfl fun G a w S => ?_
      refine sLoadV1 (vq := q67) 8 (iv x31.Row) S (wN rfl) rfl rfl rfl rfl rfl (lb rfl) fun a S => ?_
      exact leafL ⟨rfl, S⟩
    · refine fI 27 (.bool (x24.Row != x31.Row)) [(21, iv x24.Row), (26, iv x31.Row)] 10 [some 4, some 9] rfl rfl rfl rfl rfl rfl fun G a w S => ?_
      refine sBin (.bool (x24.Row != x31.Row)) S (wN rfl) rfl rfl rfl (bNe _ _ _ _ .i64 x24.Row x31.Row) rfl (lb rfl) fun a S => ?_
      exact leafL ⟨rfl, S⟩
    · refine fI 28 (.bool (x24.Row != x31.Row)) [(27, .bool (x24.Row != x31.Row))] 11 [some 10] rfl rfl rfl rfl rfl rfl fun G a w S => ?_
      refine sMove (.bool (x24.Row != x31.Row)) S (wN rfl) (.inl rfl) rfl rfl (lb rfl) fun a S => ?_
      exact leafL ⟨rfl, S⟩
    · refine fI 29 (.slice ad1 p0.length cp2) [(0, .slice ad1 p0.length cp2), (28, .bool (x24.Row != x31.Row))] 12 [none, some 11] rfl rfl rfl rfl rfl rfl fun G a w S => ?_
      refine sMove (.slice ad1 p0.length cp2) S (wG 11 false 28 rfl rfl rfl hc38) (.inl rfl) rfl rfl (lb rfl) fun a S => ?_
      exact leafL ⟨rfl, S⟩
    · refine fI 30 (iv s13) [(5, iv s13), (28, .bool (x24.Row != x31.Row))] 13 [none, some 11] rfl rfl rfl rfl rfl rfl fun G a w S => ?_
      refine sMove (iv s13) S (wG 11 false 28 rfl rfl rfl hc38) (.inl rfl) rfl rfl (lb rfl) fun a S => ?_
      exact leafL ⟨rfl, S⟩
    · refine fI 31 q70 [(29, .slice ad1 p0.length cp2), (30, iv s13), (28, .bool (x24.Row != x31.Row))] 14 [some 12, some 13, some 11] rfl rfl rfl rfl rfl rfl fun G a w S => ?_
      refine sIdxV (v := .slice ad1 p0.length cp2) (k := .i64) (j := s13) S (wG 11 false 28 rfl rfl rfl hc38) rfl rfl rfl hq71 rfl (lb rfl) fun a S => ?_
      exact leafL ⟨rfl, S⟩
    · refine fI 32 q72 [(31, q70), (28, .bool (x24.Row != x31.Row))] 15 [some 14, some 11] rfl rfl rfl rfl rfl rfl fun G a w S => ?_
      refine sFldV (q := q70) S (wG 11 false 28 rfl rfl rfl hc38) rfl rfl hq73 rfl (lb rfl) fun a S => ?_
      exact leafL ⟨rfl, S⟩
    · refine fI 33 (iv x24.Cell) [(32, q72), (28, .bool (x24.Row != x31.Row))] 16 [some 15, some 11] rfl rfl rfl rfl rfl rfl fun G a w S => ?_
      refine sLoadV1 (vq := q72) 4 (iv x24.Cell) S (wG 11 false 28 rfl rfl rfl hc38) rfl rfl rfl rfl rfl (lb rfl) fun a S => ?_
      exact leafL ⟨rfl, S⟩
    · refine fI 34 (.slice ad3 p1.length cp4) [(1, .slice ad3 p1.length cp4), (28, .bool (x24.Row != x31.Row))] 17 [none, some 11] rfl rfl rfl rfl rfl rfl fun G a w S => ?_
      refine sMove (.slice ad3 p1.length cp4) S (wG 11 false 28 rfl rfl rfl hc38) (.inl rfl) rfl rfl (lb rfl) fun a S => ?_
      exact leafL ⟨rfl, S⟩
    · refine fI 35 (iv s13) [(5, iv s13), (28, .bool (x24.Row != x31.Row))] 18 [none, some 11] rfl rfl rfl rfl rfl rfl fun G a w S => ?_
      refine sMove (iv s13) S (wG 11 false 28 rfl rfl rfl hc38) (.inl rfl) rfl rfl (lb rfl) fun a S => ?_
      exact leafL ⟨rfl, S⟩
    · refine fI 36 q75 [(34, .slice ad3 p1.length cp4), (35, iv s13), (28, .bool (x24.Row != x31.Row))] 19 [some 17, some 18, some 11] rfl rfl rfl rfl rfl rfl fun G a w S => ?_
      refine sIdxV (v := .slice ad3 p1.length cp4) (k := .i64) (j := s13) S (wG 11 false 28 rfl rfl rfl hc38) rfl rfl rfl hq76 rfl (lb rfl) fun a S => ?_
      exact leafL ⟨rfl, S⟩
    · refine fI 37 q77 [(36, q75), (28, .bool (x24.Row != x31.Row))] 20 [some 19, some 11] rfl rfl rfl rfl rfl rfl fun G a w S => ?_
      refine sFldV (q := q75) S (wG 11 false 28 rfl rfl rfl hc38) rfl rfl hq78 rfl (lb rfl) fun a S => ?_
      exact leafL ⟨rfl, S⟩
    · refine fI 38 (iv x31.Cell) [(37, q77), (28, .bool (x24.Row != x31.Row))] 21 [some 20, some 11] rfl rfl rfl rfl rfl rfl fun G a w S => ?_
      refine sLoadV1 (vq := q77) 0 (iv x31.Cell) S (wG 11 false 28 rfl rfl rfl hc38) rfl rfl rfl rfl rfl (lb rfl) fun a S => ?_
      exact leafL ⟨rfl, S⟩
    · refine fI 39 (.bool (x24.Cell != x31.Cell)) [(33, iv x24.Cell), (38, iv x31.Cell), (28, .bool (x24.Row != x31.Row))] 22 [some 16, some 21, some 11] rfl rfl rfl rfl rfl rfl fun G a w S => ?_
      refine sBin (.bool (x24.Cell != x31.Cell)) S (wG 11 false 28 rfl rfl rfl hc38) rfl rfl rfl (bNe _ _ _ _ .i64 x24.Cell x31.Cell) rfl (lb rfl) fun a S => ?_
      exact leafL ⟨rfl, S⟩
    · refine fI 40 (.bool (x24.Cell != x31.Cell)) [(28, .bool (x24.Row != x31.Row)), (39, .bool (x24.Cell != x31.Cell))] 23 [some 11, some 22] rfl rfl rfl rfl rfl rfl fun G a w S => ?_
      refine sPickF (.bool (x24.Cell != x31.Cell)) S (wN rfl) rfl rfl hc38 rfl rfl (lb rfl) fun a S => ?_
      exact leafL ⟨rfl, S⟩
    · refine fI 41 (.bool (x24.Cell != x31.Cell)) [(40, .bool (x24.Cell != x31.Cell))] 24 [some 23] rfl rfl rfl rfl rfl rfl fun G a w S => ?_
      refine sMove (.bool (x24.Cell != x31.Cell)) S (wN rfl) (.inl rfl) rfl rfl (lb rfl) fun a S => ?_
      exact leafL ⟨rfl, S⟩
    · refine fI 42 undef [(0, .slice ad1 p0.length cp2), (41, .bool (x24.Cell != x31.Cell))] 25 [none, some 24] rfl rfl rfl rfl rfl rfl fun G a w S => ?_
      refine sSkip 24 false 41 42 S rfl rfl rfl hc59 rfl (lb rfl) fun a S => ?_
      exact leafL ⟨rfl, S⟩
    · refine fI 43 undef [(5, iv s13), (41, .bool (x24.Cell != x31.Cell))] 26 [none, some 24] rfl rfl rfl rfl rfl rfl fun G a w S => ?_
      refine sSkip 24 false 41 43 S rfl rfl rfl hc59 rfl (lb rfl) fun a S => ?_
      exact leafL ⟨rfl, S⟩
    · refine fI 44 undef [(42, undef), (43, undef), (41, .bool (x24.Cell != x31.Cell))] 27 [some 25, some 26, some 24] rfl rfl rfl rfl rfl rfl fun G a w S => ?_
      refine sSkip 24 false 41 44 S rfl rfl rfl hc59 rfl (lb rfl) fun a S => ?_
      exact leafL ⟨rfl, S⟩
    · refine fI 45 undef [(44, undef), (41, .bool (x24.Cell != x31.Cell))] 28 [some 27, some 24] rfl rfl rfl rfl rfl rfl fun G a w S => ?_
      refine sSkip 24 false 41 45 S rfl rfl rfl hc59 rfl (lb rfl) fun a S => ?_
      exact leafL ⟨rfl, S⟩
    · refine fI 46 undef [(45, undef), (41, .bool (x24.Cell != x31.Cell))] 29 [some 28, some 24] rfl rfl rfl rfl rfl rfl fun G a w S => ?_
      refine sSkip 24 false 41 46 S rfl rfl rfl hc59 rfl (lb rfl) fun a S => ?_
      exact leafL ⟨rfl, S⟩
    · refine fI 47 undef [(1, .slice ad3 p1.length cp4), (41, .bool (x24.Cell != x31.Cell))] 30 [none, some 24] rfl rfl rfl rfl rfl rfl fun G a w S => ?_
      refine sSkip 24 false 41 47 S rfl rfl rfl hc59 rfl (lb rfl) fun a S => ?_
      exact leafL ⟨rfl, S⟩
    · refine fI 48 undef [(5, iv s13), (41, .bool (x24.Cell != x31.Cell))] 31 [none, some 24] rfl rfl rfl rfl rfl rfl fun G a w S => ?_
      refine sSkip 24 false 41 48 S rfl rfl rfl hc59 rfl (lb rfl) fun a S => ?_
      exact leafL ⟨rfl, S⟩
    · refine fI 49 undef [(47, undef), (48, undef), (41, .bool (x24.Cell != x31.Cell))] 32 [some 30, some 31, some 24] rfl rfl rfl rfl rfl rfl fun G a w S => ?_
      refine sSkip 24 false 41 49 S rfl rfl rfl hc59 rfl (lb rfl) fun a S => ?_
      exact leafL ⟨rfl, S⟩
    · refine fI 50 undef [(49, undef), (41, .bool (x24.Cell != x31.Cell))] 33 [some 32, some 24] rfl rfl rfl rfl rfl rfl fun G a w S => ?_
      refine sSkip 24 false 41 50 S rfl rfl rfl hc59 rfl (lb rfl) fun a S => ?_
      exact leafL ⟨rfl, S⟩
    · refine fI 51 undef [(50, undef), (41, .bool (x24.Cell != x31.Cell))] 34 [some 33, some 24] rfl rfl rfl rfl rfl rfl fun G a w S => ?_
      refine sSkip 24 false 41 51 S rfl rfl rfl hc59 rfl (lb rfl) fun a S => ?_
      exact leafL ⟨rfl, S⟩
    · refine fI 52 undef [(46, undef), (51, undef), (41, .bool (x24.Cell != x31.Cell))] 35 [some 29, some 34, some 24] rfl rfl rfl rfl rfl rfl fun G a w S => ?_
      refine sSkip 24 false 41 52 S rfl rfl rfl hc59 rfl (lb rfl) fun a S => ?_
      exact leafL ⟨rfl, S⟩
    · refine fI 53 (.bool true) [(41, .bool (x24.Cell != x31.Cell)), (52, undef)] 36 [some 24, some 35] rfl rfl rfl rfl rfl rfl fun G a w S => ?_
      refine sPickT (.bool true) S (wN rfl) rfl rfl hc59 rfl rfl (lb rfl) fun a S => ?_
      exact leafL ⟨rfl, S⟩
    · refine fI 54 (.bool true) [(53, .bool true)] 37 [some 36] rfl rfl rfl rfl rfl rfl fun G a w S => ?_
      refine sMove (.bool true) S (wN rfl) (.inl rfl) rfl rfl (lb rfl) fun a S => ?_
      exact leafL ⟨rfl, S⟩
    · refine fI 55 undef [(0, .slice ad1 p0.length cp2), (54, .bool true)] 38 [none, some 37] rfl rfl rfl rfl rfl rfl fun G a w S => ?_
      refine sSkip 37 false 54 55 S rfl rfl rfl rfl rfl (lb rfl) fun a S => ?_
      exact leafL ⟨rfl, S⟩
    · refine fI 56 undef [(5, iv s13), (54, .bool true)] 39 [none, some 37] rfl rfl rfl rfl rfl rfl fun G a w S => ?_
      refine sSkip 37 false 54 56 S rfl rfl rfl rfl rfl (lb rfl) fun a S => ?_
      exact leafL ⟨rfl, S⟩
    · refine fI 57 undef [(55, undef), (56, undef), (54, .bool true)] 40 [some 38, some 39, some 37] rfl rfl rfl rfl rfl rfl fun G a w S => ?_
      refine sSkip 37 false 54 57 S rfl rfl rfl rfl rfl (lb rfl) fun a S => ?_
      exact leafL ⟨rfl, S⟩
    · refine fI 58 undef [(57, undef), (54, .bool true)] 41 [some 40, some 37] rfl rfl rfl rfl rfl rfl fun G a w S => ?_
      refine sSkip 37 false 54 58 S rfl rfl rfl rfl rfl (lb rfl) fun a S => ?_
      exact leafL ⟨rfl, S⟩
    · refine fI 59 undef [(58, undef), (54, .bool true)] 42 [some 41, some 37] rfl rfl rfl rfl rfl rfl fun G a w S => ?_
      refine sSkip 37 false 54 59 S rfl rfl rfl rfl rfl (lb rfl) fun a S => ?_
      exact leafL ⟨rfl, S⟩
    · refine fI 60 undef [(1, .slice ad3 p1.length cp4), (54, .bool true)] 43 [none, some 37] rfl rfl rfl rfl rfl rfl fun G a w S => ?_
      refine sSkip 37 false 54 60 S rfl rfl rfl rfl rfl (lb rfl) fun a S => ?_
      exact leafL ⟨rfl, S⟩
    · refine fI 61 undef [(5, iv s13), (54, .bool true)] 44 [none, some 37] rfl rfl rfl rfl rfl rfl fun G a w S => ?_
      refine sSkip 37 false 54 61 S rfl rfl rfl rfl rfl (lb rfl) fun a S => ?_
      exact leafL ⟨rfl, S⟩
    · refine fI 62 undef [(60, undef), (61, undef), (54, .bool true)] 45 [some 43, some 44, some 37] rfl rfl rfl rfl rfl rfl fun G a w S => ?_
      refine sSkip 37 false 54 62 S rfl rfl rfl rfl rfl (lb rfl) fun a S => ?_
      exact leafL ⟨rfl, S⟩
    · refine fI 63 undef [(62, undef), (54, .bool true)] 46 [some 45, some 37] rfl rfl rfl rfl rfl rfl fun G a w S => ?_
      refine sSkip 37 false 54 63 S rfl rfl rfl rfl rfl (lb rfl) fun a S => ?_
      exact leafL ⟨rfl, S⟩
    · refine fI 64 undef [(63, undef), (54, .bool true)] 47 [some 46, some 37] rfl rfl rfl rfl rfl rfl fun G a w S => ?_
      refine sSkip 37 false 54 64 S rfl rfl rfl rfl rfl (lb rfl) fun a S => ?_
      exact leafL ⟨rfl, S⟩
    · refine fI 65 undef [(59, undef), (64, undef), (54, .bool true)] 48 [some 42, some 47, some 37] rfl rfl rfl rfl rfl rfl fun G a w S => ?_
      refine sSkip 37 false 54 65 S rfl rfl rfl rfl rfl (lb rfl) fun a S => ?_
      exact leafL ⟨rfl, S⟩
    · refine fI 66 undef [(65, undef), (54, .bool true)] 49 [some 48, some 37] rfl rfl rfl rfl rfl rfl fun G a w S => ?_
      refine sSkip 37 false 54 66 S rfl rfl rfl rfl rfl (lb rfl) fun a S => ?_
      exact leafL ⟨rfl, S⟩
    · refine fI 67 (.bool true) [(54, .bool true), (66, undef)] 50 [some 37, some 49] rfl rfl rfl rfl rfl rfl fun G a w S => ?_
      refine sPickT (.bool true) S (wN rfl) rfl rfl rfl rfl rfl (lb rfl) fun a S => ?_
      exact leafL ⟨rfl, S⟩
    exact leafT (⟨true, Option.some.inj h, S.fix [] [16, 17] (by decide) rfl rfl rfl⟩)
  rcases iteSome h with ⟨hc90, h⟩ | ⟨hc90, h⟩
  · obtain ⟨q91, hq92, S⟩ := pIdx (P := Try.prog) (r := r_api_Loop) (v := .slice ad1 p0.length cp2) (xs := p0) (j := s13) 26 48 0 S Try.underlying26 rfl rfl hx25
    obtain ⟨q93, hq94, S⟩ := pFld (P := Try.prog) (r := r_api_Loop) (s2 := (rI .i64)) (g := (·.Row)) (q := q91) (z := x24) 48 0 0 0 S rfl rfl comp_api_Loop_Row
    obtain ⟨u95, S⟩ := pLoad (r := (rI .i64)) (q := q93) (x := x24.Row) 0 S rfl
    obtain rfl : u95 = iv x24.Row := S.mem.know (i := 1) (e := fRep (rI .i64) (u95) x24.Row) rfl
    obtain ⟨q96, hq97, S⟩ := pIdx (P := Try.prog) (r := r_api_Loop) (v := .slice ad3 p1.length cp4) (xs := p1) (j := s13) 26 48 5 S Try.underlying26 rfl rfl hx32
    obtain ⟨q98, hq99, S⟩ := pFld (P := Try.prog) (r := r_api_Loop) (s2 := (rI .i64)) (g := (·.Row)) (q := q96) (z := x31) 48 0 0 0 S rfl rfl comp_api_Loop_Row
    obtain ⟨u100, S⟩ := pLoad (r := (rI .i64)) (q := q98) (x := x31.Row) 0 S rfl
    obtain rfl : u100 = iv x31.Row := S.mem.know (i := 1) (e := fRep (rI .i64) (u100) x31.Row) rfl
    obtain ⟨q101, hq102, S⟩ := pIdx (P := Try.prog) (r := r_api_Loop) (v := .slice ad1 p0.length cp2) (xs := p0) (j := s13) 26 48 8 S Try.underlying26 rfl rfl hx25
    obtain ⟨q103, hq104, S⟩ := pFld (P := Try.prog) (r := r_api_Loop) (s2 := (rI .i64)) (g := (·.Cell)) (q := q101) (z := x24) 48 1 0 1 S rfl rfl comp_api_Loop_Cell
    obtain ⟨u105, S⟩ := pLoad (r := (rI .i64)) (q := q103) (x := x24.Cell) 0 S rfl
    obtain rfl : u105 = iv x24.Cell := S.mem.know (i := 1) (e := fRep (rI .i64) (u105) x24.Cell) rfl
    obtain ⟨q106, hq107, S⟩ := pIdx (P := Try.prog) (r := r_api_Loop) (v := .slice ad3 p1.length cp4) (xs := p1) (j := s13) 26 48 13 S Try.underlying26 rfl rfl hx32
    obtain ⟨q108, hq109, S⟩ := pFld (P := Try.prog) (r := r_api_Loop) (s2 := (rI .i64)) (g := (·.Cell)) (q := q106) (z := x31) 48 1 0 1 S rfl rfl comp_api_Loop_Cell
    obtain ⟨u110, S⟩ := pLoad (r := (rI .i64)) (q := q108) (x := x31.Cell) 0 S rfl
    obtain rfl : u110 = iv x31.Cell := S.mem.know (i := 1) (e := fRep (rI .i64) (u110) x31.Cell) rfl
    obtain ⟨q111, hq112, S⟩ := pIdx (P := Try.prog) (r := r_api_Loop) (v := .slice ad1 p0.length cp2) (xs := p0) (j := s13) 26 48 16 S Try.underlying26 rfl rfl hx25
    obtain ⟨q113, hq114, S⟩ := pFld (P := Try.prog) (r := r_api_Loop) (s2 := rB) (g := (·.Purl)) (q := q111) (z := x24) 48 3 0 3 S rfl rfl comp_api_Loop_Purl
    obtain ⟨u115, S⟩ := pLoad (r := rB) (q := q113) (x := x24.Purl) 0 S rfl
    obtain rfl : u115 = .bool x24.Purl := S.mem.know (i := 1) (e := fRep rB (u115) x24.Purl) rfl
    obtain ⟨q116, hq117, S⟩ := pIdx (P := Try.prog) (r := r_api_Loop) (v := .slice ad3 p1.length cp4) (xs := p1) (j := s13) 26 48 21 S Try.underlying26 rfl rfl hx32
    obtain ⟨q118, hq119, S⟩ := pFld (P := Try.prog) (r := r_api_Loop) (s2 := rB) (g := (·.Purl)) (q := q116) (z := x31) 48 3 0 3 S rfl rfl comp_api_Loop_Purl
    obtain ⟨u120, S⟩ := pLoad (r := rB) (q := q118) (x := x31.Purl) 0 S rfl
    obtain rfl : u120 = .bool x31.Purl := S.mem.know (i := 1) (e := fRep rB (u120) x31.Purl) rfl
    refine sDraw (nf := []) (W := [(0, 17, .slice ad1 p0.length cp2), (1, 18, iv s13), (2, 19, q91), (3, 20, q93), (4, 21, iv x24.Row), (5, 22, .slice ad3 p1.length cp4), (6, 23, iv s13), (7, 24, q96), (8, 25, q98), (9, 26, iv x31.Row), (10, 27, .bool (x24.Row != x31.Row)), (11, 28, .bool (x24.Row != x31.Row)), (12, 29, .slice ad1 p0.length cp2), (13, 30, iv s13), (14, 31, q101), (15, 32, q103), (16, 33, iv x24.Cell), (17, 34, .slice ad3 p1.length cp4), (18, 35, iv s13), (19, 36, q106), (20, 37, q108), (21, 38, iv x31.Cell), (22, 39, .bool (x24.Cell != x31.Cell)), (23, 40, .bool (x24.Cell != x31.Cell)), (24, 41, .bool (x24.Cell != x31.Cell)), (25, 42, .slice ad1 p0.length cp2), (26, 43, iv s13), (27, 44, q111), (28, 45, q113), (29, 46, .bool x24.Purl), (30, 47, .slice ad3 p1.length cp4), (31, 48, iv s13), (32, 49, q116), (33, 50, q118), (34, 51, .bool x31.Purl), (35, 52, .bool (x24.Purl != x31.Purl)), (36, 53, .bool (x24.Purl != x31.Purl)), (37, 54, .bool (x24.Purl != x31.Purl)), (38, 55, undef), (39, 56, undef), (40, 57, undef), (41, 58, undef), (42, 59, undef), (43, 60, undef), (44, 61, undef), (45, 62, undef), (46, 63, undef), (47, 64, undef), (48, 65, undef), (49, 66, undef), (50, 67, .bool true)]) rfl S ?_
    refine node_by (A := anc_raddleref27_Same_0) (nf := []) (Y := []) (W := [(0, 17, .slice ad1 p0.length cp2), (1, 18, iv s13), (2, 19, q91), (3, 20, q93), (4, 21, iv x24.Row), (5, 22, .slice ad3 p1.length cp4), (6, 23, iv s13), (7, 24, q96), (8, 25, q98), (9, 26, iv x31.Row), (10, 27, .bool (x24.Row != x31.Row)), (11, 28, .bool (x24.Row != x31.Row)), (12, 29, .slice ad1 p0.length cp2), (13, 30, iv s13), (14, 31, q101), (15, 32, q103), (16, 33, iv x24.Cell), (17, 34, .slice ad3 p1.length cp4), (18, 35, iv s13), (19, 36, q106), (20, 37, q108), (21, 38, iv x31.Cell), (22, 39, .bool (x24.Cell != x31.Cell)), (23, 40, .bool (x24.Cell != x31.Cell)), (24, 41, .bool (x24.Cell != x31.Cell)), (25, 42, .slice ad1 p0.length cp2), (26, 43, iv s13), (27, 44, q111), (28, 45, q113), (29, 46, .bool x24.Purl), (30, 47, .slice ad3 p1.length cp4), (31, 48, iv s13), (32, 49, q116), (33, 50, q118), (34, 51, .bool x31.Purl), (35, 52, .bool (x24.Purl != x31.Purl)), (36, 53, .bool (x24.Purl != x31.Purl)), (37, 54, .bool (x24.Purl != x31.Purl)), (38, 55, undef), (39, 56, undef), (40, 57, undef), (41, 58, undef), (42, 59, undef), (43, 60, undef), (44, 61, undef), (45, 62, undef), (46, 63, undef), (47, 64, undef), (48, 65, undef), (49, 66, undef), (50, 67, .bool true)]) 51 (by kernel_rfl) (by kernel_rfl) (by kernel_rfl) (by kernel_rfl) (by kernel_rfl) [0, 1, 2, 3, 4, 5, 6, 7, 8, 9, 10, 11, 12, 13, 14, 15, 16, 17, 18, 19, 20, 21, 22, 23, 24, 25, 26, 27, 28, 29, 30, 31, 32, 33, 34, 35, 36, 37, 38, 39, 40, 41, 42, 43, 44, 45, 46, 47, 48, 49, 50] (by kernel_rfl) (by decide) (by decide) (aF 0 50 (by decide) ?_ (aF 1 49 (by decide) ?_ (aF 2 48 (by decide) ?_ (aF 3 47 (by decide) ?_ (aF 4 46 (by decide) ?_ (aF 5 45 (by decide) ?_ (aF 6 44 (by decide) ?_ (aF 7 43 (by decide) ?_ (aF 8 42 (by decide) ?_ (aF 9 41 (by decide) ?_ (aF 10 40 (by decide) ?_ (aF 11 39 (by decide) ?_ (aF 12 38 (by decide) ?_ (aF 13 37 (by decide) ?_ (aF 14 36 (by decide) ?_ (aF 15 35 (by decide) ?_ (aF 16 34 (by decide) ?_ (aF 17 33 (by decide) ?_ (aF 18 32 (by decide) ?_ (aF 19 31 (by decide) ?_ (aF 20 30 (by decide) ?_ (aF 21 29 (by decide) ?_ (aF 22 28 (by decide) ?_ (aF 23 27 (by decide) ?_ (aF 24 26 (by decide) ?_ (aF 25 25 (by decide) ?_ (aF 26 24 (by decide) ?_ (aF 27 23 (by decide) ?_ (aF 28 22 (by decide) ?_ (aF 29 21 (by decide) ?_ (aF 30 20 (by decide) ?_ (aF 31 19 (by decide) ?_ (aF 32 18 (by decide) ?_ (aF 33 17 (by decide) ?_ (aF 34 16 (by decide) ?_ (aF 35 15 (by decide) ?_ (aF 36 14 (by decide) ?_ (aF 37 13 (by decide) ?_ (aF 38 12 (by decide) ?_ (aF 39 11 (by decide) ?_ (aF 40 10 (by decide) ?_ (aF 41 9 (by decide) ?_ (aF 42 8 (by decide) ?_ (aF 43 7 (by decide) ?_ (aF 44 6 (by decide) ?_ (aF 45 5 (by decide) ?_ (aF 46 4 (by decide) ?_ (aF 47 3 (by decide) ?_ (aF 48 2 (by decide) ?_ (aF 49 1 (by decide) ?_ (aF 50 0 (by decide) ?_ (trivial)))))))))))))))))))))))))))))))))))))))))))))))))))) [(0, .slice ad1 p0.length cp2), (1, .slice ad3 p1.length cp4), (5, iv s13), (29, .slice ad1 p0.length cp2), (30, iv s13), (31, q101), (32, q103), (33, iv x24.Cell), (34, .slice ad3 p1.length cp4), (35, iv s13), (36, q106), (37, q108), (38, iv x31.Cell), (39, .bool (x24.Cell != x31.Cell)), (42, .slice ad1 p0.length cp2), (43, iv s13), (44, q111), (45, q113), (46, .bool x24.Purl), (47, .slice ad3 p1.length cp4), (48, iv s13), (49, q116), (50, q118), (51, .bool x31.Purl), (52, .bool (x24.Purl != x31.Purl)), (55, undef), (56, undef), (57, undef), (58, undef), (59, undef), (60, undef), (61, undef), (62, undef), (63, undef), (64, undef), (65, undef), (66, undef), (67, .bool true)] (fin_of [none, none, none, some 12, some 13, some 14, some 15, some 16, some 17, some 18, some 19, some 20, some 21, some 22, some 25, some 26, some 27, some 28, some 29, some 30, some 31, some 32, some 33, some 34, some 35, some 38, some 39, some 40, some 41, some 42, some 43, some 44, some 45, some 46, some 47, some 48, some 49, some 50] rfl (by kernel_rfl) (by kernel_rfl)) (fun _ a w S => ?_)
    · refine fI 17 (.slice ad1 p0.length cp2) [(0, .slice ad1 p0.length cp2)] 0 [none] rfl rfl rfl rfl rfl rfl fun G a w S => ?_
      refine sMove (.slice ad1 p0.length cp2) S (wN rfl) (.inl rfl) rfl rfl (lb rfl) fun a S => ?_
      exact leafL ⟨rfl, S⟩
    · refine fI 18 (iv s13) [(5, iv s13)] 1 [none] rfl rfl rfl rfl rfl rfl fun G a w S => ?_
      refine sMove (iv s13) S (wN rfl) (.inl rfl) rfl rfl (lb rfl) fun a S => ?_
      exact leafL ⟨rfl, S⟩
    · refine fI 19 q91 [(17, .slice ad1 p0.length cp2), (18, iv s13)] 2 [some 0, some 1] rfl rfl rfl rfl rfl rfl fun G a w S => ?_
      refine sIdxV (v := .slice ad1 p0.length cp2) (k := .i64) (j := s13) S (wN rfl) rfl rfl rfl hq92 rfl (lb rfl) fun a S => ?_
      exact leafL ⟨rfl, S⟩
    · refine fI 20 q93 [(19, q91)] 3 [some 2] rfl rfl rfl rfl rfl rfl fun G a w S => ?_
      refine sFldV (q := q91) S (wN rfl) rfl rfl hq94 rfl (lb rfl) fun a S => ?_
      exact leafL ⟨rfl, S⟩
    · refine fI 21 (iv x24.Row) [(20, q93)] 4 [some 3] rfl rfl rfl rfl rfl rfl fun G a w S => ?_
      refine sLoadV1 (vq := q93) 20 (iv x24.Row) S (wN rfl) rfl rfl rfl rfl rfl (lb rfl) fun a S => ?_
      exact leafL ⟨rfl, S⟩
    · refine fI 22 (.slice ad3 p1.length cp4) [(1, .slice ad3 p1.length cp4)] 5 [none] rfl rfl rfl rfl rfl rfl fun G a w S => ?_
      refine sMove (.slice ad3 p1.length cp4) S (wN rfl) (.inl rfl) rfl rfl (lb rfl) fun a S => ?_
      exact leafL ⟨rfl, S⟩
    · refine fI 23 (iv s13) [(5, iv s13)] 6 [none] rfl rfl rfl rfl rfl rfl fun G a w S => ?_
      refine sMove (iv s13) S (wN rfl) (.inl rfl) rfl rfl (lb rfl) fun a S => ?_
      exact leafL ⟨rfl, S⟩
    · refine fI 24 q96 [(22, .slice ad3 p1.length cp4), (23, iv s13)] 7 [some 5, some 6] rfl rfl rfl rfl rfl rfl fun G a w S => ?_
      refine sIdxV (v := .slice ad3 p1.length cp4) (k := .i64) (j := s13) S (wN rfl) rfl rfl rfl hq97 rfl (lb rfl) fun a S => ?_
      exact leafL ⟨rfl, S⟩
    · refine fI 25 q98 [(24, q96)] 8 [some 7] rfl rfl rfl rfl rfl rfl fun G a w S => ?_
      refine sFldV (q := q96) S (wN rfl) rfl rfl hq99 rfl (lb rfl) fun a S => ?_
      exact leafL ⟨rfl, S⟩
    · refine fI 26 (iv x31.Row) [(25, q98)] 9 [some 8] rfl rfl rfl rfl rfl rfl fun G a w S => ?_
      refine sLoadV1 (vq := q98) 16 (iv x31.Row) S (wN rfl) rfl rfl rfl rfl rfl (lb rfl) fun a S => ?_
      exact leafL ⟨rfl, S⟩
    · refine fI 27 (.bool (x24.Row != x31.Row)) [(21, iv x24.Row), (26, iv x31.Row)] 10 [some 4, some 9] rfl rfl rfl rfl rfl rfl fun G a w S => ?_
      refine sBin (.bool (x24.Row != x31.Row)) S (wN rfl) rfl rfl rfl (bNe _ _ _ _ .i64 x24.Row x31.Row) rfl (lb rfl) fun a S => ?_
      exact leafL ⟨rfl, S⟩
    · refine fI 28 (.bool (x24.Row != x31.Row)) [(27, .bool (x24.Row != x31.Row))] 11 [some 10] rfl rfl rfl rfl rfl rfl fun G a w S => ?_
      refine sMove (.bool (x24.Row != x31.Row)) S (wN rfl) (.inl rfl) rfl rfl (lb rfl) fun a S => ?_
      exact leafL ⟨rfl, S⟩
    · refine fI 29 (.slice ad1 p0.length cp2) [(0, .slice ad1 p0.length cp2), (28, .bool (x24.Row != x31.Row))] 12 [none, some 11] rfl rfl rfl rfl rfl rfl fun G a w S => ?_
      refine sMove (.slice ad1 p0.length cp2) S (wG 11 false 28 rfl rfl rfl hc38) (.inl rfl) rfl rfl (lb rfl) fun a S => ?_
      exact leafL ⟨rfl, S⟩
    · refine fI 30 (iv s13) [(5, iv s13), (28, .bool (x24.Row != x31.Row))] 13 [none, some 11] rfl rfl rfl rfl rfl rfl fun G a w S => ?_
      refine sMove (iv s13) S (wG 11 false 28 rfl rfl rfl hc38) (.inl rfl) rfl rfl (lb rfl) fun a S => ?_
      exact leafL ⟨rfl, S⟩
    · refine fI 31 q101 [(29, .slice ad1 p0.length cp2), (30, iv s13), (28, .bool (x24.Row != x31.Row))] 14 [some 12, some 13, some 11] rfl rfl rfl rfl rfl rfl fun G a w S => ?_
      refine sIdxV (v := .slice ad1 p0.length cp2) (k := .i64) (j := s13) S (wG 11 false 28 rfl rfl rfl hc38) rfl rfl rfl hq102 rfl (lb rfl) fun a S => ?_
      exact leafL ⟨rfl, S⟩
    · refine fI 32 q103 [(31, q101), (28, .bool (x24.Row != x31.Row))] 15 [some 14, some 11] rfl rfl rfl rfl rfl rfl fun G a w S => ?_
      refine sFldV (q := q101) S (wG 11 false 28 rfl rfl rfl hc38) rfl rfl hq104 rfl (lb rfl) fun a S => ?_
      exact leafL ⟨rfl, S⟩
    · refine fI 33 (iv x24.Cell) [(32, q103), (28, .bool (x24.Row != x31.Row))] 16 [some 15, some 11] rfl rfl rfl rfl rfl rfl fun G a w S => ?_
      refine sLoadV1 (vq := q103) 12 (iv x24.Cell) S (wG 11 false 28 rfl rfl rfl hc38) rfl rfl rfl rfl rfl (lb rfl) fun a S => ?_
      exact leafL ⟨rfl, S⟩
    · refine fI 34 (.slice ad3 p1.length cp4) [(1, .slice ad3 p1.length cp4), (28, .bool (x24.Row != x31.Row))] 17 [none, some 11] rfl rfl rfl rfl rfl rfl fun G a w S => ?_
      refine sMove (.slice ad3 p1.length cp4) S (wG 11 false 28 rfl rfl rfl hc38) (.inl rfl) rfl rfl (lb rfl) fun a S => ?_
      exact leafL ⟨rfl, S⟩
    · refine fI 35 (iv s13) [(5, iv s13), (28, .bool (x24.Row != x31.Row))] 18 [none, some 11] rfl rfl rfl rfl rfl rfl fun G a w S => ?_
      refine sMove (iv s13) S (wG 11 false 28 rfl rfl rfl hc38) (.inl rfl) rfl rfl (lb rfl) fun a S => ?_
      exact leafL ⟨rfl, S⟩
    · refine fI 36 q106 [(34, .slice ad3 p1.length cp4), (35, iv s13), (28, .bool (x24.Row != x31.Row))] 19 [some 17, some 18, some 11] rfl rfl rfl rfl rfl rfl fun G a w S => ?_
      refine sIdxV (v := .slice ad3 p1.length cp4) (k := .i64) (j := s13) S (wG 11 false 28 rfl rfl rfl hc38) rfl rfl rfl hq107 rfl (lb rfl) fun a S => ?_
      exact leafL ⟨rfl, S⟩
    · refine fI 37 q108 [(36, q106), (28, .bool (x24.Row != x31.Row))] 20 [some 19, some 11] rfl rfl rfl rfl rfl rfl fun G a w S => ?_
      refine sFldV (q := q106) S (wG 11 false 28 rfl rfl rfl hc38) rfl rfl hq109 rfl (lb rfl) fun a S => ?_
      exact leafL ⟨rfl, S⟩
    · refine fI 38 (iv x31.Cell) [(37, q108), (28, .bool (x24.Row != x31.Row))] 21 [some 20, some 11] rfl rfl rfl rfl rfl rfl fun G a w S => ?_
      refine sLoadV1 (vq := q108) 8 (iv x31.Cell) S (wG 11 false 28 rfl rfl rfl hc38) rfl rfl rfl rfl rfl (lb rfl) fun a S => ?_
      exact leafL ⟨rfl, S⟩
    · refine fI 39 (.bool (x24.Cell != x31.Cell)) [(33, iv x24.Cell), (38, iv x31.Cell), (28, .bool (x24.Row != x31.Row))] 22 [some 16, some 21, some 11] rfl rfl rfl rfl rfl rfl fun G a w S => ?_
      refine sBin (.bool (x24.Cell != x31.Cell)) S (wG 11 false 28 rfl rfl rfl hc38) rfl rfl rfl (bNe _ _ _ _ .i64 x24.Cell x31.Cell) rfl (lb rfl) fun a S => ?_
      exact leafL ⟨rfl, S⟩
    · refine fI 40 (.bool (x24.Cell != x31.Cell)) [(28, .bool (x24.Row != x31.Row)), (39, .bool (x24.Cell != x31.Cell))] 23 [some 11, some 22] rfl rfl rfl rfl rfl rfl fun G a w S => ?_
      refine sPickF (.bool (x24.Cell != x31.Cell)) S (wN rfl) rfl rfl hc38 rfl rfl (lb rfl) fun a S => ?_
      exact leafL ⟨rfl, S⟩
    · refine fI 41 (.bool (x24.Cell != x31.Cell)) [(40, .bool (x24.Cell != x31.Cell))] 24 [some 23] rfl rfl rfl rfl rfl rfl fun G a w S => ?_
      refine sMove (.bool (x24.Cell != x31.Cell)) S (wN rfl) (.inl rfl) rfl rfl (lb rfl) fun a S => ?_
      exact leafL ⟨rfl, S⟩
    · refine fI 42 (.slice ad1 p0.length cp2) [(0, .slice ad1 p0.length cp2), (41, .bool (x24.Cell != x31.Cell))] 25 [none, some 24] rfl rfl rfl rfl rfl rfl fun G a w S => ?_
      refine sMove (.slice ad1 p0.length cp2) S (wG 24 false 41 rfl rfl rfl hc59) (.inl rfl) rfl rfl (lb rfl) fun a S => ?_
      exact leafL ⟨rfl, S⟩
    · refine fI 43 (iv s13) [(5, iv s13), (41, .bool (x24.Cell != x31.Cell))] 26 [none, some 24] rfl rfl rfl rfl rfl rfl fun G a w S => ?_
      refine sMove (iv s13) S (wG 24 false 41 rfl rfl rfl hc59) (.inl rfl) rfl rfl (lb rfl) fun a S => ?_
      exact leafL ⟨rfl, S⟩
    · refine fI 44 q111 [(42, .slice ad1 p0.length cp2), (43, iv s13), (41, .bool (x24.Cell != x31.Cell))] 27 [some 25, some 26, some 24] rfl rfl rfl rfl rfl rfl fun G a w S => ?_
      refine sIdxV (v := .slice ad1 p0.length cp2) (k := .i64) (j := s13) S (wG 24 false 41 rfl rfl rfl hc59) rfl rfl rfl hq112 rfl (lb rfl) fun a S => ?_
      exact leafL ⟨rfl, S⟩
    · refine fI 45 q113 [(44, q111), (41, .bool (x24.Cell != x31.Cell))] 28 [some 27, some 24] rfl rfl rfl rfl rfl rfl fun G a w S => ?_
      refine sFldV (q := q111) S (wG 24 false 41 rfl rfl rfl hc59) rfl rfl hq114 rfl (lb rfl) fun a S => ?_
      exact leafL ⟨rfl, S⟩
    · refine fI 46 (.bool x24.Purl) [(45, q113), (41, .bool (x24.Cell != x31.Cell))] 29 [some 28, some 24] rfl rfl rfl rfl rfl rfl fun G a w S => ?_
      refine sLoadV1 (vq := q113) 4 (.bool x24.Purl) S (wG 24 false 41 rfl rfl rfl hc59) rfl rfl rfl rfl rfl (lb rfl) fun a S => ?_
      exact leafL ⟨rfl, S⟩
    · refine fI 47 (.slice ad3 p1.length cp4) [(1, .slice ad3 p1.length cp4), (41, .bool (x24.Cell != x31.Cell))] 30 [none, some 24] rfl rfl rfl rfl rfl rfl fun G a w S => ?_
      refine sMove (.slice ad3 p1.length cp4) S (wG 24 false 41 rfl rfl rfl hc59) (.inl rfl) rfl rfl (lb rfl) fun a S => ?_
      exact leafL ⟨rfl, S⟩
    · refine fI 48 (iv s13) [(5, iv s13), (41, .bool (x24.Cell != x31.Cell))] 31 [none, some 24] rfl rfl rfl rfl rfl rfl fun G a w S => ?_
      refine sMove (iv s13) S (wG 24 false 41 rfl rfl rfl hc59) (.inl rfl) rfl rfl (lb rfl) fun a S => ?_
      exact leafL ⟨rfl, S⟩
    · refine fI 49 q116 [(47, .slice ad3 p1.length cp4), (48, iv s13), (41, .bool (x24.Cell != x31.Cell))] 32 [some 30, some 31, some 24] rfl rfl rfl rfl rfl rfl fun G a w S => ?_
      refine sIdxV (v := .slice ad3 p1.length cp4) (k := .i64) (j := s13) S (wG 24 false 41 rfl rfl rfl hc59) rfl rfl rfl hq117 rfl (lb rfl) fun a S => ?_
      exact leafL ⟨rfl, S⟩
    · refine fI 50 q118 [(49, q116), (41, .bool (x24.Cell != x31.Cell))] 33 [some 32, some 24] rfl rfl rfl rfl rfl rfl fun G a w S => ?_
      refine sFldV (q := q116) S (wG 24 false 41 rfl rfl rfl hc59) rfl rfl hq119 rfl (lb rfl) fun a S => ?_
      exact leafL ⟨rfl, S⟩
    · refine fI 51 (.bool x31.Purl) [(50, q118), (41, .bool (x24.Cell != x31.Cell))] 34 [some 33, some 24] rfl rfl rfl rfl rfl rfl fun G a w S => ?_
      refine sLoadV1 (vq := q118) 0 (.bool x31.Purl) S (wG 24 false 41 rfl rfl rfl hc59) rfl rfl rfl rfl rfl (lb rfl) fun a S => ?_
      exact leafL ⟨rfl, S⟩
    · refine fI 52 (.bool (x24.Purl != x31.Purl)) [(46, .bool x24.Purl), (51, .bool x31.Purl), (41, .bool (x24.Cell != x31.Cell))] 35 [some 29, some 34, some 24] rfl rfl rfl rfl rfl rfl fun G a w S => ?_
      refine sBin (.bool (x24.Purl != x31.Purl)) S (wG 24 false 41 rfl rfl rfl hc59) rfl rfl rfl (bNeB _ _ _ _ Try.underlying4 x24.Purl x31.Purl) rfl (lb rfl) fun a S => ?_
      exact leafL ⟨rfl, S⟩
    · refine fI 53 (.bool (x24.Purl != x31.Purl)) [(41, .bool (x24.Cell != x31.Cell)), (52, .bool (x24.Purl != x31.Purl))] 36 [some 24, some 35] rfl rfl rfl rfl rfl rfl fun G a w S => ?_
      refine sPickF (.bool (x24.Purl != x31.Purl)) S (wN rfl) rfl rfl hc59 rfl rfl (lb rfl) fun a S => ?_
      exact leafL ⟨rfl, S⟩
    · refine fI 54 (.bool (x24.Purl != x31.Purl)) [(53, .bool (x24.Purl != x31.Purl))] 37 [some 36] rfl rfl rfl rfl rfl rfl fun G a w S => ?_
      refine sMove (.bool (x24.Purl != x31.Purl)) S (wN rfl) (.inl rfl) rfl rfl (lb rfl) fun a S => ?_
      exact leafL ⟨rfl, S⟩
    · refine fI 55 undef [(0, .slice ad1 p0.length cp2), (54, .bool (x24.Purl != x31.Purl))] 38 [none, some 37] rfl rfl rfl rfl rfl rfl fun G a w S => ?_
      refine sSkip 37 false 54 55 S rfl rfl rfl hc90 rfl (lb rfl) fun a S => ?_
      exact leafL ⟨rfl, S⟩
    · refine fI 56 undef [(5, iv s13), (54, .bool (x24.Purl != x31.Purl))] 39 [none, some 37] rfl rfl rfl rfl rfl rfl fun G a w S => ?_
      refine sSkip 37 false 54 56 S rfl rfl rfl hc90 rfl (lb rfl) fun a S => ?_
      exact leafL ⟨rfl, S⟩
    · refine fI 57 undef [(55, undef), (56, undef), (54, .bool (x24.Purl != x31.Purl))] 40 [some 38, some 39, some 37] rfl rfl rfl rfl rfl rfl fun G a w S => ?_
      refine sSkip 37 false 54 57 S rfl rfl rfl hc90 rfl (lb rfl) fun a S => ?_
      exact leafL ⟨rfl, S⟩
    · refine fI 58 undef [(57, undef), (54, .bool (x24.Purl != x31.Purl))] 41 [some 40, some 37] rfl rfl rfl rfl rfl rfl fun G a w S => ?_
      refine sSkip 37 false 54 58 S rfl rfl rfl hc90 rfl (lb rfl) fun a S => ?_
      exact leafL ⟨rfl, S⟩
    · refine fI 59 undef [(58, undef), (54, .bool (x24.Purl != x31.Purl))] 42 [some 41, some 37] rfl rfl rfl rfl rfl rfl fun G a w S => ?_
      refine sSkip 37 false 54 59 S rfl rfl rfl hc90 rfl (lb rfl) fun a S => ?_
      exact leafL ⟨rfl, S⟩
    · refine fI 60 undef [(1, .slice ad3 p1.length cp4), (54, .bool (x24.Purl != x31.Purl))] 43 [none, some 37] rfl rfl rfl rfl rfl rfl fun G a w S => ?_
      refine sSkip 37 false 54 60 S rfl rfl rfl hc90 rfl (lb rfl) fun a S => ?_
      exact leafL ⟨rfl, S⟩
    · refine fI 61 undef [(5, iv s13), (54, .bool (x24.Purl != x31.Purl))] 44 [none, some 37] rfl rfl rfl rfl rfl rfl fun G a w S => ?_
      refine sSkip 37 false 54 61 S rfl rfl rfl hc90 rfl (lb rfl) fun a S => ?_
      exact leafL ⟨rfl, S⟩
    · refine fI 62 undef [(60, undef), (61, undef), (54, .bool (x24.Purl != x31.Purl))] 45 [some 43, some 44, some 37] rfl rfl rfl rfl rfl rfl fun G a w S => ?_
      refine sSkip 37 false 54 62 S rfl rfl rfl hc90 rfl (lb rfl) fun a S => ?_
      exact leafL ⟨rfl, S⟩
    · refine fI 63 undef [(62, undef), (54, .bool (x24.Purl != x31.Purl))] 46 [some 45, some 37] rfl rfl rfl rfl rfl rfl fun G a w S => ?_
      refine sSkip 37 false 54 63 S rfl rfl rfl hc90 rfl (lb rfl) fun a S => ?_
      exact leafL ⟨rfl, S⟩
    · refine fI 64 undef [(63, undef), (54, .bool (x24.Purl != x31.Purl))] 47 [some 46, some 37] rfl rfl rfl rfl rfl rfl fun G a w S => ?_
      refine sSkip 37 false 54 64 S rfl rfl rfl hc90 rfl (lb rfl) fun a S => ?_
      exact leafL ⟨rfl, S⟩
    · refine fI 65 undef [(59, undef), (64, undef), (54, .bool (x24.Purl != x31.Purl))] 48 [some 42, some 47, some 37] rfl rfl rfl rfl rfl rfl fun G a w S => ?_
      refine sSkip 37 false 54 65 S rfl rfl rfl hc90 rfl (lb rfl) fun a S => ?_
      exact leafL ⟨rfl, S⟩
    · refine fI 66 undef [(65, undef), (54, .bool (x24.Purl != x31.Purl))] 49 [some 48, some 37] rfl rfl rfl rfl rfl rfl fun G a w S => ?_
      refine sSkip 37 false 54 66 S rfl rfl rfl hc90 rfl (lb rfl) fun a S => ?_
      exact leafL ⟨rfl, S⟩
    · refine fI 67 (.bool true) [(54, .bool (x24.Purl != x31.Purl)), (66, undef)] 50 [some 37, some 49] rfl rfl rfl rfl rfl rfl fun G a w S => ?_
      refine sPickT (.bool true) S (wN rfl) rfl rfl hc90 rfl rfl (lb rfl) fun a S => ?_
      exact leafL ⟨rfl, S⟩
    exact leafT (⟨true, Option.some.inj h, S.fix [] [24, 25] (by decide) rfl rfl rfl⟩)
  obtain ⟨r135, hx136, h⟩ := bindSome h
  obtain ⟨q137, hq138, S⟩ := pIdx (P := Try.prog) (r := r_api_Loop) (v := .slice ad1 p0.length cp2) (xs := p0) (j := s13) 26 48 0 S Try.underlying26 rfl rfl hx25
  obtain ⟨q139, hq140, S⟩ := pFld (P := Try.prog) (r := r_api_Loop) (s2 := (rI .i64)) (g := (·.Row)) (q := q137) (z := x24) 48 0 0 0 S rfl rfl comp_api_Loop_Row
  obtain ⟨u141, S⟩ := pLoad (r := (rI .i64)) (q := q139) (x := x24.Row) 0 S rfl
  obtain rfl : u141 = iv x24.Row := S.mem.know (i := 1) (e := fRep (rI .i64) (u141) x24.Row) rfl
  obtain ⟨q142, hq143, S⟩ := pIdx (P := Try.prog) (r := r_api_Loop) (v := .slice ad3 p1.length cp4) (xs := p1) (j := s13) 26 48 5 S Try.underlying26 rfl rfl hx32
  obtain ⟨q144, hq145, S⟩ := pFld (P := Try.prog) (r := r_api_Loop) (s2 := (rI .i64)) (g := (·.Row)) (q := q142) (z := x31) 48 0 0 0 S rfl rfl comp_api_Loop_Row
  obtain ⟨u146, S⟩ := pLoad (r := (rI .i64)) (q := q144) (x := x31.Row) 0 S rfl
  obtain rfl : u146 = iv x31.Row := S.mem.know (i := 1) (e := fRep (rI .i64) (u146) x31.Row) rfl
  obtain ⟨q147, hq148, S⟩ := pIdx (P := Try.prog) (r := r_api_Loop) (v := .slice ad1 p0.length cp2) (xs := p0) (j := s13) 26 48 8 S Try.underlying26 rfl rfl hx25
  obtain ⟨q149, hq150, S⟩ := pFld (P := Try.prog) (r := r_api_Loop) (s2 := (rI .i64)) (g := (·.Cell)) (q := q147) (z := x24) 48 1 0 1 S rfl rfl comp_api_Loop_Cell
  obtain ⟨u151, S⟩ := pLoad (r := (rI .i64)) (q := q149) (x := x24.Cell) 0 S rfl
  obtain rfl : u151 = iv x24.Cell := S.mem.know (i := 1) (e := fRep (rI .i64) (u151) x24.Cell) rfl
  obtain ⟨q152, hq153, S⟩ := pIdx (P := Try.prog) (r := r_api_Loop) (v := .slice ad3 p1.length cp4) (xs := p1) (j := s13) 26 48 13 S Try.underlying26 rfl rfl hx32
  obtain ⟨q154, hq155, S⟩ := pFld (P := Try.prog) (r := r_api_Loop) (s2 := (rI .i64)) (g := (·.Cell)) (q := q152) (z := x31) 48 1 0 1 S rfl rfl comp_api_Loop_Cell
  obtain ⟨u156, S⟩ := pLoad (r := (rI .i64)) (q := q154) (x := x31.Cell) 0 S rfl
  obtain rfl : u156 = iv x31.Cell := S.mem.know (i := 1) (e := fRep (rI .i64) (u156) x31.Cell) rfl
  obtain ⟨q157, hq158, S⟩ := pIdx (P := Try.prog) (r := r_api_Loop) (v := .slice ad1 p0.length cp2) (xs := p0) (j := s13) 26 48 16 S Try.underlying26 rfl rfl hx25
  obtain ⟨q159, hq160, S⟩ := pFld (P := Try.prog) (r := r_api_Loop) (s2 := rB) (g := (·.Purl)) (q := q157) (z := x24) 48 3 0 3 S rfl rfl comp_api_Loop_Purl
  obtain ⟨u161, S⟩ := pLoad (r := rB) (q := q159) (x := x24.Purl) 0 S rfl
  obtain rfl : u161 = .bool x24.Purl := S.mem.know (i := 1) (e := fRep rB (u161) x24.Purl) rfl
  obtain ⟨q162, hq163, S⟩ := pIdx (P := Try.prog) (r := r_api_Loop) (v := .slice ad3 p1.length cp4) (xs := p1) (j := s13) 26 48 21 S Try.underlying26 rfl rfl hx32
  obtain ⟨q164, hq165, S⟩ := pFld (P := Try.prog) (r := r_api_Loop) (s2 := rB) (g := (·.Purl)) (q := q162) (z := x31) 48 3 0 3 S rfl rfl comp_api_Loop_Purl
  obtain ⟨u166, S⟩ := pLoad (r := rB) (q := q164) (x := x31.Purl) 0 S rfl
  obtain rfl : u166 = .bool x31.Purl := S.mem.know (i := 1) (e := fRep rB (u166) x31.Purl) rfl
  obtain ⟨q167, hq168, S⟩ := pIdx (P := Try.prog) (r := r_api_Loop) (v := .slice ad1 p0.length cp2) (xs := p0) (j := s13) 26 48 24 S Try.underlying26 rfl rfl hx25
  obtain ⟨q169, hq170, S⟩ := pFld (P := Try.prog) (r := r_api_Loop) (s2 := (rL (rI .i64))) (g := (·.Parents)) (q := q167) (z := x24) 48 2 0 2 S rfl rfl comp_api_Loop_Parents
  obtain ⟨u171, S⟩ := pLoad (r := (rL (rI .i64))) (q := q169) (x := x24.Parents) 0 S rfl
  obtain ⟨ad172, cp173, _, rfl, _⟩ := S.mem.know (i := 1) (e := fRep (rL (rI .i64)) (u171) x24.Parents) rfl
  obtain ⟨q174, hq175, S⟩ := pIdx (P := Try.prog) (r := r_api_Loop) (v := .slice ad3 p1.length cp4) (xs := p1) (j := s13) 26 48 29 S Try.underlying26 rfl rfl hx32
  obtain ⟨q176, hq177, S⟩ := pFld (P := Try.prog) (r := r_api_Loop) (s2 := (rL (rI .i64))) (g := (·.Parents)) (q := q174) (z := x31) 48 2 0 2 S rfl rfl comp_api_Loop_Parents
  obtain ⟨u178, S⟩ := pLoad (r := (rL (rI .i64))) (q := q176) (x := x31.Parents) 0 S rfl
  obtain ⟨ad179, cp180, _, rfl, _⟩ := S.mem.know (i := 1) (e := fRep (rL (rI .i64)) (u178) x31.Parents) rfl
  refine sDraw (nf := []) (W := [(0, 17, .slice ad1 p0.length cp2), (1, 18, iv s13), (2, 19, q137), (3, 20, q139), (4, 21, iv x24.Row), (5, 22, .slice ad3 p1.length cp4), (6, 23, iv s13), (7, 24, q142), (8, 25, q144), (9, 26, iv x31.Row), (10, 27, .bool (x24.Row != x31.Row)), (11, 28, .bool (x24.Row != x31.Row)), (12, 29, .slice ad1 p0.length cp2), (13, 30, iv s13), (14, 31, q147), (15, 32, q149), (16, 33, iv x24.Cell), (17, 34, .slice ad3 p1.length cp4), (18, 35, iv s13), (19, 36, q152), (20, 37, q154), (21, 38, iv x31.Cell), (22, 39, .bool (x24.Cell != x31.Cell)), (23, 40, .bool (x24.Cell != x31.Cell)), (24, 41, .bool (x24.Cell != x31.Cell)), (25, 42, .slice ad1 p0.length cp2), (26, 43, iv s13), (27, 44, q157), (28, 45, q159), (29, 46, .bool x24.Purl), (30, 47, .slice ad3 p1.length cp4), (31, 48, iv s13), (32, 49, q162), (33, 50, q164), (34, 51, .bool x31.Purl), (35, 52, .bool (x24.Purl != x31.Purl)), (36, 53, .bool (x24.Purl != x31.Purl)), (37, 54, .bool (x24.Purl != x31.Purl)), (38, 55, .slice ad1 p0.length cp2), (39, 56, iv s13), (40, 57, q167), (41, 58, q169), (42, 59, .slice ad172 x24.Parents.length cp173), (43, 60, .slice ad3 p1.length cp4), (44, 61, iv s13), (45, 62, q174), (46, 63, q176), (47, 64, .slice ad179 x31.Parents.length cp180), (48, 65, .bool r135), (49, 66, .bool (!r135)), (50, 67, .bool (!r135))]) rfl S ?_
  refine node_by (A := anc_raddleref27_Same_0) (nf := []) (Y := []) (W := [(0, 17, .slice ad1 p0.length cp2), (1, 18, iv s13), (2, 19, q137), (3, 20, q139), (4, 21, iv x24.Row), (5, 22, .slice ad3 p1.length cp4), (6, 23, iv s13), (7, 24, q142), (8, 25, q144), (9, 26, iv x31.Row), (10, 27, .bool (x24.Row != x31.Row)), (11, 28, .bool (x24.Row != x31.Row)), (12, 29, .slice ad1 p0.length cp2), (13, 30, iv s13), (14, 31, q147), (15, 32, q149), (16, 33, iv x24.Cell), (17, 34, .slice ad3 p1.length cp4), (18, 35, iv s13), (19, 36, q152), (20, 37, q154), (21, 38, iv x31.Cell), (22, 39, .bool (x24.Cell != x31.Cell)), (23, 40, .bool (x24.Cell != x31.Cell)), (24, 41, .bool (x24.Cell != x31.Cell)), (25, 42, .slice ad1 p0.length cp2), (26, 43, iv s13), (27, 44, q157), (28, 45, q159), (29, 46, .bool x24.Purl), (30, 47, .slice ad3 p1.length cp4), (31, 48, iv s13), (32, 49, q162), (33, 50, q164), (34, 51, .bool x31.Purl), (35, 52, .bool (x24.Purl != x31.Purl)), (36, 53, .bool (x24.Purl != x31.Purl)), (37, 54, .bool (x24.Purl != x31.Purl)), (38, 55, .slice ad1 p0.length cp2), (39, 56, iv s13), (40, 57, q167), (41, 58, q169), (42, 59, .slice ad172 x24.Parents.length cp173), (43, 60, .slice ad3 p1.length cp4), (44, 61, iv s13), (45, 62, q174), (46, 63, q176), (47, 64, .slice ad179 x31.Parents.length cp180), (48, 65, .bool r135), (49, 66, .bool (!r135)), (50, 67, .bool (!r135))]) 51 (by kernel_rfl) (by kernel_rfl) (by kernel_rfl) (by kernel_rfl) (by kernel_rfl) [0, 1, 2, 3, 4, 5, 6, 7, 8, 9, 10, 11, 12, 13, 14, 15, 16, 17, 18, 19, 20, 21, 22, 23, 24, 25, 26, 27, 28, 29, 30, 31, 32, 33, 34, 35, 36, 37, 38, 39, 40, 41, 42, 43, 44, 45, 46, 47, 48, 49, 50] (by kernel_rfl) (by decide) (by decide) (aF 0 50 (by decide) ?_ (aF 1 49 (by decide) ?_ (aF 2 48 (by decide) ?_ (aF 3 47 (by decide) ?_ (aF 4 46 (by decide) ?_ (aF 5 45 (by decide) ?_ (aF 6 44 (by decide) ?_ (aF 7 43 (by decide) ?_ (aF 8 42 (by decide) ?_ (aF 9 41 (by decide) ?_ (aF 10 40 (by decide) ?_ (aF 11 39 (by decide) ?_ (aF 12 38 (by decide) ?_ (aF 13 37 (by decide) ?_ (aF 14 36 (by decide) ?_ (aF 15 35 (by decide) ?_ (aF 16 34 (by decide) ?_ (aF 17 33 (by decide) ?_ (aF 18 32 (by decide) ?_ (aF 19 31 (by decide) ?_ (aF 20 30 (by decide) ?_ (aF 21 29 (by decide) ?_ (aF 22 28 (by decide) ?_ (aF 23 27 (by decide) ?_ (aF 24 26 (by decide) ?_ (aF 25 25 (by decide) ?_ (aF 26 24 (by decide) ?_ (aF 27 23 (by decide) ?_ (aF 28 22 (by decide) ?_ (aF 29 21 (by decide) ?_ (aF 30 20 (by decide) ?_ (aF 31 19 (by decide) ?_ (aF 32 18 (by decide) ?_ (aF 33 17 (by decide) ?_ (aF 34 16 (by decide) ?_ (aF 35 15 (by decide) ?_ (aF 36 14 (by decide) ?_ (aF 37 13 (by decide) ?_ (aF 38 12 (by decide) ?_ (aF 39 11 (by decide) ?_ (aF 40 10 (by decide) ?_ (aF 41 9 (by decide) ?_ (aF 42 8 (by decide) ?_ (aF 43 7 (by decide) ?_ (aF 44 6 (by decide) ?_ (aF 45 5 (by decide) ?_ (aF 46 4 (by decide) ?_ (aF 47 3 (by decide) ?_ (aF 48 2 (by decide) ?_ (aF 49 1 (by decide) ?_ (aF 50 0 (by decide) ?_ (trivial)))))))))))))))))))))))))))))))))))))))))))))))))))) [(0, .slice ad1 p0.length cp2), (1, .slice ad3 p1.length cp4), (5, iv s13), (29, .slice ad1 p0.length cp2), (30, iv s13), (31, q147), (32, q149), (33, iv x24.Cell), (34, .slice ad3 p1.length cp4), (35, iv s13), (36, q152), (37, q154), (38, iv x31.Cell), (39, .bool (x24.Cell != x31.Cell)), (42, .slice ad1 p0.length cp2), (43, iv s13), (44, q157), (45, q159), (46, .bool x24.Purl), (47, .slice ad3 p1.length cp4), (48, iv s13), (49, q162), (50, q164), (51, .bool x31.Purl), (52, .bool (x24.Purl != x31.Purl)), (55, .slice ad1 p0.length cp2), (56, iv s13), (57, q167), (58, q169), (59, .slice ad172 x24.Parents.length cp173), (60, .slice ad3 p1.length cp4), (61, iv s13), (62, q174), (63, q176), (64, .slice ad179 x31.Parents.length cp180), (65, .bool r135), (66, .bool (!r135)), (67, .bool (!r135))] (fin_of [none, none, none, some 12, some 13, some 14, some 15, some 16, some 17, some 18, some 19, some 20, some 21, some 22, some 25, some 26, some 27, some 28, some 29, some 30, some 31, some 32, some 33, some 34, some 35, some 38, some 39, some 40, some 41, some 42, some 43, some 44, some 45, some 46, some 47, some 48, some 49, some 50] rfl (by kernel_rfl) (by kernel_rfl)) (fun _ a w S => ?_)
  · refine fI 17 (.slice ad1 p0.length cp2) [(0, .slice ad1 p0.length cp2)] 0 [none] rfl rfl rfl rfl rfl rfl fun G a w S => ?_
    refine sMove (.slice ad1 p0.length cp2) S (wN rfl) (.inl rfl) rfl rfl (lb rfl) fun a S => ?_
    exact leafL ⟨rfl, S⟩
  · refine fI 18 (iv s13) [(5, iv s13)] 1 [none] rfl rfl rfl rfl rfl rfl fun G a w S => ?_
    refine sMove (iv s13) S (wN rfl) (.inl rfl) rfl rfl (lb rfl) fun a S => ?_
    exact leafL ⟨rfl, S⟩
  · refine fI 19 q137 [(17, .slice ad1 p0.length cp2), (18, iv s13)] 2 [some 0, some 1] rfl rfl rfl rfl rfl rfl fun G a w S => ?_
    refine sIdxV (v := .slice ad1 p0.length cp2) (k := .i64) (j := s13) S (wN rfl) rfl rfl rfl hq138 rfl (lb rfl) fun a S => ?_
    exact leafL ⟨rfl, S⟩
  · refine fI 20 q139 [(19, q137)] 3 [some 2] rfl rfl rfl rfl rfl rfl fun G a w S => ?_
    refine sFldV (q := q137) S (wN rfl) rfl rfl hq140 rfl (lb rfl) fun a S => ?_
    exact leafL ⟨rfl, S⟩
  · refine fI 21 (iv x24.Row) [(20, q139)] 4 [some 3] rfl rfl rfl rfl rfl rfl fun G a w S => ?_
    refine sLoadV1 (vq := q139) 28 (iv x24.Row) S (wN rfl) rfl rfl rfl rfl rfl (lb rfl) fun a S => ?_
    exact leafL ⟨rfl, S⟩
  · refine fI 22 (.slice ad3 p1.length cp4) [(1, .slice ad3 p1.length cp4)] 5 [none] rfl rfl rfl rfl rfl rfl fun G a w S => ?_
    refine sMove (.slice ad3 p1.length cp4) S (wN rfl) (.inl rfl) rfl rfl (lb rfl) fun a S => ?_
    exact leafL ⟨rfl, S⟩
  · refine fI 23 (iv s13) [(5, iv s13)] 6 [none] rfl rfl rfl rfl rfl rfl fun G a w S => ?_
    refine sMove (iv s13) S (wN rfl) (.inl rfl) rfl rfl (lb rfl) fun a S => ?_
    exact leafL ⟨rfl, S⟩
  · refine fI 24 q142 [(22, .slice ad3 p1.length cp4), (23, iv s13)] 7 [some 5, some 6] rfl rfl rfl rfl rfl rfl fun G a w S => ?_
    refine sIdxV (v := .slice ad3 p1.length cp4) (k := .i64) (j := s13) S (wN rfl) rfl rfl rfl hq143 rfl (lb rfl) fun a S => ?_
    exact leafL ⟨rfl, S⟩
  · refine fI 25 q144 [(24, q142)] 8 [some 7] rfl rfl rfl rfl rfl rfl fun G a w S => ?_
    refine sFldV (q := q142) S (wN rfl) rfl rfl hq145 rfl (lb rfl) fun a S => ?_
    exact leafL ⟨rfl, S⟩
  · refine fI 26 (iv x31.Row) [(25, q144)] 9 [some 8] rfl rfl rfl rfl rfl rfl fun G a w S => ?_
    refine sLoadV1 (vq := q144) 24 (iv x31.Row) S (wN rfl) rfl rfl rfl rfl rfl (lb rfl) fun a S => ?_
    exact leafL ⟨rfl, S⟩
  · refine fI 27 (.bool (x24.Row != x31.Row)) [(21, iv x24.Row), (26, iv x31.Row)] 10 [some 4, some 9] rfl rfl rfl rfl rfl rfl fun G a w S => ?_
    refine sBin (.bool (x24.Row != x31.Row)) S (wN rfl) rfl rfl rfl (bNe _ _ _ _ .i64 x24.Row x31.Row) rfl (lb rfl) fun a S => ?_
    exact leafL ⟨rfl, S⟩
  · refine fI 28 (.bool (x24.Row != x31.Row)) [(27, .bool (x24.Row != x31.Row))] 11 [some 10] rfl rfl rfl rfl rfl rfl fun G a w S => ?_
    refine sMove (.bool (x24.Row != x31.Row)) S (wN rfl) (.inl rfl) rfl rfl (lb rfl) fun a S => ?_
    exact leafL ⟨rfl, S⟩
  · refine fI 29 (.slice ad1 p0.length cp2) [(0, .slice ad1 p0.length cp2), (28, .bool (x24.Row != x31.Row))] 12 [none, some 11] rfl rfl rfl rfl rfl rfl fun G a w S => ?_
    refine sMove (.slice ad1 p0.length cp2) S (wG 11 false 28 rfl rfl rfl hc38) (.inl rfl) rfl rfl (lb rfl) fun a S => ?_
    exact leafL ⟨rfl, S⟩
  · refine fI 30 (iv s13) [(5, iv s13), (28, .bool (x24.Row != x31.Row))] 13 [none, some 11] rfl rfl rfl rfl rfl rfl fun G a w S => ?_
    refine sMove (iv s13) S (wG 11 false 28 rfl rfl rfl hc38) (.inl rfl) rfl rfl (lb rfl) fun a S => ?_
    exact leafL ⟨rfl, S⟩
  · refine fI 31 q147 [(29, .slice ad1 p0.length cp2), (30, iv s13), (28, .bool (x24.Row != x31.Row))] 14 [some 12, some 13, some 11] rfl rfl rfl rfl rfl rfl fun G a w S => ?_
    refine sIdxV (v := .slice ad1 p0.length cp2) (k := .i64) (j := s13) S (wG 11 false 28 rfl rfl rfl hc38) rfl rfl rfl hq148 rfl (lb rfl) fun a S => ?_
    exact leafL ⟨rfl, S⟩
  · refine fI 32 q149 [(31, q147), (28, .bool (x24.Row != x31.Row))] 15 [some 14, some 11] rfl rfl rfl rfl rfl rfl fun G a w S => ?_
    refine sFldV (q := q147) S (wG 11 false 28 rfl rfl rfl hc38) rfl rfl hq150 rfl (lb rfl) fun a S => ?_
    exact leafL ⟨rfl, S⟩
  · refine fI 33 (iv x24.Cell) [(32, q149), (28, .bool (x24.Row != x31.Row))] 16 [some 15, some 11] rfl rfl rfl rfl rfl rfl fun G a w S => ?_
    refine sLoadV1 (vq := q149) 20 (iv x24.Cell) S (wG 11 false 28 rfl rfl rfl hc38) rfl rfl rfl rfl rfl (lb rfl) fun a S => ?_
    exact leafL ⟨rfl, S⟩
  · refine fI 34 (.slice ad3 p1.length cp4) [(1, .slice ad3 p1.length cp4), (28, .bool (x24.Row != x31.Row))] 17 [none, some 11] rfl rfl rfl rfl rfl rfl fun G a w S => ?_
    refine sMove (.slice ad3 p1.length cp4) S (wG 11 false 28 rfl rfl rfl hc38) (.inl rfl) rfl rfl (lb rfl) fun a S => ?_
    exact leafL ⟨rfl, S⟩
  · refine fI 35 (iv s13) [(5, iv s13), (28, .bool (x24.Row != x31.Row))] 18 [none, some 11] rfl rfl rfl rfl rfl rfl fun G a w S => ?_
    refine sMove (iv s13) S (wG 11 false 28 rfl rfl rfl hc38) (.inl rfl) rfl rfl (lb rfl) fun a S => ?_
    exact leafL ⟨rfl, S⟩
  · refine fI 36 q152 [(34, .slice ad3 p1.length cp4), (35, iv s13), (28, .bool (x24.Row != x31.Row))] 19 [some 17, some 18, some 11] rfl rfl rfl rfl rfl rfl fun G a w S => ?_
    refine sIdxV (v := .slice ad3 p1.length cp4) (k := .i64) (j := s13) S (wG 11 false 28 rfl rfl rfl hc38) rfl rfl rfl hq153 rfl (lb rfl) fun a S => ?_
    exact leafL ⟨rfl, S⟩
  · refine fI 37 q154 [(36, q152), (28, .bool (x24.Row != x31.Row))] 20 [some 19, some 11] rfl rfl rfl rfl rfl rfl fun G a w S => ?_
    refine sFldV (q := q152) S (wG 11 false 28 rfl rfl rfl hc38) rfl rfl hq155 rfl (lb rfl) fun a S => ?_
    exact leafL ⟨rfl, S⟩
  · refine fI 38 (iv x31.Cell) [(37, q154), (28, .bool (x24.Row != x31.Row))] 21 [some 20, some 11] rfl rfl rfl rfl rfl rfl fun G a w S => ?_
    refine sLoadV1 (vq := q154) 16 (iv x31.Cell) S (wG 11 false 28 rfl rfl rfl hc38) rfl rfl rfl rfl rfl (lb rfl) fun a S => ?_
    exact leafL ⟨rfl, S⟩
  · refine fI 39 (.bool (x24.Cell != x31.Cell)) [(33, iv x24.Cell), (38, iv x31.Cell), (28, .bool (x24.Row != x31.Row))] 22 [some 16, some 21, some 11] rfl rfl rfl rfl rfl rfl fun G a w S => ?_
    refine sBin (.bool (x24.Cell != x31.Cell)) S (wG 11 false 28 rfl rfl rfl hc38) rfl rfl rfl (bNe _ _ _ _ .i64 x24.Cell x31.Cell) rfl (lb rfl) fun a S => ?_
    exact leafL ⟨rfl, S⟩
  · refine fI 40 (.bool (x24.Cell != x31.Cell)) [(28, .bool (x24.Row != x31.Row)), (39, .bool (x24.Cell != x31.Cell))] 23 [some 11, some 22] rfl rfl rfl rfl rfl rfl fun G a w S => ?_
    refine sPickF (.bool (x24.Cell != x31.Cell)) S (wN rfl) rfl rfl hc38 rfl rfl (lb rfl) fun a S => ?_
    exact leafL ⟨rfl, S⟩
  · refine fI 41 (.bool (x24.Cell != x31.Cell)) [(40, .bool (x24.Cell != x31.Cell))] 24 [some 23] rfl rfl rfl rfl rfl rfl fun G a w S => ?_
    refine sMove (.bool (x24.Cell != x31.Cell)) S (wN rfl) (.inl rfl) rfl rfl (lb rfl) fun a S => ?_
    exact leafL ⟨rfl, S⟩
  · refine fI 42 (.slice ad1 p0.length cp2) [(0, .slice ad1 p0.length cp2), (41, .bool (x24.Cell != x31.Cell))] 25 [none, some 24] rfl rfl rfl rfl rfl rfl fun G a w S => ?_
    refine sMove (.slice ad1 p0.length cp2) S (wG 24 false 41 rfl rfl rfl hc59) (.inl rfl) rfl rfl (lb rfl) fun a S => ?_
    exact leafL ⟨rfl, S⟩
  · refine fI 43 (iv s13) [(5, iv s13), (41, .bool (x24.Cell != x31.Cell))] 26 [none, some 24] rfl rfl rfl rfl rfl rfl fun G a w S => ?_
    refine sMove (iv s13) S (wG 24 false 41 rfl rfl rfl hc59) (.inl rfl) rfl rfl (lb rfl) fun a S => ?_
    exact leafL ⟨rfl, S⟩
  · refine fI 44 q157 [(42, .slice ad1 p0.length cp2), (43, iv s13), (41, .bool (x24.Cell != x31.Cell))] 27 [some 25, some 26, some 24] rfl rfl rfl rfl rfl rfl fun G a w S => ?_
    refine sIdxV (v := .slice ad1 p0.length cp2) (k := .i64) (j := s13) S (wG 24 false 41 rfl rfl rfl hc59) rfl rfl rfl hq158 rfl (lb rfl) fun a S => ?_
    exact leafL ⟨rfl, S⟩
  · refine fI 45 q159 [(44, q157), (41, .bool (x24.Cell != x31.Cell))] 28 [some 27, some 24] rfl rfl rfl rfl rfl rfl fun G a w S => ?_
    refine sFldV (q := q157) S (wG 24 false 41 rfl rfl rfl hc59) rfl rfl hq160 rfl (lb rfl) fun a S => ?_
    exact leafL ⟨rfl, S⟩
  · refine fI 46 (.bool x24.Purl) [(45, q159), (41, .bool (x24.Cell != x31.Cell))] 29 [some 28, some 24] rfl rfl rfl rfl rfl rfl fun G a w S => ?_
    refine sLoadV1 (vq := q159) 12 (.bool x24.Purl) S (wG 24 false 41 rfl rfl rfl hc59) rfl rfl rfl rfl rfl (lb rfl) fun a S => ?_
    exact leafL ⟨rfl, S⟩
  · refine fI 47 (.slice ad3 p1.length cp4) [(1, .slice ad3 p1.length cp4), (41, .bool (x24.Cell != x31.Cell))] 30 [none, some 24] rfl rfl rfl rfl rfl rfl fun G a w S => ?_
    refine sMove (.slice ad3 p1.length cp4) S (wG 24 false 41 rfl rfl rfl hc59) (.inl rfl) rfl rfl (lb rfl) fun a S => ?_
    exact leafL ⟨rfl, S⟩
  · refine fI 48 (iv s13) [(5, iv s13), (41, .bool (x24.Cell != x31.Cell))] 31 [none, some 24] rfl rfl rfl rfl rfl rfl fun G a w S => ?_
    refine sMove (iv s13) S (wG 24 false 41 rfl rfl rfl hc59) (.inl rfl) rfl rfl (lb rfl) fun a S => ?_
    exact leafL ⟨rfl, S⟩
  · refine fI 49 q162 [(47, .slice ad3 p1.length cp4), (48, iv s13), (41, .bool (x24.Cell != x31.Cell))] 32 [some 30, some 31, some 24] rfl rfl rfl rfl rfl rfl fun G a w S => ?_
    refine sIdxV (v := .slice ad3 p1.length cp4) (k := .i64) (j := s13) S (wG 24 false 41 rfl rfl rfl hc59) rfl rfl rfl hq163 rfl (lb rfl) fun a S => ?_
    exact leafL ⟨rfl, S⟩
  · refine fI 50 q164 [(49, q162), (41, .bool (x24.Cell != x31.Cell))] 33 [some 32, some 24] rfl rfl rfl rfl rfl rfl fun G a w S => ?_
    refine sFldV (q := q162) S (wG 24 false 41 rfl rfl rfl hc59) rfl rfl hq165 rfl (lb rfl) fun a S => ?_
    exact leafL ⟨rfl, S⟩
  · refine fI 51 (.bool x31.Purl) [(50, q164), (41, .bool (x24.Cell != x31.Cell))] 34 [some 33, some 24] rfl rfl rfl rfl rfl rfl fun G a w S => ?_
    refine sLoadV1 (vq := q164) 8 (.bool x31.Purl) S (wG 24 false 41 rfl rfl rfl hc59) rfl rfl rfl rfl rfl (lb rfl) fun a S => ?_
    exact leafL ⟨rfl, S⟩
  · refine fI 52 (.bool (x24.Purl != x31.Purl)) [(46, .bool x24.Purl), (51, .bool x31.Purl), (41, .bool (x24.Cell != x31.Cell))] 35 [some 29, some 34, some 24] rfl rfl rfl rfl rfl rfl fun G a w S => ?_
    refine sBin (.bool (x24.Purl != x31.Purl)) S (wG 24 false 41 rfl rfl rfl hc59) rfl rfl rfl (bNeB _ _ _ _ Try.underlying4 x24.Purl x31.Purl) rfl (lb rfl) fun a S => ?_
    exact leafL ⟨rfl, S⟩
  · refine fI 53 (.bool (x24.Purl != x31.Purl)) [(41, .bool (x24.Cell != x31.Cell)), (52, .bool (x24.Purl != x31.Purl))] 36 [some 24, some 35] rfl rfl rfl rfl rfl rfl fun G a w S => ?_
    refine sPickF (.bool (x24.Purl != x31.Purl)) S (wN rfl) rfl rfl hc59 rfl rfl (lb rfl) fun a S => ?_
    exact leafL ⟨rfl, S⟩
  · refine fI 54 (.bool (x24.Purl != x31.Purl)) [(53, .bool (x24.Purl != x31.Purl))] 37 [some 36] rfl rfl rfl rfl rfl rfl fun G a w S => ?_
    refine sMove (.bool (x24.Purl != x31.Purl)) S (wN rfl) (.inl rfl) rfl rfl (lb rfl) fun a S => ?_
    exact leafL ⟨rfl, S⟩
  · refine fI 55 (.slice ad1 p0.length cp2) [(0, .slice ad1 p0.length cp2), (54, .bool (x24.Purl != x31.Purl))] 38 [none, some 37] rfl rfl rfl rfl rfl rfl fun G a w S => ?_
    refine sMove (.slice ad1 p0.length cp2) S (wG 37 false 54 rfl rfl rfl hc90) (.inl rfl) rfl rfl (lb rfl) fun a S => ?_
    exact leafL ⟨rfl, S⟩
  · refine fI 56 (iv s13) [(5, iv s13), (54, .bool (x24.Purl != x31.Purl))] 39 [none, some 37] rfl rfl rfl rfl rfl rfl fun G a w S => ?_
    refine sMove (iv s13) S (wG 37 false 54 rfl rfl rfl hc90) (.inl rfl) rfl rfl (lb rfl) fun a S => ?_
    exact leafL ⟨rfl, S⟩
  · refine fI 57 q167 [(55, .slice ad1 p0.length cp2), (56, iv s13), (54, .bool (x24.Purl != x31.Purl))] 40 [some 38, some 39, some 37] rfl rfl rfl rfl rfl rfl fun G a w S => ?_
    refine sIdxV (v := .slice ad1 p0.length cp2) (k := .i64) (j := s13) S (wG 37 false 54 rfl rfl rfl hc90) rfl rfl rfl hq168 rfl (lb rfl) fun a S => ?_
    exact leafL ⟨rfl, S⟩
  · refine fI 58 q169 [(57, q167), (54, .bool (x24.Purl != x31.Purl))] 41 [some 40, some 37] rfl rfl rfl rfl rfl rfl fun G a w S => ?_
    refine sFldV (q := q167) S (wG 37 false 54 rfl rfl rfl hc90) rfl rfl hq170 rfl (lb rfl) fun a S => ?_
    exact leafL ⟨rfl, S⟩
  · refine fI 59 (.slice ad172 x24.Parents.length cp173) [(58, q169), (54, .bool (x24.Purl != x31.Purl))] 42 [some 41, some 37] rfl rfl rfl rfl rfl rfl fun G a w S => ?_
    refine sLoadV1 (vq := q169) 4 (.slice ad172 x24.Parents.length cp173) S (wG 37 false 54 rfl rfl rfl hc90) rfl rfl rfl rfl rfl (lb rfl) fun a S => ?_
    exact leafL ⟨rfl, S⟩
  · refine fI 60 (.slice ad3 p1.length cp4) [(1, .slice ad3 p1.length cp4), (54, .bool (x24.Purl != x31.Purl))] 43 [none, some 37] rfl rfl rfl rfl rfl rfl fun G a w S => ?_
    refine sMove (.slice ad3 p1.length cp4) S (wG 37 false 54 rfl rfl rfl hc90) (.inl rfl) rfl rfl (lb rfl) fun a S => ?_
    exact leafL ⟨rfl, S⟩
  · refine fI 61 (iv s13) [(5, iv s13), (54, .bool (x24.Purl != x31.Purl))] 44 [none, some 37] rfl rfl rfl rfl rfl rfl fun G a w S => ?_
    refine sMove (iv s13) S (wG 37 false 54 rfl rfl rfl hc90) (.inl rfl) rfl rfl (lb rfl) fun a S => ?_
    exact leafL ⟨rfl, S⟩
  · refine fI 62 q174 [(60, .slice ad3 p1.length cp4), (61, iv s13), (54, .bool (x24.Purl != x31.Purl))] 45 [some 43, some 44, some 37] rfl rfl rfl rfl rfl rfl fun G a w S => ?_
    refine sIdxV (v := .slice ad3 p1.length cp4) (k := .i64) (j := s13) S (wG 37 false 54 rfl rfl rfl hc90) rfl rfl rfl hq175 rfl (lb rfl) fun a S => ?_
    exact leafL ⟨rfl, S⟩
  · refine fI 63 q176 [(62, q174), (54, .bool (x24.Purl != x31.Purl))] 46 [some 45, some 37] rfl rfl rfl rfl rfl rfl fun G a w S => ?_
    refine sFldV (q := q174) S (wG 37 false 54 rfl rfl rfl hc90) rfl rfl hq177 rfl (lb rfl) fun a S => ?_
    exact leafL ⟨rfl, S⟩
  · refine fI 64 (.slice ad179 x31.Parents.length cp180) [(63, q176), (54, .bool (x24.Purl != x31.Purl))] 47 [some 46, some 37] rfl rfl rfl rfl rfl rfl fun G a w S => ?_
    refine sLoadV1 (vq := q176) 0 (.slice ad179 x31.Parents.length cp180) S (wG 37 false 54 rfl rfl rfl hc90) rfl rfl rfl rfl rfl (lb rfl) fun a S => ?_
    exact leafL ⟨rfl, S⟩
  · refine fI 65 (.bool r135) [(59, .slice ad172 x24.Parents.length cp173), (64, .slice ad179 x31.Parents.length cp180), (54, .bool (x24.Purl != x31.Purl))] 48 [some 42, some 47, some 37] rfl rfl rfl rfl rfl rfl fun G a w S => ?_
    have S1 := S.mem
    refine sCallQ (X := Unit) (f := 18) (vs := [.slice ad172 x24.Parents.length cp173, .slice ad179 x31.Parents.length cp180]) (val := fun _ => .bool r135) S (wG 37 false 54 rfl rfl rfl hc90) rfl callee18 rfl (S1.quiet [5, 1] rfl) (fun E1 w1 S1 => c_raddleref26_SameInts E1 w1 x24.Parents (.slice ad172 x24.Parents.length cp173) x31.Parents (.slice ad179 x31.Parents.length cp180) r135 hx136 S1) rfl (lb rfl) fun _ a w S => ?_
    exact leafL ⟨rfl, S⟩
  · refine fI 66 (.bool (!r135)) [(65, .bool r135), (54, .bool (x24.Purl != x31.Purl))] 49 [some 48, some 37] rfl rfl rfl rfl rfl rfl fun G a w S => ?_
    refine sNot (b := r135) S (wG 37 false 54 rfl rfl rfl hc90) rfl rfl rfl (lb rfl) fun a S => ?_
    exact leafL ⟨rfl, S⟩
  · refine fI 67 (.bool (!r135)) [(54, .bool (x24.Purl != x31.Purl)), (66, .bool (!r135))] 50 [some 37, some 49] rfl rfl rfl rfl rfl rfl fun G a w S => ?_
    refine sPickF (.bool (!r135)) S (wN rfl) rfl rfl hc90 rfl rfl (lb rfl) fun a S => ?_
    exact leafL ⟨rfl, S⟩
  exact leafT (⟨!r135, Option.some.inj h, S.fix [] [32, 33] (by decide) rfl rfl rfl⟩)

end Go.Proofs.Yticjoiolfibmlaa
namespace Go.Proofs.Yticjoiolfibmlaa
open Go.RowKit
set_option linter.unusedVariables false

def anc_raddleref27_SamePairs_0 : List (List Nat) := [[], [], [0, 1], [0, 1, 2], [], [], [4, 5], [4, 5, 6], [0, 1, 2, 3, 4, 5, 6, 7]]
noncomputable def raddleref27_SamePairs_l1 (p0 : (List (Int × Int))) (p1 : (List (Int × Int))) : Int → Option (Int ⊕ (Bool ⊕ Unit)) := fun s0 => match s0 with
  | s13 =>
    if decide (s13 < (p0.length : Int)) then
      Option.bind (idxO p0 s13) fun x22 =>
      Option.bind (idxO p1 s13) fun x27 =>
      if !((x22.1 == x27.1) && ((x22.2 == x27.2) && true)) then
        some (.inr (.inl false))
      else
        some (.inl (w64 (s13 + 1)))
    else
      some (.inr (.inr ()))
noncomputable def F_raddleref27_SamePairs (p0 : (List (Int × Int))) (p1 : (List (Int × Int))) : Option Bool :=
  if (p0.length : Int) != (p1.length : Int) then
    some false
  else
    Option.bind (α := Unit ⊕ Bool) (
      Option.bind (whileO (raddleref27_SamePairs_l1 p0 p1) 0) fun z0 => match z0 with
        | .inl z =>
          some (.inr z)
        | .inr _ =>
          some (.inl ())) fun z0 => match z0 with
      | .inl _ =>
        some true
      | .inr z =>
        some z
set_option maxHeartbeats 4000000 in
set_option maxRecDepth 100000 in
theorem c_raddleref27_SamePairs (E : Nat → Prop) (w0 : World) (p0 : (List (Int × Int))) (v0 : Value) (p1 : (List (Int × Int))) (v1 : Value) (r : Bool) (h : F_raddleref27_SamePairs p0 p1 = some r) (S : St0 E [] w0 w0 [] [fRep (rL r_A2_Int) (v0) p0, fRep (rL r_A2_Int) (v1) p1]) :
    Calls Try.prog 19 #[v0, v1] w0 (Ret (X := Unit) E [] w0 (fun _ => .bool r) (fun _ => []) (fun _ => [])) := by
  unfold F_raddleref27_SamePairs at h
  obtain ⟨ad1, cp2, _, rfl, _⟩ := S.know (i := 0) (e := fRep (rL r_A2_Int) (v0) p0) rfl
  obtain ⟨ad3, cp4, _, rfl, _⟩ := S.know (i := 1) (e := fRep (rL r_A2_Int) (v1) p1) rfl
  refine sEnter (args := [.slice ad1 p0.length cp2, .slice ad3 p1.length cp4]) 26 Try.func19 rfl rfl (by simp) S (fun a S => ?_)
  refine sSeq (fun K5 hK5 => ?_)
  refine sRegion ?_
  refine sMove (.bool false) S (wN rfl) (.inr rfl) rfl rfl (lb rfl) fun a S => ?_
  refine leafL (leafT (hK5 _ _ ?_))
  refine sSeq (fun K6 hK6 => ?_)
  refine sSeq (fun K7 hK7 => ?_)
  refine sRegion ?_
  refine sMove (.slice ad1 p0.length cp2) S (wN rfl) (.inl rfl) rfl rfl (lb rfl) fun a S => ?_
  refine sLen (ad := ad1) (m := p0.length) (c := cp2) S (wN rfl) rfl Try.underlying37 rfl rfl (lb rfl) fun a S => ?_
  refine sMove (.slice ad3 p1.length cp4) S (wN rfl) (.inl rfl) rfl rfl (lb rfl) fun a S => ?_
  refine sLen (ad := ad3) (m := p1.length) (c := cp4) S (wN rfl) rfl Try.underlying37 rfl rfl (lb rfl) fun a S => ?_
  refine sBin (.bool ((p0.length : Int) != (p1.length : Int))) S (wN rfl) rfl rfl rfl (bNe _ _ _ _ .i64 (p0.length : Int) (p1.length : Int)) rfl (lb rfl) fun a S => ?_
  refine leafL (leafT (hK7 _ _ ?_))
  rcases iteSome h with ⟨hc8, h⟩ | ⟨hc8, h⟩
  · refine sCondT S rfl hc8 ?_
    refine sSeq (fun K9 hK9 => ?_)
    refine sRegion ?_
    refine sMove (.bool false) S (wN rfl) (.inr rfl) rfl rfl (lb rfl) fun a S => ?_
    refine leafL (leafT (hK9 _ _ ?_))
    obtain rfl := Option.some.inj h
    exact wp_ret (rThen (sRet (.bool false) S (rsl1 rfl (rvT (t := 4) (v := .bool false) S rfl)) ⟨(), rfl, S.mem.sel [] [] (by decide) rfl rfl⟩))
  refine sCondF S rfl hc8 ?_
  refine wp_skip (leafT (hK6 _ _ ?_))
  obtain ⟨t10, h, g11⟩ := bindSome h
  refine sCut (fun a w => .inl () = t10 ∧ St [] E [] w0 26 a w [] [] []) ?_ (fun a w hI => ?_)
  rotate_left
  · obtain ⟨rfl, S⟩ := hI
    have h := g11
    clear g11
    try dsimp only at h
    refine sSeq (fun K40 hK40 => ?_)
    refine sRegion ?_
    refine sMove (.bool true) S (wN rfl) (.inr rfl) rfl rfl (lb rfl) fun a S => ?_
    refine leafL (leafT (hK40 _ _ ?_))
    obtain rfl := Option.some.inj h
    exact wp_ret (sRet (.bool true) S (rsl1 rfl (rvT (t := 4) (v := .bool true) S rfl)) ⟨(), rfl, S.mem.sel [] [] (by decide) rfl rfl⟩)
  refine sSeq (fun K12 hK12 => ?_)
  refine sRegion ?_
  refine sMove (iv 0) S (wN rfl) (.inr rfl) rfl rfl (lb rfl) fun a S => ?_
  refine leafL (leafT (hK12 _ _ ?_))
  refine wp_block ?_
  obtain ⟨t16, hl, g15⟩ := bindSome h
  refine sLoop hl (fun s0 a w => match s0 with | s13 => St [] E [] w0 26 a w [(0, .slice ad1 p0.length cp2), (1, .slice ad3 p1.length cp4), (5, iv s13)] [] [fRep (rL r_A2_Int) (.slice ad1 p0.length cp2) p0, fRep (rL r_A2_Int) (.slice ad3 p1.length cp4) p1]) (S.fix [] [0, 1] (by decide) rfl rfl rfl) ?_
  clear hl h
  intro s13 a w c0 hI h hu14
  unfold raddleref27_SamePairs_l1 at h
  dsimp only at h hI
  have S := hI
  refine sSeq (fun K17 hK17 => ?_)
  refine sSeq (fun K18 hK18 => ?_)
  refine sRegion ?_
  refine sMove (iv s13) S (wN rfl) (.inl rfl) rfl rfl (lb rfl) fun a S => ?_
  refine sMove (.slice ad1 p0.length cp2) S (wN rfl) (.inl rfl) rfl rfl (lb rfl) fun a S => ?_
  refine sLen (ad := ad1) (m := p0.length) (c := cp2) S (wN rfl) rfl Try.underlying37 rfl rfl (lb rfl) fun a S => ?_
  refine sBin (.bool (decide (s13 < (p0.length : Int)))) S (wN rfl) rfl rfl rfl (bLt _ _ _ _ .i64 s13 (p0.length : Int)) rfl (lb rfl) fun a S => ?_
  refine leafL (leafT (hK18 _ _ ?_))
  rcases iteSome h with ⟨hc19, h⟩ | ⟨hc19, h⟩
  rotate_left
  · refine sCondF S rfl hc19 ?_
    obtain rfl := Option.some.inj h
    obtain rfl := hu14 _ rfl
    have h := g15
    clear g15
    try dsimp only at h
    exact wp_exit (xThen (xThen (xHit (leafT (⟨Option.some.inj h, S.fix [] [] (by decide) rfl rfl rfl⟩)))))
  refine sCondT S rfl hc19 ?_
  refine wp_skip (leafT (hK17 _ _ ?_))
  refine sSeq (fun K20 hK20 => ?_)
  refine wp_block ?_
  refine sSeq (fun K21 hK21 => ?_)
  obtain ⟨x22, hx23, h⟩ := bindSome h
  obtain ⟨x27, hx28, h⟩ := bindSome h
  obtain ⟨q32, hq33, S⟩ := pIdx (P := Try.prog) (r := r_A2_Int) (v := .slice ad1 p0.length cp2) (xs := p0) (j := s13) 37 49 0 S Try.underlying37 rfl rfl hx23
  obtain ⟨u34, S⟩ := pLoad (r := r_A2_Int) (q := q32) (x := x22) 0 S rfl
  obtain rfl : u34 = .agg #[iv x22.1, iv x22.2] := S.mem.know (i := 1) (e := fRep r_A2_Int (u34) x22) rfl
  obtain ⟨q35, hq36, S⟩ := pIdx (P := Try.prog) (r := r_A2_Int) (v := .slice ad3 p1.length cp4) (xs := p1) (j := s13) 37 49 4 S Try.underlying37 rfl rfl hx28
  obtain ⟨u37, S⟩ := pLoad (r := r_A2_Int) (q := q35) (x := x27) 0 S rfl
  obtain rfl : u37 = .agg #[iv x27.1, iv x27.2] := S.mem.know (i := 1) (e := fRep r_A2_Int (u37) x27) rfl
  refine sDraw (nf := []) (W := [(0, 17, .slice ad1 p0.length cp2), (1, 18, iv s13), (2, 19, q32), (3, 20, .agg #[iv x22.1, iv x22.2]), (4, 21, .slice ad3 p1.length cp4), (5, 22, iv s13), (6, 23, q35), (7, 24, .agg #[iv x27.1, iv x27.2]), (8, 25, .bool (!((x22.1 == x27.1) && ((x22.2 == x27.2) && true))))]) rfl S ?_
  refine node_by (A := anc_raddleref27_SamePairs_0) (nf := []) (Y := []) (W := [(0, 17, .slice ad1 p0.length cp2), (1, 18, iv s13), (2, 19, q32), (3, 20, .agg #[iv x22.1, iv x22.2]), (4, 21, .slice ad3 p1.length cp4), (5, 22, iv s13), (6, 23, q35), (7, 24, .agg #[iv x27.1, iv x27.2]), (8, 25, .bool (!((x22.1 == x27.1) && ((x22.2 == x27.2) && true))))]) 9 (by kernel_rfl) (by kernel_rfl) (by kernel_rfl) (by kernel_rfl) (by kernel_rfl) [0, 1, 2, 3, 4, 5, 6, 7, 8] (by kernel_rfl) (by decide) (by decide) (aF 0 8 (by decide) ?_ (aF 1 7 (by decide) ?_ (aF 2 6 (by decide) ?_ (aF 3 5 (by decide) ?_ (aF 4 4 (by decide) ?_ (aF 5 3 (by decide) ?_ (aF 6 2 (by decide) ?_ (aF 7 1 (by decide) ?_ (aF 8 0 (by decide) ?_ (trivial)))))))))) [(0, .slice ad1 p0.length cp2), (1, .slice ad3 p1.length cp4), (5, iv s13), (25, .bool (!((x22.1 == x27.1) && ((x22.2 == x27.2) && true))))] (fin_of [none, none, none, some 8] rfl (by kernel_rfl) (by kernel_rfl)) (fun _ a w S => ?_)
  · refine fI 17 (.slice ad1 p0.length cp2) [(0, .slice ad1 p0.length cp2)] 0 [none] rfl rfl rfl rfl rfl rfl fun G a w S => ?_
    refine sMove (.slice ad1 p0.length cp2) S (wN rfl) (.inl rfl) rfl rfl (lb rfl) fun a S => ?_
    exact leafL ⟨rfl, S⟩
  · refine fI 18 (iv s13) [(5, iv s13)] 1 [none] rfl rfl rfl rfl rfl rfl fun G a w S => ?_
    refine sMove (iv s13) S (wN rfl) (.inl rfl) rfl rfl (lb rfl) fun a S => ?_
    exact leafL ⟨rfl, S⟩
  · refine fI 19 q32 [(17, .slice ad1 p0.length cp2), (18, iv s13)] 2 [some 0, some 1] rfl rfl rfl rfl rfl rfl fun G a w S => ?_
    refine sIdxV (v := .slice ad1 p0.length cp2) (k := .i64) (j := s13) S (wN rfl) rfl rfl rfl hq33 rfl (lb rfl) fun a S => ?_
    exact leafL ⟨rfl, S⟩
  · refine fI 20 (.agg #[iv x22.1, iv x22.2]) [(19, q32)] 3 [some 2] rfl rfl rfl rfl rfl rfl fun G a w S => ?_
    refine sLoadVN (vq := q32) 3 [iv x22.1, iv x22.2] S (wN rfl) rfl rfl rfl rfl rfl rfl (lb rfl) fun a S => ?_
    exact leafL ⟨rfl, S⟩
  · refine fI 21 (.slice ad3 p1.length cp4) [(1, .slice ad3 p1.length cp4)] 4 [none] rfl rfl rfl rfl rfl rfl fun G a w S => ?_
    refine sMove (.slice ad3 p1.length cp4) S (wN rfl) (.inl rfl) rfl rfl (lb rfl) fun a S => ?_
    exact leafL ⟨rfl, S⟩
  · refine fI 22 (iv s13) [(5, iv s13)] 5 [none] rfl rfl rfl rfl rfl rfl fun G a w S => ?_
    refine sMove (iv s13) S (wN rfl) (.inl rfl) rfl rfl (lb rfl) fun a S => ?_
    exact leafL ⟨rfl, S⟩
  · refine fI 23 q35 [(21, .slice ad3 p1.length cp4), (22, iv s13)] 6 [some 4, some 5] rfl rfl rfl rfl rfl rfl fun G a w S => ?_
    refine sIdxV (v := .slice ad3 p1.length cp4) (k := .i64) (j := s13) S (wN rfl) rfl rfl rfl hq36 rfl (lb rfl) fun a S => ?_
    exact leafL ⟨rfl, S⟩
  · refine fI 24 (.agg #[iv x27.1, iv x27.2]) [(23, q35)] 7 [some 6] rfl rfl rfl rfl rfl rfl fun G a w S => ?_
    refine sLoadVN (vq := q35) 0 [iv x27.1, iv x27.2] S (wN rfl) rfl rfl rfl rfl rfl rfl (lb rfl) fun a S => ?_
    exact leafL ⟨rfl, S⟩
  · refine fI 25 (.bool (!((x22.1 == x27.1) && ((x22.2 == x27.2) && true)))) [(20, .agg #[iv x22.1, iv x22.2]), (24, .agg #[iv x27.1, iv x27.2])] 8 [some 3, some 7] rfl rfl rfl rfl rfl rfl fun G a w S => ?_
    refine sBin (.bool (!((x22.1 == x27.1) && ((x22.2 == x27.2) && true)))) S (wN rfl) rfl rfl rfl (bNeV _ _ _ _ #[iv x22.1, iv x22.2] #[iv x27.1, iv x27.2] ((x22.1 == x27.1) && ((x22.2 == x27.2) && true)) (by kernel_rfl) (eqlV_of (by kernel_rfl))) rfl (lb rfl) fun a S => ?_
    exact leafL ⟨rfl, S⟩
  refine leafT (hK21 _ _ ?_)
  rcases iteSome h with ⟨hc38, h⟩ | ⟨hc38, h⟩
  rotate_left
  · refine sCondF S rfl hc38 ?_
    refine wp_skip (leafB (leafT (hK20 _ _ ?_)))
    refine sRegion ?_
    refine sMove (iv s13) S (wN rfl) (.inl rfl) rfl rfl (lb rfl) fun a S => ?_
    refine sBin (iv (w64 (s13 + 1))) S (wN rfl) rfl rfl rfl (bAdd _ _ _ _ s13 1) rfl (lb rfl) fun a S => ?_
    refine sMove (iv (w64 (s13 + 1))) S (wN rfl) (.inr rfl) rfl rfl (lb rfl) fun a S => ?_
    exact leafL (leafT (⟨w64 (s13 + 1), (Option.some.inj h).symm, (S.fix [] [6, 7] (by decide) rfl rfl rfl)⟩))
  refine sCondT S rfl hc38 ?_
  refine sSeq (fun K39 hK39 => ?_)
  refine sRegion ?_
  refine sMove (.bool false) S (wN rfl) (.inr rfl) rfl rfl (lb rfl) fun a S => ?_
  refine leafL (leafT (hK39 _ _ ?_))
  obtain rfl := Option.some.inj h
  obtain rfl := hu14 _ rfl
  have h := g15
  clear g15
  try dsimp only at h
  obtain rfl := Option.some.inj h
  have h := g11
  clear g11
  try dsimp only at h
  obtain rfl := Option.some.inj h
  exact wp_ret (rBlock (rThen (rThen (rBlock (rThen (sRet (.bool false) S (rsl1 rfl (rvT (t := 4) (v := .bool false) S rfl)) ⟨(), rfl, S.mem.sel [] [] (by decide) rfl rfl⟩))))))

end Go.Proofs.Yticjoiolfibmlaa
namespace Go.Proofs.Yticjoiolfibmlaa
open Go.RowKit
set_option linter.unusedVariables false

noncomputable def F_raddlelaw27_LoopsMake (p0 : api_Chart) : Option Bool :=
  Option.bind (F_raddleref26_Great p0) fun r9 =>
  if r9 then
    some true
  else
    Option.bind (F_loops_Of p0) fun r14 =>
    Option.bind (F_raddleref27_Of p0) fun r20 =>
    Option.bind (F_loops_Bound p0) fun r26 =>
    Option.bind (F_raddleref27_Bound p0) fun r32 =>
    Option.bind (F_loops_Crossings p0) fun r38 =>
    Option.bind (F_raddleref27_Crossings p0) fun r44 =>
    Option.bind (α := Bool) (
      Option.bind (F_raddleref27_Same r14.1 r20.1) fun r52 =>
      if r52 then
        if r14.2 == r20.2 then
          Option.bind (F_raddleref26_SameInts r26.1 r32.1) fun r56 =>
          if r56 then
            if r26.2 == r32.2 then
              Option.bind (F_raddleref27_SamePairs r38.1 r44.1) fun r60 =>
              if r60 then
                some (r38.2 == r44.2)
              else
                some false
            else
              some false
          else
            some false
        else
          some false
      else
        some false) fun o49 =>
    some o49
set_option maxHeartbeats 4000000 in
set_option maxRecDepth 100000 in
theorem c_raddlelaw27_LoopsMake (E : Nat → Prop) (w0 : World) (p0 : api_Chart) (v0 : Value) (r : Bool) (h : F_raddlelaw27_LoopsMake p0 = some r) (S : St0 E [] w0 w0 [] [fRep r_api_Chart (v0) p0]) :
    Calls Try.prog 3 #[v0] w0 (Ret (X := Unit) E [] w0 (fun _ => .bool r) (fun _ => []) (fun _ => [])) := by
  unfold F_raddlelaw27_LoopsMake at h
  obtain ⟨u1, rfl, hu2⟩ := S.know (i := 0) (e := fRep r_api_Chart (v0) p0) rfl
  have S := S.learn (fRep (rL r_api_Row) u1 p0.Rows) hu2
  obtain ⟨ad3, cp4, _, rfl, _⟩ := hu2
  refine sEnter (args := [.agg #[iv p0.Start, .slice ad3 p0.Rows.length cp4]]) 75 Try.func3 rfl rfl (by simp) S (fun a S => ?_)
  refine sSeq (fun K5 hK5 => ?_)
  refine sRegion ?_
  refine sBox (v := .agg #[iv p0.Start, .slice ad3 p0.Rows.length cp4]) S (wN rfl) rfl rfl [iv p0.Start, .slice ad3 p0.Rows.length cp4] rfl rfl (lb rfl) fun a b6 w S => ?_
  refine sMove (.bool false) S (wN rfl) (.inr rfl) rfl rfl (lb rfl) fun a S => ?_
  refine leafL (leafT (hK5 _ _ ?_))
  refine sSeq (fun K7 hK7 => ?_)
  refine sSeq (fun K8 hK8 => ?_)
  refine sRegion ?_
  refine sLoadN (p := b6) (off := 0) (T := 24) (vs := [iv p0.Start, .slice ad3 p0.Rows.length cp4]) 0 [iv p0.Start, .slice ad3 p0.Rows.length cp4] S (wN rfl) rfl rfl rfl rfl rfl rfl rfl (lb rfl) fun a S => ?_
  obtain ⟨r9, hx10, h⟩ := bindSome h
  have S1 := S.mem
  refine sCallQ (X := Unit) (f := 10) (vs := [.agg #[iv p0.Start, .slice ad3 p0.Rows.length cp4]]) (val := fun _ => .bool r9) S (wN rfl) rfl callee10 rfl (S1.quiet [1] rfl) (fun E1 w1 S1 => c_raddleref26_Great E1 w1 p0 (.agg #[iv p0.Start, .slice ad3 p0.Rows.length cp4]) r9 hx10 S1) rfl (lb rfl) fun _ a w S => ?_
  refine leafL (leafT (hK8 _ _ ?_))
  rcases iteSome h with ⟨hc11, h⟩ | ⟨hc11, h⟩
  · refine sCondT S rfl hc11 ?_
    refine sSeq (fun K12 hK12 => ?_)
    refine sRegion ?_
    refine sMove (.bool true) S (wN rfl) (.inr rfl) rfl rfl (lb rfl) fun a S => ?_
    refine leafL (leafT (hK12 _ _ ?_))
    obtain rfl := Option.some.inj h
    exact wp_ret (rThen (sRet (.bool true) S (rsl1 rfl (rvT (t := 2) (v := .bool true) S rfl)) ⟨(), rfl, S.mem.sel [] [] (by decide) rfl rfl⟩))
  refine sCondF S rfl hc11 ?_
  refine wp_skip (leafT (hK7 _ _ ?_))
  refine sSeq (fun K13 hK13 => ?_)
  refine sRegion ?_
  refine sLoadN (p := b6) (off := 0) (T := 24) (vs := [iv p0.Start, .slice ad3 p0.Rows.length cp4]) 0 [iv p0.Start, .slice ad3 p0.Rows.length cp4] S (wN rfl) rfl rfl rfl rfl rfl rfl rfl (lb rfl) fun a S => ?_
  obtain ⟨r14, hx15, h⟩ := bindSome h
  refine sCall (X := Value) (f := 11) (vs := [.agg #[iv p0.Start, .slice ad3 p0.Rows.length cp4]]) (val := c_loops_Of_val r14) (B' := fun _ => []) (D' := c_loops_Of_D r14) [] [eBox b6 24 [iv p0.Start, .slice ad3 p0.Rows.length cp4]] [fRep r_api_Chart (.agg #[iv p0.Start, .slice ad3 p0.Rows.length cp4]) p0] [0] [1] S (wN rfl) rfl callee11 rfl (by decide) rfl rfl (fun E1 w1 S1 => c_loops_Of E1 w1 p0 (.agg #[iv p0.Start, .slice ad3 p0.Rows.length cp4]) r14 hx15 S1) rfl (lb rfl) fun u16 a w S => ?_
  obtain ⟨ad17, cp18, _, rfl, _⟩ := S.mem.know (i := 0) (e := fRep (rL r_api_Loop) (u16) r14.1) rfl
  refine sMove (.tuple #[.slice ad17 r14.1.length cp18, iv r14.2]) S (wN rfl) (.inl rfl) rfl rfl (lb rfl) fun a S => ?_
  refine sExtract (vs := [.slice ad17 r14.1.length cp18, iv r14.2]) (.slice ad17 r14.1.length cp18) S (wN rfl) rfl rfl rfl rfl (lb rfl) fun a S => ?_
  refine sExtract (vs := [.slice ad17 r14.1.length cp18, iv r14.2]) (iv r14.2) S (wN rfl) rfl rfl rfl rfl (lb rfl) fun a S => ?_
  refine sMove (.slice ad17 r14.1.length cp18) S (wN rfl) (.inr rfl) rfl rfl (lb rfl) fun a S => ?_
  refine sMove (iv r14.2) S (wN rfl) (.inr rfl) rfl rfl (lb rfl) fun a S => ?_
  refine leafL (leafT (hK13 _ _ ?_))
  refine sSeq (fun K19 hK19 => ?_)
  refine sRegion ?_
  refine sLoadN (p := b6) (off := 0) (T := 24) (vs := [iv p0.Start, .slice ad3 p0.Rows.length cp4]) 0 [iv p0.Start, .slice ad3 p0.Rows.length cp4] S (wN rfl) rfl rfl rfl rfl rfl rfl rfl (lb rfl) fun a S => ?_
  obtain ⟨r20, hx21, h⟩ := bindSome h
  refine sCall (X := Value) (f := 12) (vs := [.agg #[iv p0.Start, .slice ad3 p0.Rows.length cp4]]) (val := c_raddleref27_Of_val r20) (B' := fun _ => []) (D' := c_raddleref27_Of_D r20) [] [eBox b6 24 [iv p0.Start, .slice ad3 p0.Rows.length cp4]] [fRep r_api_Chart (.agg #[iv p0.Start, .slice ad3 p0.Rows.length cp4]) p0] [0] [2] S (wN rfl) rfl callee12 rfl (by decide) rfl rfl (fun E1 w1 S1 => c_raddleref27_Of E1 w1 p0 (.agg #[iv p0.Start, .slice ad3 p0.Rows.length cp4]) r20 hx21 S1) rfl (lb rfl) fun u22 a w S => ?_
  obtain ⟨ad23, cp24, _, rfl, _⟩ := S.mem.know (i := 0) (e := fRep (rL r_api_Loop) (u22) r20.1) rfl
  refine sMove (.tuple #[.slice ad23 r20.1.length cp24, iv r20.2]) S (wN rfl) (.inl rfl) rfl rfl (lb rfl) fun a S => ?_
  refine sExtract (vs := [.slice ad23 r20.1.length cp24, iv r20.2]) (.slice ad23 r20.1.length cp24) S (wN rfl) rfl rfl rfl rfl (lb rfl) fun a S => ?_
  refine sExtract (vs := [.slice ad23 r20.1.length cp24, iv r20.2]) (iv r20.2) S (wN rfl) rfl rfl rfl rfl (lb rfl) fun a S => ?_
  refine sMove (.slice ad23 r20.1.length cp24) S (wN rfl) (.inr rfl) rfl rfl (lb rfl) fun a S => ?_
  refine sMove (iv r20.2) S (wN rfl) (.inr rfl) rfl rfl (lb rfl) fun a S => ?_
  refine leafL (leafT (hK19 _ _ ?_))
  refine sSeq (fun K25 hK25 => ?_)
  refine sRegion ?_
  refine sLoadN (p := b6) (off := 0) (T := 24) (vs := [iv p0.Start, .slice ad3 p0.Rows.length cp4]) 0 [iv p0.Start, .slice ad3 p0.Rows.length cp4] S (wN rfl) rfl rfl rfl rfl rfl rfl rfl (lb rfl) fun a S => ?_
  obtain ⟨r26, hx27, h⟩ := bindSome h
  refine sCall (X := Value) (f := 13) (vs := [.agg #[iv p0.Start, .slice ad3 p0.Rows.length cp4]]) (val := c_loops_Bound_val r26) (B' := fun _ => []) (D' := c_loops_Bound_D r26) [] [eBox b6 24 [iv p0.Start, .slice ad3 p0.Rows.length cp4]] [fRep r_api_Chart (.agg #[iv p0.Start, .slice ad3 p0.Rows.length cp4]) p0] [0] [3] S (wN rfl) rfl callee13 rfl (by decide) rfl rfl (fun E1 w1 S1 => c_loops_Bound E1 w1 p0 (.agg #[iv p0.Start, .slice ad3 p0.Rows.length cp4]) r26 hx27 S1) rfl (lb rfl) fun u28 a w S => ?_
  obtain ⟨ad29, cp30, _, rfl, _⟩ := S.mem.know (i := 0) (e := fRep (rL (rI .i64)) (u28) r26.1) rfl
  refine sMove (.tuple #[.slice ad29 r26.1.length cp30, iv r26.2]) S (wN rfl) (.inl rfl) rfl rfl (lb rfl) fun a S => ?_
  refine sExtract (vs := [.slice ad29 r26.1.length cp30, iv r26.2]) (.slice ad29 r26.1.length cp30) S (wN rfl) rfl rfl rfl rfl (lb rfl) fun a S => ?_
  refine sExtract (vs := [.slice ad29 r26.1.length cp30, iv r26.2]) (iv r26.2) S (wN rfl) rfl rfl rfl rfl (lb rfl) fun a S => ?_
  refine sMove (.slice ad29 r26.1.length cp30) S (wN rfl) (.inr rfl) rfl rfl (lb rfl) fun a S => ?_
  refine sMove (iv r26.2) S (wN rfl) (.inr rfl) rfl rfl (lb rfl) fun a S => ?_
  refine leafL (leafT (hK25 _ _ ?_))
  refine sSeq (fun K31 hK31 => ?_)
  refine sRegion ?_
  refine sLoadN (p := b6) (off := 0) (T := 24) (vs := [iv p0.Start, .slice ad3 p0.Rows.length cp4]) 0 [iv p0.Start, .slice ad3 p0.Rows.length cp4] S (wN rfl) rfl rfl rfl rfl rfl rfl rfl (lb rfl) fun a S => ?_
  obtain ⟨r32, hx33, h⟩ := bindSome h
  refine sCall (X := Value) (f := 14) (vs := [.agg #[iv p0.Start, .slice ad3 p0.Rows.length cp4]]) (val := c_raddleref27_Bound_val r32) (B' := fun _ => []) (D' := c_raddleref27_Bound_D r32) [] [eBox b6 24 [iv p0.Start, .slice ad3 p0.Rows.length cp4]] [fRep r_api_Chart (.agg #[iv p0.Start, .slice ad3 p0.Rows.length cp4]) p0] [0] [4] S (wN rfl) rfl callee14 rfl (by decide) rfl rfl (fun E1 w1 S1 => c_raddleref27_Bound E1 w1 p0 (.agg #[iv p0.Start, .slice ad3 p0.Rows.length cp4]) r32 hx33 S1) rfl (lb rfl) fun u34 a w S => ?_
  obtain ⟨ad35, cp36, _, rfl, _⟩ := S.mem.know (i := 0) (e := fRep (rL (rI .i64)) (u34) r32.1) rfl
  refine sMove (.tuple #[.slice ad35 r32.1.length cp36, iv r32.2]) S (wN rfl) (.inl rfl) rfl rfl (lb rfl) fun a S => ?_
  refine sExtract (vs := [.slice ad35 r32.1.length cp36, iv r32.2]) (.slice ad35 r32.1.length cp36) S (wN rfl) rfl rfl rfl rfl (lb rfl) fun a S => ?_
  refine sExtract (vs := [.slice ad35 r32.1.length cp36, iv r32.2]) (iv r32.2) S (wN rfl) rfl rfl rfl rfl (lb rfl) fun a S => ?_
  refine sMove (.slice ad35 r32.1.length cp36) S (wN rfl) (.inr rfl) rfl rfl (lb rfl) fun a S => ?_
  refine sMove (iv r32.2) S (wN rfl) (.inr rfl) rfl rfl (lb rfl) fun a S => ?_
  refine leafL (leafT (hK31 _ _ ?_))
  refine sSeq (fun K37 hK37 => ?_)
  refine sRegion ?_
  refine sLoadN (p := b6) (off := 0) (T := 24) (vs := [iv p0.Start, .slice ad3 p0.Rows.length cp4]) 0 [iv p0.Start, .slice ad3 p0.Rows.length cp4] S (wN rfl) rfl rfl rfl rfl rfl rfl rfl (lb rfl) fun a S => ?_
  obtain ⟨r38, hx39, h⟩ := bindSome h
  refine sCall (X := Value) (f := 15) (vs := [.agg #[iv p0.Start, .slice ad3 p0.Rows.length cp4]]) (val := c_loops_Crossings_val r38) (B' := fun _ => []) (D' := c_loops_Crossings_D r38) [] [eBox b6 24 [iv p0.Start, .slice ad3 p0.Rows.length cp4]] [fRep r_api_Chart (.agg #[iv p0.Start, .slice ad3 p0.Rows.length cp4]) p0] [0] [5] S (wN rfl) rfl callee15 rfl (by decide) rfl rfl (fun E1 w1 S1 => c_loops_Crossings E1 w1 p0 (.agg #[iv p0.Start, .slice ad3 p0.Rows.length cp4]) r38 hx39 S1) rfl (lb rfl) fun u40 a w S => ?_
  obtain ⟨ad41, cp42, _, rfl, _⟩ := S.mem.know (i := 0) (e := fRep (rL r_A2_Int) (u40) r38.1) rfl
  refine sMove (.tuple #[.slice ad41 r38.1.length cp42, iv r38.2]) S (wN rfl) (.inl rfl) rfl rfl (lb rfl) fun a S => ?_
  refine sExtract (vs := [.slice ad41 r38.1.length cp42, iv r38.2]) (.slice ad41 r38.1.length cp42) S (wN rfl) rfl rfl rfl rfl (lb rfl) fun a S => ?_
  refine sExtract (vs := [.slice ad41 r38.1.length cp42, iv r38.2]) (iv r38.2) S (wN rfl) rfl rfl rfl rfl (lb rfl) fun a S => ?_
  refine sMove (.slice ad41 r38.1.length cp42) S (wN rfl) (.inr rfl) rfl rfl (lb rfl) fun a S => ?_
  refine sMove (iv r38.2) S (wN rfl) (.inr rfl) rfl rfl (lb rfl) fun a S => ?_
  refine leafL (leafT (hK37 _ _ ?_))
  refine sSeq (fun K43 hK43 => ?_)
  refine sRegion ?_
  refine sLoadN (p := b6) (off := 0) (T := 24) (vs := [iv p0.Start, .slice ad3 p0.Rows.length cp4]) 0 [iv p0.Start, .slice ad3 p0.Rows.length cp4] S (wN rfl) rfl rfl rfl rfl rfl rfl rfl (lb rfl) fun a S => ?_
  obtain ⟨r44, hx45, h⟩ := bindSome h
  refine sCall (X := Value) (f := 16) (vs := [.agg #[iv p0.Start, .slice ad3 p0.Rows.length cp4]]) (val := c_raddleref27_Crossings_val r44) (B' := fun _ => []) (D' := c_raddleref27_Crossings_D r44) [] [eBox b6 24 [iv p0.Start, .slice ad3 p0.Rows.length cp4]] [fRep r_api_Chart (.agg #[iv p0.Start, .slice ad3 p0.Rows.length cp4]) p0] [0] [6] S (wN rfl) rfl callee16 rfl (by decide) rfl rfl (fun E1 w1 S1 => c_raddleref27_Crossings E1 w1 p0 (.agg #[iv p0.Start, .slice ad3 p0.Rows.length cp4]) r44 hx45 S1) rfl (lb rfl) fun u46 a w S => ?_
  obtain ⟨ad47, cp48, _, rfl, _⟩ := S.mem.know (i := 0) (e := fRep (rL r_A2_Int) (u46) r44.1) rfl
  refine sMove (.tuple #[.slice ad47 r44.1.length cp48, iv r44.2]) S (wN rfl) (.inl rfl) rfl rfl (lb rfl) fun a S => ?_
  refine sExtract (vs := [.slice ad47 r44.1.length cp48, iv r44.2]) (.slice ad47 r44.1.length cp48) S (wN rfl) rfl rfl rfl rfl (lb rfl) fun a S => ?_
  refine sExtract (vs := [.slice ad47 r44.1.length cp48, iv r44.2]) (iv r44.2) S (wN rfl) rfl rfl rfl rfl (lb rfl) fun a S => ?_
  refine sMove (.slice ad47 r44.1.length cp48) S (wN rfl) (.inr rfl) rfl rfl (lb rfl) fun a S => ?_
  refine sMove (iv r44.2) S (wN rfl) (.inr rfl) rfl rfl (lb rfl) fun a S => ?_
  refine leafL (leafT (hK43 _ _ ?_))
  obtain ⟨t50, h, g51⟩ := bindSome h
  refine sCut (fun a w => ∃ o49, o49 = t50 ∧ St [] E [] w0 75 a w [(2, .bool o49)] [] []) ?_ (fun a w hI => ?_)
  rotate_left
  · obtain ⟨o49, rfl, S⟩ := hI
    have h := g51
    clear g51
    try dsimp only at h
    obtain rfl := Option.some.inj h
    exact wp_ret (sRet (.bool o49) S (rsl1 rfl (rvT (t := 2) (v := .bool o49) S rfl)) ⟨(), rfl, S.mem.sel [] [] (by decide) rfl rfl⟩)
  refine sRegion ?_
  refine sMove (.slice ad17 r14.1.length cp18) S (wN rfl) (.inl rfl) rfl rfl (lb rfl) fun a S => ?_
  refine sMove (.slice ad23 r20.1.length cp24) S (wN rfl) (.inl rfl) rfl rfl (lb rfl) fun a S => ?_
  obtain ⟨r52, hx53, h⟩ := bindSome h
  have S1 := S.mem
  refine sCallQ (X := Unit) (f := 17) (vs := [.slice ad17 r14.1.length cp18, .slice ad23 r20.1.length cp24]) (val := fun _ => .bool r52) S (wN rfl) rfl callee17 rfl (S1.quiet [5, 4] rfl) (fun E1 w1 S1 => c_raddleref27_Same E1 w1 r14.1 (.slice ad17 r14.1.length cp18) r20.1 (.slice ad23 r20.1.length cp24) r52 hx53 S1) rfl (lb rfl) fun _ a w S => ?_
  refine sMove (.bool r52) S (wN rfl) (.inl rfl) rfl rfl (lb rfl) fun a S => ?_
  rcases iteSome h with ⟨hc54, h⟩ | ⟨hc54, h⟩
  rotate_left
  · refine sSkip 3 true 50 51 S rfl rfl rfl hc54 rfl (lb rfl) fun a S => ?_
    refine sSkip 3 true 50 52 S rfl rfl rfl hc54 rfl (lb rfl) fun a S => ?_
    refine sSkip 3 true 50 53 S rfl rfl rfl hc54 rfl (lb rfl) fun a S => ?_
    refine sPickF (.bool false) S (wN rfl) rfl rfl hc54 rfl rfl (lb rfl) fun a S => ?_
    refine sMove (.bool false) S (wN rfl) (.inl rfl) rfl rfl (lb rfl) fun a S => ?_
    refine sSkip 8 true 55 56 S rfl rfl rfl rfl rfl (lb rfl) fun a S => ?_
    refine sSkip 8 true 55 57 S rfl rfl rfl rfl rfl (lb rfl) fun a S => ?_
    refine sSkip 8 true 55 58 S rfl rfl rfl rfl rfl (lb rfl) fun a S => ?_
    refine sPickF (.bool false) S (wN rfl) rfl rfl rfl rfl rfl (lb rfl) fun a S => ?_
    refine sMove (.bool false) S (wN rfl) (.inl rfl) rfl rfl (lb rfl) fun a S => ?_
    refine sSkip 13 true 60 61 S rfl rfl rfl rfl rfl (lb rfl) fun a S => ?_
    refine sSkip 13 true 60 62 S rfl rfl rfl rfl rfl (lb rfl) fun a S => ?_
    refine sSkip 13 true 60 63 S rfl rfl rfl rfl rfl (lb rfl) fun a S => ?_
    refine sPickF (.bool false) S (wN rfl) rfl rfl rfl rfl rfl (lb rfl) fun a S => ?_
    refine sMove (.bool false) S (wN rfl) (.inl rfl) rfl rfl (lb rfl) fun a S => ?_
    refine sSkip 18 true 65 66 S rfl rfl rfl rfl rfl (lb rfl) fun a S => ?_
    refine sSkip 18 true 65 67 S rfl rfl rfl rfl rfl (lb rfl) fun a S => ?_
    refine sSkip 18 true 65 68 S rfl rfl rfl rfl rfl (lb rfl) fun a S => ?_
    refine sPickF (.bool false) S (wN rfl) rfl rfl rfl rfl rfl (lb rfl) fun a S => ?_
    refine sMove (.bool false) S (wN rfl) (.inl rfl) rfl rfl (lb rfl) fun a S => ?_
    refine sSkip 23 true 70 71 S rfl rfl rfl rfl rfl (lb rfl) fun a S => ?_
    refine sSkip 23 true 70 72 S rfl rfl rfl rfl rfl (lb rfl) fun a S => ?_
    refine sSkip 23 true 70 73 S rfl rfl rfl rfl rfl (lb rfl) fun a S => ?_
    refine sPickF (.bool false) S (wN rfl) rfl rfl rfl rfl rfl (lb rfl) fun a S => ?_
    refine sMove (.bool false) S (wN rfl) (.inr rfl) rfl rfl (lb rfl) fun a S => ?_
    exact leafL (leafT (⟨false, Option.some.inj h, S.fix [] [] (by decide) rfl rfl rfl⟩))
  refine sMove (iv r14.2) S (wG 3 true 50 rfl rfl rfl hc54) (.inl rfl) rfl rfl (lb rfl) fun a S => ?_
  refine sMove (iv r20.2) S (wG 3 true 50 rfl rfl rfl hc54) (.inl rfl) rfl rfl (lb rfl) fun a S => ?_
  refine sBin (.bool (r14.2 == r20.2)) S (wG 3 true 50 rfl rfl rfl hc54) rfl rfl rfl (bEq _ _ _ _ .i64 r14.2 r20.2) rfl (lb rfl) fun a S => ?_
  refine sPickT (.bool (r14.2 == r20.2)) S (wN rfl) rfl rfl hc54 rfl rfl (lb rfl) fun a S => ?_
  refine sMove (.bool (r14.2 == r20.2)) S (wN rfl) (.inl rfl) rfl rfl (lb rfl) fun a S => ?_
  rcases iteSome h with ⟨hc55, h⟩ | ⟨hc55, h⟩
  rotate_left
  · refine sSkip 8 true 55 56 S rfl rfl rfl hc55 rfl (lb rfl) fun a S => ?_
    refine sSkip 8 true 55 57 S rfl rfl rfl hc55 rfl (lb rfl) fun a S => ?_
    refine sSkip 8 true 55 58 S rfl rfl rfl hc55 rfl (lb rfl) fun a S => ?_
    refine sPickF (.bool false) S (wN rfl) rfl rfl hc55 rfl rfl (lb rfl) fun a S => ?_
    refine sMove (.bool false) S (wN rfl) (.inl rfl) rfl rfl (lb rfl) fun a S => ?_
    refine sSkip 13 true 60 61 S rfl rfl rfl rfl rfl (lb rfl) fun a S => ?_
    refine sSkip 13 true 60 62 S rfl rfl rfl rfl rfl (lb rfl) fun a S => ?_
    refine sSkip 13 true 60 63 S rfl rfl rfl rfl rfl (lb rfl) fun a S => ?_
    refine sPickF (.bool false) S (wN rfl) rfl rfl rfl rfl rfl (lb rfl) fun a S => ?_
    refine sMove (.bool false) S (wN rfl) (.inl rfl) rfl rfl (lb rfl) fun a S => ?_
    refine sSkip 18 true 65 66 S rfl rfl rfl rfl rfl (lb rfl) fun a S => ?_
    refine sSkip 18 true 65 67 S rfl rfl rfl rfl rfl (lb rfl) fun a S => ?_
    refine sSkip 18 true 65 68 S rfl rfl rfl rfl rfl (lb rfl) fun a S => ?_
    refine sPickF (.bool false) S (wN rfl) rfl rfl rfl rfl rfl (lb rfl) fun a S => ?_
    refine sMove (.bool false) S (wN rfl) (.inl rfl) rfl rfl (lb rfl) fun a S => ?_
    refine sSkip 23 true 70 71 S rfl rfl rfl rfl rfl (lb rfl) fun a S => ?_
    refine sSkip 23 true 70 72 S rfl rfl rfl rfl rfl (lb rfl) fun a S => ?_
    refine sSkip 23 true 70 73 S rfl rfl rfl rfl rfl (lb rfl) fun a S => ?_
    refine sPickF (.bool false) S (wN rfl) rfl rfl rfl rfl rfl (lb rfl) fun a S => ?_
    refine sMove (.bool false) S (wN rfl) (.inr rfl) rfl rfl (lb rfl) fun a S => ?_
    exact leafL (leafT (⟨false, Option.some.inj h, S.fix [] [] (by decide) rfl rfl rfl⟩))
  refine sMove (.slice ad29 r26.1.length cp30) S (wG 8 true 55 rfl rfl rfl hc55) (.inl rfl) rfl rfl (lb rfl) fun a S => ?_
  refine sMove (.slice ad35 r32.1.length cp36) S (wG 8 true 55 rfl rfl rfl hc55) (.inl rfl) rfl rfl (lb rfl) fun a S => ?_
  obtain ⟨r56, hx57, h⟩ := bindSome h
  have S1 := S.mem
  refine sCallQ (X := Unit) (f := 18) (vs := [.slice ad29 r26.1.length cp30, .slice ad35 r32.1.length cp36]) (val := fun _ => .bool r56) S (wG 8 true 55 rfl rfl rfl hc55) rfl callee18 rfl (S1.quiet [3, 2] rfl) (fun E1 w1 S1 => c_raddleref26_SameInts E1 w1 r26.1 (.slice ad29 r26.1.length cp30) r32.1 (.slice ad35 r32.1.length cp36) r56 hx57 S1) rfl (lb rfl) fun _ a w S => ?_
  refine sPickT (.bool r56) S (wN rfl) rfl rfl hc55 rfl rfl (lb rfl) fun a S => ?_
  refine sMove (.bool r56) S (wN rfl) (.inl rfl) rfl rfl (lb rfl) fun a S => ?_
  rcases iteSome h with ⟨hc58, h⟩ | ⟨hc58, h⟩
  rotate_left
  · refine sSkip 13 true 60 61 S rfl rfl rfl hc58 rfl (lb rfl) fun a S => ?_
    refine sSkip 13 true 60 62 S rfl rfl rfl hc58 rfl (lb rfl) fun a S => ?_
    refine sSkip 13 true 60 63 S rfl rfl rfl hc58 rfl (lb rfl) fun a S => ?_
    refine sPickF (.bool false) S (wN rfl) rfl rfl hc58 rfl rfl (lb rfl) fun a S => ?_
    refine sMove (.bool false) S (wN rfl) (.inl rfl) rfl rfl (lb rfl) fun a S => ?_
    refine sSkip 18 true 65 66 S rfl rfl rfl rfl rfl (lb rfl) fun a S => ?_
    refine sSkip 18 true 65 67 S rfl rfl rfl rfl rfl (lb rfl) fun a S => ?_
    refine sSkip 18 true 65 68 S rfl rfl rfl rfl rfl (lb rfl) fun a S => ?_
    refine sPickF (.bool false) S (wN rfl) rfl rfl rfl rfl rfl (lb rfl) fun a S => ?_
    refine sMove (.bool false) S (wN rfl) (.inl rfl) rfl rfl (lb rfl) fun a S => ?_
    refine sSkip 23 true 70 71 S rfl rfl rfl rfl rfl (lb rfl) fun a S => ?_
    refine sSkip 23 true 70 72 S rfl rfl rfl rfl rfl (lb rfl) fun a S => ?_
    refine sSkip 23 true 70 73 S rfl rfl rfl rfl rfl (lb rfl) fun a S => ?_
    refine sPickF (.bool false) S (wN rfl) rfl rfl rfl rfl rfl (lb rfl) fun a S => ?_
    refine sMove (.bool false) S (wN rfl) (.inr rfl) rfl rfl (lb rfl) fun a S => ?_
    exact leafL (leafT (⟨false, Option.some.inj h, S.fix [] [] (by decide) rfl rfl rfl⟩))
  refine sMove (iv r26.2) S (wG 13 true 60 rfl rfl rfl hc58) (.inl rfl) rfl rfl (lb rfl) fun a S => ?_
  refine sMove (iv r32.2) S (wG 13 true 60 rfl rfl rfl hc58) (.inl rfl) rfl rfl (lb rfl) fun a S => ?_
  refine sBin (.bool (r26.2 == r32.2)) S (wG 13 true 60 rfl rfl rfl hc58) rfl rfl rfl (bEq _ _ _ _ .i64 r26.2 r32.2) rfl (lb rfl) fun a S => ?_
  refine sPickT (.bool (r26.2 == r32.2)) S (wN rfl) rfl rfl hc58 rfl rfl (lb rfl) fun a S => ?_
  refine sMove (.bool (r26.2 == r32.2)) S (wN rfl) (.inl rfl) rfl rfl (lb rfl) fun a S => ?_
  rcases iteSome h with ⟨hc59, h⟩ | ⟨hc59, h⟩
  rotate_left
  · refine sSkip 18 true 65 66 S rfl rfl rfl hc59 rfl (lb rfl) fun a S => ?_
    refine sSkip 18 true 65 67 S rfl rfl rfl hc59 rfl (lb rfl) fun a S => ?_
    refine sSkip 18 true 65 68 S rfl rfl rfl hc59 rfl (lb rfl) fun a S => ?_
    refine sPickF (.bool false) S (wN rfl) rfl rfl hc59 rfl rfl (lb rfl) fun a S => ?_
    refine sMove (.bool false) S (wN rfl) (.inl rfl) rfl rfl (lb rfl) fun a S => ?_
    refine sSkip 23 true 70 71 S rfl rfl rfl rfl rfl (lb rfl) fun a S => ?_
    refine sSkip 23 true 70 72 S rfl rfl rfl rfl rfl (lb rfl) fun a S => ?_
    refine sSkip 23 true 70 73 S rfl rfl rfl rfl rfl (lb rfl) fun a S => ?_
    refine sPickF (.bool false) S (wN rfl) rfl rfl rfl rfl rfl (lb rfl) fun a S => ?_
    refine sMove (.bool false) S (wN rfl) (.inr rfl) rfl rfl (lb rfl) fun a S => ?_
    exact leafL (leafT (⟨false, Option.some.inj h, S.fix [] [] (by decide) rfl rfl rfl⟩))
  refine sMove (.slice ad41 r38.1.length cp42) S (wG 18 true 65 rfl rfl rfl hc59) (.inl rfl) rfl rfl (lb rfl) fun a S => ?_
  refine sMove (.slice ad47 r44.1.length cp48) S (wG 18 true 65 rfl rfl rfl hc59) (.inl rfl) rfl rfl (lb rfl) fun a S => ?_
  obtain ⟨r60, hx61, h⟩ := bindSome h
  have S1 := S.mem
  refine sCallQ (X := Unit) (f := 19) (vs := [.slice ad41 r38.1.length cp42, .slice ad47 r44.1.length cp48]) (val := fun _ => .bool r60) S (wG 18 true 65 rfl rfl rfl hc59) rfl callee19 rfl (S1.quiet [1, 0] rfl) (fun E1 w1 S1 => c_raddleref27_SamePairs E1 w1 r38.1 (.slice ad41 r38.1.length cp42) r44.1 (.slice ad47 r44.1.length cp48) r60 hx61 S1) rfl (lb rfl) fun _ a w S => ?_
  refine sPickT (.bool r60) S (wN rfl) rfl rfl hc59 rfl rfl (lb rfl) fun a S => ?_
  refine sMove (.bool r60) S (wN rfl) (.inl rfl) rfl rfl (lb rfl) fun a S => ?_
  rcases iteSome h with ⟨hc62, h⟩ | ⟨hc62, h⟩
  rotate_left
  · refine sSkip 23 true 70 71 S rfl rfl rfl hc62 rfl (lb rfl) fun a S => ?_
    refine sSkip 23 true 70 72 S rfl rfl rfl hc62 rfl (lb rfl) fun a S => ?_
    refine sSkip 23 true 70 73 S rfl rfl rfl hc62 rfl (lb rfl) fun a S => ?_
    refine sPickF (.bool false) S (wN rfl) rfl rfl hc62 rfl rfl (lb rfl) fun a S => ?_
    refine sMove (.bool false) S (wN rfl) (.inr rfl) rfl rfl (lb rfl) fun a S => ?_
    exact leafL (leafT (⟨false, Option.some.inj h, S.fix [] [] (by decide) rfl rfl rfl⟩))
  refine sMove (iv r38.2) S (wG 23 true 70 rfl rfl rfl hc62) (.inl rfl) rfl rfl (lb rfl) fun a S => ?_
  refine sMove (iv r44.2) S (wG 23 true 70 rfl rfl rfl hc62) (.inl rfl) rfl rfl (lb rfl) fun a S => ?_
  refine sBin (.bool (r38.2 == r44.2)) S (wG 23 true 70 rfl rfl rfl hc62) rfl rfl rfl (bEq _ _ _ _ .i64 r38.2 r44.2) rfl (lb rfl) fun a S => ?_
  refine sPickT (.bool (r38.2 == r44.2)) S (wN rfl) rfl rfl hc62 rfl rfl (lb rfl) fun a S => ?_
  refine sMove (.bool (r38.2 == r44.2)) S (wN rfl) (.inr rfl) rfl rfl (lb rfl) fun a S => ?_
  exact leafL (leafT (⟨r38.2 == r44.2, Option.some.inj h, S.fix [] [] (by decide) rfl rfl rfl⟩))

end Go.Proofs.Yticjoiolfibmlaa
