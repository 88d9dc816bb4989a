/- Plain laws, more: loops that search, that gather, that fold; steps that simp may take with omega behind it. -/
import Derived.Test.YtdbgkakmhlmpbaaPlA
namespace Go.Proofs.Ytdbgkakmhlmpbaa
open Go.RowKit
set_option linter.unusedVariables false

theorem loop_fr {σ τ : Type} {B : σ × Int → Option ((σ × Int) ⊕ τ)} (a n : Nat) (ha : a ≤ n) (I : Nat → σ → Prop) (Pt : τ → Prop) {s0 : σ} (h0 : I a s0)
    (step : ∀ k s, a ≤ k → k < n → I k s → (∃ s', B (s, (k : Int)) = some (.inl (s', ((k + 1 : Nat) : Int))) ∧ I (k + 1) s') ∨ (∃ t, B (s, (k : Int)) = some (.inr t) ∧ Pt t))
    (last : ∀ s, I n s → ∃ t, B (s, (n : Int)) = some (.inr t) ∧ Pt t) : ∃ t, whileO B (s0, (a : Int)) = some t ∧ Pt t := by
  refine whileO_inv (fun s => ∃ k : Nat, a ≤ k ∧ k ≤ n ∧ s.2 = (k : Int) ∧ I k s.1) (fun s => ((n : Int) - s.2).toNat) Pt ⟨a, Nat.le_refl _, ha, rfl, h0⟩ ?_
  rintro ⟨s, i⟩ ⟨k, hak, hk, rfl, hI⟩
  by_cases hlt : k < n
  · rcases step k s hak hlt hI with ⟨s', h1, h2⟩ | h
    · exact .inl ⟨_, h1, ⟨k + 1, by omega, hlt, rfl, h2⟩, by simp; omega⟩
    · exact .inr h
  · obtain rfl : k = n := by omega
    exact .inr (last s hI)
/-- a loop that leaves at the first index where f answers -/
theorem loop_find {τ : Type} {B : Int → Option (Int ⊕ τ)} (n : Nat) (f : Nat → Option τ) (good : τ)
    (h : ∀ k, k < n → B (k : Int) = some (match f k with | none => .inl ((k + 1 : Nat) : Int) | some t => .inr t)) (hn : B (n : Int) = some (.inr good)) :
    whileO B 0 = some (((List.range n).findSome? f).getD good) := by
  have key : ∃ t, whileO B 0 = some t ∧ t = ((List.range n).findSome? f).getD good := by
    refine loop_ix n (fun k => (List.range k).findSome? f = none) _ rfl ?_ ?_
    · intro k hk hI
      cases hf : f k with
      | none =>
        refine .inl ⟨by rw [h k hk, hf], ?_⟩
        rw [List.range_succ, List.findSome?_append, hI]
        simp [hf]
      | some t =>
        refine .inr ⟨t, by rw [h k hk, hf], ?_⟩
        have e : List.range n = List.range (k + 1) ++ (List.range (n - (k + 1))).map (k + 1 + ·) := by
          rw [← List.range_add]; congr 1; omega
        rw [e, List.findSome?_append, List.range_succ, List.findSome?_append, hI]
        simp [hf]
    · intro hI
      exact ⟨good, hn, by rw [hI]; rfl⟩
  obtain ⟨t, h1, rfl⟩ := key
  exact h1
/-- a loop that tests all, and says bad at the first that fails -/
theorem loop_all {τ : Type} {B : Int → Option (Int ⊕ τ)} (n : Nat) (p : Nat → Bool) (good bad : τ)
    (h : ∀ k, k < n → B (k : Int) = some (if p k = true then .inl ((k + 1 : Nat) : Int) else .inr bad)) (hn : B (n : Int) = some (.inr good)) :
    whileO B 0 = some (if (List.range n).all p = true then good else bad) := by
  have key : ∃ t, whileO B 0 = some t ∧ t = if (List.range n).all p = true then good else bad := by
    refine loop_ix n (fun k => ∀ j, j < k → p j = true) _ (fun j h => absurd h (Nat.not_lt_zero j)) ?_ ?_
    · intro k hk hI
      cases hf : p k with
      | true =>
        refine .inl ⟨by rw [h k hk, if_pos hf], fun j hj => ?_⟩
        by_cases e : j = k
        · rw [e]; exact hf
        · exact hI j (by omega)
      | false =>
        refine .inr ⟨bad, by rw [h k hk, hf]; simp, ?_⟩
        rw [if_neg]
        intro hc
        rw [List.all_eq_true] at hc
        have := hc k (List.mem_range.2 hk)
        rw [hf] at this; cases this
    · intro hI
      refine ⟨good, hn, ?_⟩
      rw [if_pos]
      rw [List.all_eq_true]
      exact fun j hj => hI j (List.mem_range.1 hj)
  obtain ⟨t, h1, rfl⟩ := key
  exact h1
/-- a loop that folds -/
theorem loop_fold {σ τ : Type} {B : σ × Int → Option ((σ × Int) ⊕ τ)} (n : Nat) (f : σ → Nat → σ) (s0 : σ) {t : τ}
    (h : ∀ k s, k < n → s = (List.range k).foldl f s0 → B (s, (k : Int)) = some (.inl (f s k, ((k + 1 : Nat) : Int))))
    (hn : B ((List.range n).foldl f s0, (n : Int)) = some (.inr t)) : whileO B (s0, 0) = some t := by
  have key : ∃ u, whileO B (s0, 0) = some u ∧ u = t := by
    refine loop_st n (fun k s => s = (List.range k).foldl f s0) _ rfl ?_ ?_
    · rintro k s hk hI
      refine .inl ⟨_, h k s hk hI, ?_⟩
      rw [List.range_succ, List.foldl_append, ← hI]; rfl
    · rintro s rfl
      exact ⟨t, hn, rfl⟩
  obtain ⟨u, h1, rfl⟩ := key
  exact h1
/-- a loop that gathers -/
theorem loop_map {α τ : Type} {B : List α × Int → Option ((List α × Int) ⊕ τ)} (n : Nat) (f : Nat → α) {t : τ}
    (h : ∀ k s, k < n → s = (List.range k).map f → B (s, (k : Int)) = some (.inl (s ++ [f k], ((k + 1 : Nat) : Int))))
    (hn : B ((List.range n).map f, (n : Int)) = some (.inr t)) : whileO B ([], 0) = some t := by
  have key : ∃ u, whileO B ([], 0) = some u ∧ u = t := by
    refine loop_st n (fun k s => s = (List.range k).map f) _ rfl ?_ ?_
    · rintro k s hk hI
      refine .inl ⟨_, h k s hk hI, ?_⟩
      rw [List.range_succ, List.map_append, ← hI]; rfl
    · rintro s rfl
      exact ⟨t, hn, rfl⟩
  obtain ⟨u, h1, rfl⟩ := key
  exact h1
theorem all_cong {n : Nat} {p q : Nat → Bool} (h : ∀ k, k < n → p k = q k) : (List.range n).all p = (List.range n).all q := by
  have : ∀ m, m ≤ n → (List.range m).all p = (List.range m).all q := by
    intro m
    induction m with
    | zero => intro _; rfl
    | succ m ih => intro hm; rw [List.range_succ, List.all_append, List.all_append, ih (by omega)]; simp [h m (by omega)]
  exact this n (Nat.le_refl _)
theorem map_cong {α : Type} {n : Nat} {f g : Nat → α} (h : ∀ k, k < n → f k = g k) : (List.range n).map f = (List.range n).map g :=
  List.map_congr_left fun k hk => h k (List.mem_range.1 hk)
/-- an element, wherever the index lies -/
theorem idxO_get {α : Type} {xs : List α} {i : Int} (h0 : 0 ≤ i) (h1 : i < (xs.length : Int)) : idxO xs i = some (xs[i.toNat]'(by omega)) := by
  have : i.toNat < xs.length := by omega
  simp [idxO, h0, this]
theorem dT {p : Prop} [Decidable p] (h : p) : decide p = true := decide_eq_true h
theorem dF {p : Prop} [Decidable p] (h : ¬ p) : decide p = false := decide_eq_false h
theorem bT {a b : Int} (h : a = b) : (a == b) = true := by simp [h]
theorem bF {a b : Int} (h : ¬ a = b) : (a == b) = false := by simp [h]
theorem nT {a b : Int} (h : ¬ a = b) : (a != b) = true := by simp [h]
theorem nF {a b : Int} (h : a = b) : (a != b) = false := by simp [h]
/-- a loop whose index comes first in its state -/
theorem loop_ts {σ τ : Type} {B : Int × σ → Option ((Int × σ) ⊕ τ)} (n : Nat) (I : Nat → σ → Prop) (Pt : τ → Prop) {s0 : σ} (h0 : I 0 s0)
    (step : ∀ k s, k < n → I k s → (∃ s', B ((k : Int), s) = some (.inl (((k + 1 : Nat) : Int), s')) ∧ I (k + 1) s') ∨ (∃ t, B ((k : Int), s) = some (.inr t) ∧ Pt t))
    (last : ∀ s, I n s → ∃ t, B ((n : Int), s) = some (.inr t) ∧ Pt t) : ∃ t, whileO B (0, s0) = some t ∧ Pt t := by
  refine whileO_inv (fun s => ∃ k : Nat, k ≤ n ∧ s.1 = (k : Int) ∧ I k s.2) (fun s => ((n : Int) - s.1).toNat) Pt ⟨0, Nat.zero_le _, rfl, h0⟩ ?_
  rintro ⟨i, s⟩ ⟨k, hk, rfl, hI⟩
  by_cases hlt : k < n
  · rcases step k s hlt hI with ⟨s', h1, h2⟩ | h
    · exact .inl ⟨_, h1, ⟨k + 1, hlt, rfl, h2⟩, by simp; omega⟩
    · exact .inr h
  · obtain rfl : k = n := by omega
    exact .inr (last s hI)
/-- a row filled from its start on -/
def Fill {α : Type} (n : Nat) (f : Nat → α) (k : Nat) (s : List α) : Prop := s.length = n ∧ ∀ j, j < k → s[j]? = some (f j)
theorem Fill.zero {α : Type} (n : Nat) (f : Nat → α) (z : α) : Fill n f 0 (List.replicate n z) := ⟨by simp, fun j hj => absurd hj (Nat.not_lt_zero j)⟩
theorem Fill.set {α : Type} {n : Nat} {f : Nat → α} {k : Nat} {s : List α} (h : Fill n f k s) (hk : k < n) : Fill n f (k + 1) (s.set k (f k)) := by
  refine ⟨by simp [h.1], fun j hj => ?_⟩
  by_cases e : j = k
  · subst e; simp [h.1, hk]
  · rw [List.getElem?_set_ne (fun h => e h.symm)]; exact h.2 j (by omega)
theorem Fill.all {α : Type} {n : Nat} {f : Nat → α} {s : List α} (h : Fill n f n s) : s = (List.range n).map f := by
  apply List.ext_getElem?
  intro j
  by_cases hj : j < n
  · rw [h.2 j hj]; simp [hj]
  · rw [List.getElem?_eq_none (by rw [h.1]; omega), List.getElem?_eq_none (by simp; omega)]
theorem loop_set {α τ : Type} {B : List α × Int → Option ((List α × Int) ⊕ τ)} (n : Nat) (f : Nat → α) (z : α) {t : τ}
    (h : ∀ k s, k < n → s.length = n → B (s, (k : Int)) = some (.inl (s.set k (f k), ((k + 1 : Nat) : Int))))
    (hn : B ((List.range n).map f, (n : Int)) = some (.inr t)) : whileO B (List.replicate n z, 0) = some t := by
  have key : ∃ u, whileO B (List.replicate n z, 0) = some u ∧ u = t := by
    refine loop_st n (fun k s => Fill n f k s) _ (Fill.zero n f z) ?_ ?_
    · intro k s hk hI
      exact .inl ⟨_, h k s hk hI.1, hI.set hk⟩
    · intro s hs
      rw [hs.all]
      exact ⟨t, hn, rfl⟩
  obtain ⟨u, h1, rfl⟩ := key
  exact h1
theorem idxO_D {α : Type} {xs : List α} {k : Nat} (d : α) (h : k < xs.length) : idxO xs (k : Int) = some (xs.getD k d) := by
  rw [idxO_nat h]; simp [h]
theorem mul_bd {u v a b : Int} (u0 : 0 ≤ u) (u1 : u ≤ a) (v0 : 0 ≤ v) (v1 : v ≤ b) : 0 ≤ u * v ∧ u * v ≤ a * b :=
  ⟨Int.mul_nonneg u0 v0, Int.mul_le_mul u1 v1 v0 (by omega)⟩
theorem sliceO_all {α : Type} {xs : List α} {k : Nat} (h : k ≤ xs.length) : sliceO xs (k : Int) (xs.length : Int) = some (xs.drop k) := by
  rw [sliceO_of (l := k) (k := xs.length) rfl rfl h (Nat.le_refl _), List.take_length]
theorem getD_drop {α : Type} (xs : List α) (n k : Nat) (d : α) : (xs.drop n).getD k d = xs.getD (k + n) d := by
  simp [List.getD_eq_getElem?_getD, List.getElem?_drop, Nat.add_comm]

end Go.Proofs.Ytdbgkakmhlmpbaa
