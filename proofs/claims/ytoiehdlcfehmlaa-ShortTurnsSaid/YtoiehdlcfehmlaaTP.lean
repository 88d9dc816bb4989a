/- Lists of numbers as plain data: when two are the same, and what Check says. -/
import Derived.Test.YtoiehdlcfehmlaaKit
namespace Go.Proofs.Ytoiehdlcfehmlaa
open Go.RowKit
set_option linter.unusedVariables false

def sameInts (xs ys : List Int) : Bool := decide (xs = ys)
theorem sameInts_ne {xs ys : List Int} {k : Nat} (h : ¬ gI xs k = gI ys k) : sameInts xs ys = false := by
  simp only [sameInts, decide_eq_false_iff_not]
  rintro rfl
  simp at h
theorem sameInts_len {xs ys : List Int} (h : xs.length ≠ ys.length) : sameInts xs ys = false := by
  simp only [sameInts, decide_eq_false_iff_not]
  rintro rfl
  simp at h
theorem sameInts_all {xs ys : List Int} (hl : xs.length = ys.length) (h : ∀ k, k < xs.length → gI xs k = gI ys k) : sameInts xs ys = true := by
  simp only [sameInts, decide_eq_true_eq]
  exact ext_gI hl h

/-- the error of a list -/
def listErr (xs : List Int) : Int := if 400 < xs.length then 4 else if ∃ k, k < xs.length ∧ (gI xs k < 0 ∨ 400 ≤ gI xs k) then 8 else 0
theorem listErr_many {xs : List Int} (h : 400 < xs.length) : listErr xs = 4 := by simp [listErr, h]
theorem listErr_bad {xs : List Int} {k : Nat} (h : xs.length ≤ 400) (hk : k < xs.length) (hb : gI xs k < 0 ∨ 400 ≤ gI xs k) : listErr xs = 8 := by
  have h' : ¬ 400 < xs.length := by omega
  simp only [listErr, h', if_false]
  rw [if_pos ⟨k, hk, hb⟩]
theorem listErr_ok {xs : List Int} (h : xs.length ≤ 400) (hb : ∀ k, k < xs.length → 0 ≤ gI xs k ∧ gI xs k < 400) : listErr xs = 0 := by
  have h' : ¬ 400 < xs.length := by omega
  simp only [listErr, h', if_false]
  rw [if_neg]
  rintro ⟨k, hk, hc⟩
  have := hb k hk
  omega
theorem listErr_zero {xs : List Int} (h : listErr xs = 0) : xs.length ≤ 400 ∧ ∀ k, k < xs.length → 0 ≤ gI xs k ∧ gI xs k < 400 := by
  unfold listErr at h
  split at h
  · simp at h
  · split at h
    · simp at h
    · rename_i h1 h2
      refine ⟨by omega, fun k hk => ?_⟩
      by_cases hc : gI xs k < 0 ∨ 400 ≤ gI xs k
      · exact absurd ⟨k, hk, hc⟩ h2
      · omega

/-- the first of some errors -/
def firstErr (e : Nat → Int) : Nat → Int
  | 0 => 0
  | m + 1 => if firstErr e m = 0 then e m else firstErr e m
theorem firstErr_zero {e : Nat → Int} : ∀ {m : Nat}, (∀ i, i < m → e i = 0) → firstErr e m = 0
  | 0, _ => rfl
  | m + 1, h => by
    have := firstErr_zero (m := m) fun i hi => h i (by omega)
    simp [firstErr, this, h m (by omega)]
theorem firstErr_at {e : Nat → Int} {k : Nat} (h0 : ∀ i, i < k → e i = 0) (hk : ¬ e k = 0) : ∀ {m : Nat}, k < m → firstErr e m = e k
  | 0, h => by omega
  | m + 1, h => by
    by_cases hm : k = m
    · subst hm
      simp [firstErr, firstErr_zero h0]
    · have := firstErr_at h0 hk (m := m) (by omega)
      simp [firstErr, this, hk]

end Go.Proofs.Ytoiehdlcfehmlaa
