/- Short rows as plain data: heights, turns of a rise, turns of heights. -/
import Derived.Test.YtoiehdlcfehmlaaTP
namespace Go.Proofs.Ytoiehdlcfehmlaa
open Go.RowKit
set_option linter.unusedVariables false

theorem gI_range {n : Nat} {f : Nat → Int} {k : Nat} (h : k < n) : gI ((List.range n).map f) k = f k := by simp [gI, h]
/-- the error of turns -/
def shErr (n : Int) (ts : List Int) : Int := if n < 1 ∨ 200 < n then 2 else if 50 < ts.length then 4 else if ∃ k, k < ts.length ∧ (gI ts k < 1 ∨ n < gI ts k) then 2 else 0
theorem shErr_n {n : Int} {ts : List Int} (h : n < 1 ∨ 200 < n) : shErr n ts = 2 := by simp [shErr, h]
theorem shErr_many {n : Int} {ts : List Int} (h : ¬ (n < 1 ∨ 200 < n)) (h2 : 50 < ts.length) : shErr n ts = 4 := by simp [shErr, h, h2]
theorem shErr_bad {n : Int} {ts : List Int} {k : Nat} (h : ¬ (n < 1 ∨ 200 < n)) (h2 : ¬ 50 < ts.length) (hk : k < ts.length) (hb : gI ts k < 1 ∨ n < gI ts k) : shErr n ts = 2 := by
  unfold shErr
  rw [if_neg h, if_neg h2, if_pos ⟨k, hk, hb⟩]
theorem shErr_ok {n : Int} {ts : List Int} (h : ¬ (n < 1 ∨ 200 < n)) (h2 : ¬ 50 < ts.length) (hb : ∀ k, k < ts.length → 1 ≤ gI ts k ∧ gI ts k ≤ n) : shErr n ts = 0 := by
  unfold shErr
  rw [if_neg h, if_neg h2, if_neg]
  rintro ⟨k, hk, hc⟩
  have := hb k hk
  omega
theorem shErr_zero {n : Int} {ts : List Int} (h : shErr n ts = 0) : 1 ≤ n ∧ n ≤ 200 ∧ ts.length ≤ 50 ∧ ∀ k, k < ts.length → 1 ≤ gI ts k ∧ gI ts k ≤ n := by
  unfold shErr at h
  by_cases h1 : n < 1 ∨ 200 < n
  · rw [if_pos h1] at h; cases h
  rw [if_neg h1] at h
  by_cases h2 : 50 < ts.length
  · rw [if_pos h2] at h; cases h
  rw [if_neg h2] at h
  by_cases h3 : ∃ k, k < ts.length ∧ (gI ts k < 1 ∨ n < gI ts k)
  · rw [if_pos h3] at h; cases h
  refine ⟨by omega, by omega, by omega, fun k hk => ?_⟩
  by_cases hc : gI ts k < 1 ∨ n < gI ts k
  · exact absurd ⟨k, hk, hc⟩ h3
  · omega

/-- how many of the first m are greater than k -/
def cntG (ts : List Int) (k : Int) : Nat → Nat
  | 0 => 0
  | m + 1 => if k < gI ts m then cntG ts k m + 1 else cntG ts k m
/-- how many of the first m are v -/
def cntE (ts : List Int) (v : Int) : Nat → Nat
  | 0 => 0
  | m + 1 => if gI ts m = v then cntE ts v m + 1 else cntE ts v m
theorem cntG_le (ts : List Int) (k : Int) : ∀ m, cntG ts k m ≤ m
  | 0 => Nat.le_refl _
  | m + 1 => by have := cntG_le ts k m; simp only [cntG]; split <;> omega
theorem cntE_le (ts : List Int) (k : Int) : ∀ m, cntE ts k m ≤ m
  | 0 => Nat.le_refl _
  | m + 1 => by have := cntE_le ts k m; simp only [cntE]; split <;> omega
theorem cntG_yes {ts : List Int} {k : Int} {m : Nat} (h : k < gI ts m) : cntG ts k (m + 1) = cntG ts k m + 1 := by simp [cntG, h]
theorem cntG_no {ts : List Int} {k : Int} {m : Nat} (h : ¬ k < gI ts m) : cntG ts k (m + 1) = cntG ts k m := by simp [cntG, h]
theorem cntE_yes {ts : List Int} {k : Int} {m : Nat} (h : gI ts m = k) : cntE ts k (m + 1) = cntE ts k m + 1 := by simp [cntE, h]
theorem cntE_no {ts : List Int} {k : Int} {m : Nat} (h : ¬ gI ts m = k) : cntE ts k (m + 1) = cntE ts k m := by simp [cntE, h]
theorem cntG_split (ts : List Int) (k : Int) : ∀ m, cntG ts k m = cntE ts (k + 1) m + cntG ts (k + 1) m
  | 0 => rfl
  | m + 1 => by
    have ih := cntG_split ts k m
    simp only [cntG, cntE]
    by_cases h1 : gI ts m = k + 1
    · rw [if_pos (by omega), if_pos h1, if_neg (by omega)]; omega
    · by_cases h2 : k < gI ts m
      · rw [if_pos h2, if_neg h1, if_pos (by omega)]; omega
      · rw [if_neg h2, if_neg h1, if_neg (by omega)]; omega
theorem cntG_top {ts : List Int} {n : Int} : ∀ {m : Nat}, (∀ k, k < m → gI ts k ≤ n) → cntG ts n m = 0
  | 0, _ => rfl
  | m + 1, h => by
    have h1 := h m (by omega)
    rw [cntG_no (by omega)]
    exact cntG_top fun k hk => h k (by omega)

/-- the heights of n stitches -/
def heightsL (n : Nat) (ts : List Int) : List Int := (List.range n).map fun (k : Nat) => (cntG ts (k : Int) ts.length : Int)
theorem heightsL_length (n : Nat) (ts : List Int) : (heightsL n ts).length = n := by simp [heightsL]
theorem heightsL_get {n : Nat} {ts : List Int} {k : Nat} (h : k < n) : gI (heightsL n ts) k = (cntG ts (k : Int) ts.length : Int) := gI_range h

/-- twice the sum of the first m -/
def twoSum (ts : List Int) : Nat → Int
  | 0 => 0
  | m + 1 => twoSum ts m + 2 * gI ts m
theorem twoSum_bd {ts : List Int} {n : Int} : ∀ {m : Nat}, (∀ k, k < m → 1 ≤ gI ts k ∧ gI ts k ≤ 200) → 0 ≤ twoSum ts m ∧ twoSum ts m ≤ 400 * m
  | 0, _ => by simp [twoSum]
  | m + 1, h => by
    have h1 := h m (by omega)
    have := twoSum_bd (n := n) (m := m) fun k hk => h k (by omega)
    simp only [twoSum]
    omega

/-- the turns of a rise -/
def turnAt (n rise : Int) (i : Nat) : Int := (n * (2 * (rise - i) - 1) + rise) / (2 * rise)
def turnsL (n rise : Int) : List Int := (List.range rise.toNat).map fun i => turnAt n rise i
theorem turnsL_length (n rise : Int) : (turnsL n rise).length = rise.toNat := by simp [turnsL]
theorem turnsL_get {n rise : Int} {k : Nat} (h : k < rise.toNat) : gI (turnsL n rise) k = turnAt n rise k := gI_range h
def turnsErr (n rise : Int) : Int := if (n < 1 ∨ 200 < n) ∨ (rise < 0 ∨ n < rise ∨ 50 < rise) then 2 else 0

/-- the error of heights -/
def fitErr (hs : List Int) : Int := if 200 < hs.length then 4 else if hs.length = 0 then 2 else if ∃ k, k < hs.length ∧ (gI hs k < 0 ∨ 50 < gI hs k ∨ (0 < k ∧ gI hs (k - 1) < gI hs k)) then 2 else 0
theorem fitErr_many {hs : List Int} (h : 200 < hs.length) : fitErr hs = 4 := by simp [fitErr, h]
theorem fitErr_none {hs : List Int} (h : hs.length = 0) : fitErr hs = 2 := by simp [fitErr, h]
theorem fitErr_bad {hs : List Int} {k : Nat} (h : ¬ 200 < hs.length) (h0 : ¬ hs.length = 0) (hk : k < hs.length) (hb : gI hs k < 0 ∨ 50 < gI hs k ∨ (0 < k ∧ gI hs (k - 1) < gI hs k)) : fitErr hs = 2 := by
  unfold fitErr
  rw [if_neg h, if_neg h0, if_pos ⟨k, hk, hb⟩]
theorem fitErr_ok {hs : List Int} (h : ¬ 200 < hs.length) (h0 : ¬ hs.length = 0) (hb : ∀ k, k < hs.length → 0 ≤ gI hs k ∧ gI hs k ≤ 50 ∧ (k = 0 ∨ gI hs k ≤ gI hs (k - 1))) : fitErr hs = 0 := by
  unfold fitErr
  rw [if_neg h, if_neg h0, if_neg]
  rintro ⟨k, hk, hc⟩
  have := hb k hk
  omega
/-- how many of the first m are at least v -/
def cntGe (hs : List Int) (v : Int) : Nat → Nat
  | 0 => 0
  | m + 1 => if v ≤ gI hs m then cntGe hs v m + 1 else cntGe hs v m
theorem cntGe_le (ts : List Int) (k : Int) : ∀ m, cntGe ts k m ≤ m
  | 0 => Nat.le_refl _
  | m + 1 => by have := cntGe_le ts k m; simp only [cntGe]; split <;> omega
theorem cntGe_yes {ts : List Int} {k : Int} {m : Nat} (h : k ≤ gI ts m) : cntGe ts k (m + 1) = cntGe ts k m + 1 := by simp [cntGe, h]
theorem cntGe_no {ts : List Int} {k : Int} {m : Nat} (h : ¬ k ≤ gI ts m) : cntGe ts k (m + 1) = cntGe ts k m := by simp [cntGe, h]
theorem cntGe_all {hs : List Int} {v : Int} : ∀ {m : Nat}, (∀ k, k < m → v ≤ gI hs k) → cntGe hs v m = m
  | 0, _ => rfl
  | m + 1, h => by rw [cntGe_yes (h m (by omega)), cntGe_all fun k hk => h k (by omega)]
theorem cntGe_eq {hs : List Int} {v : Int} {p : Nat} (h1 : ∀ k, k < p → v ≤ gI hs k) : ∀ {m : Nat}, p ≤ m → (∀ k, p ≤ k → k < m → gI hs k < v) → cntGe hs v m = p
  | 0, h, _ => by
    obtain rfl : p = 0 := by omega
    rfl
  | m + 1, h, h2 => by
    by_cases e : p = m + 1
    · rw [e] at h1 ⊢; exact cntGe_all h1
    · rw [cntGe_no (by have := h2 m (by omega) (by omega); omega)]
      exact cntGe_eq h1 (by omega) fun k hk hk2 => h2 k hk (by omega)
/-- what falls, falls all the way -/
theorem falls {hs : List Int} {n : Nat} (h : ∀ k, k < n → (k = 0 ∨ gI hs k ≤ gI hs (k - 1))) : ∀ (j i : Nat), i ≤ j → j < n → gI hs j ≤ gI hs i
  | 0, i, h1, _ => by
    obtain rfl : i = 0 := by omega
    exact Int.le_refl _
  | j + 1, i, h1, h2 => by
    by_cases e : i = j + 1
    · subst e; exact Int.le_refl _
    · have h3 := falls h j i (by omega) (by omega)
      have h4 := h (j + 1) h2
      simp at h4
      omega
def fitL (hs : List Int) : List Int := (List.range (gI hs 0).toNat).map fun (i : Nat) => (cntGe hs ((i : Int) + 1) hs.length : Int)
theorem fitL_length (hs : List Int) : (fitL hs).length = (gI hs 0).toNat := by simp [fitL]
theorem fitL_get {hs : List Int} {k : Nat} (h : k < (gI hs 0).toNat) : gI (fitL hs) k = (cntGe hs ((k : Int) + 1) hs.length : Int) := gI_range h

end Go.Proofs.Ytoiehdlcfehmlaa
