/- The changed grid of a grouping, as plain data. -/
import Derived.Test.YtapohhkdpkapoaaGP
import Derived.Test.YtapohhkdpkapoaaTP
import Derived.Test.YtapohhkdpkapoaaOwn
namespace Go.Proofs.Ytapohhkdpkapoaa
open Go.RowKit
set_option linter.unusedVariables false

/-- of the first k ends, those of x's group that are up in pick y -/
def upN (bs : List Bool) (ls : List Int) (W x y : Nat) : Nat → Nat
  | 0 => 0
  | k + 1 => if gI ls k = gI ls x ∧ gB bs (y * W + k) = true then upN bs ls W x y k + 1 else upN bs ls W x y k
/-- .. that are down -/
def dnN (bs : List Bool) (ls : List Int) (W x y : Nat) : Nat → Nat
  | 0 => 0
  | k + 1 => if gI ls k = gI ls x ∧ gB bs (y * W + k) = false then dnN bs ls W x y k + 1 else dnN bs ls W x y k
theorem upN_le (bs : List Bool) (ls : List Int) (W x y : Nat) : ∀ k, upN bs ls W x y k ≤ k
  | 0 => Nat.le_refl _
  | k + 1 => by have := upN_le bs ls W x y k; simp only [upN]; split <;> omega
theorem dnN_le (bs : List Bool) (ls : List Int) (W x y : Nat) : ∀ k, dnN bs ls W x y k ≤ k
  | 0 => Nat.le_refl _
  | k + 1 => by have := dnN_le bs ls W x y k; simp only [dnN]; split <;> omega
theorem ud_up {bs : List Bool} {ls : List Int} {W x y k : Nat} (h : gI ls k = gI ls x) (hb : gB bs (y * W + k) = true) :
    upN bs ls W x y (k + 1) = upN bs ls W x y k + 1 ∧ dnN bs ls W x y (k + 1) = dnN bs ls W x y k := by simp [upN, dnN, h, hb]
theorem ud_dn {bs : List Bool} {ls : List Int} {W x y k : Nat} (h : gI ls k = gI ls x) (hb : gB bs (y * W + k) = false) :
    upN bs ls W x y (k + 1) = upN bs ls W x y k ∧ dnN bs ls W x y (k + 1) = dnN bs ls W x y k + 1 := by simp [upN, dnN, h, hb]
theorem ud_ne {bs : List Bool} {ls : List Int} {W x y k : Nat} (h : ¬ gI ls k = gI ls x) :
    upN bs ls W x y (k + 1) = upN bs ls W x y k ∧ dnN bs ls W x y (k + 1) = dnN bs ls W x y k := by simp [upN, dnN, h]

/-- cell i of the changed grid -/
def cBit (bs : List Bool) (ls : List Int) (W i : Nat) : Bool := decide (dnN bs ls W (i % W) (i / W) W < upN bs ls W (i % W) (i / W) W)
def changedL (bs : List Bool) (ls : List Int) (W : Nat) : List Bool := (List.range bs.length).map (cBit bs ls W)
theorem changedL_length (bs : List Bool) (ls : List Int) (W : Nat) : (changedL bs ls W).length = bs.length := by simp [changedL]
theorem changedL_get {bs : List Bool} {ls : List Int} {W i : Nat} (h : i < bs.length) : gB (changedL bs ls W) i = cBit bs ls W i := by simp [changedL, gB, h]

/-- the cells when the columns before X are done, and Y cells of column X -/
def chF (bs : List Bool) (ls : List Int) (W X Y : Nat) (i : Nat) : Value := .bool (if i % W < X ∨ (i % W = X ∧ i / W < Y) then cBit bs ls W i else false)
theorem divmod_of {W x y i : Nat} (hx : x < W) : (i % W = x ∧ i / W = y) ↔ i = y * W + x := by
  constructor
  · rintro ⟨h1, h2⟩
    have := Nat.div_add_mod i W
    rw [h1, h2, Nat.mul_comm] at this
    exact this.symm
  · rintro rfl
    constructor
    · rw [Nat.mul_comm, Nat.mul_add_mod]; exact Nat.mod_eq_of_lt hx
    · rw [Nat.mul_comm, Nat.mul_add_div (by omega), Nat.div_eq_of_lt hx]; rfl
theorem cBit_at {bs : List Bool} {ls : List Int} {W x y : Nat} (hx : x < W) : cBit bs ls W (y * W + x) = decide (dnN bs ls W x y W < upN bs ls W x y W) := by
  obtain ⟨h1, h2⟩ := (divmod_of (i := y * W + x) (y := y) hx).2 rfl
  unfold cBit
  rw [h1, h2]
theorem chF_step {bs : List Bool} {ls : List Int} {W x y : Nat} (hx : x < W) (i : Nat) :
    (if i = y * W + x then Value.bool (decide (dnN bs ls W x y W < upN bs ls W x y W)) else chF bs ls W x y i) = chF bs ls W x (y + 1) i := by
  by_cases h : i = y * W + x
  · obtain ⟨h1, h2⟩ := (divmod_of (i := i) (y := y) hx).2 h
    rw [if_pos h]
    unfold chF
    rw [if_pos (.inr ⟨h1, by omega⟩), ← cBit_at hx, h]
  · rw [if_neg h]
    unfold chF
    by_cases hc : i % W < x ∨ i % W = x ∧ i / W < y
    · rw [if_pos hc, if_pos (by omega)]
    · have : ¬ (i % W = x ∧ i / W = y) := fun e => h ((divmod_of hx).1 e)
      rw [if_neg hc, if_neg (by omega)]
theorem chF_col {bs : List Bool} {ls : List Int} {W H x : Nat} {i : Nat} (hi : i < W * H) : chF bs ls W x H i = chF bs ls W (x + 1) 0 i := by
  have hd : i / W < H := Nat.div_lt_of_lt_mul hi
  unfold chF
  generalize i / W = q at *
  generalize i % W = r at *
  by_cases hc : r < x ∨ r = x ∧ q < H
  · rw [if_pos hc, if_pos (by omega)]
  · rw [if_neg hc, if_neg (by omega)]
theorem chF_start (bs : List Bool) (ls : List Int) (W n i : Nat) : fB (List.replicate n false) i = chF bs ls W 0 0 i := by
  unfold chF fB gB
  rw [if_neg (by rintro (h | ⟨_, h⟩) <;> exact Nat.not_lt_zero _ h)]
  by_cases h : i < n <;> simp [h]
theorem chF_end {bs : List Bool} {ls : List Int} {W i : Nat} (hW : 0 < W) (hi : i < bs.length) : chF bs ls W W 0 i = fB (changedL bs ls W) i := by
  have := Nat.mod_lt i hW
  unfold chF fB
  rw [if_pos (.inl this), changedL_get hi]
theorem idx_nat (y W x : Nat) : ((y : Int) * (W : Int) + (x : Int)).toNat = y * W + x := by
  rw [← Int.natCast_mul, ← Int.natCast_add, Int.toNat_natCast]
theorem idx_lt {x y W H : Nat} (hx : x < W) (hy : y < H) : y * W + x < W * H := by
  have : (y + 1) * W ≤ H * W := Nat.mul_le_mul_right W hy
  rw [Nat.add_mul] at this
  rw [Nat.mul_comm W H]
  omega

end Go.Proofs.Ytapohhkdpkapoaa
