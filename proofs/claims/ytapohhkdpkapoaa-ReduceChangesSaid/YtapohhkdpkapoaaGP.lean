/- Grids as plain data: when two are the same, and what Check says. -/
import Derived.Test.YtapohhkdpkapoaaKit
namespace Go.Proofs.Ytapohhkdpkapoaa
open Go.RowKit
set_option linter.unusedVariables false

def sameBits (xs ys : List Bool) : Bool := decide (xs = ys)
theorem sameBits_ne {xs ys : List Bool} {k : Nat} (h : (gB xs k != gB ys k) = true) : sameBits xs ys = false := by
  simp only [sameBits, decide_eq_false_iff_not]
  rintro rfl
  simp at h
theorem sameBits_len {xs ys : List Bool} (h : xs.length ≠ ys.length) : sameBits xs ys = false := by
  simp only [sameBits, decide_eq_false_iff_not]
  rintro rfl
  simp at h
theorem sameBits_all {xs ys : List Bool} (hl : xs.length = ys.length) (h : ∀ k, k < xs.length → gB xs k = gB ys k) : sameBits xs ys = true := by
  simp only [sameBits, decide_eq_true_eq]
  exact ext_gB hl h

def gridEq (W H : Int) (xs : List Bool) (V I : Int) (ys : List Bool) : Bool := decide (W = V) && decide (H = I) && sameBits xs ys
theorem gridEq_no {W H : Int} {xs : List Bool} {V I : Int} {ys : List Bool} (h : ((¬ W = V) ∨ (¬ H = I)) ∨ xs.length ≠ ys.length) : gridEq W H xs V I ys = false := by
  rcases h with (h | h) | h
  · simp [gridEq, h]
  · simp [gridEq, h]
  · have : sameBits xs ys = false := sameBits_len h
    simp [gridEq, this]
theorem gridEq_bit {W H : Int} {xs ys : List Bool} {k : Nat} (h : (gB xs k != gB ys k) = true) : gridEq W H xs W H ys = false := by
  simp [gridEq, sameBits_ne h]
theorem gridEq_all {W H : Int} {xs ys : List Bool} (hl : xs.length = ys.length) (h : ∀ k, k < xs.length → gB xs k = gB ys k) : gridEq W H xs W H ys = true := by
  simp [gridEq, sameBits_all hl h]

/-- the error of a grid of W by H with n cells -/
def gridErr (W H : Int) (n : Nat) : Int := if 64 < W ∨ 64 < H then 4 else if (W < 1 ∨ H < 1) ∨ ¬ (n : Int) = W * H then 8 else 0
theorem gridErr_many {W H : Int} {n : Nat} (h : 64 < W ∨ 64 < H) : gridErr W H n = 4 := by simp [gridErr, h]
theorem gridErr_low {W H : Int} {n : Nat} (h : ¬ (64 < W ∨ 64 < H)) (h' : W < 1 ∨ H < 1) : gridErr W H n = 8 := by simp [gridErr, h, h']
theorem gridErr_len {W H : Int} {n : Nat} (h : ¬ (64 < W ∨ 64 < H)) (h' : ¬ (n : Int) = W * H) : gridErr W H n = 8 := by simp [gridErr, h, h']
theorem gridErr_ok {W H : Int} {n : Nat} (h : ¬ (64 < W ∨ 64 < H)) (h' : ¬ (W < 1 ∨ H < 1)) (h2 : (n : Int) = W * H) : gridErr W H n = 0 := by simp [gridErr, h, h', h2]

theorem area_bd {W H : Int} (h1 : 1 ≤ W) (h2 : 1 ≤ H) (h3 : W ≤ 64) (h4 : H ≤ 64) : 0 ≤ W * H ∧ W * H ≤ 4096 := by
  refine ⟨Int.mul_nonneg (by omega) (by omega), ?_⟩
  have := Int.mul_le_mul h3 h4 (by omega) (by omega : (0:Int) ≤ 64)
  omega
theorem gridErr_zero {W H : Int} {n : Nat} (h : gridErr W H n = 0) : 1 ≤ W ∧ 1 ≤ H ∧ W ≤ 64 ∧ H ≤ 64 ∧ (n : Int) = W * H := by
  unfold gridErr at h
  split at h
  · simp at h
  · split at h
    · simp at h
    · omega

end Go.Proofs.Ytapohhkdpkapoaa
