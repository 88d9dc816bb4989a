/- How many more ends of a group are up than down, as plain data. -/
import Derived.Test.YtapohhkdpkapoaaRP
import Derived.Test.YtapohhkdpkapoaaR2
namespace Go.Proofs.Ytapohhkdpkapoaa
open Go.RowKit
set_option linter.unusedVariables false

/-- of the first k ends of pick y: how many more of the group v are up than down -/
def moreF (bs : List Bool) (ls : List Int) (W y : Nat) : Nat → Int → Int
  | 0, _ => 0
  | k + 1, v => if v = gI ls k then moreF bs ls W y k v + (if gB bs (y * W + k) = true then 1 else -1) else moreF bs ls W y k v
theorem moreF_bd (bs : List Bool) (ls : List Int) (W y : Nat) (v : Int) : ∀ k : Nat, -(k : Int) ≤ moreF bs ls W y k v ∧ moreF bs ls W y k v ≤ k
  | 0 => by simp [moreF]
  | k + 1 => by
    have := moreF_bd bs ls W y v k
    simp only [moreF]
    split
    · split <;> omega
    · omega
theorem moreF_up {bs : List Bool} {ls : List Int} {W y k : Nat} (h : gB bs (y * W + k) = true) (j : Int) : moreF bs ls W y (k + 1) j = if j = gI ls k then moreF bs ls W y k (gI ls k) + 1 else moreF bs ls W y k j := by
  simp only [moreF, h]
  by_cases e : j = gI ls k
  · subst e; simp
  · simp [e]
theorem moreF_dn {bs : List Bool} {ls : List Int} {W y k : Nat} (h : gB bs (y * W + k) = false) (j : Int) : moreF bs ls W y (k + 1) j = if j = gI ls k then moreF bs ls W y k (gI ls k) - 1 else moreF bs ls W y k j := by
  simp only [moreF, h]
  by_cases e : j = gI ls k
  · subst e; simp; omega
  · simp [e]
theorem moreF_ud (bs : List Bool) (ls : List Int) (W y x : Nat) : ∀ k : Nat, moreF bs ls W y k (gI ls x) = (upN bs ls W x y k : Nat) - (dnN bs ls W x y k : Nat)
  | 0 => by simp [moreF, upN, dnN]
  | k + 1 => by
    have ih := moreF_ud bs ls W y x k
    by_cases e : gI ls k = gI ls x
    · cases hb : gB bs (y * W + k)
      · rw [(ud_dn e hb).1, (ud_dn e hb).2]
        simp only [moreF, e, hb, ih]
        simp
        omega
      · rw [(ud_up e hb).1, (ud_up e hb).2]
        simp only [moreF, e, hb, ih]
        simp
        omega
    · rw [(ud_ne e).1, (ud_ne e).2]
      simp only [moreF]
      rw [if_neg (fun h => e h.symm), ih]
theorem more_bit {bs : List Bool} {ls : List Int} {W y x : Nat} (hx : x < W) : decide (0 < moreF bs ls W y W (gI ls x)) = cBit bs ls W (y * W + x) := by
  rw [cBit_at hx, moreF_ud]
  by_cases h : dnN bs ls W x y W < upN bs ls W x y W
  · rw [decide_eq_true h, decide_eq_true (by omega)]
  · rw [decide_eq_false h, decide_eq_false (by omega)]
theorem apart_changed {bs : List Bool} {ls : List Int} {W k : Nat} (hk : k < bs.length) (h : cBit bs ls W k = gB bs k) : apartN (changedL bs ls W) bs (k + 1) = apartN (changedL bs ls W) bs k := by
  apply apartN_same
  rw [changedL_get hk, h]
theorem apart_changed' {bs : List Bool} {ls : List Int} {W k : Nat} (hk : k < bs.length) (h : ¬ cBit bs ls W k = gB bs k) : apartN (changedL bs ls W) bs (k + 1) = apartN (changedL bs ls W) bs k + 1 := by
  apply apartN_diff
  rw [changedL_get hk]
  exact h
theorem vals_snoc {f g : Nat → Value} {n : Nat} (h : g 0 = f n) : vals f n ++ vals g 1 = vals f (n + 1) := by
  simp [vals, List.range_succ, h]
theorem row_slice {W H y : Nat} (hy : y < H) : y * W + W ≤ W * H := by
  have : (y + 1) * W ≤ H * W := Nat.mul_le_mul_right W hy
  rw [Nat.add_mul] at this
  rw [Nat.mul_comm W H]
  omega
/-- the cells of the changed grid as values -/
def cellsF (bs : List Bool) (ls : List Int) (W : Nat) (i : Nat) : Value := .bool (cBit bs ls W i)
theorem cellsF_eq (bs : List Bool) (ls : List Int) (W i : Nat) : cellsF bs ls W i = .bool (cBit bs ls W i) := rfl
theorem cellsF_changed {bs : List Bool} {ls : List Int} {W : Nat} : vals (cellsF bs ls W) bs.length = vals (fB (changedL bs ls W)) bs.length := vals_congr fun i hi => by rw [fB_eq, changedL_get hi]; rfl

end Go.Proofs.Ytapohhkdpkapoaa
