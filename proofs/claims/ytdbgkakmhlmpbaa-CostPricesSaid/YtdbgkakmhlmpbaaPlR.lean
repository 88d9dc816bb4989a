/- Plain laws on ratios: the greatest common divisor, and what Make answers. -/
import Derived.Test.YtdbgkakmhlmpbaaPlB
import Derived.Test.YtdbgkakmhlmpbaaG60
import Derived.Test.YtdbgkakmhlmpbaaG62
namespace Go.Proofs.Ytdbgkakmhlmpbaa
open Go.RowKit
set_option linter.unusedVariables false

theorem gcd_loop {B : Int × Int → Option ((Int × Int) ⊕ Int)} (hB : ∀ a b : Int, B (a, b) = if (b != 0) = true then Option.bind (remI a b) fun z => some (.inl (b, z)) else some (.inr a)) (a b : Nat) : whileO B ((a : Int), (b : Int)) = some ((Nat.gcd a b : Nat) : Int) := by
  have key : ∃ t, whileO B ((a : Int), (b : Int)) = some t ∧ t = ((Nat.gcd a b : Nat) : Int) := by
    refine whileO_inv (fun s => ∃ x y : Nat, s = ((x : Int), (y : Int)) ∧ Nat.gcd x y = Nat.gcd a b) (fun s => s.2.toNat) _ ⟨a, b, rfl, rfl⟩ ?_
    rintro s ⟨x, y, rfl, hg⟩
    rw [hB]
    by_cases hy : y = 0
    · subst hy
      refine .inr ⟨(x : Int), by simp, ?_⟩
      rw [← hg, Nat.gcd_zero_right]
    · have h1 : ((y : Int) != 0) = true := nT (by omega)
      have h2 : remI (x : Int) (y : Int) = some ((x % y : Nat) : Int) := by
        unfold remI
        rw [if_neg (by omega)]
        rfl
      refine .inl ⟨((y : Int), ((x % y : Nat) : Int)), by rw [if_pos h1, h2]; rfl, ⟨y, x % y, rfl, ?_⟩, ?_⟩
      · rw [← hg, Nat.gcd_comm x y, Nat.gcd_rec y x, Nat.gcd_comm]
      · have := Nat.mod_lt x (Nat.pos_of_ne_zero hy)
        show ((x % y : Nat) : Int).toNat < ((y : Nat) : Int).toNat
        omega
  obtain ⟨t, h1, rfl⟩ := key
  exact h1
theorem ygcd_eq (a b : Nat) : F_yarn_gcd (a : Int) (b : Int) = some ((Nat.gcd a b : Nat) : Int) := by
  unfold F_yarn_gcd
  rw [gcd_loop (fun a b => rfl)]
  rfl
theorem common_eq (a b : Nat) : F_raddleref23_common (a : Int) (b : Int) = some ((Nat.gcd a b : Nat) : Int) := by
  unfold F_raddleref23_common
  rw [gcd_loop (fun a b => rfl)]
  simp only [Option.bind_some]
  have : decide (((Nat.gcd a b : Nat) : Int) < 0) = false := dF (by omega)
  simp only [this, Bool.false_eq_true, if_false]
theorem u64_of {x : Int} (h0 : 0 ≤ x) (h1 : x ≤ 18446744073709551615) : IntKind.u64.wrap x = x := by
  unfold IntKind.wrap
  simp [IntKind.bits, IntKind.signed]
  omega
theorem i64_of {x : Int} (h0 : -9223372036854775808 ≤ x) (h1 : x ≤ 9223372036854775807) : IntKind.i64.wrap x = x := w64_of h0 h1
theorem size_eq (a : Nat) (h : a ≤ 9223372036854775807) : F_yarn_size (a : Int) = some (a : Int) := by
  unfold F_yarn_size
  have : decide ((a : Int) < 0) = false := dF (by omega)
  simp only [this, Bool.false_eq_true, if_false, u64_of (show (0 : Int) ≤ a by omega) (by omega)]
/-- the ratio of two numbers that are not negative -/
def mk (a b : Nat) : api_Ratio × Int := if a / Nat.gcd a b ≤ 1000000000 ∧ b / Nat.gcd a b ≤ 1000000000 then (⟨((a / Nat.gcd a b : Nat) : Int), ((b / Nat.gcd a b : Nat) : Int)⟩, 0) else (⟨0, 0⟩, 16)
theorem quo_nat {a g : Nat} (hg : 0 < g) (ha : a ≤ 9223372036854775807) : quoI (a : Int) (g : Int) = some ((a / g : Nat) : Int) := by
  unfold quoI
  rw [if_neg (by omega)]
  have h1 : a / g ≤ a := Nat.div_le_self _ _
  have : ((a : Int).tdiv (g : Int)) = ((a / g : Nat) : Int) := rfl
  have hq : w64 ((a / g : Nat) : Int) = ((a / g : Nat) : Int) := by
    generalize a / g = q at *
    exact w64_of (by omega) (by omega)
  rw [this, hq]
theorem quoK_nat {a g : Nat} (hg : 0 < g) (ha : a ≤ 9223372036854775807) : quoK .u64 (a : Int) (g : Int) = some ((a / g : Nat) : Int) := by
  unfold quoK
  rw [if_neg (by omega)]
  have h1 : a / g ≤ a := Nat.div_le_self _ _
  have : ((a : Int).tdiv (g : Int)) = ((a / g : Nat) : Int) := rfl
  have hq : IntKind.u64.wrap ((a / g : Nat) : Int) = ((a / g : Nat) : Int) := by
    generalize a / g = q at *
    exact u64_of (by omega) (by omega)
  rw [this, hq]
theorem ymake_eq (a b : Nat) (ha : a ≤ 9223372036854775807) (hb : b ≤ 9223372036854775807) (hb0 : 0 < b) : F_yarn_Make (a : Int) (b : Int) = some (mk a b) := by
  have hg : 0 < Nat.gcd a b := Nat.gcd_pos_of_pos_right a hb0
  unfold F_yarn_Make mk
  simp only [bF (show ¬ (b : Int) = 0 by omega), Bool.false_eq_true, if_false, size_eq a ha, size_eq b hb, ygcd_eq, Option.bind_some, quoK_nat hg ha, quoK_nat hg hb, dF (show ¬ (a : Int) < 0 by omega), dF (show ¬ (b : Int) < 0 by omega), bne_self_eq_false]
  have h1 : a / Nat.gcd a b ≤ a := Nat.div_le_self _ _
  have h2 : b / Nat.gcd a b ≤ b := Nat.div_le_self _ _
  generalize a / Nat.gcd a b = x at *
  generalize b / Nat.gcd a b = y at *
  by_cases e1 : x ≤ 1000000000
  · by_cases e2 : y ≤ 1000000000
    · simp only [dF (show ¬ (1000000000 : Int) < x by omega), dF (show ¬ (1000000000 : Int) < y by omega), Bool.false_eq_true, if_false, Option.bind_some, i64_of (show (-9223372036854775808 : Int) ≤ x by omega) (by omega), i64_of (show (-9223372036854775808 : Int) ≤ y by omega) (by omega), e1, e2, and_self, if_true]
    · simp only [dF (show ¬ (1000000000 : Int) < x by omega), dT (show (1000000000 : Int) < y by omega), Bool.false_eq_true, if_false, if_true, Option.bind_some, e1, e2, and_false]
  · simp only [dT (show (1000000000 : Int) < x by omega), if_true, Option.bind_some, e1, false_and, if_false]
theorem rcheck_eq (x y : Nat) : F_raddleref23_Check ⟨(x : Int), (y : Int)⟩ = some (if 1 ≤ y ∧ y ≤ 1000000000 ∧ x ≤ 1000000000 ∧ Nat.gcd x y = 1 then 0 else 8) := by
  unfold F_raddleref23_Check
  simp only [common_eq, Option.bind_some]
  by_cases e1 : 1 ≤ y
  case neg => simp only [dT (show (y : Int) < 1 by omega), if_true, Option.bind_some, e1, false_and, if_false]
  by_cases e2 : y ≤ 1000000000
  case neg => simp only [dF (show ¬ (y : Int) < 1 by omega), dT (show (1000000000 : Int) < y by omega), Bool.false_eq_true, if_true, if_false, Option.bind_some, e2, false_and, and_false]
  by_cases e3 : x ≤ 1000000000
  case neg => simp only [dF (show ¬ (y : Int) < 1 by omega), dF (show ¬ (1000000000 : Int) < y by omega), dF (show ¬ (x : Int) < -1000000000 by omega), dT (show (1000000000 : Int) < x by omega), Bool.false_eq_true, if_true, if_false, Option.bind_some, e3, false_and, and_false]
  by_cases e4 : Nat.gcd x y = 1
  · simp only [dF (show ¬ (y : Int) < 1 by omega), dF (show ¬ (1000000000 : Int) < y by omega), dF (show ¬ (x : Int) < -1000000000 by omega), dF (show ¬ (1000000000 : Int) < x by omega), e4, show (((1 : Nat) : Int) != 1) = false from rfl, Bool.false_eq_true, if_true, if_false, Option.bind_some, e1, e2, e3, and_self]
  · simp only [dF (show ¬ (y : Int) < 1 by omega), dF (show ¬ (1000000000 : Int) < y by omega), dF (show ¬ (x : Int) < -1000000000 by omega), dF (show ¬ (1000000000 : Int) < x by omega), nT (show ¬ ((Nat.gcd x y : Nat) : Int) = 1 by omega), Bool.false_eq_true, if_true, if_false, Option.bind_some, e4, and_false]
theorem rmake_eq (a b : Nat) (ha : a ≤ 9223372036854775807) (hb : b ≤ 9223372036854775807) (hb0 : 0 < b) : F_raddleref23_Make (a : Int) (b : Int) = some (mk a b) := by
  have hg : 0 < Nat.gcd a b := Nat.gcd_pos_of_pos_right a hb0
  have h3 : Nat.gcd (a / Nat.gcd a b) (b / Nat.gcd a b) = 1 := Nat.gcd_div_gcd_div_gcd_of_pos_right hb0
  have h4 : 1 ≤ b / Nat.gcd a b := (Nat.le_div_iff_mul_le hg).2 (by rw [Nat.one_mul]; exact Nat.gcd_le_right a hb0)
  unfold F_raddleref23_Make mk
  simp only [bF (show ¬ (b : Int) = 0 by omega), bF (show ¬ (a : Int) = -9223372036854775808 by omega), bF (show ¬ (b : Int) = -9223372036854775808 by omega), dF (show ¬ (b : Int) < 0 by omega), Bool.false_eq_true, if_false, Option.bind_some, common_eq, quo_nat hg ha, quo_nat hg hb, rcheck_eq, h3, h4, and_true, true_and]
  generalize a / Nat.gcd a b = x at *
  generalize b / Nat.gcd a b = y at *
  by_cases e1 : x ≤ 1000000000
  · by_cases e2 : y ≤ 1000000000
    · simp only [e1, e2, and_self, if_true, bne_self_eq_false, Bool.false_eq_true, if_false]
    · simp only [e1, e2, and_true, false_and, and_false, if_false, nT (show ¬ (8 : Int) = 0 by omega), if_true]
  · simp only [e1, false_and, and_false, if_false, nT (show ¬ (8 : Int) = 0 by omega), if_true]

end Go.Proofs.Ytdbgkakmhlmpbaa
