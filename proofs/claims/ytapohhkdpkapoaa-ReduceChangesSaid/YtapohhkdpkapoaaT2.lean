/- The program's check of some lists, and Check of one: what they return. -/
import Derived.Test.YtapohhkdpkapoaaProg
import Derived.Test.YtapohhkdpkapoaaT1
namespace Go.Proofs.Ytapohhkdpkapoaa
open Go.RowKit
set_option linter.unusedVariables false

/-- a slice of lists: element i is the list xs i, at the address a i -/
def RowsI (w : World) (q : Option Addr) (m : Nat) (a : Nat → Option Addr) (c : Nat → Nat) (xs : Nat → List Int) : Prop :=
  Row w q m (fun i => .slice (a i) (xs i).length (c i)) ∧ ∀ i, i < m → Row w (a i) (xs i).length (fI (xs i))

set_option maxHeartbeats 1000000 in
theorem checks_any (q : Option Addr) (m cq : Nat) (a : Nat → Option Addr) (c : Nat → Nat) (xs : Nat → List Int) (w : World) (h : RowsI w q m a c xs) (hm : m ≤ 1000000) :
    Calls Try.prog 47 #[.slice q m cq] w fun e w' => e = .returned (.int .i64 (firstErr (fun i => listErr (xs i)) m)) ∧ w = w' := by
  obtain ⟨hq, hrows⟩ := h
  have HR := Lib.hid hrows
  clear hrows
  go_enter Try.func47, Try.ntmps47
  go_wp2
  go_loop [9] (fun i => ∃ k : Nat, k ≤ m ∧ i = .int .i64 k ∧ (∀ j, j < k → listErr (xs j) = 0)) (fun i => m - (intOf i).toNat)
  case atStart => exact ⟨0, Nat.zero_le _, rfl, not_lt_zero⟩
  case round =>
    obtain ⟨k, hk, rfl, hall⟩ := hrel
    have HA := Lib.hid hall
    clear hall
    by_cases hlt : k < m
    · obtain ⟨b1, o1, rfl, g1, hc1⟩ := hq k hlt
      have hr := HR.out k hlt
      dsimp only at hc1
      generalize a k = A at hr hc1
      generalize c k = C at hc1
      generalize hys : xs k = ys at hr hc1
      have HY := Lib.hid hys
      clear hys
      by_cases h1 : 400 < ys.length
      · go_wp2
        go_ret
        exact ⟨ret_int (by rw [firstErr_at (k := k) HA.out (by rw [HY.out, listErr_many h1]; simp) hlt, HY.out, listErr_many h1]), rfl⟩
      have h1' : ys.length ≤ 400 := by omega
      have d0 : decide ((400 : Int) < (ys.length : Int)) = false := by simp; omega
      clear h1
      go_wp2
      go_loop [18] (fun i => ∃ l : Nat, l ≤ ys.length ∧ i = .int .i64 l ∧ (∀ j, j < l → 0 ≤ gI ys j ∧ gI ys j < 400)) (fun i => ys.length - (intOf i).toNat)
      case atStart => exact ⟨0, Nat.zero_le _, rfl, not_lt_zero⟩
      case round =>
        obtain ⟨l, hkl, rfl, hall2⟩ := hrel
        have HB := Lib.hid hall2
        clear hall2
        by_cases hlt2 : l < ys.length
        · obtain ⟨b2, o2, rfl, g2, hc2⟩ := hr l hlt2
          rw [fI_eq] at hc2
          by_cases q1 : gI ys l < 0
          · go_wp2
            go_ret
            have e8 := listErr_bad h1' hlt2 (.inl q1)
            exact ⟨ret_int (by rw [firstErr_at (k := k) HA.out (by rw [HY.out, e8]; simp) hlt, HY.out, e8]), rfl⟩
          by_cases q2 : 400 ≤ gI ys l
          · go_wp2
            go_ret
            have e8 := listErr_bad h1' hlt2 (.inr q2)
            exact ⟨ret_int (by rw [firstErr_at (k := k) HA.out (by rw [HY.out, e8]; simp) hlt, HY.out, e8]), rfl⟩
          go_wp2
          go_round
          case rel => exact ⟨l + 1, by omega, by go_num, all_succ HB.out (by omega)⟩
          case measure => simp [intOf]; omega
        · go_wp2
          go_round
          case rel => exact ⟨k + 1, by omega, by go_num, all_succ HA.out (by rw [HY.out]; exact listErr_ok h1' (fun j h => HB.out j (by omega)))⟩
          case measure => simp [intOf]; omega
    · go_wp2
      go_ret
      exact ⟨ret_int (firstErr_zero (fun j h => HA.out j (by omega))).symm, rfl⟩

theorem check_any (a : Option Addr) (c : Nat) (xs : List Int) (w : World) (ha : Row w a xs.length (fI xs)) :
    Calls Try.prog 36 #[.slice a xs.length c] w fun e w' => e = .returned (.int .i64 (listErr xs)) ∧ Below w.heap.size w w' := by
  go_enter Try.func36, Try.ntmps36
  go_wp2_with fail
  refine (checks_any (some ⟨w.heap.size, 0, none⟩) 1 1 (fun _ => a) (fun _ => c) (fun _ => xs) _ ⟨?_, ?_⟩ (by omega)).mono ?_
  · intro k hk
    obtain rfl : k = 0 := by omega
    exact ⟨w.heap.size, 0, rfl, by simp, by simp⟩
  · intro i _
    exact ha.below (galloc (Below.refl _ _) _)
  rintro e w1 ⟨rfl, rfl⟩
  go_wp2
  go_ret
  exact ⟨ret_int (by simp [firstErr]), (by repeat (first | exact Below.refl _ _ | assumption | refine gdraws ?_ _ | refine gdrew ?_ | refine galloc ?_ _ | refine Below.setCell ?_ (by simp) _ | refine gtrans ?_ (by assumption) | refine Below.trans ?_ (Below.mono (by assumption) (by simp))))⟩

end Go.Proofs.Ytapohhkdpkapoaa
