/- The checks of turns, and Worked: the program's and the reference's. -/
import Derived.Test.YtoiehdlcfehmlaaProg
import Derived.Test.YtoiehdlcfehmlaaShP
import Derived.Test.YtoiehdlcfehmlaaInfo
namespace Go.Proofs.Ytoiehdlcfehmlaa
open Go.RowKit
set_option linter.unusedVariables false

set_option maxHeartbeats 1000000 in
theorem rcheck38_any (n : Int) (a : Option Addr) (c : Nat) (ts : List Int) (w : World) (ha : Row w a ts.length (fI ts)) :
    Calls Try.prog 21 #[.int .i64 n, .slice a ts.length c] w fun e w' => e = .returned (.int .i64 (shErr n ts)) ∧ w = w' := by
  by_cases h1 : n < 1
  · go_enter Try.func21, Try.ntmps21
    go_wp2
    go_ret
    exact ⟨ret_int (shErr_n (.inl h1)).symm, rfl⟩
  by_cases h2 : 200 < n
  · go_enter Try.func21, Try.ntmps21
    go_wp2
    go_ret
    exact ⟨ret_int (shErr_n (.inr h2)).symm, rfl⟩
  by_cases h3 : 50 < ts.length
  · go_enter Try.func21, Try.ntmps21
    go_wp2
    go_ret
    exact ⟨ret_int (shErr_many (by omega) h3).symm, rfl⟩
  have h3' : ts.length ≤ 50 := by omega
  clear h3
  go_enter Try.func21, Try.ntmps21
  go_wp2
  go_loop [5] (fun i => ∃ k : Nat, k ≤ ts.length ∧ i = .int .i64 k ∧ (∀ j, j < k → 1 ≤ gI ts j ∧ gI ts j ≤ n)) (fun i => ts.length - (intOf i).toNat)
  case atStart => exact ⟨0, Nat.zero_le _, rfl, not_lt_zero⟩
  case round =>
    obtain ⟨k, hk, rfl, hall⟩ := hrel
    have HA := Lib.hid hall
    clear hall
    by_cases hlt : k < ts.length
    · obtain ⟨b1, o1, rfl, g1, hc1⟩ := ha k hlt
      rw [fI_eq] at hc1
      by_cases q1 : gI ts k < 1
      · go_wp2
        go_ret
        exact ⟨ret_int (shErr_bad (by omega) (by omega) hlt (.inl q1)).symm, rfl⟩
      by_cases q2 : n < gI ts k
      · go_wp2
        go_ret
        exact ⟨ret_int (shErr_bad (by omega) (by omega) hlt (.inr q2)).symm, rfl⟩
      go_wp2
      go_round
      case rel => exact ⟨k + 1, by omega, by go_num, all_succ HA.out (by omega)⟩
      case measure => simp [intOf]; omega
    · go_wp2
      go_ret
      exact ⟨ret_int (shErr_ok (by omega) (by omega) (fun j h => HA.out j (by omega))).symm, rfl⟩

theorem within_yes (n l m : Int) (w : World) (h1 : l ≤ n) (h2 : n ≤ m) : Calls Try.prog 22 #[.int .i64 n, .int .i64 l, .int .i64 m] w fun e w' => e = .returned (.bool true) ∧ w = w' := by
  go_enter Try.func22, Try.ntmps22
  go_wp2
  go_ret
  exact ⟨ret_bool (by simp), rfl⟩
theorem within_no (n l m : Int) (w : World) (h1 : n < l ∨ m < n) : Calls Try.prog 22 #[.int .i64 n, .int .i64 l, .int .i64 m] w fun e w' => e = .returned (.bool false) ∧ w = w' := by
  by_cases h : n < l
  · go_enter Try.func22, Try.ntmps22
    go_wp2
    go_ret
    exact ⟨rfl, rfl⟩
  · have h2 : m < n := by omega
    go_enter Try.func22, Try.ntmps22
    go_wp2
    go_ret
    exact ⟨ret_bool (by simp; omega), rfl⟩

set_option maxHeartbeats 1000000 in
theorem pcheck38_any (n : Int) (a : Option Addr) (c : Nat) (ts : List Int) (w : World) (ha : Row w a ts.length (fI ts)) :
    Calls Try.prog 20 #[.int .i64 n, .slice a ts.length c] w fun e w' => e = .returned (.int .i64 (shErr n ts)) ∧ w = w' := by
  by_cases h1 : n < 1
  · go_enter Try.func20, Try.ntmps20
    go_wp2_with (first | (go_at_call 22; refine (within_yes _ _ _ _ (by omega) (by omega)).mono ?_; rintro e w1 ⟨rfl, rfl⟩) | (go_at_call 22; refine (within_no _ _ _ _ (by omega)).mono ?_; rintro e w1 ⟨rfl, rfl⟩))
    go_ret
    exact ⟨ret_int (shErr_n (.inl h1)).symm, rfl⟩
  by_cases h2 : 200 < n
  · go_enter Try.func20, Try.ntmps20
    go_wp2_with (first | (go_at_call 22; refine (within_yes _ _ _ _ (by omega) (by omega)).mono ?_; rintro e w1 ⟨rfl, rfl⟩) | (go_at_call 22; refine (within_no _ _ _ _ (by omega)).mono ?_; rintro e w1 ⟨rfl, rfl⟩))
    go_ret
    exact ⟨ret_int (shErr_n (.inr h2)).symm, rfl⟩
  by_cases h3 : 50 < ts.length
  · go_enter Try.func20, Try.ntmps20
    go_wp2_with (first | (go_at_call 22; refine (within_yes _ _ _ _ (by omega) (by omega)).mono ?_; rintro e w1 ⟨rfl, rfl⟩) | (go_at_call 22; refine (within_no _ _ _ _ (by omega)).mono ?_; rintro e w1 ⟨rfl, rfl⟩))
    go_ret
    exact ⟨ret_int (shErr_many (by omega) h3).symm, rfl⟩
  have h3' : ts.length ≤ 50 := by omega
  clear h3
  go_enter Try.func20, Try.ntmps20
  go_wp2_with (first | (go_at_call 22; refine (within_yes _ _ _ _ (by omega) (by omega)).mono ?_; rintro e w1 ⟨rfl, rfl⟩) | (go_at_call 22; refine (within_no _ _ _ _ (by omega)).mono ?_; rintro e w1 ⟨rfl, rfl⟩))
  go_loop [15] (fun i => ∃ k : Nat, k ≤ ts.length ∧ i = .int .i64 k ∧ (∀ j, j < k → 1 ≤ gI ts j ∧ gI ts j ≤ n)) (fun i => ts.length - (intOf i).toNat)
  case atStart => exact ⟨0, Nat.zero_le _, rfl, not_lt_zero⟩
  case round =>
    obtain ⟨k, hk, rfl, hall⟩ := hrel
    have HA := Lib.hid hall
    clear hall
    by_cases hlt : k < ts.length
    · obtain ⟨b1, o1, rfl, g1, hc1⟩ := ha k hlt
      rw [fI_eq] at hc1
      by_cases q1 : gI ts k < 1
      · go_wp2_with (first | (go_at_call 22; refine (within_yes _ _ _ _ (by omega) (by omega)).mono ?_; rintro e w1 ⟨rfl, rfl⟩) | (go_at_call 22; refine (within_no _ _ _ _ (by omega)).mono ?_; rintro e w1 ⟨rfl, rfl⟩))
        go_ret
        exact ⟨ret_int (shErr_bad (by omega) (by omega) hlt (.inl q1)).symm, rfl⟩
      by_cases q2 : n < gI ts k
      · go_wp2_with (first | (go_at_call 22; refine (within_yes _ _ _ _ (by omega) (by omega)).mono ?_; rintro e w1 ⟨rfl, rfl⟩) | (go_at_call 22; refine (within_no _ _ _ _ (by omega)).mono ?_; rintro e w1 ⟨rfl, rfl⟩))
        go_ret
        exact ⟨ret_int (shErr_bad (by omega) (by omega) hlt (.inr q2)).symm, rfl⟩
      go_wp2_with (first | (go_at_call 22; refine (within_yes _ _ _ _ (by omega) (by omega)).mono ?_; rintro e w1 ⟨rfl, rfl⟩) | (go_at_call 22; refine (within_no _ _ _ _ (by omega)).mono ?_; rintro e w1 ⟨rfl, rfl⟩))
      go_round
      case rel => exact ⟨k + 1, by omega, by go_num, all_succ HA.out (by omega)⟩
      case measure => simp [intOf]; omega
    · go_wp2_with (first | (go_at_call 22; refine (within_yes _ _ _ _ (by omega) (by omega)).mono ?_; rintro e w1 ⟨rfl, rfl⟩) | (go_at_call 22; refine (within_no _ _ _ _ (by omega)).mono ?_; rintro e w1 ⟨rfl, rfl⟩))
      go_ret
      exact ⟨ret_int (shErr_ok (by omega) (by omega) (fun j h => HA.out j (by omega))).symm, rfl⟩

def workedN (n : Int) (ts : List Int) : Int := if shErr n ts = 0 then twoSum ts ts.length else 0
theorem worked_no {n : Int} {ts : List Int} (h : ¬ shErr n ts = 0) : workedN n ts = 0 := by simp [workedN, h]
theorem worked_yes {n : Int} {ts : List Int} (h : shErr n ts = 0) : workedN n ts = twoSum ts ts.length := by simp [workedN, h]
theorem ret2i {a b c d : Int} (h : a = c ∧ b = d) : Ending.returned (.tuple #[.int .i64 a, .int .i64 b]) = .returned (.tuple #[.int .i64 c, .int .i64 d]) := by rw [h.1, h.2]

set_option maxHeartbeats 1000000 in
theorem pworked_any (n : Int) (a : Option Addr) (c : Nat) (ts : List Int) (w : World) (ha : Row w a ts.length (fI ts)) :
    Calls Try.prog 7 #[.int .i64 n, .slice a ts.length c] w fun e w' => e = .returned (.tuple #[.int .i64 (workedN n ts), .int .i64 (shErr n ts)]) ∧ w = w' := by
  by_cases h0 : shErr n ts = 0
  case neg =>
    have d0 : (shErr n ts != 0) = true := by simpa using h0
    go_enter Try.func7, Try.ntmps7
    go_wp2_with (go_at_call 20; refine (pcheck38_any _ _ _ _ _ ha).mono ?_; rintro e w1 ⟨rfl, rfl⟩)
    go_ret2
    exact ⟨ret2i ⟨(worked_no h0).symm, rfl⟩, rfl⟩
  have d0 : (shErr n ts != 0) = false := by simpa using h0
  obtain ⟨n1, n2, n3, hts⟩ := shErr_zero h0
  have H0 := Lib.hid h0
  have HT := Lib.hid hts
  clear h0 hts
  go_enter Try.func7, Try.ntmps7
  go_wp2_with (go_at_call 20; refine (pcheck38_any _ _ _ _ _ ha).mono ?_; rintro e w1 ⟨rfl, rfl⟩)
  go_loop [7, 18] (fun s i => ∃ k : Nat, k ≤ ts.length ∧ i = .int .i64 k ∧ s = .int .i64 (twoSum ts k)) (fun _ i => ts.length - (intOf i).toNat)
  case atStart => exact ⟨0, Nat.zero_le _, rfl, rfl⟩
  case round =>
    obtain ⟨k, hk, rfl, rfl⟩ := hrel
    obtain ⟨s1, s2⟩ := twoSum_bd (ts := ts) (n := n) (m := k) fun j hj => by have := HT.out j (by omega); omega
    by_cases hlt : k < ts.length
    · obtain ⟨b1, o1, rfl, g1, hc1⟩ := ha k hlt
      rw [fI_eq] at hc1
      obtain ⟨t1, t2⟩ := HT.out k hlt
      go_wp2
      go_round
      case rel => exact ⟨k + 1, by omega, by go_num, rfl⟩
      case measure => simp [intOf]; omega
    · go_wp2
      go_ret2
      exact ⟨ret2i ⟨by rw [worked_yes H0.out, show k = ts.length from by omega], H0.out.symm⟩, rfl⟩

set_option maxHeartbeats 1000000 in
theorem rworked_any (n : Int) (a : Option Addr) (c : Nat) (ts : List Int) (w : World) (ha : Row w a ts.length (fI ts)) :
    Calls Try.prog 8 #[.int .i64 n, .slice a ts.length c] w fun e w' => e = .returned (.tuple #[.int .i64 (workedN n ts), .int .i64 (shErr n ts)]) ∧ w = w' := by
  by_cases h0 : shErr n ts = 0
  case neg =>
    have d0 : (shErr n ts != 0) = true := by simpa using h0
    go_enter Try.func8, Try.ntmps8
    go_wp2_with (go_at_call 21; refine (rcheck38_any _ _ _ _ _ ha).mono ?_; rintro e w1 ⟨rfl, rfl⟩)
    go_ret2
    exact ⟨ret2i ⟨(worked_no h0).symm, rfl⟩, rfl⟩
  have d0 : (shErr n ts != 0) = false := by simpa using h0
  obtain ⟨n1, n2, n3, hts⟩ := shErr_zero h0
  have H0 := Lib.hid h0
  have HT := Lib.hid hts
  clear h0 hts
  go_enter Try.func8, Try.ntmps8
  go_wp2_with (go_at_call 21; refine (rcheck38_any _ _ _ _ _ ha).mono ?_; rintro e w1 ⟨rfl, rfl⟩)
  go_loop [7, 8] (fun s i => ∃ k : Nat, k ≤ ts.length ∧ i = .int .i64 k ∧ s = .int .i64 (twoSum ts k)) (fun _ i => ts.length - (intOf i).toNat)
  case atStart => exact ⟨0, Nat.zero_le _, rfl, rfl⟩
  case round =>
    obtain ⟨k, hk, rfl, rfl⟩ := hrel
    obtain ⟨s1, s2⟩ := twoSum_bd (ts := ts) (n := n) (m := k) fun j hj => by have := HT.out j (by omega); omega
    by_cases hlt : k < ts.length
    · obtain ⟨b1, o1, rfl, g1, hc1⟩ := ha k hlt
      rw [fI_eq] at hc1
      obtain ⟨t1, t2⟩ := HT.out k hlt
      go_wp2
      go_round
      case rel => exact ⟨k + 1, by omega, by go_num, rfl⟩
      case measure => simp [intOf]; omega
    · go_wp2
      go_ret2
      exact ⟨ret2i ⟨by rw [worked_yes H0.out, show k = ts.length from by omega], H0.out.symm⟩, rfl⟩

end Go.Proofs.Ytoiehdlcfehmlaa
