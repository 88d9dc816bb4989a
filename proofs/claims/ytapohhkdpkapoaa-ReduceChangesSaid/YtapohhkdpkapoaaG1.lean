/- The references' Great, Same and Check of grids, and the program's Check: what they return. -/
import Derived.Test.YtapohhkdpkapoaaProg
import Derived.Test.YtapohhkdpkapoaaKit
import Derived.Test.YtapohhkdpkapoaaGP
namespace Go.Proofs.Ytapohhkdpkapoaa
open Go.RowKit
set_option linter.unusedVariables false

theorem great_any (W H : Int) (a : Option Addr) (n c : Nat) (w : World) :
    Calls Try.prog 9 #[.agg #[.int .i64 W, .int .i64 H, .slice a n c]] w fun e w' => e = .returned (.bool (decide (4200 < (n:Int)))) ∧ Below w.heap.size w w' := by
  go_enter Try.func9, Try.ntmps9
  go_wp2
  go_ret
  exact ⟨rfl, (Below.refl _ _).alloc (Nat.le_refl _) _⟩

set_option maxHeartbeats 400000 in
theorem same_any (W H V I : Int) (a b : Option Addr) (c d : Nat) (xs ys : List Bool) (w : World) (ha : Row w a xs.length (fB xs)) (hb : Row w b ys.length (fB ys)) (hn : xs.length ≤ 9223372036854775807) :
    Calls Try.prog 16 #[.agg #[.int .i64 W, .int .i64 H, .slice a xs.length c], .agg #[.int .i64 V, .int .i64 I, .slice b ys.length d]] w fun e w' => e = .returned (.bool (gridEq W H xs V I ys)) ∧ Below w.heap.size w w' := by
  by_cases h1 : W = V
  case neg =>
    go_enter Try.func16, Try.ntmps16
    go_wp2
    go_ret
    exact ⟨ret_bool (gridEq_no (.inl (.inl h1))).symm, ((Below.refl _ _).alloc (Nat.le_refl _) _).alloc (by simp) _⟩
  subst h1
  by_cases h2 : H = I
  case neg =>
    go_enter Try.func16, Try.ntmps16
    go_wp2
    go_ret
    exact ⟨ret_bool (gridEq_no (.inl (.inr h2))).symm, ((Below.refl _ _).alloc (Nat.le_refl _) _).alloc (by simp) _⟩
  subst h2
  by_cases hl : xs.length = ys.length
  case neg =>
    have d1 := bne_of_nat hl
    go_enter Try.func16, Try.ntmps16
    go_wp2
    go_ret
    exact ⟨ret_bool (gridEq_no (.inr hl)).symm, ((Below.refl _ _).alloc (Nat.le_refl _) _).alloc (by simp) _⟩
  have d1 := beq_of_nat hl
  have HL := Lib.hid hl
  have hl1 : xs.length ≤ ys.length := by omega
  have hl2 : ys.length ≤ xs.length := by omega
  clear hl
  go_enter Try.func16, Try.ntmps16
  go_wp2
  refine wp_world (fun w' => Box3 w' w.heap.size (.int .i64 W) (.int .i64 H) (.slice a xs.length c) ∧ Box3 w' (w.heap.size + 1) (.int .i64 W) (.int .i64 H) (.slice b ys.length d) ∧ Below w.heap.size w w') ⟨by simp [Box3]; omega, by simp [Box3], ((Below.refl _ _).alloc (Nat.le_refl _) _).alloc (by simp) _⟩ ?_
  intro w1 hI
  go_loopw [5] (fun i wr => ∃ k : Nat, k ≤ xs.length ∧ i = .int .i64 k ∧ (∀ j, j < k → gB xs j = gB ys j) ∧ Box3 wr w.heap.size (.int .i64 W) (.int .i64 H) (.slice a xs.length c) ∧ Box3 wr (w.heap.size + 1) (.int .i64 W) (.int .i64 H) (.slice b ys.length d) ∧ Below w.heap.size w wr) (fun i _ => xs.length - (intOf i).toNat)
  case atStart => exact ⟨0, Nat.zero_le _, rfl, not_lt_zero, hI⟩
  case round =>
    obtain ⟨k, hk, rfl, hall, hb1, hb2, hbl⟩ := hrel
    have HB1 := Lib.hid hb1
    have HB2 := Lib.hid hb2
    have HA := Lib.hid hall
    obtain ⟨p0, p1, p2, ps⟩ := hb1
    obtain ⟨q0, q1, q2, qs⟩ := hb2
    clear hall
    by_cases hlt : k < xs.length
    · obtain ⟨b1, o1, rfl, g1, hc1⟩ := ha.below hbl k hlt
      obtain ⟨b2, o2, rfl, g2, hc2⟩ := hb.below hbl k (by omega)
      rw [fB_eq] at hc1 hc2
      go_wp2
      go_quiet (fail)
      go_wp2
      · go_ret
        exact ⟨ret_bool (gridEq_bit (bool_ne_of (by assumption))).symm, below_draws hbl _⟩
      · go_roundw
        case rel => exact ⟨k + 1, by omega, by go_num, all_succ HA.out (bool_eq_of (by assumption)), HB1.out, HB2.out, below_draws hbl _⟩
        case measure => simp [intOf]; omega
    · go_wp2
      go_ret
      exact ⟨ret_bool (gridEq_all HL.out (fun j h => HA.out j (by omega))).symm, hbl⟩

set_option maxHeartbeats 400000 in
theorem rcheck_any (W H : Int) (a : Option Addr) (n c : Nat) (w : World) :
    Calls Try.prog 37 #[.agg #[.int .i64 W, .int .i64 H, .slice a n c]] w fun e w' => e = .returned (.int .i64 (gridErr W H n)) ∧ Below w.heap.size w w' := by
  by_cases h0 : 64 < W ∨ 64 < H
  · by_cases h1 : 64 < W
    all_goals
      go_enter Try.func37, Try.ntmps37
      go_wp2
      go_ret
      exact ⟨ret_int (gridErr_many h0).symm, (Below.refl _ _).alloc (Nat.le_refl _) _⟩
  · have H0 := Lib.hid h0
    have hW : W ≤ 64 := by omega
    have hH : H ≤ 64 := by omega
    clear h0
    by_cases h3 : W < 1
    · go_enter Try.func37, Try.ntmps37
      go_wp2
      go_ret
      exact ⟨ret_int (gridErr_low H0.out (.inl h3)).symm, (Below.refl _ _).alloc (Nat.le_refl _) _⟩
    by_cases h4 : H < 1
    · go_enter Try.func37, Try.ntmps37
      go_wp2
      go_ret
      exact ⟨ret_int (gridErr_low H0.out (.inr h4)).symm, (Below.refl _ _).alloc (Nat.le_refl _) _⟩
    obtain ⟨ha1, ha2⟩ := area_bd (W := W) (H := H) (by omega) (by omega) hW hH
    by_cases h5 : (n : Int) = W * H
    · have H5 := Lib.hid h5
      have d : ((n : Int) != W * H) = false := by simpa using h5
      clear h5
      go_enter Try.func37, Try.ntmps37
      go_wp2
      go_ret
      exact ⟨ret_int (gridErr_ok H0.out (by omega) H5.out).symm, (Below.refl _ _).alloc (Nat.le_refl _) _⟩
    · have d : ((n : Int) != W * H) = true := by simpa using h5
      go_enter Try.func37, Try.ntmps37
      go_wp2
      go_ret
      exact ⟨ret_int (gridErr_len H0.out h5).symm, (Below.refl _ _).alloc (Nat.le_refl _) _⟩

set_option maxHeartbeats 1000000 in
theorem gcheck_any (W H : Int) (a : Option Addr) (n c : Nat) (w : World) :
    Calls Try.prog 35 #[.agg #[.int .i64 W, .int .i64 H, .slice a n c]] w fun e w' => e = .returned (.int .i64 (gridErr W H n)) ∧ Below w.heap.size w w' := by
  rcases Int.lt_trichotomy W H with e | e | e
  · by_cases h0 : 64 < H
    · go_enter Try.func35, Try.ntmps35
      go_wp2
      go_ret
      exact ⟨ret_int (gridErr_many (by omega)).symm, (Below.refl _ _).alloc (Nat.le_refl _) _⟩
    have h0' : H ≤ 64 := by omega
    clear h0
    by_cases h3 : W < 1
    · go_enter Try.func35, Try.ntmps35
      go_wp2
      go_ret
      exact ⟨ret_int (gridErr_low (by omega) (by omega)).symm, (Below.refl _ _).alloc (Nat.le_refl _) _⟩
    obtain ⟨ha1, ha2⟩ := area_bd (W := W) (H := H) (by omega) (by omega) (by omega) (by omega)
    by_cases h5 : (n : Int) = W * H
    · have H5 := Lib.hid h5
      have d : ((n : Int) != W * H) = false := by simpa using h5
      clear h5
      go_enter Try.func35, Try.ntmps35
      go_wp2
      go_ret
      exact ⟨ret_int (gridErr_ok (by omega) (by omega) H5.out).symm, (Below.refl _ _).alloc (Nat.le_refl _) _⟩
    · have d : ((n : Int) != W * H) = true := by simpa using h5
      go_enter Try.func35, Try.ntmps35
      go_wp2
      go_ret
      exact ⟨ret_int (gridErr_len (by omega) h5).symm, (Below.refl _ _).alloc (Nat.le_refl _) _⟩
  · subst e
    by_cases h0 : 64 < W
    · go_enter Try.func35, Try.ntmps35
      go_wp2
      go_ret
      exact ⟨ret_int (gridErr_many (by omega)).symm, (Below.refl _ _).alloc (Nat.le_refl _) _⟩
    have h0' : W ≤ 64 := by omega
    clear h0
    by_cases h3 : W < 1
    · go_enter Try.func35, Try.ntmps35
      go_wp2
      go_ret
      exact ⟨ret_int (gridErr_low (by omega) (by omega)).symm, (Below.refl _ _).alloc (Nat.le_refl _) _⟩
    obtain ⟨ha1, ha2⟩ := area_bd (W := W) (H := W) (by omega) (by omega) (by omega) (by omega)
    by_cases h5 : (n : Int) = W * W
    · have H5 := Lib.hid h5
      have d : ((n : Int) != W * W) = false := by simpa using h5
      clear h5
      go_enter Try.func35, Try.ntmps35
      go_wp2
      go_ret
      exact ⟨ret_int (gridErr_ok (by omega) (by omega) H5.out).symm, (Below.refl _ _).alloc (Nat.le_refl _) _⟩
    · have d : ((n : Int) != W * W) = true := by simpa using h5
      go_enter Try.func35, Try.ntmps35
      go_wp2
      go_ret
      exact ⟨ret_int (gridErr_len (by omega) h5).symm, (Below.refl _ _).alloc (Nat.le_refl _) _⟩
  · by_cases h0 : 64 < W
    · go_enter Try.func35, Try.ntmps35
      go_wp2
      go_ret
      exact ⟨ret_int (gridErr_many (by omega)).symm, (Below.refl _ _).alloc (Nat.le_refl _) _⟩
    have h0' : W ≤ 64 := by omega
    clear h0
    by_cases h3 : H < 1
    · go_enter Try.func35, Try.ntmps35
      go_wp2
      go_ret
      exact ⟨ret_int (gridErr_low (by omega) (by omega)).symm, (Below.refl _ _).alloc (Nat.le_refl _) _⟩
    obtain ⟨ha1, ha2⟩ := area_bd (W := W) (H := H) (by omega) (by omega) (by omega) (by omega)
    by_cases h5 : (n : Int) = W * H
    · have H5 := Lib.hid h5
      have d : ((n : Int) != W * H) = false := by simpa using h5
      clear h5
      go_enter Try.func35, Try.ntmps35
      go_wp2
      go_ret
      exact ⟨ret_int (gridErr_ok (by omega) (by omega) H5.out).symm, (Below.refl _ _).alloc (Nat.le_refl _) _⟩
    · have d : ((n : Int) != W * H) = true := by simpa using h5
      go_enter Try.func35, Try.ntmps35
      go_wp2
      go_ret
      exact ⟨ret_int (gridErr_len (by omega) h5).symm, (Below.refl _ _).alloc (Nat.le_refl _) _⟩

end Go.Proofs.Ytapohhkdpkapoaa
