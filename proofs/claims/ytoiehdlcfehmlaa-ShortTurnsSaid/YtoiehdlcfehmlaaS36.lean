/- Same on lists of numbers: the reference's (layer 36). -/
import Derived.Test.YtoiehdlcfehmlaaProg
import Derived.Test.YtoiehdlcfehmlaaTP
namespace Go.Proofs.Ytoiehdlcfehmlaa
open Go.RowKit
set_option linter.unusedVariables false

set_option maxHeartbeats 400000 in
theorem same36_any (a b : Option Addr) (c d : Nat) (xs ys : List Int) (w : World) (ha : Row w a xs.length (fI xs)) (hb : Row w b ys.length (fI ys)) (hn : xs.length ≤ 1000000) :
    Calls Try.prog 13 #[.slice a xs.length c, .slice b ys.length d] w fun e w' => e = .returned (.bool (sameInts xs ys)) ∧ Below w.heap.size w w' := by
  by_cases hl : xs.length = ys.length
  case neg =>
    have d1 := bne_of_nat hl
    go_enter Try.func13, Try.ntmps13
    go_wp2
    go_ret
    exact ⟨ret_bool (sameInts_len hl).symm, (by repeat (first | exact Below.refl _ _ | assumption | refine gdraws ?_ _ | refine gdrew ?_ | refine galloc ?_ _ | refine Below.setCell ?_ (by simp) _ | refine gtrans ?_ (by assumption) | refine Below.trans ?_ (Below.mono (by assumption) (by simp))))⟩
  have d1 := beq_of_nat hl
  have HL := Lib.hid hl
  have hl1 : xs.length ≤ ys.length := by omega
  have hl2 : ys.length ≤ xs.length := by omega
  clear hl
  go_enter Try.func13, Try.ntmps13
  go_wp2
  go_loopw [5] (fun i wr => ∃ k : Nat, k ≤ xs.length ∧ i = .int .i64 k ∧ (∀ j, j < k → gI xs j = gI ys j) ∧ Below w.heap.size w wr) (fun i _ => xs.length - (intOf i).toNat)
  case atStart => exact ⟨0, Nat.zero_le _, rfl, not_lt_zero, Below.refl _ _⟩
  case round =>
    obtain ⟨k, hk, rfl, hall, hbl⟩ := hrel
    have HA := Lib.hid hall
    clear hall
    by_cases hlt : k < xs.length
    · obtain ⟨b1, o1, rfl, g1, hc1⟩ := ha.below hbl k hlt
      obtain ⟨b2, o2, rfl, g2, hc2⟩ := hb.below hbl k (by omega)
      rw [fI_eq] at hc1 hc2
      by_cases hq : gI xs k = gI ys k
      · have d2 : (gI xs k != gI ys k) = false := by simpa using hq
        have HQ := Lib.hid hq
        clear hq
        go_wp2
        go_quiet (fail)
        go_wp2
        go_roundw
        case rel => exact ⟨k + 1, by omega, by go_num, all_succ HA.out HQ.out, below_draws hbl _⟩
        case measure => simp [intOf]; omega
      · have d2 : (gI xs k != gI ys k) = true := by simpa using hq
        go_wp2
        go_quiet (fail)
        go_wp2
        go_ret
        exact ⟨ret_bool (sameInts_ne hq).symm, below_draws hbl _⟩
    · go_wp2
      go_ret
      exact ⟨ret_bool (sameInts_all HL.out (fun j h => HA.out j (by omega))).symm, hbl⟩

end Go.Proofs.Ytoiehdlcfehmlaa
