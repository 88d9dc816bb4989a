/- Turns: the program's and the reference's. -/
import Derived.Test.YtoiehdlcfehmlaaProg
import Derived.Test.YtoiehdlcfehmlaaSh2
namespace Go.Proofs.Ytoiehdlcfehmlaa
open Go.RowKit
set_option linter.unusedVariables false

def trnL (n rise : Int) : List Int := if turnsErr n rise = 0 then turnsL n rise else []
theorem trnErr_no {n rise : Int} (h : (n < 1 ∨ 200 < n) ∨ (rise < 0 ∨ n < rise ∨ 50 < rise)) : turnsErr n rise = 2 := by simp [turnsErr, h]
theorem trnErr_yes {n rise : Int} (h : ¬ ((n < 1 ∨ 200 < n) ∨ (rise < 0 ∨ n < rise ∨ 50 < rise))) : turnsErr n rise = 0 := by simp [turnsErr, h]
theorem trnL_no {n rise : Int} (h : (n < 1 ∨ 200 < n) ∨ (rise < 0 ∨ n < rise ∨ 50 < rise)) : trnL n rise = [] := by simp [trnL, trnErr_no h]
theorem trnL_yes {n rise : Int} (h : ¬ ((n < 1 ∨ 200 < n) ∨ (rise < 0 ∨ n < rise ∨ 50 < rise))) : trnL n rise = turnsL n rise := by simp [trnL, trnErr_yes h]

set_option maxHeartbeats 2000000 in
theorem rturns_any (n rise : Int) (w : World) : Calls Try.prog 10 #[.int .i64 n, .int .i64 rise] w (RetL w (trnL n rise) (turnsErr n rise)) := by
  by_cases h0 : (n < 1 ∨ 200 < n) ∨ (rise < 0 ∨ n < rise ∨ 50 < rise)
  case pos =>
    rw [trnL_no h0, trnErr_no h0]
    have hr : RetL w [] 2 (.returned (.tuple #[.slice none 0 0, .int .i64 2])) w := RetL.none _ _ _ (by repeat (first | exact Below.refl _ _ | assumption | refine gdraws ?_ _ | refine gdrew ?_ | refine galloc ?_ _ | refine Below.setCell ?_ (by simp) _ | refine gtrans ?_ (by assumption) | refine Below.trans ?_ (Below.mono (by assumption) (by simp))))
    have HR := Lib.hid hr
    clear hr
    by_cases q1 : n < 1
    · go_enter Try.func10, Try.ntmps10
      go_wp2
      exact bodyPost_ret (v := .tuple #[.slice none 0 0, .int .i64 2]) (by simp [results, Try.results10, go_sem, *]) rfl HR.out
    by_cases q2 : 200 < n
    · go_enter Try.func10, Try.ntmps10
      go_wp2
      exact bodyPost_ret (v := .tuple #[.slice none 0 0, .int .i64 2]) (by simp [results, Try.results10, go_sem, *]) rfl HR.out
    by_cases q3 : rise < 0
    · go_enter Try.func10, Try.ntmps10
      go_wp2
      exact bodyPost_ret (v := .tuple #[.slice none 0 0, .int .i64 2]) (by simp [results, Try.results10, go_sem, *]) rfl HR.out
    by_cases q4 : n < rise
    · go_enter Try.func10, Try.ntmps10
      go_wp2
      exact bodyPost_ret (v := .tuple #[.slice none 0 0, .int .i64 2]) (by simp [results, Try.results10, go_sem, *]) rfl HR.out
    have q5 : 50 < rise := by omega
    go_enter Try.func10, Try.ntmps10
    go_wp2
    exact bodyPost_ret (v := .tuple #[.slice none 0 0, .int .i64 2]) (by simp [results, Try.results10, go_sem, *]) rfl HR.out
  rw [trnL_yes h0, trnErr_yes h0]
  have n1 : 1 ≤ n := by omega
  have n2 : n ≤ 200 := by omega
  have r1 : 0 ≤ rise := by omega
  have r2 : rise ≤ n := by omega
  have r3 : rise ≤ 50 := by omega
  clear h0
  obtain ⟨R, rfl⟩ := Int.eq_ofNat_of_zero_le r1
  go_enter Try.func10, Try.ntmps10
  go_wp2
  go_loopw [6, 7] (fun o x wr => ∃ k : Nat, k ≤ R ∧ x = .int .i64 (k + 1) ∧ ∃ a' c', o = .slice a' k c' ∧ wr.ownsRow w.heap.size 3 1 (.slice a' k c') k (vals (fI (turnsL n R)) k) ∧ Below w.heap.size w wr) (fun _ x _ => R + 1 - (intOf x).toNat)
  case atStart => exact ⟨0, Nat.zero_le _, rfl, none, 0, rfl, World.ownsRow_nil _ _ _ _, (by repeat (first | exact Below.refl _ _ | assumption | refine gdraws ?_ _ | refine gdrew ?_ | refine galloc ?_ _ | refine Below.setCell ?_ (by simp) _ | refine gtrans ?_ (by assumption) | refine Below.trans ?_ (Below.mono (by assumption) (by simp))))⟩
  case round =>
    obtain ⟨k, hk, rfl, a', c', rfl, hown, hbel⟩ := hrel
    have hsz := hbel.size
    by_cases hlt : k < R
    · have hg := turnsL_get (n := n) (rise := (R : Int)) (k := k) (by simpa using hlt)
      have hx : (2 * (R : Int) - 2 * ((k : Int) + 1) + 1) = 2 * ((R : Int) - k) - 1 := by omega
      unfold turnAt at hg
      have HG := Lib.hid hg
      clear hg
      have m0 : 0 ≤ n * (2 * ((R : Int) - k) - 1) := Int.mul_nonneg (by omega) (by omega)
      have m1 : n * (2 * ((R : Int) - k) - 1) ≤ 200 * 100 := Int.mul_le_mul (by omega) (by omega) (by omega) (by omega)
      have d0 : 0 ≤ (n * (2 * ((R : Int) - k) - 1) + R) / (2 * R) := Int.ediv_nonneg (by omega) (by omega)
      have d1 : (n * (2 * ((R : Int) - k) - 1) + R) / (2 * R) ≤ 30000 := Int.ediv_le_of_le_mul (by omega) (by omega)
      go_wp2_with (at_builtin; refine wpList_append_row rfl _ _ 22 rfl (w.heap.size) 3 Try.underlying22 infoInt rfl (.slice a' (k) c') (k) (vals (fI (turnsL n R)) (k)) rfl (hown.alloc _) (some ⟨wr.heap.size, 0, none⟩) 1 1 (fun _ => .int .i64 ((n * (2 * ((R : Int) - k) - 1) + R) / (2 * R))) rfl (row_one _ _ _) (fun _ _ => rfl) (by unfold maxLen; omega) (by omega) (by simp; omega) ?_; intro a2 c2 w5 hown5 hgrow5 hat5)
      go_roundw
      case rel =>
        refine ⟨k + 1, by omega, by go_num, a2, c2, rfl, ?_, below_push hbel hgrow5 fun j hj => (hown.lt j hj).1⟩
        rw [vals_snoc (f := fI (turnsL n R)) (g := fun _ => Value.int .i64 ((n * (2 * ((R : Int) - k) - 1) + R) / (2 * R))) (n := k) (by rw [fI_eq, HG.out])] at hown5
        exact hown5
      case measure => simp [intOf]; omega
    · obtain rfl : R = k := by omega
      go_wp2
      exact bodyPost_ret (v := .tuple #[.slice a' R c', .int .i64 0]) (by simp [results, Try.results10, go_sem, *]) rfl (RetL.own hown (by rw [turnsL_length]; simp) (fun _ _ => rfl) hbel)

def tF (n : Int) (R k j : Nat) : Value := if j < k then fI (turnsL n R) j else .int .i64 0
set_option maxHeartbeats 2000000 in
theorem pturns_any (n rise : Int) (w : World) : Calls Try.prog 9 #[.int .i64 n, .int .i64 rise] w (RetL w (trnL n rise) (turnsErr n rise)) := by
  by_cases h0 : (n < 1 ∨ 200 < n) ∨ (rise < 0 ∨ n < rise ∨ 50 < rise)
  case pos =>
    rw [trnL_no h0, trnErr_no h0]
    have hr : RetL w [] 2 (.returned (.tuple #[.slice none 0 0, .int .i64 2])) w := RetL.none _ _ _ (by repeat (first | exact Below.refl _ _ | assumption | refine gdraws ?_ _ | refine gdrew ?_ | refine galloc ?_ _ | refine Below.setCell ?_ (by simp) _ | refine gtrans ?_ (by assumption) | refine Below.trans ?_ (Below.mono (by assumption) (by simp))))
    have HR := Lib.hid hr
    clear hr
    by_cases q1 : n < 1
    · go_enter Try.func9, Try.ntmps9
      go_wp2_with (first | (go_at_call 22; refine (within_yes _ _ _ _ (by omega) (by omega)).mono ?_; rintro e w1 ⟨rfl, rfl⟩) | (go_at_call 22; refine (within_no _ _ _ _ (by omega)).mono ?_; rintro e w1 ⟨rfl, rfl⟩))
      exact bodyPost_ret (v := .tuple #[.slice none 0 0, .int .i64 2]) (by simp [results, Try.results9, go_sem, *]) rfl HR.out
    by_cases q2 : 200 < n
    · go_enter Try.func9, Try.ntmps9
      go_wp2_with (first | (go_at_call 22; refine (within_yes _ _ _ _ (by omega) (by omega)).mono ?_; rintro e w1 ⟨rfl, rfl⟩) | (go_at_call 22; refine (within_no _ _ _ _ (by omega)).mono ?_; rintro e w1 ⟨rfl, rfl⟩))
      exact bodyPost_ret (v := .tuple #[.slice none 0 0, .int .i64 2]) (by simp [results, Try.results9, go_sem, *]) rfl HR.out
    by_cases q5 : n ≤ 50
    · go_enter Try.func9, Try.ntmps9
      go_wp2_with (first | (go_at_call 22; refine (within_yes _ _ _ _ (by omega) (by omega)).mono ?_; rintro e w1 ⟨rfl, rfl⟩) | (go_at_call 22; refine (within_no _ _ _ _ (by omega)).mono ?_; rintro e w1 ⟨rfl, rfl⟩))
      exact bodyPost_ret (v := .tuple #[.slice none 0 0, .int .i64 2]) (by simp [results, Try.results9, go_sem, *]) rfl HR.out
    · go_enter Try.func9, Try.ntmps9
      go_wp2_with (first | (go_at_call 22; refine (within_yes _ _ _ _ (by omega) (by omega)).mono ?_; rintro e w1 ⟨rfl, rfl⟩) | (go_at_call 22; refine (within_no _ _ _ _ (by omega)).mono ?_; rintro e w1 ⟨rfl, rfl⟩))
      exact bodyPost_ret (v := .tuple #[.slice none 0 0, .int .i64 2]) (by simp [results, Try.results9, go_sem, *]) rfl HR.out
  rw [trnL_yes h0, trnErr_yes h0]
  have n1 : 1 ≤ n := by omega
  have n2 : n ≤ 200 := by omega
  have r1 : 0 ≤ rise := by omega
  have r2 : rise ≤ n := by omega
  have r3 : rise ≤ 50 := by omega
  clear h0
  obtain ⟨R, rfl⟩ := Int.eq_ofNat_of_zero_le r1
  obtain ⟨i, hi, hz0, hz1, hz2⟩ := info_parts infoInt
  by_cases q5 : n ≤ 50 <;> (
    go_enter Try.func9, Try.ntmps9
    go_wp2_with (first | (go_at_call 22; refine (within_yes _ _ _ _ (by omega) (by omega)).mono ?_; rintro e w1 ⟨rfl, rfl⟩) | (at_make; refine wpList_make_full _ rfl _ _ 22 rfl w.heap.size 3 i (.int .i64 0) 1 Try.underlying22 hi hz0 hz1 _ _ _ _ R rfl rfl rfl rfl (by rw [hz2]; omega) (by unfold maxLen; omega) (Nat.le_refl _) ?_; intro w1 hown hgrow))
    rw [made_vals _ _ rfl] at hown
    have hbel := (gcell hgrow w.heap.size (Nat.le_refl _) (fun k hk => by cases hk)).2.2
    rw [vals_congr (g := tF n R 0) (fun k _ => by simp [tF])] at hown
    obtain ⟨g, hg⟩ : ∃ g, g = w.heap.size := ⟨_, rfl⟩
    rw [← hg] at hown ⊢
    have hgl : w.heap.size ≤ g := by omega
    clear hg
    go_loopw [22] (fun x wr => ∃ k : Nat, k ≤ R ∧ x = .int .i64 k ∧ wr.ownsRow g 3 1 (.slice (some ⟨g, 0, none⟩) R R) R (vals (tF n R k) R) ∧ Below w.heap.size w wr) (fun x _ => R - (intOf x).toNat)
    case atStart => exact ⟨0, Nat.zero_le _, rfl, hown, hbel⟩
    case round =>
      clear hown hbel hgrow
      obtain ⟨k, hk, rfl, hown, hbel⟩ := hrel
      have hsz := hbel.size
      by_cases hlt : k < R
      · have hg := turnsL_get (n := n) (rise := (R : Int)) (k := k) (by simpa using hlt)
        unfold turnAt at hg
        have HG := Lib.hid hg
        clear hg
        have m0 : 0 ≤ n * (2 * ((R : Int) - k) - 1) := Int.mul_nonneg (by omega) (by omega)
        have m1 : n * (2 * ((R : Int) - k) - 1) ≤ 200 * 100 := Int.mul_le_mul (by omega) (by omega) (by omega) (by omega)
        have d0 : 0 ≤ (n * (2 * ((R : Int) - k) - 1) + R) / (2 * R) := Int.ediv_nonneg (by omega) (by omega)
        have d1 : (n * (2 * ((R : Int) - k) - 1) + R) / (2 * R) ≤ 30000 := Int.ediv_le_of_le_mul (by omega) (by omega)
        have hcA := hown.cellAt k (by omega)
        rw [vals_get _ hlt] at hcA
        have hfA := hown.frozenAt k
        go_wp2
        go_roundw
        case rel =>
          refine ⟨k + 1, by omega, by go_num, ?_, hbel.setCell (by simp; omega) _⟩
          have := (hown.stored k (.int .i64 ((n * (2 * ((R : Int) - k) - 1) + R) / (2 * R)))).1
          rw [vals_set] at this
          rw [vals_congr (g := fun j => if j = k then .int .i64 ((n * (2 * ((R : Int) - k) - 1) + R) / (2 * R)) else tF n R k j)]
          · exact this
          · intro j hj
            by_cases e : j = k
            · subst e
              rw [if_pos rfl]
              simp only [tF]
              rw [if_pos (by omega), fI_eq, HG.out]
            · rw [if_neg e]
              simp only [tF]
              by_cases e2 : j < k
              · rw [if_pos e2, if_pos (by omega)]
              · rw [if_neg e2, if_neg (by omega)]
        case measure => simp [intOf]; omega
      · obtain rfl : R = k := by omega
        go_wp2
        exact bodyPost_ret (v := .tuple #[.slice (some ⟨g, 0, none⟩) R R, .int .i64 0]) (by simp [results, Try.results9, go_sem, *]) rfl (RetL.own hown (by rw [turnsL_length]; simp) (fun j hj => by simp only [tF]; rw [if_pos hj]) hbel))

end Go.Proofs.Ytoiehdlcfehmlaa
