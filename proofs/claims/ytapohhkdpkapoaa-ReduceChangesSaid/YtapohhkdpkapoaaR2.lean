/- The reference's Change: what it returns. -/
import Derived.Test.YtapohhkdpkapoaaProg
import Derived.Test.YtapohhkdpkapoaaR1
import Derived.Test.YtapohhkdpkapoaaD1
namespace Go.Proofs.Ytapohhkdpkapoaa
open Go.RowKit
set_option linter.unusedVariables false

/-- the error of Change -/
def chE (W H : Int) (n : Nat) (ls : List Int) : Int := if gridErr W H n = 0 then (if listErr ls = 0 then (if (ls.length : Int) = W then 0 else 26) else listErr ls) else gridErr W H n
theorem chE_1 {W H : Int} {n : Nat} {ls : List Int} (h : ¬ gridErr W H n = 0) : chE W H n ls = gridErr W H n := by simp [chE, h]
theorem chE_2 {W H : Int} {n : Nat} {ls : List Int} (h : gridErr W H n = 0) (h2 : ¬ listErr ls = 0) : chE W H n ls = listErr ls := by simp [chE, h, h2]
theorem chE_3 {W H : Int} {n : Nat} {ls : List Int} (h : gridErr W H n = 0) (h2 : listErr ls = 0) (h3 : ¬ (ls.length : Int) = W) : chE W H n ls = 26 := by simp [chE, h, h2, h3]
theorem chE_4 {W H : Int} {n : Nat} {ls : List Int} (h : gridErr W H n = 0) (h2 : listErr ls = 0) (h3 : (ls.length : Int) = W) : chE W H n ls = 0 := by simp [chE, h, h2, h3]
theorem chE_ne {W H : Int} {n : Nat} {ls : List Int} (h : ¬ gridErr W H n = 0 ∨ ¬ listErr ls = 0 ∨ ¬ (ls.length : Int) = W) : ¬ chE W H n ls = 0 := by
  unfold chE
  split
  · split
    · split
      · rename_i a1 a2 a3
        rcases h with h | h | h
        · exact absurd a1 h
        · exact absurd a2 h
        · exact absurd a3 h
      · simp
    · assumption
  · assumption
def chW (W H : Int) (n : Nat) (ls : List Int) (x : Int) : Int := if chE W H n ls = 0 then x else 0
def chL (W H : Int) (bs : List Bool) (ls : List Int) : List Bool := if chE W H bs.length ls = 0 then changedL bs ls W.toNat else []
def chN (W H : Int) (bs : List Bool) (ls : List Int) : Int := if chE W H bs.length ls = 0 then (apartN (changedL bs ls W.toNat) bs bs.length : Nat) else 0

/-- a grid, a number and an error come back -/
def RetG3 (w0 : World) (W H : Int) (xs : List Bool) (n er : Int) (e : Ending) (w' : World) : Prop :=
  ∃ a c, e = .returned (.tuple #[.agg #[.int .i64 W, .int .i64 H, .slice a xs.length c], .int .i64 n, .int .i64 er]) ∧ Row w' a xs.length (fB xs) ∧ Below w0.heap.size w0 w'
theorem RetG3.err {w0 w' : World} {W H : Int} {bs : List Bool} {ls : List Int} (h : ¬ chE W H bs.length ls = 0) {er : Int} (he : er = chE W H bs.length ls) (hb : Below w0.heap.size w0 w') :
    RetG3 w0 (chW W H bs.length ls W) (chW W H bs.length ls H) (chL W H bs ls) (chN W H bs ls) (chE W H bs.length ls) (.returned (.tuple #[.agg #[.int .i64 0, .int .i64 0, .slice none 0 0], .int .i64 0, .int .i64 er])) w' := by
  refine ⟨none, 0, ?_, ?_, hb⟩
  · simp [chW, chL, chN, h, he]
  · simp only [chL, h, if_false]
    exact Row.nil _ _ _
theorem RetG3.ok {w0 w' : World} {W H : Nat} {bs : List Bool} {ls : List Int} (h : chE W H bs.length ls = 0) {a : Option Addr} {c : Nat} (hr : Row w' a bs.length (fB (changedL bs ls W))) (hb : Below w0.heap.size w0 w') :
    RetG3 w0 (chW W H bs.length ls W) (chW W H bs.length ls H) (chL W H bs ls) (chN W H bs ls) (chE W H bs.length ls) (.returned (.tuple #[.agg #[.int .i64 W, .int .i64 H, .slice a bs.length c], .int .i64 (apartN (changedL bs ls W) bs bs.length : Nat), .int .i64 0])) w' := by
  have hl := changedL_length bs ls W
  refine ⟨a, c, ?_, ?_, hb⟩
  · simp [chW, chL, chN, h, hl]
  · simp only [chL, h, if_true, Int.toNat_natCast, hl]
    exact hr

set_option maxHeartbeats 2000000 in
theorem rchange_any (W H : Int) (a b : Option Addr) (c d : Nat) (bs : List Bool) (ls : List Int) (w : World) (ha : Row w a bs.length (fB bs)) (hb : Row w b ls.length (fI ls)) :
    Calls Try.prog 13 #[.agg #[.int .i64 W, .int .i64 H, .slice a bs.length c], .slice b ls.length d] w (RetG3 w (chW W H bs.length ls W) (chW W H bs.length ls H) (chL W H bs ls) (chN W H bs ls) (chE W H bs.length ls)) := by
  by_cases h0 : gridErr W H bs.length = 0
  case neg =>
    have d0 : (gridErr W H bs.length != 0) = true := by simpa using h0
    go_enter Try.func13, Try.ntmps13
    go_wp2_with (go_at_call 37; refine (rcheck_any _ _ _ _ _ _).mono ?_; rintro e w1 ⟨rfl, hb1⟩; (try replace hb1 := undrew hb1); (try replace hb1 := undraws hb1); obtain ⟨hc1, hf1⟩ := bcell hb1; have hz1 := hb1.size; (try simp at hz1); (try (have z0 : w.heap.size < w1.heap.size := by omega)); (try (have z1 : w.heap.size + 1 < w1.heap.size := by omega)); (try (have z2 : w.heap.size + 1 + 1 < w1.heap.size := by omega)))
    exact bodyPost_ret (v := .tuple #[.agg #[.int .i64 0, .int .i64 0, .slice none 0 0], .int .i64 0, .int .i64 (gridErr W H bs.length)]) (by simp [results, Try.results13, go_sem, *]) rfl (RetG3.err (chE_ne (.inl h0)) (chE_1 h0).symm (by repeat (first | exact Below.refl _ _ | assumption | refine gdraws ?_ _ | refine gdrew ?_ | refine galloc ?_ _ | refine Below.setCell ?_ (by simp) _ | refine gtrans ?_ (by assumption) | refine Below.trans ?_ (Below.mono (by assumption) (by simp)))))
  have d0 : (gridErr W H bs.length != 0) = false := by simpa using h0
  obtain ⟨w1, hh1, w2, hh2, hlen⟩ := gridErr_zero h0
  have HLEN := Lib.hid hlen
  clear hlen
  have H0 := Lib.hid h0
  clear h0
  by_cases h1 : listErr ls = 0
  case neg =>
    have d1 : (listErr ls != 0) = true := by simpa using h1
    go_enter Try.func13, Try.ntmps13
    go_wp2_with (first | (go_at_call 37; refine (rcheck_any _ _ _ _ _ _).mono ?_; rintro e w1 ⟨rfl, hb1⟩; (try replace hb1 := undrew hb1); (try replace hb1 := undraws hb1); obtain ⟨hc1, hf1⟩ := bcell hb1; have hz1 := hb1.size; (try simp at hz1); (try (have z0 : w.heap.size < w1.heap.size := by omega)); (try (have z1 : w.heap.size + 1 < w1.heap.size := by omega)); (try (have z2 : w.heap.size + 1 + 1 < w1.heap.size := by omega))) | (go_at_call 20; refine (lcheck_any _ _ _ _ (by exact hb.below (by repeat (first | exact Below.refl _ _ | assumption | refine gdraws ?_ _ | refine gdrew ?_ | refine galloc ?_ _ | refine Below.setCell ?_ (by simp) _ | refine gtrans ?_ (by assumption) | refine Below.trans ?_ (Below.mono (by assumption) (by simp)))))).mono ?_; rintro e w1 ⟨rfl, rfl⟩))
    exact bodyPost_ret (v := .tuple #[.agg #[.int .i64 0, .int .i64 0, .slice none 0 0], .int .i64 0, .int .i64 (listErr ls)]) (by simp [results, Try.results13, go_sem, *]) rfl (RetG3.err (chE_ne (.inr (.inl h1))) (chE_2 H0.out h1).symm (by repeat (first | exact Below.refl _ _ | assumption | refine gdraws ?_ _ | refine gdrew ?_ | refine galloc ?_ _ | refine Below.setCell ?_ (by simp) _ | refine gtrans ?_ (by assumption) | refine Below.trans ?_ (Below.mono (by assumption) (by simp)))))
  have d1 : (listErr ls != 0) = false := by simpa using h1
  have H1 := Lib.hid h1
  clear h1
  by_cases h2 : (ls.length : Int) = W
  case neg =>
    have d2 : ((ls.length : Int) != W) = true := by simpa using h2
    go_enter Try.func13, Try.ntmps13
    go_wp2_with (first | (go_at_call 37; refine (rcheck_any _ _ _ _ _ _).mono ?_; rintro e w1 ⟨rfl, hb1⟩; (try replace hb1 := undrew hb1); (try replace hb1 := undraws hb1); obtain ⟨hc1, hf1⟩ := bcell hb1; have hz1 := hb1.size; (try simp at hz1); (try (have z0 : w.heap.size < w1.heap.size := by omega)); (try (have z1 : w.heap.size + 1 < w1.heap.size := by omega)); (try (have z2 : w.heap.size + 1 + 1 < w1.heap.size := by omega))) | (go_at_call 20; refine (lcheck_any _ _ _ _ (by exact hb.below (by repeat (first | exact Below.refl _ _ | assumption | refine gdraws ?_ _ | refine gdrew ?_ | refine galloc ?_ _ | refine Below.setCell ?_ (by simp) _ | refine gtrans ?_ (by assumption) | refine Below.trans ?_ (Below.mono (by assumption) (by simp)))))).mono ?_; rintro e w1 ⟨rfl, rfl⟩))
    exact bodyPost_ret (v := .tuple #[.agg #[.int .i64 0, .int .i64 0, .slice none 0 0], .int .i64 0, .int .i64 26]) (by simp [results, Try.results13, go_sem, *]) rfl (RetG3.err (chE_ne (.inr (.inr h2))) (chE_3 H0.out H1.out h2).symm (by repeat (first | exact Below.refl _ _ | assumption | refine gdraws ?_ _ | refine gdrew ?_ | refine galloc ?_ _ | refine Below.setCell ?_ (by simp) _ | refine gtrans ?_ (by assumption) | refine Below.trans ?_ (Below.mono (by assumption) (by simp)))))
  obtain ⟨W', rfl⟩ := Int.eq_ofNat_of_zero_le (show 0 ≤ W by omega)
  obtain ⟨H', rfl⟩ := Int.eq_ofNat_of_zero_le (show 0 ≤ H by omega)
  have d2 : ((ls.length : Int) != (W' : Int)) = false := by simpa using h2
  have hok := chE_4 H0.out H1.out h2
  have HOK := Lib.hid hok
  have hw : ls.length = W' := by omega
  have HW := Lib.hid hw
  clear h2 hok hw
  have hlen' : bs.length = W' * H' := by have := HLEN.out; rw [← Int.natCast_mul] at this; omega
  have HLEN' := Lib.hid hlen'
  have hbl : bs.length ≤ 4096 := by rw [hlen']; exact Nat.mul_le_mul (show W' ≤ 64 by omega) (show H' ≤ 64 by omega)
  clear hlen'
  go_enter Try.func13, Try.ntmps13
  go_wp2_with (first | (go_at_call 37; refine (rcheck_any _ _ _ _ _ _).mono ?_; rintro e w1 ⟨rfl, hb1⟩; (try replace hb1 := undrew hb1); (try replace hb1 := undraws hb1); obtain ⟨hc1, hf1⟩ := bcell hb1; have hz1 := hb1.size; (try simp at hz1); (try (have z0 : w.heap.size < w1.heap.size := by omega)); (try (have z1 : w.heap.size + 1 < w1.heap.size := by omega)); (try (have z2 : w.heap.size + 1 + 1 < w1.heap.size := by omega))) | (go_at_call 20; refine (lcheck_any _ _ _ _ (by exact hb.below (by repeat (first | exact Below.refl _ _ | assumption | refine gdraws ?_ _ | refine gdrew ?_ | refine galloc ?_ _ | refine Below.setCell ?_ (by simp) _ | refine gtrans ?_ (by assumption) | refine Below.trans ?_ (Below.mono (by assumption) (by simp)))))).mono ?_; rintro e w1 ⟨rfl, rfl⟩) | (go_at_call 38; refine (changed_any W' H' a b c d bs ls _ (by exact ha.below (by repeat (first | exact Below.refl _ _ | assumption | refine gdraws ?_ _ | refine gdrew ?_ | refine galloc ?_ _ | refine Below.setCell ?_ (by simp) _ | refine gtrans ?_ (by assumption) | refine Below.trans ?_ (Below.mono (by assumption) (by simp))))) (by exact hb.below (by repeat (first | exact Below.refl _ _ | assumption | refine gdraws ?_ _ | refine gdrew ?_ | refine galloc ?_ _ | refine Below.setCell ?_ (by simp) _ | refine gtrans ?_ (by assumption) | refine Below.trans ?_ (Below.mono (by assumption) (by simp))))) (by omega) (by omega) (by omega) HLEN'.out HW.out).mono ?_; rintro e w1 ⟨g, c2, rfl, ho, hg, hb1⟩; rw [changedL_length] at *; (try replace hb1 := undrew hb1); (try replace hb1 := undraws hb1); obtain ⟨hc1, hf1⟩ := bcell hb1; have hz1 := hb1.size; (try simp at hz1); (try (have z0 : w.heap.size < w1.heap.size := by omega)); (try (have z1 : w.heap.size + 1 < w1.heap.size := by omega)); (try (have z2 : w.heap.size + 1 + 1 < w1.heap.size := by omega))))
  have hg2 : w.heap.size + 2 ≤ g := by omega
  have g7 : g < w1.heap.size := (ownsRow_at ho).2
  obtain ⟨w4, hw4⟩ : ∃ w4 : World, w4 = w1 := ⟨_, rfl⟩
  subst hw4
  refine wp_world (fun w' => Box3 w' w.heap.size (.int .i64 W') (.int .i64 H') (.slice a bs.length c) ∧ Box3 w' (w.heap.size + 1) (.int .i64 0) (.int .i64 0) (.slice none 0 0) ∧ (∀ i, w'.frozen? ⟨w.heap.size + 1, i, none⟩ = false) ∧
    Box3 w' w4.heap.size (.int .i64 W') (.int .i64 H') (.slice (some ⟨g, 0, none⟩) bs.length c2) ∧ w'.ownsRow g 4 1 (.slice (some ⟨g, 0, none⟩) bs.length c2) bs.length (vals (fB (changedL bs ls W')) bs.length) ∧ Below w.heap.size w w') ⟨?_, ?_, ?_, ?_, ?_, ?_⟩ ?_
  · simp [Box3, go_sem, *]
  · simp [Box3, go_sem, *]
  · intro i; simp [go_sem, *]
  · exact Box3.new _ _ _ _ _
  · exact ownsRow_below (ownsRow_head ho) (galloc (Below.refl _ _) _) g7
  · exact (by repeat (first | exact Below.refl _ _ | assumption | refine gdraws ?_ _ | refine gdrew ?_ | refine galloc ?_ _ | refine Below.setCell ?_ (by simp) _ | refine gtrans ?_ (by assumption) | refine Below.trans ?_ (Below.mono (by assumption) (by simp))))
  intro w6 hI
  obtain ⟨⟨p0, p1, p2, ps⟩, ⟨q0, q1, q2, qs⟩, hfr, ⟨o0, o1, o2, os⟩, hown, hbl⟩ := hI
  have hrow := ownsRow_cellrow hown
  clear z0 z1 hc1 hf1 ho hb1
  have hne : ¬ w.heap.size + 1 = w4.heap.size := by omega
  go_region_held3 (fun w' => w'.cell? ⟨w.heap.size, 0, none⟩ = some (.int .i64 W') ∧ w'.cell? ⟨w.heap.size, 1, none⟩ = some (.int .i64 H') ∧ w'.cell? ⟨w.heap.size, 2, none⟩ = some (.slice a bs.length c) ∧ w'.cell? ⟨w4.heap.size, 0, none⟩ = some (.int .i64 W') ∧ w'.cell? ⟨w4.heap.size, 1, none⟩ = some (.int .i64 H') ∧ w'.cell? ⟨w4.heap.size, 2, none⟩ = some (.slice (some ⟨g, 0, none⟩) bs.length c2))
    ((refine ⟨?_, ?_, ?_, ?_, ?_, ?_⟩ <;> go_keep))
    (first | (go_at_call 25; refine (apart_len W' H' W' H' (some ⟨g, 0, none⟩) a bs.length c2 bs.length c (changedL bs ls W') bs _ (changedL_length _ _ _) rfl (by exact hrow) (by exact ha.below (by repeat (first | exact Below.refl _ _ | assumption | refine gdraws ?_ _ | refine gdrew ?_ | refine galloc ?_ _ | refine Below.setCell ?_ (by simp) _ | refine gtrans ?_ (by assumption) | refine Below.trans ?_ (Below.mono (by assumption) (by simp))))) (by omega) (by omega)).mono ?_; rintro e w5 ⟨rfl, hb5⟩; replace hb5 := undrew hb5; obtain ⟨hc5, hf5⟩ := bcell hb5; have hz5 := hb5.size))
  go_wp2
  have ho5 := ownsRow_below hown hb5 (ownsRow_at hown).2
  have ho6 := ownsRow_setCell_below (ownsRow_setCell_below (ownsRow_setCell_below ho5 (a := ⟨w.heap.size + 1, 0, none⟩) (by simp; omega) (.int .i64 W')) (a := ⟨w.heap.size + 1, 1, none⟩) (by simp; omega) (.int .i64 H')) (a := ⟨w.heap.size + 1, 2, none⟩) (by simp; omega) (.slice (some ⟨g, 0, none⟩) bs.length c2)
  exact bodyPost_ret (v := .tuple #[.agg #[.int .i64 W', .int .i64 H', .slice (some ⟨g, 0, none⟩) bs.length c2], .int .i64 (apartN (changedL bs ls W') bs bs.length : Nat), .int .i64 0]) (by simp [results, Try.results13, go_sem, *]) rfl (RetG3.ok HOK.out (ownsRow_cellrow ho6) (by repeat (first | exact Below.refl _ _ | assumption | refine gdraws ?_ _ | refine gdrew ?_ | refine galloc ?_ _ | refine Below.setCell ?_ (by simp) _ | refine gtrans ?_ (by assumption) | refine Below.trans ?_ (Below.mono (by assumption) (by simp)))))

end Go.Proofs.Ytapohhkdpkapoaa
