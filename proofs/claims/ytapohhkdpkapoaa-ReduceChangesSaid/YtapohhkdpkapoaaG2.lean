/- At, Both and Apart of the references: what they return. -/
import Derived.Test.YtapohhkdpkapoaaProg
import Derived.Test.YtapohhkdpkapoaaG1
namespace Go.Proofs.Ytapohhkdpkapoaa
open Go.RowKit
set_option linter.unusedVariables false

theorem at_any (W H x y : Int) (a : Option Addr) (c : Nat) (bs : List Bool) (w : World) (hr : Row w a bs.length (fB bs)) (h1 : 0 ≤ y * W) (h2 : y * W ≤ 1000000) (h3 : 0 ≤ x) (h4 : y * W + x < bs.length) (h5 : bs.length ≤ 1000000) :
    Calls Try.prog 22 #[.agg #[.int .i64 W, .int .i64 H, .slice a bs.length c], .int .i64 x, .int .i64 y] w fun e w' => e = .returned (.bool (gB bs (y * W + x).toNat)) ∧ Below w.heap.size w w' := by
  obtain ⟨b, o, rfl, g1, g2⟩ := hr (y * W + x).toNat (by omega)
  rw [fB_eq] at g2
  go_enter Try.func22, Try.ntmps22
  go_wp2
  go_ret
  exact ⟨rfl, (Below.refl _ _).alloc (Nat.le_refl _) _⟩

def bothErr (W H : Int) (n : Nat) (V I : Int) (m : Nat) : Int := if gridErr W H n = 0 then gridErr V I m else gridErr W H n
theorem bothErr_fst {W H : Int} {n : Nat} {V I : Int} {m : Nat} (h : ¬ gridErr W H n = 0) : bothErr W H n V I m = gridErr W H n := by simp [bothErr, h]
theorem bothErr_snd {W H : Int} {n : Nat} {V I : Int} {m : Nat} (h : gridErr W H n = 0) : bothErr W H n V I m = gridErr V I m := by simp [bothErr, h]

theorem both_any (W H V I : Int) (a b : Option Addr) (n c m d : Nat) (w : World) :
    Calls Try.prog 39 #[.agg #[.int .i64 W, .int .i64 H, .slice a n c], .agg #[.int .i64 V, .int .i64 I, .slice b m d]] w fun e w' => e = .returned (.int .i64 (bothErr W H n V I m)) ∧ Below w.heap.size w w' := by
  by_cases h : gridErr W H n = 0
  · have d : (gridErr W H n != 0) = false := by simpa using h
    have HH := Lib.hid h
    clear h
    go_enter Try.func39, Try.ntmps39
    go_wp2_with (go_at_call 37; refine (rcheck_any _ _ _ _ _ _).mono ?_; rintro e w1 ⟨rfl, hb1⟩; (try replace hb1 := undrew hb1); (try replace hb1 := undraws hb1); obtain ⟨hc1, hf1⟩ := bcell hb1; have hz1 := hb1.size; (try simp at hz1); (try (have z0 : w.heap.size < w1.heap.size := by omega)); (try (have z1 : w.heap.size + 1 < w1.heap.size := by omega)); (try (have z2 : w.heap.size + 1 + 1 < w1.heap.size := by omega)))
    go_ret
    exact ⟨ret_int (bothErr_snd HH.out).symm, (by repeat (first | exact Below.refl _ _ | assumption | refine gdraws ?_ _ | refine gdrew ?_ | refine galloc ?_ _ | refine Below.setCell ?_ (by simp) _ | refine gtrans ?_ (by assumption) | refine Below.trans ?_ (Below.mono (by assumption) (by simp))))⟩
  · have d : (gridErr W H n != 0) = true := by simpa using h
    go_enter Try.func39, Try.ntmps39
    go_wp2_with (go_at_call 37; refine (rcheck_any _ _ _ _ _ _).mono ?_; rintro e w1 ⟨rfl, hb1⟩; (try replace hb1 := undrew hb1); (try replace hb1 := undraws hb1); obtain ⟨hc1, hf1⟩ := bcell hb1; have hz1 := hb1.size; (try simp at hz1); (try (have z0 : w.heap.size < w1.heap.size := by omega)); (try (have z1 : w.heap.size + 1 < w1.heap.size := by omega)); (try (have z2 : w.heap.size + 1 + 1 < w1.heap.size := by omega)))
    go_ret
    exact ⟨ret_int (bothErr_fst h).symm, (by repeat (first | exact Below.refl _ _ | assumption | refine gdraws ?_ _ | refine gdrew ?_ | refine galloc ?_ _ | refine Below.setCell ?_ (by simp) _ | refine gtrans ?_ (by assumption) | refine Below.trans ?_ (Below.mono (by assumption) (by simp))))⟩

/-- in how many of the first k places two lists differ -/
def apartN (xs ys : List Bool) : Nat → Nat
  | 0 => 0
  | k + 1 => if gB xs k = gB ys k then apartN xs ys k else apartN xs ys k + 1
theorem apartN_le (xs ys : List Bool) : ∀ k, apartN xs ys k ≤ k
  | 0 => Nat.le_refl _
  | k + 1 => by have := apartN_le xs ys k; simp only [apartN]; split <;> omega
theorem apartN_same {xs ys : List Bool} {k : Nat} (h : gB xs k = gB ys k) : apartN xs ys (k + 1) = apartN xs ys k := by simp [apartN, h]
theorem apartN_diff {xs ys : List Bool} {k : Nat} (h : ¬ gB xs k = gB ys k) : apartN xs ys (k + 1) = apartN xs ys k + 1 := by simp [apartN, h]

set_option maxHeartbeats 400000 in
theorem apart_any (W H V I : Int) (a b : Option Addr) (c d : Nat) (xs ys : List Bool) (w : World) (ha : Row w a xs.length (fB xs)) (hb : Row w b ys.length (fB ys)) (hl : xs.length ≤ ys.length) (hn : xs.length ≤ 1000000) :
    Calls Try.prog 25 #[.agg #[.int .i64 W, .int .i64 H, .slice a xs.length c], .agg #[.int .i64 V, .int .i64 I, .slice b ys.length d]] w fun e w' => e = .returned (.int .i64 (apartN xs ys xs.length : Nat)) ∧ Below w.heap.size w w' := by
  go_enter Try.func25, Try.ntmps25
  go_wp2
  refine wp_world (fun w' => Box3 w' w.heap.size (.int .i64 W) (.int .i64 H) (.slice a xs.length c) ∧ Box3 w' (w.heap.size + 1) (.int .i64 V) (.int .i64 I) (.slice b ys.length d) ∧ Below w.heap.size w w') ⟨by simp [Box3]; omega, by simp [Box3], (by repeat (first | exact Below.refl _ _ | assumption | refine gdraws ?_ _ | refine gdrew ?_ | refine galloc ?_ _ | refine Below.setCell ?_ (by simp) _ | refine gtrans ?_ (by assumption) | refine Below.trans ?_ (Below.mono (by assumption) (by simp))))⟩ ?_
  intro w1 hI
  go_loopw [5, 6] (fun n i wr => ∃ k : Nat, k ≤ xs.length ∧ i = .int .i64 k ∧ n = .int .i64 (apartN xs ys k : Nat) ∧ Box3 wr w.heap.size (.int .i64 W) (.int .i64 H) (.slice a xs.length c) ∧ Box3 wr (w.heap.size + 1) (.int .i64 V) (.int .i64 I) (.slice b ys.length d) ∧ Below w.heap.size w wr) (fun _ i _ => xs.length - (intOf i).toNat)
  case atStart => exact ⟨0, Nat.zero_le _, rfl, rfl, hI⟩
  case round =>
    obtain ⟨k, hk, rfl, rfl, hb1, hb2, hbl⟩ := hrel
    have HB1 := Lib.hid hb1
    have HB2 := Lib.hid hb2
    obtain ⟨p0, p1, p2, ps⟩ := hb1
    obtain ⟨q0, q1, q2, qs⟩ := hb2
    have hap := apartN_le xs ys k
    by_cases hlt : k < xs.length
    · obtain ⟨b1, o1, rfl, g1, hc1⟩ := ha.below hbl k hlt
      obtain ⟨b2, o2, rfl, g2, hc2⟩ := hb.below hbl k (by omega)
      rw [fB_eq] at hc1 hc2
      by_cases hq : gB xs k = gB ys k
      · have HQ := Lib.hid (apartN_same hq)
        have d1 : (gB xs k == gB ys k) = true := by simp [hq]
        clear hq
        go_wp2
        go_quiet (fail)
        go_wp2
        go_roundw
        case rel => exact ⟨k + 1, by omega, by go_num, by rw [HQ.out], HB1.out, HB2.out, below_draws hbl _⟩
        case measure => simp [intOf]; omega
      · have HQ := Lib.hid (apartN_diff hq)
        have d1 : (gB xs k == gB ys k) = false := by simpa using hq
        clear hq
        go_wp2
        go_quiet (fail)
        go_wp2
        go_roundw
        case rel => exact ⟨k + 1, by omega, by go_num, by rw [HQ.out]; go_num, HB1.out, HB2.out, below_draws hbl _⟩
        case measure => simp [intOf]; omega
    · go_wp2
      go_ret
      exact ⟨ret_int (by rw [show k = xs.length from by omega]), hbl⟩

theorem apart_len (W H V I : Int) (a b : Option Addr) (n c m d : Nat) (xs ys : List Bool) (w : World) (hxn : xs.length = n) (hym : ys.length = m) (ha : Row w a n (fB xs)) (hb : Row w b m (fB ys)) (hl : n ≤ m) (hn : n ≤ 1000000) :
    Calls Try.prog 25 #[.agg #[.int .i64 W, .int .i64 H, .slice a n c], .agg #[.int .i64 V, .int .i64 I, .slice b m d]] w fun e w' => e = .returned (.int .i64 (apartN xs ys n : Nat)) ∧ Below w.heap.size w w' := by
  subst hxn hym
  exact apart_any W H V I a b c d xs ys w ha hb hl hn

end Go.Proofs.Ytapohhkdpkapoaa
