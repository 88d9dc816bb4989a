/- The distance of two grids: the program's and the reference's. -/
import Derived.Test.YtapohhkdpkapoaaProg
import Derived.Test.YtapohhkdpkapoaaG2
namespace Go.Proofs.Ytapohhkdpkapoaa
open Go.RowKit
set_option linter.unusedVariables false

def distE (W H : Int) (n : Nat) (V I : Int) (m : Nat) : Int := if gridErr W H n = 0 then (if gridErr V I m = 0 then (if W = V ∧ H = I then 0 else 26) else gridErr V I m) else gridErr W H n
def distN (W H : Int) (xs : List Bool) (V I : Int) (ys : List Bool) : Int := if distE W H xs.length V I ys.length = 0 then (apartN xs ys xs.length : Nat) else 0
theorem dist_1 {W H : Int} {xs : List Bool} {V I : Int} {ys : List Bool} (h : ¬ gridErr W H xs.length = 0) : distE W H xs.length V I ys.length = gridErr W H xs.length ∧ distN W H xs V I ys = 0 := by
  simp [distN, distE, h]
theorem dist_2 {W H : Int} {xs : List Bool} {V I : Int} {ys : List Bool} (h : gridErr W H xs.length = 0) (h2 : ¬ gridErr V I ys.length = 0) : distE W H xs.length V I ys.length = gridErr V I ys.length ∧ distN W H xs V I ys = 0 := by
  simp [distN, distE, h, h2]
theorem dist_3 {W H : Int} {xs : List Bool} {V I : Int} {ys : List Bool} (h : gridErr W H xs.length = 0) (h2 : gridErr V I ys.length = 0) (h3 : ¬ (W = V ∧ H = I)) : distE W H xs.length V I ys.length = 26 ∧ distN W H xs V I ys = 0 := by
  simp [distN, distE, h, h2, h3]
theorem dist_4 {W H : Int} {xs : List Bool} {ys : List Bool} (h : gridErr W H xs.length = 0) (h2 : gridErr W H ys.length = 0) : distE W H xs.length W H ys.length = 0 ∧ distN W H xs W H ys = (apartN xs ys xs.length : Nat) := by
  simp [distN, distE, h, h2]
theorem dist_len {W H : Int} {n : Nat} {V I : Int} {m : Nat} (h : gridErr W H n = 0) (h2 : gridErr V I m = 0) (h3 : W = V) (h4 : H = I) : n = m ∧ n ≤ 4096 := by
  obtain ⟨a1, a2, a3, a4, a5⟩ := gridErr_zero h
  obtain ⟨_, _, _, _, b5⟩ := gridErr_zero h2
  have := area_bd a1 a2 a3 a4
  subst h3 h4
  omega
theorem ret2 {a b c d : Int} (h : a = c ∧ b = d) : Ending.returned (.tuple #[.int .i64 a, .int .i64 b]) = .returned (.tuple #[.int .i64 c, .int .i64 d]) := by rw [h.1, h.2]

set_option maxHeartbeats 1000000 in
theorem rdist_any (W H V I : Int) (a b : Option Addr) (c d : Nat) (xs ys : List Bool) (w : World) (ha : Row w a xs.length (fB xs)) (hb : Row w b ys.length (fB ys)) :
    Calls Try.prog 15 #[.agg #[.int .i64 W, .int .i64 H, .slice a xs.length c], .agg #[.int .i64 V, .int .i64 I, .slice b ys.length d]] w fun e w' => e = .returned (.tuple #[.int .i64 (distN W H xs V I ys), .int .i64 (distE W H xs.length V I ys.length)]) ∧ Below w.heap.size w w' := by
  by_cases h0 : gridErr W H xs.length = 0
  case neg =>
    have e0 := bothErr_fst (V := V) (I := I) (m := ys.length) h0
    have d0 : (bothErr W H xs.length V I ys.length != 0) = true := by rw [e0]; simpa using h0
    have E0 := Lib.hid e0
    clear e0
    go_enter Try.func15, Try.ntmps15
    go_wp2_with (go_at_call 39; refine (both_any _ _ _ _ _ _ _ _ _ _ _).mono ?_; rintro e w1 ⟨rfl, hb1⟩; (try replace hb1 := undrew hb1); (try replace hb1 := undraws hb1); obtain ⟨hc1, hf1⟩ := bcell hb1; have hz1 := hb1.size; (try simp at hz1); (try (have z0 : w.heap.size < w1.heap.size := by omega)); (try (have z1 : w.heap.size + 1 < w1.heap.size := by omega)); (try (have z2 : w.heap.size + 1 + 1 < w1.heap.size := by omega)))
    go_ret2
    exact ⟨ret2 ⟨(dist_1 h0).2.symm, by rw [E0.out, (dist_1 h0).1]⟩, (by repeat (first | exact Below.refl _ _ | assumption | refine gdraws ?_ _ | refine gdrew ?_ | refine galloc ?_ _ | refine Below.setCell ?_ (by simp) _ | refine gtrans ?_ (by assumption) | refine Below.trans ?_ (Below.mono (by assumption) (by simp))))⟩
  by_cases h1 : gridErr V I ys.length = 0
  case neg =>
    have e0 := bothErr_snd (V := V) (I := I) (m := ys.length) h0
    have d0 : (bothErr W H xs.length V I ys.length != 0) = true := by rw [e0]; simpa using h1
    have E0 := Lib.hid e0
    have H0 := Lib.hid h0
    clear e0 h0
    go_enter Try.func15, Try.ntmps15
    go_wp2_with (go_at_call 39; refine (both_any _ _ _ _ _ _ _ _ _ _ _).mono ?_; rintro e w1 ⟨rfl, hb1⟩; (try replace hb1 := undrew hb1); (try replace hb1 := undraws hb1); obtain ⟨hc1, hf1⟩ := bcell hb1; have hz1 := hb1.size; (try simp at hz1); (try (have z0 : w.heap.size < w1.heap.size := by omega)); (try (have z1 : w.heap.size + 1 < w1.heap.size := by omega)); (try (have z2 : w.heap.size + 1 + 1 < w1.heap.size := by omega)))
    go_ret2
    exact ⟨ret2 ⟨(dist_2 H0.out h1).2.symm, by rw [E0.out, (dist_2 H0.out h1).1]⟩, (by repeat (first | exact Below.refl _ _ | assumption | refine gdraws ?_ _ | refine gdrew ?_ | refine galloc ?_ _ | refine Below.setCell ?_ (by simp) _ | refine gtrans ?_ (by assumption) | refine Below.trans ?_ (Below.mono (by assumption) (by simp))))⟩
  have e0 := bothErr_snd (V := V) (I := I) (m := ys.length) h0
  have d0 : (bothErr W H xs.length V I ys.length != 0) = false := by rw [e0, h1]; rfl
  have H0 := Lib.hid h0
  have H1 := Lib.hid h1
  clear e0 h0 h1
  by_cases h2 : W = V
  case neg =>
    go_enter Try.func15, Try.ntmps15
    go_wp2_with (go_at_call 39; refine (both_any _ _ _ _ _ _ _ _ _ _ _).mono ?_; rintro e w1 ⟨rfl, hb1⟩; (try replace hb1 := undrew hb1); (try replace hb1 := undraws hb1); obtain ⟨hc1, hf1⟩ := bcell hb1; have hz1 := hb1.size; (try simp at hz1); (try (have z0 : w.heap.size < w1.heap.size := by omega)); (try (have z1 : w.heap.size + 1 < w1.heap.size := by omega)); (try (have z2 : w.heap.size + 1 + 1 < w1.heap.size := by omega)))
    go_ret2
    exact ⟨ret2 ⟨(dist_3 H0.out H1.out (by omega)).2.symm, (dist_3 H0.out H1.out (by omega)).1.symm⟩, (by repeat (first | exact Below.refl _ _ | assumption | refine gdraws ?_ _ | refine gdrew ?_ | refine galloc ?_ _ | refine Below.setCell ?_ (by simp) _ | refine gtrans ?_ (by assumption) | refine Below.trans ?_ (Below.mono (by assumption) (by simp))))⟩
  subst h2
  by_cases h3 : H = I
  case neg =>
    go_enter Try.func15, Try.ntmps15
    go_wp2_with (go_at_call 39; refine (both_any _ _ _ _ _ _ _ _ _ _ _).mono ?_; rintro e w1 ⟨rfl, hb1⟩; (try replace hb1 := undrew hb1); (try replace hb1 := undraws hb1); obtain ⟨hc1, hf1⟩ := bcell hb1; have hz1 := hb1.size; (try simp at hz1); (try (have z0 : w.heap.size < w1.heap.size := by omega)); (try (have z1 : w.heap.size + 1 < w1.heap.size := by omega)); (try (have z2 : w.heap.size + 1 + 1 < w1.heap.size := by omega)))
    go_ret2
    exact ⟨ret2 ⟨(dist_3 H0.out H1.out (by omega)).2.symm, (dist_3 H0.out H1.out (by omega)).1.symm⟩, (by repeat (first | exact Below.refl _ _ | assumption | refine gdraws ?_ _ | refine gdrew ?_ | refine galloc ?_ _ | refine Below.setCell ?_ (by simp) _ | refine gtrans ?_ (by assumption) | refine Below.trans ?_ (Below.mono (by assumption) (by simp))))⟩
  subst h3
  obtain ⟨l1, l2⟩ := dist_len H0.out H1.out rfl rfl
  have L1 := Lib.hid l1
  have D := Lib.hid (dist_4 H0.out H1.out)
  clear l1
  go_enter Try.func15, Try.ntmps15
  go_wp2_with (first | (go_at_call 39; refine (both_any _ _ _ _ _ _ _ _ _ _ _).mono ?_; rintro e w1 ⟨rfl, hb1⟩; (try replace hb1 := undrew hb1); (try replace hb1 := undraws hb1); obtain ⟨hc1, hf1⟩ := bcell hb1; have hz1 := hb1.size; (try simp at hz1); (try (have z0 : w.heap.size < w1.heap.size := by omega)); (try (have z1 : w.heap.size + 1 < w1.heap.size := by omega)); (try (have z2 : w.heap.size + 1 + 1 < w1.heap.size := by omega))) | (go_at_call 25; refine (apart_any _ _ _ _ _ _ _ _ _ _ _ (by exact ha.below (by repeat (first | exact Below.refl _ _ | assumption | refine gdraws ?_ _ | refine gdrew ?_ | refine galloc ?_ _ | refine Below.setCell ?_ (by simp) _ | refine gtrans ?_ (by assumption) | refine Below.trans ?_ (Below.mono (by assumption) (by simp))))) (by exact hb.below (by repeat (first | exact Below.refl _ _ | assumption | refine gdraws ?_ _ | refine gdrew ?_ | refine galloc ?_ _ | refine Below.setCell ?_ (by simp) _ | refine gtrans ?_ (by assumption) | refine Below.trans ?_ (Below.mono (by assumption) (by simp))))) (by rw [L1.out]; omega) (by omega)).mono ?_; rintro e w2 ⟨rfl, hb2⟩; obtain ⟨hc2, hf2⟩ := bcell hb2))
  go_ret2
  exact ⟨ret2 ⟨D.out.2.symm, D.out.1.symm⟩, (by repeat (first | exact Below.refl _ _ | assumption | refine gdraws ?_ _ | refine gdrew ?_ | refine galloc ?_ _ | refine Below.setCell ?_ (by simp) _ | refine gtrans ?_ (by assumption) | refine Below.trans ?_ (Below.mono (by assumption) (by simp))))⟩

set_option maxHeartbeats 2000000 in
theorem pdist_any (W H V I : Int) (a b : Option Addr) (c d : Nat) (xs ys : List Bool) (w : World) (ha : Row w a xs.length (fB xs)) (hb : Row w b ys.length (fB ys)) :
    Calls Try.prog 14 #[.agg #[.int .i64 W, .int .i64 H, .slice a xs.length c], .agg #[.int .i64 V, .int .i64 I, .slice b ys.length d]] w fun e w' => e = .returned (.tuple #[.int .i64 (distN W H xs V I ys), .int .i64 (distE W H xs.length V I ys.length)]) ∧ Below w.heap.size w w' := by
  by_cases h0 : gridErr W H xs.length = 0
  case neg =>
    have d0 : (gridErr W H xs.length != 0) = true := by simpa using h0
    go_enter Try.func14, Try.ntmps14
    go_wp2_with (go_at_call 35; refine (gcheck_any _ _ _ _ _ _).mono ?_; rintro e w1 ⟨rfl, hb1⟩; (try replace hb1 := undrew hb1); (try replace hb1 := undraws hb1); obtain ⟨hc1, hf1⟩ := bcell hb1; have hz1 := hb1.size; (try simp at hz1); (try (have z0 : w.heap.size < w1.heap.size := by omega)); (try (have z1 : w.heap.size + 1 < w1.heap.size := by omega)); (try (have z2 : w.heap.size + 1 + 1 < w1.heap.size := by omega)))
    go_ret2
    exact ⟨ret2 ⟨(dist_1 h0).2.symm, (dist_1 h0).1.symm⟩, (by repeat (first | exact Below.refl _ _ | assumption | refine gdraws ?_ _ | refine gdrew ?_ | refine galloc ?_ _ | refine Below.setCell ?_ (by simp) _ | refine gtrans ?_ (by assumption) | refine Below.trans ?_ (Below.mono (by assumption) (by simp))))⟩
  have d0 : (gridErr W H xs.length != 0) = false := by simpa using h0
  have H0 := Lib.hid h0
  clear h0
  by_cases h1 : gridErr V I ys.length = 0
  case neg =>
    have d1 : (gridErr V I ys.length != 0) = true := by simpa using h1
    go_enter Try.func14, Try.ntmps14
    go_wp2_with (go_at_call 35; refine (gcheck_any _ _ _ _ _ _).mono ?_; rintro e w1 ⟨rfl, hb1⟩; (try replace hb1 := undrew hb1); (try replace hb1 := undraws hb1); obtain ⟨hc1, hf1⟩ := bcell hb1; have hz1 := hb1.size; (try simp at hz1); (try (have z0 : w.heap.size < w1.heap.size := by omega)); (try (have z1 : w.heap.size + 1 < w1.heap.size := by omega)); (try (have z2 : w.heap.size + 1 + 1 < w1.heap.size := by omega)))
    go_ret2
    exact ⟨ret2 ⟨(dist_2 H0.out h1).2.symm, (dist_2 H0.out h1).1.symm⟩, (by repeat (first | exact Below.refl _ _ | assumption | refine gdraws ?_ _ | refine gdrew ?_ | refine galloc ?_ _ | refine Below.setCell ?_ (by simp) _ | refine gtrans ?_ (by assumption) | refine Below.trans ?_ (Below.mono (by assumption) (by simp))))⟩
  have d1 : (gridErr V I ys.length != 0) = false := by simpa using h1
  have H1 := Lib.hid h1
  clear h1
  by_cases h2 : W = V
  case neg =>
    go_enter Try.func14, Try.ntmps14
    go_wp2_with (go_at_call 35; refine (gcheck_any _ _ _ _ _ _).mono ?_; rintro e w1 ⟨rfl, hb1⟩; (try replace hb1 := undrew hb1); (try replace hb1 := undraws hb1); obtain ⟨hc1, hf1⟩ := bcell hb1; have hz1 := hb1.size; (try simp at hz1); (try (have z0 : w.heap.size < w1.heap.size := by omega)); (try (have z1 : w.heap.size + 1 < w1.heap.size := by omega)); (try (have z2 : w.heap.size + 1 + 1 < w1.heap.size := by omega)))
    go_ret2
    exact ⟨ret2 ⟨(dist_3 H0.out H1.out (by omega)).2.symm, (dist_3 H0.out H1.out (by omega)).1.symm⟩, (by repeat (first | exact Below.refl _ _ | assumption | refine gdraws ?_ _ | refine gdrew ?_ | refine galloc ?_ _ | refine Below.setCell ?_ (by simp) _ | refine gtrans ?_ (by assumption) | refine Below.trans ?_ (Below.mono (by assumption) (by simp))))⟩
  subst h2
  by_cases h3 : H = I
  case neg =>
    go_enter Try.func14, Try.ntmps14
    go_wp2_with (go_at_call 35; refine (gcheck_any _ _ _ _ _ _).mono ?_; rintro e w1 ⟨rfl, hb1⟩; (try replace hb1 := undrew hb1); (try replace hb1 := undraws hb1); obtain ⟨hc1, hf1⟩ := bcell hb1; have hz1 := hb1.size; (try simp at hz1); (try (have z0 : w.heap.size < w1.heap.size := by omega)); (try (have z1 : w.heap.size + 1 < w1.heap.size := by omega)); (try (have z2 : w.heap.size + 1 + 1 < w1.heap.size := by omega)))
    go_ret2
    exact ⟨ret2 ⟨(dist_3 H0.out H1.out (by omega)).2.symm, (dist_3 H0.out H1.out (by omega)).1.symm⟩, (by repeat (first | exact Below.refl _ _ | assumption | refine gdraws ?_ _ | refine gdrew ?_ | refine galloc ?_ _ | refine Below.setCell ?_ (by simp) _ | refine gtrans ?_ (by assumption) | refine Below.trans ?_ (Below.mono (by assumption) (by simp))))⟩
  subst h3
  obtain ⟨l1, l2⟩ := dist_len H0.out H1.out rfl rfl
  have hl1 : xs.length ≤ ys.length := by omega
  have hl2 : ys.length ≤ xs.length := by omega
  have D := Lib.hid (dist_4 H0.out H1.out)
  clear l1
  go_enter Try.func14, Try.ntmps14
  go_wp2_with (go_at_call 35; refine (gcheck_any _ _ _ _ _ _).mono ?_; rintro e w1 ⟨rfl, hb1⟩; (try replace hb1 := undrew hb1); (try replace hb1 := undraws hb1); obtain ⟨hc1, hf1⟩ := bcell hb1; have hz1 := hb1.size; (try simp at hz1); (try (have z0 : w.heap.size < w1.heap.size := by omega)); (try (have z1 : w.heap.size + 1 < w1.heap.size := by omega)); (try (have z2 : w.heap.size + 1 + 1 < w1.heap.size := by omega)))
  refine wp_world (fun w' => Box3 w' (w.heap.size + 1) (.int .i64 W) (.int .i64 H) (.slice b ys.length d) ∧ Below w.heap.size w w') ⟨?_, (by repeat (first | exact Below.refl _ _ | assumption | refine gdraws ?_ _ | refine gdrew ?_ | refine galloc ?_ _ | refine Below.setCell ?_ (by simp) _ | refine gtrans ?_ (by assumption) | refine Below.trans ?_ (Below.mono (by assumption) (by simp))))⟩ ?_
  · have h2 := (((Box3.new (w.alloc (.cells #[.int .i64 W, .int .i64 H, .slice a xs.length c] 24)) (.int .i64 W) (.int .i64 H) (.slice b ys.length d) 24).keep (by assumption)).keep (by assumption))
    simpa using h2
  intro w3 hI
  go_loopw [8, 36] (fun n i wr => ∃ k : Nat, k ≤ xs.length ∧ i = .int .i64 k ∧ n = .int .i64 (apartN xs ys k : Nat) ∧ Box3 wr (w.heap.size + 1) (.int .i64 W) (.int .i64 H) (.slice b ys.length d) ∧ Below w.heap.size w wr) (fun _ i _ => xs.length - (intOf i).toNat)
  case atStart => exact ⟨0, Nat.zero_le _, rfl, rfl, hI⟩
  case round =>
    obtain ⟨k, hk, rfl, rfl, hb2, hbl⟩ := hrel
    have HB2 := Lib.hid hb2
    obtain ⟨q0, q1, q2, qs⟩ := hb2
    have hap := apartN_le xs ys k
    by_cases hlt : k < xs.length
    · obtain ⟨b1, o1, rfl, g1, hx1⟩ := ha.below hbl k hlt
      obtain ⟨b2, o2, rfl, g2, hx2⟩ := hb.below hbl k (by omega)
      rw [fB_eq] at hx1 hx2
      by_cases hq : gB xs k = gB ys k
      · have HQ := Lib.hid (apartN_same hq)
        have d1 : (gB xs k == gB ys k) = true := by simp [hq]
        clear hq
        go_wp2
        go_roundw
        case rel => exact ⟨k + 1, by omega, by go_num, by rw [HQ.out], HB2.out, hbl⟩
        case measure => simp [intOf]; omega
      · have HQ := Lib.hid (apartN_diff hq)
        have d1 : (gB xs k == gB ys k) = false := by simpa using hq
        clear hq
        go_wp2
        go_roundw
        case rel => exact ⟨k + 1, by omega, by go_num, by rw [HQ.out]; go_num, HB2.out, hbl⟩
        case measure => simp [intOf]; omega
    · go_wp2
      go_ret2
      exact ⟨ret2 ⟨by rw [D.out.2, show k = xs.length from by omega], D.out.1.symm⟩, hbl⟩

end Go.Proofs.Ytapohhkdpkapoaa
