/- Plain laws on counts of yarn: Weigh and Skeins compute what the reference computes. -/
import Derived.Test.YtdbgkakmhlmpbaaGOp
import Derived.Test.YtdbgkakmhlmpbaaPlQ
import Derived.Test.YtdbgkakmhlmpbaaG37
import Derived.Test.YtdbgkakmhlmpbaaG39
import Derived.Test.YtdbgkakmhlmpbaaG38
import Derived.Test.YtdbgkakmhlmpbaaG40
namespace Go.Proofs.Ytdbgkakmhlmpbaa
open Go.RowKit
set_option linter.unusedVariables false

/-- what a valid count is -/
structure Cn (c : api_Count) (x y : Nat) : Prop where
  s0 : 1 ≤ c.System
  s1 : c.System ≤ 4
  n : c.N = ⟨(x : Int), (y : Int)⟩
  x0 : 1 ≤ x
  x1 : x ≤ 1000000000
  y0 : 1 ≤ y
  y1 : y ≤ 1000000000
  g : Nat.gcd x y = 1
theorem sys_cases {s : Int} (h0 : 1 ≤ s) (h1 : s ≤ 4) : s = 1 ∨ s = 2 ∨ s = 3 ∨ s = 4 := by omega
theorem counted_eq (c : api_Count) (wc : wf_api_Count c) : ∃ e, F_yarn_counted c = some e ∧ F_raddleref23_Counted c = some e ∧ (e = 0 ∨ e = 8) ∧ (e = 0 → ∃ x y, Cn c x y) := by
  have wn := inK_64 wc.2.1
  have wd := inK_64 wc.2.2
  obtain ⟨e1, h1⟩ := ycheck_some c.N
  obtain ⟨e2, h2⟩ := rcheck_some c.N
  by_cases hs : 1 ≤ c.System ∧ c.System ≤ 4
  case neg =>
    refine ⟨8, ?_, ?_, .inr rfl, fun h => by cases h⟩
    · unfold F_yarn_counted F_yarn_factors
      simp only [bF (show ¬ c.System = 1 by omega), bF (show ¬ c.System = 2 by omega), bF (show ¬ c.System = 3 by omega), bF (show ¬ c.System = 4 by omega), Bool.false_eq_true, if_false, Option.bind_some, Bool.not_false, if_true]
    · unfold F_raddleref23_Counted
      by_cases h : c.System < 1
      · simp only [dT h, if_true, Option.bind_some]
      · simp only [dF h, dT (show 4 < c.System by omega), Bool.false_eq_true, if_false, if_true, Option.bind_some]
  have hf : ∃ p q g, F_yarn_factors c.System = some (p, q, g, true) := by
    unfold F_yarn_factors
    rcases sys_cases hs.1 hs.2 with h | h | h | h <;> rw [h]
    · exact ⟨_, _, _, rfl⟩
    · exact ⟨_, _, _, rfl⟩
    · exact ⟨_, _, _, rfl⟩
    · exact ⟨_, _, _, rfl⟩
  obtain ⟨p, q, gr, hf⟩ := hf
  by_cases hn : 1 ≤ c.N.Num
  case neg =>
    refine ⟨8, ?_, ?_, .inr rfl, fun h => by cases h⟩
    · unfold F_yarn_counted
      simp only [hf, h1, Option.bind_some, Bool.not_true, Bool.false_eq_true, if_false, dT (show c.N.Num ≤ 0 by omega)]
      cases (e1 != 0) <;> rfl
    · unfold F_raddleref23_Counted
      simp only [h2, dF (show ¬ c.System < 1 by omega), dF (show ¬ 4 < c.System by omega), Option.bind_some, Bool.false_eq_true, if_false, dT (show c.N.Num < 1 by omega)]
      cases (e2 != 0) <;> rfl
  by_cases hd : 1 ≤ c.N.Den
  case neg =>
    have k1 : F_yarn_Check c.N = some 8 := by unfold F_yarn_Check; simp [show c.N.Den < 1 by omega]
    have k2 : F_raddleref23_Check c.N = some 8 := by unfold F_raddleref23_Check; simp [show c.N.Den < 1 by omega]
    refine ⟨8, ?_, ?_, .inr rfl, fun h => by cases h⟩
    · unfold F_yarn_counted
      simp only [hf, k1, Option.bind_some, Bool.not_true, Bool.false_eq_true, if_false, nT (show ¬ (8 : Int) = 0 by omega), if_true]
    · unfold F_raddleref23_Counted
      simp only [k2, dF (show ¬ c.System < 1 by omega), dF (show ¬ 4 < c.System by omega), Option.bind_some, Bool.false_eq_true, if_false, nT (show ¬ (8 : Int) = 0 by omega), if_true]
  obtain ⟨x, hx⟩ : ∃ x : Nat, c.N.Num = x := ⟨c.N.Num.toNat, by omega⟩
  obtain ⟨y, hy⟩ : ∃ y : Nat, c.N.Den = y := ⟨c.N.Den.toNat, by omega⟩
  have hN : c.N = ⟨(x : Int), (y : Int)⟩ := by rw [← hx, ← hy]
  have k1 := ycheck_pos x y (by omega) (by omega)
  have k2 := rcheck_eq x y
  unfold F_yarn_counted F_raddleref23_Counted
  simp only [hf, dF (show ¬ c.System < 1 by omega), dF (show ¬ 4 < c.System by omega), hN, k1, k2, Option.bind_some, Bool.not_true, Bool.false_eq_true, if_false, dF (show ¬ (x : Int) ≤ 0 by omega), dF (show ¬ (x : Int) < 1 by omega)]
  by_cases hv : 1 ≤ y ∧ y ≤ 1000000000 ∧ x ≤ 1000000000 ∧ Nat.gcd x y = 1
  · rw [if_pos hv]
    exact ⟨0, rfl, rfl, .inl rfl, fun _ => ⟨x, y, hs.1, hs.2, hN, by omega, hv.2.2.1, hv.1, hv.2.1, hv.2.2.2⟩⟩
  · rw [if_neg hv]
    exact ⟨8, rfl, rfl, .inr rfl, fun h => by cases h⟩
theorem wmul {a b : Nat} (h : a * b ≤ 9223372036854775807) : w64 ((a : Int) * (b : Int)) = ((a * b : Nat) : Int) := by
  rw [← Int.natCast_mul, w64_of (by omega) (by omega)]
/-- the numbers that Convert makes a count of tex of -/
def tN (s : Int) (x y : Nat) : Nat := if s = 1 then x else if s = 2 then x else if s = 3 then 1000 * y else 32399455 * y
def tD (s : Int) (x y : Nat) : Nat := if s = 1 then y else if s = 2 then 9 * y else if s = 3 then x else 54864 * x
theorem tb (s : Int) {x y : Nat} (x0 : 1 ≤ x) (x1 : x ≤ 1000000000) (y0 : 1 ≤ y) (y1 : y ≤ 1000000000) : 0 < tN s x y ∧ tN s x y ≤ 9000000000000000000 ∧ 0 < tD s x y ∧ tD s x y ≤ 9000000000000000000 := by
  unfold tN tD
  split
  · omega
  · split
    · omega
    · split <;> omega
/-- a count of tex: the answer of both -/
def tx (s : Int) (x y : Nat) : api_Count × Int := if (mk (tN s x y) (tD s x y)).2 = 0 then (⟨1, (mk (tN s x y) (tD s x y)).1⟩, 0) else (⟨0, ⟨0, 0⟩⟩, 16)
theorem conv_tail (X Y : Nat) (hX0 : 0 < X) (hY0 : 0 < Y) (hX : X ≤ 9000000000000000000) (hY : Y ≤ 9000000000000000000) :
    (Option.bind (F_yarn_Make (X : Int) (Y : Int)) fun r57 => if (r57.2 != 0) = true then some ((api_Count.mk 0 (api_Ratio.mk 0 0)), r57.2) else if (r57.1.Num == 0) = true then some ((api_Count.mk 0 (api_Ratio.mk 0 0)), 16) else some ((api_Count.mk 1 r57.1), 0)) =
      some (if (mk X Y).2 = 0 then ((⟨1, (mk X Y).1⟩ : api_Count), 0) else (⟨0, ⟨0, 0⟩⟩, 16)) := by
  rw [ymake_eq X Y (by omega) (by omega) hY0, Option.bind_some]
  rcases mk_cases X Y hY0 with ⟨a, b, q, e, h1, h2, h3, h4, h5, h6, h7⟩ | e
  · have ha : a ≠ 0 := by rintro rfl; rw [Nat.zero_mul] at h1; omega
    rw [e]
    simp only [bne_self_eq_false, bF (show ¬ (a : Int) = 0 by omega), Bool.false_eq_true, if_false, if_true]
  · rw [e]
    simp only [nT (show ¬ (16 : Int) = 0 by omega), if_true, show ¬ (16 : Int) = 0 by omega, if_false]
theorem yconv_eq {c : api_Count} {x y : Nat} (C : Cn c x y) (hc : F_yarn_counted c = some 0) : F_yarn_Convert c 1 = some (tx c.System x y) := by
  have x1 := C.x1
  have y1 := C.y1
  have x0 := C.x0
  have y0 := C.y0
  have hb := tb c.System x0 x1 y0 y1
  have ht := conv_tail (tN c.System x y) (tD c.System x y) hb.1 hb.2.2.1 hb.2.1 hb.2.2.2
  unfold F_yarn_Convert tx
  rw [hc, ← ht]
  have hN : c.N.Num = (x : Int) := by rw [C.n]
  have hD : c.N.Den = (y : Int) := by rw [C.n]
  have f1 : F_yarn_factors 1 = some (1, 1, true, true) := rfl
  simp only [Option.bind_some, bne_self_eq_false, Bool.false_eq_true, if_false, f1, Bool.not_true, hN, hD]
  rcases sys_cases C.s0 C.s1 with h | h | h | h <;> rw [h]
  · have f2 : F_yarn_factors 1 = some (1, 1, true, true) := rfl
    have k1 : F_yarn_gcd (IntKind.u64.wrap (w64 (1 * 1))) (IntKind.u64.wrap (w64 (1 * 1))) = some 1 := ygcd_eq 1 1
    have k2 : quoI (w64 (1 * 1)) (IntKind.i64.wrap 1) = some 1 := rfl
    have k3 : w64 (1 * (x : Int)) = ((tN 1 x y : Nat) : Int) := wmul (a := 1) (b := x) (by omega) |>.trans (by simp [tN])
    have k4 : w64 (1 * (y : Int)) = ((tD 1 x y : Nat) : Int) := wmul (a := 1) (b := y) (by omega) |>.trans (by simp [tD])
    simp only [f2, Option.bind_some, Bool.not_true, Bool.false_eq_true, if_false, if_true, k1, k2, bne_self_eq_false, k3, k4]
  · have f2 : F_yarn_factors 2 = some (1, 9, true, true) := rfl
    have k1 : F_yarn_gcd (IntKind.u64.wrap (w64 (1 * 1))) (IntKind.u64.wrap (w64 (9 * 1))) = some 1 := ygcd_eq 1 9
    have k2 : quoI (w64 (1 * 1)) (IntKind.i64.wrap 1) = some 1 := rfl
    have k2' : quoI (w64 (9 * 1)) (IntKind.i64.wrap 1) = some 9 := rfl
    have k3 : w64 (1 * (x : Int)) = ((tN 2 x y : Nat) : Int) := wmul (a := 1) (b := x) (by omega) |>.trans (by simp [tN])
    have k4 : w64 (9 * (y : Int)) = ((tD 2 x y : Nat) : Int) := wmul (a := 9) (b := y) (by omega) |>.trans (by simp [tD])
    simp only [f2, Option.bind_some, Bool.not_true, Bool.false_eq_true, if_false, if_true, k1, k2, k2', bne_self_eq_false, k3, k4]
  · have f2 : F_yarn_factors 3 = some (1000, 1, false, true) := rfl
    have k1 : F_yarn_gcd (IntKind.u64.wrap (w64 (1000 * 1))) (IntKind.u64.wrap (w64 (1 * 1))) = some 1 := ygcd_eq 1000 1
    have k2 : quoI (w64 (1000 * 1)) (IntKind.i64.wrap 1) = some 1000 := rfl
    have k2' : quoI (w64 (1 * 1)) (IntKind.i64.wrap 1) = some 1 := rfl
    have k3 : w64 (1000 * (y : Int)) = ((tN 3 x y : Nat) : Int) := wmul (a := 1000) (b := y) (by omega) |>.trans (by simp [tN])
    have k4 : w64 (1 * (x : Int)) = ((tD 3 x y : Nat) : Int) := wmul (a := 1) (b := x) (by omega) |>.trans (by simp [tD])
    simp only [f2, Option.bind_some, Bool.not_true, Bool.not_false, Bool.false_eq_true, if_false, if_true, k1, k2, k2', show (false != true) = true from rfl, k3, k4]
  · have f2 : F_yarn_factors 4 = some (226796185, 384048, false, true) := rfl
    have k1 : F_yarn_gcd (IntKind.u64.wrap (w64 (226796185 * 1))) (IntKind.u64.wrap (w64 (384048 * 1))) = some 7 := (ygcd_eq 226796185 384048).trans (by rw [show Nat.gcd 226796185 384048 = 7 by decide]; rfl)
    have k2 : quoI (w64 (226796185 * 1)) (IntKind.i64.wrap 7) = some 32399455 := rfl
    have k2' : quoI (w64 (384048 * 1)) (IntKind.i64.wrap 7) = some 54864 := rfl
    have k3 : w64 (32399455 * (y : Int)) = ((tN 4 x y : Nat) : Int) := wmul (a := 32399455) (b := y) (by omega) |>.trans (by simp [tN])
    have k4 : w64 (54864 * (x : Int)) = ((tD 4 x y : Nat) : Int) := wmul (a := 54864) (b := x) (by omega) |>.trans (by simp [tD])
    simp only [f2, Option.bind_some, Bool.not_true, Bool.not_false, Bool.false_eq_true, if_false, if_true, k1, k2, k2', show (false != true) = true from rfl, k3, k4]
theorem rconv_eq {c : api_Count} {x y : Nat} (C : Cn c x y) (hc : F_raddleref23_Counted c = some 0) : F_raddleref23_Convert c 1 = some (tx c.System x y) := by
  have x1 := C.x1
  have y1 := C.y1
  have x0 := C.x0
  have y0 := C.y0
  have hb := tb c.System x0 x1 y0 y1
  have hN : c.N.Num = (x : Int) := by rw [C.n]
  have hD : c.N.Den = (y : Int) := by rw [C.n]
  have key : F_raddleref23_converted c 1 = some (mk (tN c.System x y) (tD c.System x y)) := by
    have hm := rmake_eq (tN c.System x y) (tD c.System x y) (by omega) (by omega) hb.2.2.1
    unfold F_raddleref23_converted F_raddleref23_over
    rcases sys_cases C.s0 C.s1 with h | h | h | h <;> rw [h] at hm ⊢
    · have e : mk (tN 1 x y) (tD 1 x y) = (c.N, 0) := by
        rw [C.n]
        exact mk_low x1 y1 C.g
      rw [e]
      rfl
    · have k1 : F_raddleref23_common 1 9 = some 1 := common_eq 1 9
      have k2 : quoI 1 1 = some 1 := rfl
      have k2' : quoI 9 1 = some 9 := rfl
      have k3 : w64 (1 * (x : Int)) = ((tN 2 x y : Nat) : Int) := wmul (a := 1) (b := x) (by omega) |>.trans (by simp [tN])
      have k4 : w64 (9 * (y : Int)) = ((tD 2 x y : Nat) : Int) := wmul (a := 9) (b := y) (by omega) |>.trans (by simp [tD])
      simp only [show ((2 : Int) == 1) = false from rfl, show ((2 : Int) == 2) = true from rfl, show ((1 : Int) == 1) = true from rfl, Bool.false_and, Bool.true_and, Bool.false_eq_true, if_false, if_true, k1, k2, k2', Option.bind_some, hN, hD, k3, k4, hm]
    · have k1 : F_raddleref23_common 1000 1 = some 1 := common_eq 1000 1
      have k2 : quoI 1000 1 = some 1000 := rfl
      have k2' : quoI 1 1 = some 1 := rfl
      have k3 : w64 (1000 * (y : Int)) = ((tN 3 x y : Nat) : Int) := wmul (a := 1000) (b := y) (by omega) |>.trans (by simp [tN])
      have k4 : w64 (1 * (x : Int)) = ((tD 3 x y : Nat) : Int) := wmul (a := 1) (b := x) (by omega) |>.trans (by simp [tD])
      simp only [show ((3 : Int) == 1) = false from rfl, show ((3 : Int) == 2) = false from rfl, show ((3 : Int) == 3) = true from rfl, show ((1 : Int) == 1) = true from rfl, Bool.false_and, Bool.true_and, Bool.false_eq_true, if_false, if_true, k1, k2, k2', Option.bind_some, hN, hD, k3, k4, hm]
    · have k1 : F_raddleref23_common 226796185 384048 = some 7 := (common_eq 226796185 384048).trans (by rw [show Nat.gcd 226796185 384048 = 7 by decide]; rfl)
      have k2 : quoI 226796185 7 = some 32399455 := rfl
      have k2' : quoI 384048 7 = some 54864 := rfl
      have k3 : w64 (32399455 * (y : Int)) = ((tN 4 x y : Nat) : Int) := wmul (a := 32399455) (b := y) (by omega) |>.trans (by simp [tN])
      have k4 : w64 (54864 * (x : Int)) = ((tD 4 x y : Nat) : Int) := wmul (a := 54864) (b := x) (by omega) |>.trans (by simp [tD])
      simp only [show ((4 : Int) == 1) = false from rfl, show ((4 : Int) == 2) = false from rfl, show ((4 : Int) == 3) = false from rfl, show ((4 : Int) == 4) = true from rfl, show ((1 : Int) == 1) = true from rfl, show ((1 : Int) == 3) = false from rfl, Bool.false_and, Bool.true_and, Bool.false_eq_true, if_false, if_true, k1, k2, k2', Option.bind_some, hN, hD, k3, k4, hm]
  unfold F_raddleref23_Convert tx
  simp only [hc, Option.bind_some, bne_self_eq_false, Bool.false_eq_true, if_false, dF (show ¬ (1 : Int) < 1 by omega), dF (show ¬ (4 : Int) < 1 by omega), key]
  rcases mk_cases (tN c.System x y) (tD c.System x y) hb.2.2.1 with ⟨a, b, q, e, _⟩ | e
  · rw [e]; rfl
  · rw [e]; rfl
/-- what is known of a count of tex -/
theorem tx_cases {s : Int} {x y : Nat} (x0 : 1 ≤ x) (x1 : x ≤ 1000000000) (y0 : 1 ≤ y) (y1 : y ≤ 1000000000) :
    (∃ a b : Nat, tx s x y = (⟨1, ⟨(a : Int), (b : Int)⟩⟩, 0) ∧ 0 < a ∧ a ≤ 1000000000 ∧ 0 < b ∧ b ≤ 1000000000 ∧ Nat.gcd a b = 1) ∨ tx s x y = (⟨0, ⟨0, 0⟩⟩, 16) := by
  have hb := tb s x0 x1 y0 y1
  unfold tx
  rcases mk_cases (tN s x y) (tD s x y) hb.2.2.1 with ⟨a, b, q, e, h1, h2, h3, h4, h5, h6, h7⟩ | e
  · have ha : 0 < a := by
      rcases Nat.eq_zero_or_pos a with rfl | h
      · rw [Nat.zero_mul] at h1; omega
      · exact h
    exact .inl ⟨a, b, by rw [e]; rfl, ha, h5, h4, h6, h7⟩
  · exact .inr (by rw [e]; rfl)
theorem weigh_eq (c : api_Count) (wc : wf_api_Count c) (len : Int) : ∃ r : api_Ratio × Int, F_yarn_Weigh c len = some r ∧ F_raddleref23_Weigh c len = some r ∧ (r.2 = 0 → ∃ a b : Nat, r.1 = ⟨(a : Int), (b : Int)⟩ ∧ 0 < b ∧ a ≤ 1000000000 ∧ b ≤ 1000000000) := by
  obtain ⟨e, c1, c2, c3, c4⟩ := counted_eq c wc
  unfold F_yarn_Weigh F_raddleref23_Weigh F_raddleref23_tex
  rcases c3 with rfl | rfl
  case inr => 
    simp only [c1, c2, Option.bind_some, nT (show ¬ (8 : Int) = 0 by omega), if_true]
    exact ⟨_, rfl, rfl, fun h => by cases h⟩
  obtain ⟨x, y, C⟩ := c4 rfl
  simp only [c1, c2, Option.bind_some, bne_self_eq_false, Bool.false_eq_true, if_false, yconv_eq C c1, rconv_eq C c2]
  by_cases l0 : len < 0
  · simp only [dT l0, if_true, Option.bind_some, nT (show ¬ (2 : Int) = 0 by omega)]
    exact ⟨_, rfl, rfl, fun h => by cases h⟩
  by_cases l1 : 1000000000 < len
  · simp only [dF l0, dT l1, Bool.false_eq_true, if_true, if_false, Option.bind_some, nT (show ¬ (2 : Int) = 0 by omega)]
    exact ⟨_, rfl, rfl, fun h => by cases h⟩
  simp only [dF l0, dF l1, Bool.false_eq_true, if_false, Option.bind_some]
  rcases tx_cases (s := c.System) C.x0 C.x1 C.y0 C.y1 with ⟨a, b, e, a0, a1, b0, b1, _⟩ | e
  case inr =>
    rw [e]
    simp only [nT (show ¬ (16 : Int) = 0 by omega), if_true]
    exact ⟨_, rfl, rfl, fun h => by cases h⟩
  rw [e]
  obtain ⟨L, rfl⟩ : ∃ L : Nat, len = L := ⟨len.toNat, by omega⟩
  have hL : L * a ≤ 1000000000 * 1000000000 := Nat.mul_le_mul (by omega) a1
  have k1 : w64 ((L : Int) * (a : Int)) = ((L * a : Nat) : Int) := wmul (by omega)
  have k2 : w64 (10000 * (b : Int)) = ((10000 * b : Nat) : Int) := wmul (a := 10000) (by omega)
  simp only [bne_self_eq_false, Bool.false_eq_true, if_false, k1, k2, ymake_eq (L * a) (10000 * b) (by omega) (by omega) (by omega), rmake_eq (L * a) (10000 * b) (by omega) (by omega) (by omega), Option.bind_some]
  refine ⟨_, rfl, rfl, fun h => ?_⟩
  rcases mk_cases (L * a) (10000 * b) (by omega) with ⟨u, v, q, e, h1, h2, h3, h4, h5, h6, h7⟩ | e
  · rw [e]; exact ⟨u, v, rfl, h4, h5, h6⟩
  · rw [e] at h; cases h
theorem skeins_eq (c : api_Count) (wc : wf_api_Count c) (len wt : Int) : ∃ r : Int × Int, F_yarn_Skeins c len wt = some r ∧ F_raddleref23_Skeins c len wt = some r := by
  obtain ⟨r, r1, r2, r3⟩ := weigh_eq c wc len
  unfold F_yarn_Skeins F_raddleref23_Skeins
  simp only [r1, r2, Option.bind_some]
  by_cases he : r.2 = 0
  case neg => simp only [nT he, if_true]; exact ⟨_, rfl, rfl⟩
  obtain ⟨a, b, e, b0, a1, b1⟩ := r3 he
  simp only [nF he, Bool.false_eq_true, if_false]
  by_cases l0 : wt < 1
  · simp only [dT l0, if_true, Option.bind_some]; exact ⟨_, rfl, rfl⟩
  by_cases l1 : 1000000000 < wt
  · simp only [dF l0, dT l1, Bool.false_eq_true, if_true, if_false, Option.bind_some]; exact ⟨_, rfl, rfl⟩
  simp only [dF l0, dF l1, Bool.false_eq_true, if_false, Option.bind_some, e]
  obtain ⟨W, rfl⟩ : ∃ W : Nat, wt = W := ⟨wt.toNat, by omega⟩
  have hD : b * W ≤ 1000000000 * 1000000000 := Nat.mul_le_mul b1 (by omega)
  have hD0 : 0 < b * W := Nat.mul_pos b0 (by omega)
  have k1 : w64 ((b : Int) * (W : Int)) = ((b * W : Nat) : Int) := wmul (by omega)
  have k2 : w64 (0 - (a : Int)) = -(a : Int) := by rw [w64_of (by omega) (by omega)]; omega
  have k3 : quoI (a : Int) ((b * W : Nat) : Int) = some ((a / (b * W) : Nat) : Int) := quo_nat hD0 (by omega)
  have hq : a / (b * W) ≤ a := Nat.div_le_self _ _
  have hdm := Nat.div_add_mod a (b * W)
  have hml := Nat.mod_lt a hD0
  have k4 : quoI (-(a : Int)) ((b * W : Nat) : Int) = some (-((a / (b * W) : Nat) : Int)) := by
    unfold quoI
    rw [if_neg (by omega)]
    have : (-(a : Int)).tdiv ((b * W : Nat) : Int) = -((a / (b * W) : Nat) : Int) := by rw [Int.neg_tdiv]; rfl
    have hz : w64 (-((a / (b * W) : Nat) : Int)) = -((a / (b * W) : Nat) : Int) := by
      generalize a / (b * W) = q at *
      exact w64_of (by omega) (by omega)
    rw [this, hz]
  have k5 : remI (-(a : Int)) ((b * W : Nat) : Int) = some (-((a % (b * W) : Nat) : Int)) := by
    unfold remI
    rw [if_neg (by omega)]
    have : (-(a : Int)).tmod ((b * W : Nat) : Int) = -((a % (b * W) : Nat) : Int) := by rw [Int.neg_tmod]; rfl
    rw [this]
  have hmul : b * W * (a / (b * W)) = a / (b * W) * b * W := by rw [Nat.mul_comm, Nat.mul_assoc]
  have hqb : a / (b * W) * b ≤ 1000000000 * 1000000000 := Nat.mul_le_mul (by omega) b1
  have k6 : w64 (((a / (b * W) : Nat) : Int) * (b : Int)) = ((a / (b * W) * b : Nat) : Int) := wmul (by omega)
  have k7 : w64 (((a / (b * W) * b : Nat) : Int) * (W : Int)) = ((a / (b * W) * b * W : Nat) : Int) := wmul (by omega)
  unfold F_yarn_floor
  simp only [k1, k2, k3, k4, k5, k6, k7, Option.bind_some]
  rw [hmul] at hdm
  generalize a / (b * W) * b * W = z at *
  generalize a / (b * W) = q at *
  generalize a % (b * W) = m at *
  by_cases hm : m = 0
  · subst hm
    simp only [dF (show ¬ -((0 : Nat) : Int) < 0 by omega), dF (show ¬ (z : Int) < (a : Int) by omega), Bool.false_eq_true, if_false, Option.bind_some]
    refine ⟨_, ?_, rfl⟩
    rw [w64_of (by omega) (by omega)]
    congr 2
    omega
  · simp only [dT (show -(m : Int) < 0 by omega), dT (show (z : Int) < (a : Int) by omega), if_true, Option.bind_some]
    have k8 : w64 (-(q : Int) - 1) = -(q : Int) - 1 := w64_of (by omega) (by omega)
    have k9 : w64 ((q : Int) + 1) = (q : Int) + 1 := w64_of (by omega) (by omega)
    refine ⟨_, ?_, rfl⟩
    rw [k8, k9, w64_of (by omega) (by omega)]
    congr 2
    omega

end Go.Proofs.Ytdbgkakmhlmpbaa
