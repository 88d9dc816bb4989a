/- Plain laws on ratios, more: the checks answer whatever they are asked; what Make answers. -/
import Derived.Test.YtdbgkakmhlmpbaaPlR
import Derived.Test.YtdbgkakmhlmpbaaG80
import Derived.Test.YtdbgkakmhlmpbaaG25
namespace Go.Proofs.Ytdbgkakmhlmpbaa
open Go.RowKit
set_option linter.unusedVariables false

theorem gcd_any {B : Int × Int → Option ((Int × Int) ⊕ Int)} (hB : ∀ a b : Int, B (a, b) = if (b != 0) = true then Option.bind (remI a b) fun z => some (.inl (b, z)) else some (.inr a)) (a b : Int) : ∃ t, whileO B (a, b) = some t ∧ t.natAbs = Nat.gcd a.natAbs b.natAbs := by
  refine whileO_inv (fun s => Nat.gcd s.1.natAbs s.2.natAbs = Nat.gcd a.natAbs b.natAbs) (fun s => s.2.natAbs) _ rfl ?_
  rintro ⟨x, y⟩ hg
  dsimp only at hg
  rw [hB]
  by_cases hy : y = 0
  · subst hy
    refine .inr ⟨x, by simp, ?_⟩
    rw [← hg]; simp
  · have h1 : (y != 0) = true := nT hy
    have h2 : remI x y = some (x.tmod y) := by unfold remI; rw [if_neg hy]
    have h3 : (x.tmod y).natAbs = x.natAbs % y.natAbs := Int.natAbs_tmod x y
    refine .inl ⟨(y, x.tmod y), by rw [if_pos h1, h2]; rfl, ?_, ?_⟩
    · show Nat.gcd y.natAbs (x.tmod y).natAbs = _
      rw [← hg, h3, Nat.gcd_comm x.natAbs, Nat.gcd_rec y.natAbs x.natAbs, Nat.gcd_comm]
    · show (x.tmod y).natAbs < y.natAbs
      rw [h3]
      exact Nat.mod_lt _ (by omega)
theorem common_some (a b : Int) : ∃ t, F_raddleref23_common a b = some t := by
  obtain ⟨t, t1, _⟩ := gcd_any (B := raddleref23_common_l1) (fun a b => rfl) a b
  unfold F_raddleref23_common
  rw [t1]
  simp only [Option.bind_some]
  split
  · exact ⟨_, rfl⟩
  · exact ⟨_, rfl⟩
theorem rcheck_some (r : api_Ratio) : ∃ e, F_raddleref23_Check r = some e := by
  obtain ⟨t, ht⟩ := common_some r.Num r.Den
  unfold F_raddleref23_Check
  rw [ht]
  by_cases e1 : r.Den < 1
  · exact ⟨8, by simp [e1]⟩
  by_cases e2 : 1000000000 < r.Den
  · exact ⟨8, by simp [e1, e2]⟩
  by_cases e3 : r.Num < -1000000000
  · exact ⟨8, by simp [e1, e2, e3]⟩
  by_cases e4 : 1000000000 < r.Num
  · exact ⟨8, by simp [e1, e2, e3, e4]⟩
  by_cases e5 : t = 1
  · exact ⟨0, by simp [e1, e2, e3, e4, e5]⟩
  · exact ⟨8, by simp [e1, e2, e3, e4, e5]⟩
theorem ygcd_some (a b : Int) : ∃ t, F_yarn_gcd a b = some t := by
  obtain ⟨t, t1, _⟩ := gcd_any (B := yarn_gcd_l1) (fun a b => rfl) a b
  unfold F_yarn_gcd
  rw [t1]
  exact ⟨_, rfl⟩
theorem ycheck_some (r : api_Ratio) : ∃ e, F_yarn_Check r = some e := by
  have h1 : ∃ n, F_yarn_size r.Num = some n := by
    unfold F_yarn_size
    split
    · exact ⟨_, rfl⟩
    · exact ⟨_, rfl⟩
  obtain ⟨n, hn⟩ := h1
  obtain ⟨t, ht⟩ := ygcd_some n (IntKind.u64.wrap r.Den)
  unfold F_yarn_Check
  rw [hn]
  by_cases e1 : r.Den < 1
  · exact ⟨8, by simp [e1]⟩
  by_cases e2 : 1000000000 < r.Den
  · exact ⟨8, by simp [e1, e2]⟩
  by_cases e3 : 1000000000 < n
  · exact ⟨8, by simp [e1, e2, e3]⟩
  by_cases e5 : t = 1
  · exact ⟨0, by simp [e1, e2, e3, ht, e5]⟩
  · exact ⟨8, by simp [e1, e2, e3, ht, e5]⟩
theorem ycheck_pos (x y : Nat) (hx : x ≤ 9223372036854775807) (hy : y ≤ 9223372036854775807) : F_yarn_Check ⟨(x : Int), (y : Int)⟩ = some (if 1 ≤ y ∧ y ≤ 1000000000 ∧ x ≤ 1000000000 ∧ Nat.gcd x y = 1 then 0 else 8) := by
  unfold F_yarn_Check
  simp only [size_eq x hx, u64_of (show (0 : Int) ≤ y by omega) (by omega), ygcd_eq, Option.bind_some]
  by_cases e1 : 1 ≤ y
  case neg => simp only [dT (show (y : Int) < 1 by omega), if_true, Option.bind_some, e1, false_and, if_false]
  by_cases e2 : y ≤ 1000000000
  case neg => simp only [dF (show ¬ (y : Int) < 1 by omega), dT (show (1000000000 : Int) < y by omega), Bool.false_eq_true, if_true, if_false, Option.bind_some, e2, false_and, and_false]
  by_cases e3 : x ≤ 1000000000
  case neg => simp only [dF (show ¬ (y : Int) < 1 by omega), dF (show ¬ (1000000000 : Int) < y by omega), dT (show (1000000000 : Int) < x by omega), Bool.false_eq_true, if_true, if_false, Option.bind_some, e3, false_and, and_false]
  by_cases e4 : Nat.gcd x y = 1
  · simp only [dF (show ¬ (y : Int) < 1 by omega), dF (show ¬ (1000000000 : Int) < y by omega), dF (show ¬ (1000000000 : Int) < x by omega), e4, show (((1 : Nat) : Int) != 1) = false from rfl, Bool.false_eq_true, if_true, if_false, Option.bind_some, e1, e2, e3, and_self]
  · simp only [dF (show ¬ (y : Int) < 1 by omega), dF (show ¬ (1000000000 : Int) < y by omega), dF (show ¬ (1000000000 : Int) < x by omega), nT (show ¬ ((Nat.gcd x y : Nat) : Int) = 1 by omega), Bool.false_eq_true, if_true, if_false, Option.bind_some, e4, and_false]
/-- what Make answers: a ratio in lowest terms, or the error of its size -/
theorem mk_cases (X Y : Nat) (hY : 0 < Y) : (∃ a b q : Nat, mk X Y = (⟨(a : Int), (b : Int)⟩, 0) ∧ a * q = X ∧ b * q = Y ∧ 0 < q ∧ 0 < b ∧ a ≤ 1000000000 ∧ b ≤ 1000000000 ∧ Nat.gcd a b = 1) ∨ mk X Y = (⟨0, 0⟩, 16) := by
  unfold mk
  by_cases h : X / Nat.gcd X Y ≤ 1000000000 ∧ Y / Nat.gcd X Y ≤ 1000000000
  · rw [if_pos h]
    have hg : 0 < Nat.gcd X Y := Nat.gcd_pos_of_pos_right X hY
    exact .inl ⟨_, _, Nat.gcd X Y, rfl, Nat.div_mul_cancel (Nat.gcd_dvd_left X Y), Nat.div_mul_cancel (Nat.gcd_dvd_right X Y), hg, (Nat.le_div_iff_mul_le hg).2 (by rw [Nat.one_mul]; exact Nat.gcd_le_right X hY), h.1, h.2, Nat.gcd_div_gcd_div_gcd_of_pos_right hY⟩
  · rw [if_neg h]
    exact .inr rfl
theorem mk_low {x y : Nat} (hx : x ≤ 1000000000) (hy : y ≤ 1000000000) (hg : Nat.gcd x y = 1) : mk x y = (⟨(x : Int), (y : Int)⟩, 0) := by
  unfold mk
  rw [hg, Nat.div_one, Nat.div_one, if_pos ⟨hx, hy⟩]
/-- ratios of whatever sign -/
def okr (r : api_Ratio) : Prop := 1 ≤ r.Den ∧ r.Den ≤ 1000000000 ∧ r.Num.natAbs ≤ 1000000000 ∧ Nat.gcd r.Num.natAbs r.Den.natAbs = 1
instance (r : api_Ratio) : Decidable (okr r) := by unfold okr; exact inferInstance
theorem common_any (a b : Int) (ha : a.natAbs ≤ 9223372036854775807) (hb : b.natAbs ≤ 9223372036854775807) : F_raddleref23_common a b = some ((Nat.gcd a.natAbs b.natAbs : Nat) : Int) := by
  obtain ⟨t, t1, t2⟩ := gcd_any (B := raddleref23_common_l1) (fun a b => rfl) a b
  have hg : Nat.gcd a.natAbs b.natAbs ≤ 9223372036854775807 := by
    by_cases h : b.natAbs = 0
    · rw [h, Nat.gcd_zero_right]; exact ha
    · exact Nat.le_trans (Nat.gcd_le_right _ (Nat.pos_of_ne_zero h)) hb
  unfold F_raddleref23_common
  rw [t1]
  simp only [Option.bind_some]
  rw [← t2] at hg ⊢
  by_cases h : t < 0
  · simp only [dT h, if_true]
    rw [w64_of (by omega) (by omega)]
    congr 1
    omega
  · simp only [dF h, Bool.false_eq_true, if_false]
    congr 1
    omega
theorem size_any (x : Int) (h0 : -9223372036854775808 ≤ x) (h1 : x ≤ 9223372036854775807) : F_yarn_size x = some ((x.natAbs : Nat) : Int) := by
  unfold F_yarn_size
  by_cases h : x < 0
  · simp only [dT h, if_true]
    have : IntKind.u64.wrap (0 - IntKind.u64.wrap x) = ((x.natAbs : Nat) : Int) := by
      have e1 : IntKind.u64.wrap x = x + 18446744073709551616 := by
        unfold IntKind.wrap
        simp [IntKind.bits, IntKind.signed]
        omega
      rw [e1]
      unfold IntKind.wrap
      simp [IntKind.bits, IntKind.signed]
      omega
    rw [this]
  · simp only [dF h, Bool.false_eq_true, if_false]
    rw [u64_of (by omega) (by omega)]
    congr 1
    omega
theorem rcheck_any (r : api_Ratio) (h0 : -9223372036854775808 ≤ r.Num) (h1 : r.Num ≤ 9223372036854775807) (h2 : r.Den ≤ 9223372036854775807) : F_raddleref23_Check r = some (if okr r then 0 else 8) := by
  unfold F_raddleref23_Check
  by_cases e1 : r.Den < 1
  · rw [if_neg (fun h : okr r => by have a1 := h.1; have a2 := h.2.1; have a3 := h.2.2.1; omega)]; simp only [dT e1, if_true, Option.bind_some]
  by_cases e2 : 1000000000 < r.Den
  · rw [if_neg (fun h : okr r => by have a1 := h.1; have a2 := h.2.1; have a3 := h.2.2.1; omega)]; simp only [dF e1, dT e2, Bool.false_eq_true, if_true, if_false, Option.bind_some]
  by_cases e3 : r.Num < -1000000000
  · rw [if_neg (fun h : okr r => by have a1 := h.1; have a2 := h.2.1; have a3 := h.2.2.1; omega)]; simp only [dF e1, dF e2, dT e3, Bool.false_eq_true, if_true, if_false, Option.bind_some]
  by_cases e4 : 1000000000 < r.Num
  · rw [if_neg (fun h : okr r => by have a1 := h.1; have a2 := h.2.1; have a3 := h.2.2.1; omega)]; simp only [dF e1, dF e2, dF e3, dT e4, Bool.false_eq_true, if_true, if_false, Option.bind_some]
  simp only [dF e1, dF e2, dF e3, dF e4, Bool.false_eq_true, if_false, common_any r.Num r.Den (by omega) (by omega), Option.bind_some]
  by_cases e5 : Nat.gcd r.Num.natAbs r.Den.natAbs = 1
  · rw [if_pos (show okr r from ⟨by omega, by omega, by omega, e5⟩), e5]; rfl
  · rw [if_neg (fun h : okr r => e5 h.2.2.2)]
    simp only [nT (show ¬ ((Nat.gcd r.Num.natAbs r.Den.natAbs : Nat) : Int) = 1 by omega), if_true]
theorem ycheck_any (r : api_Ratio) (h0 : -9223372036854775808 ≤ r.Num) (h1 : r.Num ≤ 9223372036854775807) (h2 : r.Den ≤ 9223372036854775807) : F_yarn_Check r = some (if okr r then 0 else 8) := by
  unfold F_yarn_Check
  by_cases e1 : r.Den < 1
  · rw [if_neg (fun h : okr r => by have a1 := h.1; have a2 := h.2.1; have a3 := h.2.2.1; omega)]; simp only [dT e1, if_true, Option.bind_some]
  by_cases e2 : 1000000000 < r.Den
  · rw [if_neg (fun h : okr r => by have a1 := h.1; have a2 := h.2.1; have a3 := h.2.2.1; omega)]; simp only [dF e1, dT e2, Bool.false_eq_true, if_true, if_false, Option.bind_some]
  simp only [dF e1, dF e2, Bool.false_eq_true, if_false, size_any r.Num h0 h1, Option.bind_some]
  by_cases e3 : 1000000000 < ((r.Num.natAbs : Nat) : Int)
  · rw [if_neg (fun h : okr r => by have a1 := h.1; have a2 := h.2.1; have a3 := h.2.2.1; omega)]; simp only [dT e3, if_true, Option.bind_some]
  have e6 : IntKind.u64.wrap r.Den = ((r.Den.natAbs : Nat) : Int) := by rw [u64_of (by omega) (by omega)]; omega
  simp only [dF e3, Bool.false_eq_true, if_false, e6, ygcd_eq, Option.bind_some]
  by_cases e5 : Nat.gcd r.Num.natAbs r.Den.natAbs = 1
  · rw [if_pos (show okr r from ⟨by omega, by omega, by omega, e5⟩), e5]; rfl
  · rw [if_neg (fun h : okr r => e5 h.2.2.2)]
    simp only [nT (show ¬ ((Nat.gcd r.Num.natAbs r.Den.natAbs : Nat) : Int) = 1 by omega), if_true]
/-- Make, whatever the signs -/
def smk (x y : Int) : api_Ratio × Int := if y = 0 then (⟨0, 0⟩, 18) else if (mk x.natAbs y.natAbs).2 = 0 then (⟨if (decide (x < 0) != decide (y < 0)) = true then -(mk x.natAbs y.natAbs).1.Num else (mk x.natAbs y.natAbs).1.Num, (mk x.natAbs y.natAbs).1.Den⟩, 0) else (⟨0, 0⟩, 16)
theorem ymake_any (x y : Int) (hx : x.natAbs ≤ 9223372036854775807) (hy : y.natAbs ≤ 9223372036854775807) : F_yarn_Make x y = some (smk x y) := by
  unfold F_yarn_Make smk
  by_cases h0 : y = 0
  · rw [if_pos h0]; simp only [bT h0, if_true]
  rw [if_neg h0]
  have hb0 : 0 < y.natAbs := by omega
  have hg : 0 < Nat.gcd x.natAbs y.natAbs := Nat.gcd_pos_of_pos_right _ hb0
  simp only [bF h0, Bool.false_eq_true, if_false, size_any x (by omega) (by omega), size_any y (by omega) (by omega), ygcd_eq, Option.bind_some, quoK_nat hg hx, quoK_nat hg hy]
  unfold mk
  have h1 : x.natAbs / Nat.gcd x.natAbs y.natAbs ≤ x.natAbs := Nat.div_le_self _ _
  have h2 : y.natAbs / Nat.gcd x.natAbs y.natAbs ≤ y.natAbs := Nat.div_le_self _ _
  generalize x.natAbs / Nat.gcd x.natAbs y.natAbs = u at *
  generalize y.natAbs / Nat.gcd x.natAbs y.natAbs = v at *
  by_cases e1 : u ≤ 1000000000
  · by_cases e2 : v ≤ 1000000000
    · have hm : (if u ≤ 1000000000 ∧ v ≤ 1000000000 then ((⟨(u : Int), (v : Int)⟩ : api_Ratio), (0 : Int)) else (⟨0, 0⟩, 16)) = (⟨(u : Int), (v : Int)⟩, 0) := if_pos ⟨e1, e2⟩
      rw [hm]
      have k1 : IntKind.i64.wrap (u : Int) = u := i64_of (by omega) (by omega)
      have k2 : IntKind.i64.wrap (v : Int) = v := i64_of (by omega) (by omega)
      have k3 : w64 (0 - (u : Int)) = -(u : Int) := by rw [w64_of (by omega) (by omega)]; omega
      simp only [dF (show ¬ (1000000000 : Int) < u by omega), dF (show ¬ (1000000000 : Int) < v by omega), Bool.false_eq_true, if_false, Option.bind_some, k1, k2, k3, if_true]
      cases (decide (x < 0) != decide (y < 0)) <;> rfl
    · have hm : (if u ≤ 1000000000 ∧ v ≤ 1000000000 then ((⟨(u : Int), (v : Int)⟩ : api_Ratio), (0 : Int)) else (⟨0, 0⟩, 16)) = (⟨0, 0⟩, 16) := if_neg (by omega)
      rw [hm]
      simp only [dF (show ¬ (1000000000 : Int) < u by omega), dT (show (1000000000 : Int) < v by omega), Bool.false_eq_true, if_false, if_true, Option.bind_some, show ¬ (16 : Int) = 0 by omega]
  · have hm : (if u ≤ 1000000000 ∧ v ≤ 1000000000 then ((⟨(u : Int), (v : Int)⟩ : api_Ratio), (0 : Int)) else (⟨0, 0⟩, 16)) = (⟨0, 0⟩, 16) := if_neg (by omega)
    rw [hm]
    simp only [dT (show (1000000000 : Int) < u by omega), if_true, Option.bind_some, show ¬ (16 : Int) = 0 by omega, if_false]
theorem quo_any {x : Int} {g : Nat} (hg : 0 < g) (hx : x.natAbs ≤ 9223372036854775807) : quoI x (g : Int) = some (if x < 0 then -((x.natAbs / g : Nat) : Int) else ((x.natAbs / g : Nat) : Int)) := by
  have h1 : x.natAbs / g ≤ x.natAbs := Nat.div_le_self _ _
  unfold quoI
  rw [if_neg (by omega)]
  have ht : x.tdiv (g : Int) = if x < 0 then -((x.natAbs / g : Nat) : Int) else ((x.natAbs / g : Nat) : Int) := by
    by_cases h : x < 0
    · rw [if_pos h]
      have e : x = -((x.natAbs : Nat) : Int) := by omega
      rw [e, Int.neg_tdiv, Int.natAbs_neg, Int.natAbs_natCast]; rfl
    · rw [if_neg h]
      have e : x = ((x.natAbs : Nat) : Int) := by omega
      rw [e, Int.natAbs_natCast]; rfl
  rw [ht]
  generalize x.natAbs / g = q at *
  congr 1
  by_cases h : x < 0
  · rw [if_pos h]; exact w64_of (by omega) (by omega)
  · rw [if_neg h]; exact w64_of (by omega) (by omega)
theorem rmake_pos (x : Int) (b : Nat) (hx : x.natAbs ≤ 9223372036854775807) (hb : b ≤ 9223372036854775807) (hb0 : 0 < b) :
    (Option.bind (F_raddleref23_common x (b : Int)) fun r => Option.bind (quoI x r) fun z46 => Option.bind (quoI (b : Int) r) fun z48 => Option.bind (F_raddleref23_Check (api_Ratio.mk z46 z48)) fun r54 => if (r54 != 0) = true then some ((api_Ratio.mk 0 0), 16) else some ((api_Ratio.mk z46 z48), 0)) =
      some (if (mk x.natAbs b).2 = 0 then (⟨if x < 0 then -(mk x.natAbs b).1.Num else (mk x.natAbs b).1.Num, (mk x.natAbs b).1.Den⟩, 0) else (⟨0, 0⟩, (16 : Int))) := by
  have hg : 0 < Nat.gcd x.natAbs b := Nat.gcd_pos_of_pos_right _ hb0
  have h3 : Nat.gcd (x.natAbs / Nat.gcd x.natAbs b) (b / Nat.gcd x.natAbs b) = 1 := Nat.gcd_div_gcd_div_gcd_of_pos_right hb0
  have h4 : 1 ≤ b / Nat.gcd x.natAbs b := (Nat.le_div_iff_mul_le hg).2 (by rw [Nat.one_mul]; exact Nat.gcd_le_right _ hb0)
  rw [common_any x (b : Int) hx (by omega), Int.natAbs_natCast, Option.bind_some, quo_any hg hx, quo_nat hg hb]
  simp only [Option.bind_some]
  unfold mk
  have h1 : x.natAbs / Nat.gcd x.natAbs b ≤ x.natAbs := Nat.div_le_self _ _
  have h2 : b / Nat.gcd x.natAbs b ≤ b := Nat.div_le_self _ _
  generalize x.natAbs / Nat.gcd x.natAbs b = u at *
  generalize b / Nat.gcd x.natAbs b = v at *
  have hz : ∃ z : Int, (if x < 0 then -(u : Int) else (u : Int)) = z ∧ z.natAbs = u := by
    by_cases h : x < 0
    · exact ⟨-(u : Int), by rw [if_pos h], by omega⟩
    · exact ⟨(u : Int), by rw [if_neg h], by omega⟩
  obtain ⟨z, z1, z2⟩ := hz
  rw [z1, rcheck_any _ (by show -9223372036854775808 ≤ z; omega) (by show z ≤ _; omega) (by show (v : Int) ≤ _; omega)]
  simp only [Option.bind_some]
  by_cases e : u ≤ 1000000000 ∧ v ≤ 1000000000
  · have ho : okr (api_Ratio.mk z (v : Int)) := ⟨by show (1 : Int) ≤ v; omega, by show (v : Int) ≤ _; omega, by show z.natAbs ≤ _; omega, by show Nat.gcd z.natAbs (v : Int).natAbs = 1; rw [z2, Int.natAbs_natCast]; exact h3⟩
    rw [if_pos ho, if_pos e]
    simp only [bne_self_eq_false, Bool.false_eq_true, if_false, if_true]
    rw [z1]
  · have ho : ¬ okr (api_Ratio.mk z (v : Int)) := fun h => by
      have a1 : (v : Int) ≤ 1000000000 := h.2.1
      have a2 : z.natAbs ≤ 1000000000 := h.2.2.1
      exact e ⟨by omega, by omega⟩
    rw [if_neg ho, if_neg e]
    simp only [nT (show ¬ (8 : Int) = 0 by omega), if_true, show ¬ (16 : Int) = 0 by omega, if_false]
theorem rmake_any (x y : Int) (hx : x.natAbs ≤ 9223372036854775807) (hy : y.natAbs ≤ 9223372036854775807) : F_raddleref23_Make x y = some (smk x y) := by
  unfold F_raddleref23_Make smk
  by_cases h0 : y = 0
  · rw [if_pos h0]; simp only [bT h0, if_true]
  rw [if_neg h0]
  simp only [bF h0, bF (show ¬ x = -9223372036854775808 by omega), bF (show ¬ y = -9223372036854775808 by omega), Bool.false_eq_true, if_false, Option.bind_some]
  by_cases hn : y < 0
  · have k1 : w64 (0 - x) = -x := by rw [w64_of (by omega) (by omega)]; omega
    have k2 : w64 (0 - y) = ((y.natAbs : Nat) : Int) := by rw [w64_of (by omega) (by omega)]; omega
    simp only [dT hn, if_true, Option.bind_some, k1, k2]
    rw [rmake_pos (-x) y.natAbs (by omega) hy (by omega), Int.natAbs_neg]
    congr 1
    by_cases hm : (mk x.natAbs y.natAbs).2 = 0
    · rw [if_pos hm, if_pos hm]
      by_cases hxn : x < 0
      · rw [if_neg (by omega)]; simp [hxn]
      · by_cases hx0 : x = 0
        · subst hx0
          have : (mk 0 y.natAbs).1.Num = 0 := by
            unfold mk
            simp
            split <;> rfl
          simp [this]
        · rw [if_pos (by omega)]; simp [hxn]
    · rw [if_neg hm, if_neg hm]
  · have k2 : y = ((y.natAbs : Nat) : Int) := by omega
    simp only [dF hn, Bool.false_eq_true, if_false, Option.bind_some]
    have := rmake_pos x y.natAbs hx hy (by omega)
    rw [← k2] at this
    rw [this]
    congr 1
    by_cases hm : (mk x.natAbs y.natAbs).2 = 0
    · rw [if_pos hm, if_pos hm]
      by_cases hxn : x < 0
      · rw [if_pos hxn]; simp [hxn]
      · rw [if_neg hxn]; simp [hxn]
    · rw [if_neg hm, if_neg hm]

end Go.Proofs.Ytdbgkakmhlmpbaa
