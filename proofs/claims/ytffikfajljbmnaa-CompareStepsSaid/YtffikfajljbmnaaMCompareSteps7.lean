/- Several texts in one: PlWk PlWg LCQ FrCompareSteps -/
import Derived.WalkKit
import Derived.Maps.AppendAt
import Derived.Deep.AppendLies
import Derived.KernelRfl
import Derived.Laws.OwnMore
import Derived.Great.BuildSlice
import Derived.Orders
import Derived.Laws.StructEq
import Derived.ChangeKeysEq
import Derived.Defers
import Derived.Laws.BytesString
import Derived.RangeFuncNested
import Derived.RangeFuncBound
import Derived.RangeFuncCalls
import Derived.RangeFuncLeaves
import Derived.OrdersIn
import Derived.LoopNIn
import Derived.ArgAppend
import Derived.Test.YtffikfajljbmnaaProg
import Derived.ProofKit
import Derived.OpenShut
import Derived.ChangeOld
import Derived.Deep.Slices
import Derived.Lib.SmallJoins
import Derived.JoinedOf
import Derived.JoinedAt
import Derived.Below
import Derived.Test.YtffikfajljbmnaaRows
import Derived.Test.YtffikfajljbmnaaMCompareSteps6
namespace Go.Proofs.Ytffikfajljbmnaa
open Go.RowKit
set_option linter.unusedVariables false

def wkr : List api_CellStep → List api_Stitch → Option (List api_Stitch × List api_CellStep × List api_Stitch)
  | [], rest => some ([], [], rest)
  | s :: l, rest =>
    if s.Kind = 3 then (wkr l rest).map fun r => (s.S :: r.1, ⟨4, z0⟩ :: r.2.1, r.2.2)
    else match rest with
      | [] => none
      | c :: rest =>
        if s.Kind = 1 then (wkr l rest).map fun r => (c :: r.1, s :: r.2.1, r.2.2)
        else if s.Kind = 2 then (if s.S = c then none else (wkr l rest).map fun r => (s.S :: r.1, ⟨2, c⟩ :: r.2.1, r.2.2))
        else (wkr l rest).map fun r => (r.1, ⟨3, c⟩ :: r.2.1, r.2.2)
theorem wkr_add {s : api_CellStep} (h : s.Kind = 3) (l : List api_CellStep) (rest : List api_Stitch) : wkr (s :: l) rest = (wkr l rest).map fun r => (s.S :: r.1, ⟨4, z0⟩ :: r.2.1, r.2.2) := by
  cases rest <;> simp only [wkr, h, if_true]
theorem wkr_none {s : api_CellStep} (h : ¬ s.Kind = 3) (l : List api_CellStep) : wkr (s :: l) [] = none := by
  simp only [wkr, h, if_false]
theorem wkr_keep {s : api_CellStep} (h : s.Kind = 1) (l : List api_CellStep) (c : api_Stitch) (rest : List api_Stitch) : wkr (s :: l) (c :: rest) = (wkr l rest).map fun r => (c :: r.1, s :: r.2.1, r.2.2) := by
  have h3 : ¬ s.Kind = 3 := by omega
  simp only [wkr, if_neg h3, if_pos h]
theorem wkr_change {s : api_CellStep} (h : s.Kind = 2) (l : List api_CellStep) (c : api_Stitch) (rest : List api_Stitch) : wkr (s :: l) (c :: rest) = if s.S = c then none else (wkr l rest).map fun r => (s.S :: r.1, ⟨2, c⟩ :: r.2.1, r.2.2) := by
  have h3 : ¬ s.Kind = 3 := by omega
  have h1 : ¬ s.Kind = 1 := by omega
  simp only [wkr, if_neg h3, if_neg h1, if_pos h]
theorem wkr_drop {s : api_CellStep} (h : s.Kind = 4) (l : List api_CellStep) (c : api_Stitch) (rest : List api_Stitch) : wkr (s :: l) (c :: rest) = (wkr l rest).map fun r => (r.1, ⟨3, c⟩ :: r.2.1, r.2.2) := by
  have h3 : ¬ s.Kind = 3 := by omega
  have h1 : ¬ s.Kind = 1 := by omega
  have h2 : ¬ s.Kind = 2 := by omega
  simp only [wkr, if_neg h3, if_neg h1, if_neg h2]
theorem wk_r (l : List api_CellStep) : ∀ a, (∀ s, s ∈ l → kindOk s) → wk l a = (wkr l a).bind fun r => if r.2.2.length = 0 then some (r.1, r.2.1) else none := by
  induction l with
  | nil =>
    intro a _
    cases a with
    | nil => rfl
    | cons c a => simp [wk, wkr]
  | cons s l ih =>
    intro a hk
    have hk2 : ∀ s, s ∈ l → kindOk s := fun s hs => hk s (List.mem_cons_of_mem _ hs)
    have lift : ∀ (f : List api_Stitch × List api_CellStep × List api_Stitch → List api_Stitch × List api_CellStep × List api_Stitch) (g : List api_Stitch × List api_CellStep → List api_Stitch × List api_CellStep) (b : List api_Stitch), (∀ r, (f r).2.2 = r.2.2 ∧ ((f r).1, (f r).2.1) = g (r.1, r.2.1)) →
        (wk l b).map g = ((wkr l b).map f).bind fun r => if r.2.2.length = 0 then some (r.1, r.2.1) else none := by
      intro f g b hf
      rw [ih b hk2]
      cases wkr l b with
      | none => rfl
      | some r =>
        obtain ⟨h1, h2⟩ := hf r
        simp only [Option.bind_some, Option.map_some, h1]
        by_cases c : r.2.2.length = 0
        · rw [if_pos c, if_pos c, Option.map_some, h2]
        · rw [if_neg c, if_neg c]; rfl
    by_cases k3 : s.Kind = 3
    · rw [wk_add k3, wkr_add k3]
      exact lift _ _ a fun r => ⟨rfl, rfl⟩
    cases a with
    | nil => rw [wk_none k3, wkr_none k3]; rfl
    | cons c a =>
      rcases hk s (List.mem_cons_self ..) with k | k | k | k
      · rw [wk_keep k, wkr_keep k]
        exact lift _ _ a fun r => ⟨rfl, rfl⟩
      · rw [wk_change k, wkr_change k]
        by_cases e : s.S = c
        · rw [if_pos e, if_pos e]; rfl
        · rw [if_neg e, if_neg e]
          exact lift _ _ a fun r => ⟨rfl, rfl⟩
      · exact absurd k k3
      · rw [wk_drop k, wkr_drop k]
        exact lift _ _ a fun r => ⟨rfl, rfl⟩
/-- what a walk that goes through has -/
theorem wkr_mem (l : List api_CellStep) : ∀ a r, (∀ s, s ∈ l → kindOk s) → wkr l a = some r → (∀ p, p ∈ r.1 → p ∈ a ∨ ∃ s, s ∈ l ∧ p = s.S) ∧ r.1.length ≤ l.length ∧ r.2.1.length ≤ l.length ∧ r.2.2.length ≤ a.length := by
  induction l with
  | nil =>
    intro a r _ h
    cases h
    exact ⟨fun p hp => (by cases hp), Nat.le_refl _, Nat.le_refl _, Nat.le_refl _⟩
  | cons s l ih =>
    intro a r hk h
    have hk2 : ∀ s, s ∈ l → kindOk s := fun s hs => hk s (List.mem_cons_of_mem _ hs)
    by_cases k3 : s.Kind = 3
    · rw [wkr_add k3, Option.map_eq_some_iff] at h
      obtain ⟨q, hq, rfl⟩ := h
      obtain ⟨i1, i2, i3, i4⟩ := ih a q hk2 hq
      refine ⟨fun p hp => ?_, by simp only [List.length_cons]; omega, by simp only [List.length_cons]; omega, i4⟩
      rcases List.mem_cons.1 hp with rfl | hp
      · exact .inr ⟨s, List.mem_cons_self .., rfl⟩
      · rcases i1 p hp with h1 | ⟨t, h1, h2⟩
        · exact .inl h1
        · exact .inr ⟨t, List.mem_cons_of_mem _ h1, h2⟩
    cases a with
    | nil => rw [wkr_none k3] at h; cases h
    | cons c a =>
      have up : ∀ {q : List api_Stitch × List api_CellStep × List api_Stitch}, (∀ p, p ∈ q.1 → p ∈ a ∨ ∃ s, s ∈ l ∧ p = s.S) → ∀ p, p ∈ q.1 → p ∈ c :: a ∨ ∃ t, t ∈ s :: l ∧ p = t.S := by
        intro q i1 p hp
        rcases i1 p hp with h1 | ⟨t, h1, h2⟩
        · exact .inl (List.mem_cons_of_mem _ h1)
        · exact .inr ⟨t, List.mem_cons_of_mem _ h1, h2⟩
      rcases hk s (List.mem_cons_self ..) with k | k | k | k
      · rw [wkr_keep k, Option.map_eq_some_iff] at h
        obtain ⟨q, hq, rfl⟩ := h
        obtain ⟨i1, i2, i3, i4⟩ := ih a q hk2 hq
        refine ⟨fun p hp => ?_, by simp only [List.length_cons]; omega, by simp only [List.length_cons]; omega, by simp only [List.length_cons]; omega⟩
        rcases List.mem_cons.1 hp with rfl | hp
        · exact .inl (List.mem_cons_self ..)
        · exact up i1 p hp
      · rw [wkr_change k] at h
        by_cases e : s.S = c
        · rw [if_pos e] at h; cases h
        rw [if_neg e, Option.map_eq_some_iff] at h
        obtain ⟨q, hq, rfl⟩ := h
        obtain ⟨i1, i2, i3, i4⟩ := ih a q hk2 hq
        refine ⟨fun p hp => ?_, by simp only [List.length_cons]; omega, by simp only [List.length_cons]; omega, by simp only [List.length_cons]; omega⟩
        rcases List.mem_cons.1 hp with rfl | hp
        · exact .inr ⟨s, List.mem_cons_self .., rfl⟩
        · exact up i1 p hp
      · exact absurd k k3
      · rw [wkr_drop k, Option.map_eq_some_iff] at h
        obtain ⟨q, hq, rfl⟩ := h
        obtain ⟨i1, i2, i3, i4⟩ := ih a q hk2 hq
        exact ⟨up i1, by simp only [List.length_cons]; omega, by simp only [List.length_cons]; omega, by simp only [List.length_cons]; omega⟩
/-- what a loop over steps answers -/
def wOut (out : List api_Stitch) (back : List api_CellStep) (w : Option (List api_Stitch × List api_CellStep × List api_Stitch)) : ((List api_Stitch × List api_CellStep × Int) ⊕ (List api_Stitch × List api_CellStep × List api_Stitch)) :=
  match w with
  | none => .inl ([], [], 30)
  | some r => .inr (out ++ r.1, back ++ r.2.1, r.2.2)
theorem wOut_map (out o2 : List api_Stitch) (back b2 : List api_CellStep) (w : Option (List api_Stitch × List api_CellStep × List api_Stitch)) : wOut (out ++ o2) (back ++ b2) w = wOut out back (w.map fun r => (o2 ++ r.1, b2 ++ r.2.1, r.2.2)) := by
  cases w with
  | none => rfl
  | some r => simp only [wOut, Option.map_some, List.append_assoc]
theorem walk_loop (l : List api_CellStep) (hk : ∀ s, s ∈ l → kindOk s) (hl : l.length ≤ 1000) : ∀ (n k : Nat) (out : List api_Stitch) (back : List api_CellStep) (rest : List api_Stitch), k + n = l.length → out.length ≤ k → back.length ≤ k →
    whileO (compare_walk_l2 l) (out, back, rest, (k : Int)) = some (wOut out back (wkr (l.drop k) rest)) := by
  intro n
  induction n with
  | zero =>
    intro k out back rest h _ _
    have e : l.drop k = [] := by rw [show k = l.length by omega, List.drop_length]
    rw [e]
    refine whileO_done ?_
    unfold compare_walk_l2
    simp only [dF (show ¬ (k : Int) < (l.length : Int) by omega), Bool.false_eq_true, if_false, wkr, wOut, List.append_nil]
  | succ n ih =>
    intro k out back rest h ho hb
    have hk2 : k < l.length := by omega
    have hks := hk _ (List.getElem_mem hk2)
    have hap : ∀ s : api_Stitch, appO out [s] = some (out ++ [s]) := fun s => appO_of (by simp; omega)
    have hab : ∀ s : api_CellStep, appO back [s] = some (back ++ [s]) := fun s => appO_of (by simp; omega)
    rw [List.drop_eq_getElem_cons hk2]
    generalize hs : l[k] = s at *
    have hix : idxO l (k : Int) = some s := by rw [idxO_nat hk2, hs]
    by_cases k3 : s.Kind = 3
    · have hst : compare_walk_l2 l (out, back, rest, (k : Int)) = some (.inl (out ++ [s.S], back ++ [⟨4, z0⟩], rest, ((k + 1 : Nat) : Int))) := by
        unfold compare_walk_l2
        simp only [dT (show (k : Int) < (l.length : Int) by omega), if_true, hix, Option.bind_some, bT k3, hap, hab, w64_succ (show k < 9223372036854775807 by omega)]
        rfl
      rw [whileO_step hst, ih (k + 1) _ _ _ (by omega) (by simp; omega) (by simp; omega), wkr_add k3, wOut_map]
      rfl
    cases rest with
    | nil =>
      rw [wkr_none k3]
      refine whileO_done ?_
      unfold compare_walk_l2
      simp only [dT (show (k : Int) < (l.length : Int) by omega), if_true, hix, Option.bind_some, bF k3, Bool.false_eq_true, if_false, List.length_nil]
      rfl
    | cons c rest =>
      have hsl : sliceO (c :: rest) 1 (((c :: rest).length : Nat) : Int) = some rest := sliceO_all (xs := c :: rest) (k := 1) (by simp)
      have h0 : idxO (c :: rest) 0 = some c := rfl
      have hn : ¬ (((c :: rest).length : Nat) : Int) = 0 := by simp only [List.length_cons]; omega
      rcases hks with q | q | q | q
      · have hst : compare_walk_l2 l (out, back, c :: rest, (k : Int)) = some (.inl (out ++ [c], back ++ [s], rest, ((k + 1 : Nat) : Int))) := by
          unfold compare_walk_l2
          simp only [dT (show (k : Int) < (l.length : Int) by omega), if_true, hix, Option.bind_some, bF k3, bF hn, Bool.false_eq_true, if_false, h0, hsl, bT q, hap, hab, w64_succ (show k < 9223372036854775807 by omega)]
        rw [whileO_step hst, ih (k + 1) _ _ _ (by omega) (by simp; omega) (by simp; omega), wkr_keep q, wOut_map]
        rfl
      · by_cases e : s.S = c
        · rw [wkr_change q, if_pos e]
          refine whileO_done ?_
          unfold compare_walk_l2
          simp only [dT (show (k : Int) < (l.length : Int) by omega), if_true, hix, Option.bind_some, bF k3, bF hn, Bool.false_eq_true, if_false, h0, hsl, bF (show ¬ s.Kind = 1 by omega), bT q, steq, dT e]
          rfl
        · have hst : compare_walk_l2 l (out, back, c :: rest, (k : Int)) = some (.inl (out ++ [s.S], back ++ [⟨2, c⟩], rest, ((k + 1 : Nat) : Int))) := by
            unfold compare_walk_l2
            simp only [dT (show (k : Int) < (l.length : Int) by omega), if_true, hix, Option.bind_some, bF k3, bF hn, Bool.false_eq_true, if_false, h0, hsl, bF (show ¬ s.Kind = 1 by omega), bT q, steq, dF e, hap, hab, w64_succ (show k < 9223372036854775807 by omega)]
          rw [whileO_step hst, ih (k + 1) _ _ _ (by omega) (by simp; omega) (by simp; omega), wkr_change q, if_neg e, wOut_map]
          rfl
      · exact absurd q k3
      · have hst : compare_walk_l2 l (out, back, c :: rest, (k : Int)) = some (.inl (out ++ [], back ++ [⟨3, c⟩], rest, ((k + 1 : Nat) : Int))) := by
          unfold compare_walk_l2
          simp only [dT (show (k : Int) < (l.length : Int) by omega), if_true, hix, Option.bind_some, bF k3, bF hn, Bool.false_eq_true, if_false, h0, hsl, bF (show ¬ s.Kind = 1 by omega), bF (show ¬ s.Kind = 2 by omega), bT q, hab, w64_succ (show k < 9223372036854775807 by omega), List.append_nil]
        rw [whileO_step hst, ih (k + 1) _ _ _ (by omega) (by simp; omega) (by simp; omega), wkr_drop q, wOut_map]
        rfl
def wOutR (a : List api_Stitch) (out : List api_Stitch) (back : List api_CellStep) (w : Option (List api_Stitch × List api_CellStep × List api_Stitch)) : ((List api_Stitch × List api_CellStep × Int) ⊕ (List api_Stitch × List api_CellStep × Int)) :=
  match w with
  | none => .inl ([], [], 30)
  | some r => .inr (out ++ r.1, back ++ r.2.1, ((a.length - r.2.2.length : Nat) : Int))
theorem wOutR_map (a out o2 : List api_Stitch) (back b2 : List api_CellStep) (w : Option (List api_Stitch × List api_CellStep × List api_Stitch)) : wOutR a (out ++ o2) (back ++ b2) w = wOutR a out back (w.map fun r => (o2 ++ r.1, b2 ++ r.2.1, r.2.2)) := by
  cases w with
  | none => rfl
  | some r => simp only [wOutR, Option.map_some, List.append_assoc]
theorem gone_loop (l : List api_CellStep) (a : List api_Stitch) (hk : ∀ s, s ∈ l → kindOk s) (hl : l.length ≤ 1000) (hal : a.length ≤ 1000000) : ∀ (n k : Nat) (out : List api_Stitch) (back : List api_CellStep) (i : Nat), k + n = l.length → i ≤ a.length → out.length ≤ k → back.length ≤ k →
    whileO (raddleref46_gone_l2 l a) (out, back, (i : Int), (k : Int)) = some (wOutR a out back (wkr (l.drop k) (a.drop i))) := by
  intro n
  induction n with
  | zero =>
    intro k out back i h hi _ _
    have e : l.drop k = [] := by rw [show k = l.length by omega, List.drop_length]
    rw [e]
    refine whileO_done ?_
    unfold raddleref46_gone_l2
    simp only [dF (show ¬ (k : Int) < (l.length : Int) by omega), Bool.false_eq_true, if_false, wkr, wOutR, List.append_nil, List.length_drop]
    rw [show a.length - (a.length - i) = i by omega]
  | succ n ih =>
    intro k out back i h hi ho hb
    have hk2 : k < l.length := by omega
    have hks := hk _ (List.getElem_mem hk2)
    have hap : ∀ s : api_Stitch, appO out [s] = some (out ++ [s]) := fun s => appO_of (by simp; omega)
    have hab : ∀ s : api_CellStep, appO back [s] = some (back ++ [s]) := fun s => appO_of (by simp; omega)
    rw [List.drop_eq_getElem_cons hk2]
    generalize hs : l[k] = s at *
    have hix : idxO l (k : Int) = some s := by rw [idxO_nat hk2, hs]
    by_cases k3 : s.Kind = 3
    · have hst : raddleref46_gone_l2 l a (out, back, (i : Int), (k : Int)) = some (.inl (out ++ [s.S], back ++ [⟨4, z0⟩], (i : Int), ((k + 1 : Nat) : Int))) := by
        unfold raddleref46_gone_l2
        simp only [dT (show (k : Int) < (l.length : Int) by omega), if_true, hix, Option.bind_some, bT k3, hap, hab, w64_succ (show k < 9223372036854775807 by omega)]
        rfl
      rw [whileO_step hst, ih (k + 1) _ _ _ (by omega) hi (by simp; omega) (by simp; omega), wkr_add k3, wOutR_map]
      rfl
    by_cases hi2 : i < a.length
    case neg =>
      rw [show a.drop i = [] by rw [show i = a.length by omega, List.drop_length], wkr_none k3]
      refine whileO_done ?_
      unfold raddleref46_gone_l2
      simp only [dT (show (k : Int) < (l.length : Int) by omega), if_true, hix, Option.bind_some, bF k3, Bool.false_eq_true, if_false, bT (show (i : Int) = (a.length : Int) by omega)]
      rfl
    rw [List.drop_eq_getElem_cons hi2]
    have h0 : idxO a (i : Int) = some a[i] := idxO_nat hi2
    have hn : ¬ (i : Int) = (a.length : Int) := by omega
    generalize a[i] = c at *
    rcases hks with q | q | q | q
    · have hst : raddleref46_gone_l2 l a (out, back, (i : Int), (k : Int)) = some (.inl (out ++ [c], back ++ [s], ((i + 1 : Nat) : Int), ((k + 1 : Nat) : Int))) := by
        unfold raddleref46_gone_l2
        simp only [dT (show (k : Int) < (l.length : Int) by omega), if_true, hix, Option.bind_some, bF k3, bF hn, Bool.false_eq_true, if_false, h0, bF (show ¬ s.Kind = 2 by omega), bT q, hap, hab, w64_succ (show k < 9223372036854775807 by omega), w64_succ (show i < 9223372036854775807 by omega)]
      rw [whileO_step hst, ih (k + 1) _ _ _ (by omega) (by omega) (by simp; omega) (by simp; omega), wkr_keep q, wOutR_map]
      rfl
    · by_cases e : s.S = c
      · rw [wkr_change q, if_pos e]
        refine whileO_done ?_
        unfold raddleref46_gone_l2
        simp only [dT (show (k : Int) < (l.length : Int) by omega), if_true, hix, Option.bind_some, bF k3, bF hn, Bool.false_eq_true, if_false, h0, bT q, steq, dT e]
        rfl
      · have hst : raddleref46_gone_l2 l a (out, back, (i : Int), (k : Int)) = some (.inl (out ++ [s.S], back ++ [⟨2, c⟩], ((i + 1 : Nat) : Int), ((k + 1 : Nat) : Int))) := by
          unfold raddleref46_gone_l2
          simp only [dT (show (k : Int) < (l.length : Int) by omega), if_true, hix, Option.bind_some, bF k3, bF hn, Bool.false_eq_true, if_false, h0, bF (show ¬ s.Kind = 1 by omega), bT q, steq, dF e, hap, hab, w64_succ (show k < 9223372036854775807 by omega), w64_succ (show i < 9223372036854775807 by omega)]
        rw [whileO_step hst, ih (k + 1) _ _ _ (by omega) (by omega) (by simp; omega) (by simp; omega), wkr_change q, if_neg e, wOutR_map]
        rfl
    · exact absurd q k3
    · have hst : raddleref46_gone_l2 l a (out, back, (i : Int), (k : Int)) = some (.inl (out ++ [], back ++ [⟨3, c⟩], ((i + 1 : Nat) : Int), ((k + 1 : Nat) : Int))) := by
        unfold raddleref46_gone_l2
        simp only [dT (show (k : Int) < (l.length : Int) by omega), if_true, hix, Option.bind_some, bF k3, bF hn, Bool.false_eq_true, if_false, h0, bF (show ¬ s.Kind = 1 by omega), bF (show ¬ s.Kind = 2 by omega), bT q, hab, w64_succ (show k < 9223372036854775807 by omega), w64_succ (show i < 9223372036854775807 by omega), List.append_nil]
      rw [whileO_step hst, ih (k + 1) _ _ _ (by omega) (by omega) (by simp; omega) (by simp; omega), wkr_drop q, wOutR_map]
      rfl
/-- steps that are as they should be -/
def fineB (s : api_CellStep) : Bool := if s.Kind = 1 ∨ s.Kind = 4 then decide (s.S = z0) else if s.Kind = 2 ∨ s.Kind = 3 then decide (okS s.S) else false
theorem fineB_kind {s : api_CellStep} (h : fineB s = true) : kindOk s := by
  unfold fineB at h
  unfold kindOk
  by_cases c1 : s.Kind = 1 ∨ s.Kind = 4
  · omega
  rw [if_neg c1] at h
  by_cases c2 : s.Kind = 2 ∨ s.Kind = 3
  · omega
  rw [if_neg c2] at h
  cases h
theorem ok8 (p : api_Stitch) : (((if okS p then (0 : Int) else 8)) == 0) = decide (okS p) := by
  by_cases h : okS p
  · rw [if_pos h, dT h]; rfl
  · rw [if_neg h, dF h]; rfl
theorem fine_eq {s : api_CellStep} (hw : wfS s.S) : F_compare_fine s = some (fineB s) := by
  have hz : ((s.S.Kind == 0) && ((s.S.Purl == false) && ((s.S.A == 0) && ((s.S.B == 0) && true)))) = decide (s.S = z0) := steq s.S z0
  unfold F_compare_fine fineB
  rw [hz, check_eq _ hw]
  by_cases c1 : s.Kind = 1
  · rw [if_pos (show s.Kind = 1 ∨ s.Kind = 4 from .inl c1)]; simp only [bT c1, if_true, Option.bind_some]
  by_cases c4 : s.Kind = 4
  · rw [if_pos (show s.Kind = 1 ∨ s.Kind = 4 from .inr c4)]; simp only [bF c1, bT c4, Bool.false_eq_true, if_false, if_true, Option.bind_some]
  rw [if_neg (show ¬ (s.Kind = 1 ∨ s.Kind = 4) by omega)]
  by_cases c2 : s.Kind = 2
  · rw [if_pos (show s.Kind = 2 ∨ s.Kind = 3 from .inl c2)]; simp only [bF c1, bF c4, bT c2, Bool.false_eq_true, if_false, if_true, Option.bind_some, ok8]
  by_cases c3 : s.Kind = 3
  · rw [if_pos (show s.Kind = 2 ∨ s.Kind = 3 from .inr c3)]; simp only [bF c1, bF c4, bF c2, bT c3, Bool.false_eq_true, if_false, if_true, Option.bind_some, ok8]
  rw [if_neg (show ¬ (s.Kind = 2 ∨ s.Kind = 3) by omega)]
  simp only [bF c1, bF c4, bF c2, bF c3, Bool.false_eq_true, if_false, Option.bind_some]
theorem rfine_eq (s : api_CellStep) : F_raddleref46_Fine s = some (fineB s) := by
  have hz : ((s.S.Kind == 0) && ((s.S.Purl == false) && ((s.S.A == 0) && ((s.S.B == 0) && true)))) = decide (s.S = z0) := steq s.S z0
  unfold F_raddleref46_Fine fineB
  rw [hz, rstitch_eq]
  by_cases c1 : s.Kind = 1
  · rw [if_pos (show s.Kind = 1 ∨ s.Kind = 4 from .inl c1)]; simp only [bT c1, if_true, Option.bind_some]
  by_cases c4 : s.Kind = 4
  · rw [if_pos (show s.Kind = 1 ∨ s.Kind = 4 from .inr c4)]; simp only [bF c1, bT c4, Bool.false_eq_true, if_false, if_true, Option.bind_some]
  rw [if_neg (show ¬ (s.Kind = 1 ∨ s.Kind = 4) by omega)]
  by_cases c2 : s.Kind = 2
  · rw [if_pos (show s.Kind = 2 ∨ s.Kind = 3 from .inl c2)]; simp only [bF c1, bF c4, bT c2, Bool.false_eq_true, if_false, if_true, Option.bind_some, ok8]
  by_cases c3 : s.Kind = 3
  · rw [if_pos (show s.Kind = 2 ∨ s.Kind = 3 from .inr c3)]; simp only [bF c1, bF c4, bF c2, bT c3, Bool.false_eq_true, if_false, if_true, Option.bind_some, ok8]
  rw [if_neg (show ¬ (s.Kind = 2 ∨ s.Kind = 3) by omega)]
  simp only [bF c1, bF c4, bF c2, bF c3, Bool.false_eq_true, if_false, Option.bind_some]
/-- what a walk answers -/
def walkS (a : List api_Stitch) (l : List api_CellStep) : List api_Stitch × List api_CellStep × Int :=
  if allS a = 0 then (if 400 < l.length then ([], [], 4) else if l.all fineB = true then
    (match wk l a with
    | none => ([], [], 30)
    | some r => if allS r.1 = 0 then (r.1, r.2, 0) else ([], [], allS r.1)) else ([], [], 8)) else ([], [], allS a)
theorem walk_eq {a : List api_Stitch} {l : List api_CellStep} (wa : ∀ p, p ∈ a → wfS p) (wl : ∀ s, s ∈ l → wfS s.S) (hl : l.length ≤ 1000000) : F_compare_walk a l = some (walkS a l) := by
  unfold F_compare_walk walkS
  rw [all_eq wa]
  by_cases h0 : allS a = 0
  case neg => rw [if_neg h0]; simp only [Option.bind_some, nT h0, if_true]
  rw [if_pos h0]
  by_cases h1 : 400 < l.length
  · rw [if_pos h1]; simp only [Option.bind_some, nF h0, Bool.false_eq_true, if_false, dT (show (400 : Int) < (l.length : Int) by omega), if_true]
  rw [if_neg h1]
  have hw : whileO (compare_walk_l1 l) 0 = some (if l.all fineB = true then .inr () else .inl ([], [], 8)) := by
    refine loop_allL l _ _ _ (fun k hk => ?_) ?_
    · unfold compare_walk_l1
      simp only [dT (show (k : Int) < (l.length : Int) by omega), if_true, idxO_nat hk, Option.bind_some, fine_eq (wl _ (List.getElem_mem hk)), w64_succ (show k < 9223372036854775807 by omega)]
      cases fineB l[k] <;> rfl
    · unfold compare_walk_l1
      simp only [dF (show ¬ (l.length : Int) < (l.length : Int) by omega), Bool.false_eq_true, if_false]
  simp only [Option.bind_some, nF h0, Bool.false_eq_true, if_false, dF (show ¬ (400 : Int) < (l.length : Int) by omega), hw]
  by_cases h2 : l.all fineB = true
  case neg => rw [if_neg h2, if_neg h2]; rfl
  rw [if_pos h2, if_pos h2]
  have hk : ∀ s, s ∈ l → kindOk s := fun s hs => fineB_kind (List.all_eq_true.1 h2 s hs)
  have hlp := walk_loop l hk (by omega) l.length 0 [] [] a (by omega) (by simp) (by simp)
  have hz : ((0 : Nat) : Int) = 0 := rfl
  rw [hz, List.drop_zero] at hlp
  rw [wk_r l a hk]
  simp only [Option.bind_some, hlp]
  cases hr : wkr l a with
  | none => rfl
  | some r =>
    obtain ⟨m1, m2, m3, m4⟩ := wkr_mem l a r hk hr
    have hwf : ∀ p, p ∈ r.1 → wfS p := fun p hp => by
      rcases m1 p hp with h | ⟨s, h, e⟩
      · exact wa p h
      · rw [e]; exact wl s h
    simp only [wOut, List.nil_append, Option.bind_some]
    by_cases c : r.2.2.length = 0
    · rw [if_pos c]
      simp only [dF (show ¬ (0 : Int) < (r.2.2.length : Int) by omega), Bool.false_eq_true, if_false, all_eq hwf, Option.bind_some]
      by_cases h3 : allS r.1 = 0
      · rw [if_pos h3]; simp only [nF h3, Bool.false_eq_true, if_false]
      · rw [if_neg h3]; simp only [nT h3, if_true]
    · rw [if_neg c]
      simp only [dT (show (0 : Int) < (r.2.2.length : Int) by omega), if_true]
theorem gone_eq (a : List api_Stitch) (l : List api_CellStep) (hl : l.length ≤ 1000000) : F_raddleref46_gone a l = some (walkS a l) := by
  unfold F_raddleref46_gone walkS
  rw [rall_eq]
  by_cases h0 : allS a = 0
  case neg => rw [if_neg h0]; simp only [Option.bind_some, nT h0, if_true]
  rw [if_pos h0]
  by_cases h1 : 400 < l.length
  · rw [if_pos h1]; simp only [Option.bind_some, nF h0, Bool.false_eq_true, if_false, dT (show (400 : Int) < (l.length : Int) by omega), if_true]
  rw [if_neg h1]
  have hw : whileO (raddleref46_gone_l1 l) 0 = some (if l.all fineB = true then .inr () else .inl ([], [], 8)) := by
    refine loop_allL l _ _ _ (fun k hk => ?_) ?_
    · unfold raddleref46_gone_l1
      simp only [dT (show (k : Int) < (l.length : Int) by omega), if_true, idxO_nat hk, Option.bind_some, rfine_eq, w64_succ (show k < 9223372036854775807 by omega)]
      cases fineB l[k] <;> rfl
    · unfold raddleref46_gone_l1
      simp only [dF (show ¬ (l.length : Int) < (l.length : Int) by omega), Bool.false_eq_true, if_false]
  simp only [Option.bind_some, nF h0, Bool.false_eq_true, if_false, dF (show ¬ (400 : Int) < (l.length : Int) by omega), hw]
  by_cases h2 : l.all fineB = true
  case neg => rw [if_neg h2, if_neg h2]; rfl
  rw [if_pos h2, if_pos h2]
  have hk : ∀ s, s ∈ l → kindOk s := fun s hs => fineB_kind (List.all_eq_true.1 h2 s hs)
  have la := (allS_ok h0).1
  have hlp := gone_loop l a hk (by omega) (by omega) l.length 0 [] [] 0 (by omega) (by omega) (by simp) (by simp)
  have hz : ((0 : Nat) : Int) = 0 := rfl
  rw [hz, List.drop_zero, List.drop_zero] at hlp
  rw [wk_r l a hk]
  simp only [Option.bind_some, hlp]
  cases hr : wkr l a with
  | none => rfl
  | some r =>
    obtain ⟨m1, m2, m3, m4⟩ := wkr_mem l a r hk hr
    simp only [wOutR, List.nil_append, Option.bind_some]
    by_cases c : r.2.2.length = 0
    · rw [if_pos c]
      simp only [dF (show ¬ ((a.length - r.2.2.length : Nat) : Int) < (a.length : Int) by omega), Bool.false_eq_true, if_false, rall_eq, Option.bind_some]
      by_cases h3 : allS r.1 = 0
      · rw [if_pos h3]; simp only [nF h3, Bool.false_eq_true, if_false]
      · rw [if_neg h3]; simp only [nT h3, if_true]
    · rw [if_neg c]
      simp only [dT (show ((a.length - r.2.2.length : Nat) : Int) < (a.length : Int) by omega), if_true]
/-- lists of cells, of steps, compared -/
instance decCs : DecidableEq api_CellStep := fun a b => decidable_of_iff (a.Kind = b.Kind ∧ a.S = b.S) (by cases a; cases b; simp)
theorem cseq (x y : api_CellStep) : ((x.Kind == y.Kind) && (((x.S.Kind == y.S.Kind) && ((x.S.Purl == y.S.Purl) && ((x.S.A == y.S.A) && ((x.S.B == y.S.B) && true)))) && true)) = decide (x = y) := by
  rw [steq]
  by_cases h : x = y
  · subst h; simp
  · rw [dF h]
    refine Bool.eq_false_iff.2 fun hb => h ?_
    simp only [Bool.and_eq_true, beq_iff_eq, and_true, decide_eq_true_eq] at hb
    cases x; cases y
    simp only at hb
    rw [hb.1, hb.2]
theorem rsame25_eq (a b : List api_Stitch) (hl : a.length ≤ 9223372036854775807) : F_raddleref25_Same a b = some (decide (a = b)) := by
  by_cases h3 : (a.length : Int) = (b.length : Int)
  case neg => unfold F_raddleref25_Same; simp only [nT h3, if_true]; rw [decide_eq_false]; rintro rfl; exact h3 rfl
  have hw : whileO (raddleref25_Same_l1 a b) 0 = some (if a = b then .inr () else .inl false) := by
    refine loop_eql a b (by omega) _ _ (fun k hk => ?_) ?_
    · unfold raddleref25_Same_l1
      simp only [dT (show (k : Int) < (a.length : Int) by omega), if_true, idxO_nat hk, idxO_nat (xs := b) (k := k) (by omega), Option.bind_some, steq, w64_succ (show k < 9223372036854775807 by omega)]
      by_cases e : a[k] = b[k]'(by omega)
      · rw [if_pos e, dT e]; rfl
      · rw [if_neg e, dF e]; rfl
    · unfold raddleref25_Same_l1; simp
  unfold F_raddleref25_Same
  simp only [nF h3, Bool.false_eq_true, if_false, Option.bind_some, hw]
  by_cases e : a = b
  · rw [if_pos e]; simp [e]
  · rw [if_neg e]; simp [e]
theorem rsame46_eq (a b : List api_CellStep) (hl : a.length ≤ 9223372036854775807) : F_raddleref46_Same a b = some (decide (a = b)) := by
  by_cases h3 : (a.length : Int) = (b.length : Int)
  case neg => unfold F_raddleref46_Same; simp only [nT h3, if_true]; rw [decide_eq_false]; rintro rfl; exact h3 rfl
  have hw : whileO (raddleref46_Same_l1 a b) 0 = some (if a = b then .inr () else .inl false) := by
    refine loop_eql a b (by omega) _ _ (fun k hk => ?_) ?_
    · unfold raddleref46_Same_l1
      simp only [dT (show (k : Int) < (a.length : Int) by omega), if_true, idxO_nat hk, idxO_nat (xs := b) (k := k) (by omega), Option.bind_some, cseq, w64_succ (show k < 9223372036854775807 by omega)]
      by_cases e : a[k] = b[k]'(by omega)
      · rw [if_pos e, dT e]; rfl
      · rw [if_neg e, dF e]; rfl
    · unfold raddleref46_Same_l1; simp
  unfold F_raddleref46_Same
  simp only [nF h3, Bool.false_eq_true, if_false, Option.bind_some, hw]
  by_cases e : a = b
  · rw [if_pos e]; simp [e]
  · rw [if_neg e]; simp [e]
theorem editsS_bd (a b : List api_Stitch) : (editsS a b).1.length ≤ 400 := by
  unfold editsS
  split
  · rename_i h0
    split
    · rename_i h1
      have la := (allS_ok h0).1
      have lb := (allS_ok h1).1
      have := (eds_ok (a.length + b.length) a b (Nat.le_refl _)).2.2.1
      dsimp only
      omega
    · simp
  · simp
theorem walkS_bd (a : List api_Stitch) (l : List api_CellStep) : (walkS a l).1.length ≤ 400 ∧ (walkS a l).2.1.length ≤ 400 := by
  unfold walkS
  split
  · split
    · exact ⟨by simp, by simp⟩
    · rename_i h1
      split
      · rename_i h2
        have hk : ∀ s, s ∈ l → kindOk s := fun s hs => fineB_kind (List.all_eq_true.1 h2 s hs)
        rw [wk_r l a hk]
        cases hr : wkr l a with
        | none => exact ⟨by simp, by simp⟩
        | some r =>
          obtain ⟨m1, m2, m3, m4⟩ := wkr_mem l a r hk hr
          simp only [Option.bind_some]
          by_cases c : r.2.2.length = 0
          · rw [if_pos c]
            dsimp only
            split
            · exact ⟨by dsimp only; omega, by dsimp only; omega⟩
            · exact ⟨by simp, by simp⟩
          · rw [if_neg c]; exact ⟨by simp, by simp⟩
      · exact ⟨by simp, by simp⟩
  · exact ⟨by simp, by simp⟩

end Go.Proofs.Ytffikfajljbmnaa
namespace Go.Proofs.Ytffikfajljbmnaa
open Go.RowKit
set_option linter.unusedVariables false

theorem rgreat25_eq (l : List api_Stitch) : ∃ b, F_raddleref25_Great l = some b := by
  unfold F_raddleref25_Great
  by_cases h1 : (60 : Int) < (l.length : Int)
  · simp only [dT h1, if_true]; repeat' split
    all_goals exact ⟨_, rfl⟩
  · simp only [dF h1, Bool.false_eq_true, if_false]; repeat' split
    all_goals exact ⟨_, rfl⟩
theorem wf_st {l : List api_Stitch} (h : Wl wf_api_Stitch l) : ∀ p, p ∈ l → wfS p := fun p hp => inK_u8 (h.2 p hp).1

end Go.Proofs.Ytffikfajljbmnaa
namespace Go.Proofs.Ytffikfajljbmnaa
open Go.RowKit
set_option linter.unusedVariables false

theorem law_CompareSteps (a b : List api_Stitch) (l : List api_CellStep) (wa : Wl wf_api_Stitch a) (wb : Wl wf_api_Stitch b) (wl : Wl wf_api_CellStep l) : F_raddlelaw46_CompareSteps a b l = some true := by
  unfold F_raddlelaw46_CompareSteps
  obtain ⟨b1, h1⟩ := rgreat25_eq a
  obtain ⟨b2, h2⟩ := rgreat25_eq b
  rw [h1, h2]
  cases b1 with
  | true => rfl
  | false =>
    cases b2 with
    | true => rfl
    | false =>
      by_cases h3 : (450 : Int) < (l.length : Int)
      · simp only [Bool.false_eq_true, if_false, Option.bind_some, dT h3, if_true]
      have hle : l.length ≤ 1000000 := by omega
      have ha := wf_st wa
      have hb := wf_st wb
      have hl : ∀ s, s ∈ l → wfS s.S := fun s hs => inK_u8 (wl.2 s hs).2.1
      have q1 := editsS_bd a b
      obtain ⟨q2, q3⟩ := walkS_bd a l
      unfold F_compare_Patch F_raddleref46_Patch F_compare_Back F_raddleref46_Back
      simp only [Bool.false_eq_true, if_false, Option.bind_some, dF h3, edits_eq ha hb, redits_eq, walk_eq ha hl hle, gone_eq a l hle, rsame46_eq _ _ (show (editsS a b).1.length ≤ 9223372036854775807 by omega), rsame46_eq _ _ (show (walkS a l).2.1.length ≤ 9223372036854775807 by omega), rsame25_eq _ _ (show (walkS a l).1.length ≤ 9223372036854775807 by omega), decide_true, if_true, beq_self_eq_true]

end Go.Proofs.Ytffikfajljbmnaa
namespace Go.Proofs.Ytffikfajljbmnaa
open Go.RowKit
set_option linter.unusedVariables false

namespace frameCompareSteps
open Go.ChangeShapes Go.WideShapes Go.ChangeAt Go.Joins
theorem own : ownKnob Try.prog.godebug = none := by kernel_rfl
theorem laidOut : laidOutB Try.prog = true := by kernel_rfl
set_option maxRecDepth 100000 in
theorem lifted (os : Os) (started : os.Started) (H : Type) (enc : TypeId × Value → H) :
    ReturnsInHanded {} Try.checked os 5 .any (Rows.compareStepsSpec.pre6 enc Try.prog Try.f5 Rows.compareStepsRow.domain false) (Rows.compareStepsSpec.post enc Try.prog Try.f5 false true false false) := by
  refine returnsInHanded_of_change (C := Try.checked) own started (by kernel_rfl) Try.func5
    (ChangeSpec.witness6 (enc := enc) (C := Try.checked) false ⟨#[], #[.slice none 0 0, .slice none 0 0, .slice none 0 0], []⟩ 8 (by kernel_rfl) (by kernel_rfl) (by kernel_rfl) (by kernel_rfl)) ?_
  intro W base args ds gs before hval0 hW hcnd _
  have hval : ∀ (j : Nat) t v, Try.f5.params[j]? = some t → args[j]? = some v → Value.okWide Try.prog W .any base t v := hval0
  have hW' := hW
  obtain ⟨p, q, hA0, hV, rfl, hfz, hnd⟩ := hW
  have hA : DataW.TrodAll enc Try.prog W 0 (fun _ => true) true Try.f5.params.toList args.toList ds p := hA0
  rw [Try.params5] at hA hval
  obtain ⟨v0, vs0, d0, ds0, p0, q0, hargs, rfl, rfl, h0, r0⟩ := trodAll_cons hA
  obtain ⟨v1, vs1, d1, ds1, p1, q1, rfl, rfl, rfl, h1, r1⟩ := trodAll_cons r0
  obtain ⟨v2, vs2, d2, ds2, p2, q2, rfl, rfl, rfl, h2, r2⟩ := trodAll_cons r1
  obtain ⟨rfl, rfl, rfl⟩ := trodAll_nil r2
  obtain rfl : args = #[v0, v1, v2] := by cases args; simp_all
  obtain ⟨rfl, rfl⟩ := trodVars_none hV
  have k0 := h0
  have lt0 : ∀ x ∈ p0, x.block < W.heap.size := by obtain ⟨m, hm⟩ := k0; exact DataW.trod_lt m _ _ _ hm
  have k1 := h1
  have lt1 : ∀ x ∈ p1, x.block < W.heap.size := by obtain ⟨m, hm⟩ := k1; exact DataW.trod_lt m _ _ _ hm
  have k2 := h2
  have lt2 : ∀ x ∈ p2, x.block < W.heap.size := by obtain ⟨m, hm⟩ := k2; exact DataW.trod_lt m _ _ _ hm
  obtain ⟨x0, rep0, wf0⟩ := top_slice Try.underlying47 (op_slice (r := r_api_Stitch) Try.underlying47 (by kernel_rfl) op_api_Stitch) (hval 0 _ v0 rfl rfl) h0
  obtain ⟨x1, rep1, wf1⟩ := top_slice Try.underlying47 (op_slice (r := r_api_Stitch) Try.underlying47 (by kernel_rfl) op_api_Stitch) (hval 1 _ v1 rfl rfl) h1
  obtain ⟨x2, rep2, wf2⟩ := top_slice Try.underlying48 (op_slice (r := r_api_CellStep) Try.underlying48 (by kernel_rfl) op_api_CellStep) (hval 2 _ v2 rfl rfl) h2
  clear hA0 hval0
  refine (c_raddlelaw46_CompareSteps (fun _ => False) W x0 v0 x1 v1 x2 v2 true (law_CompareSteps x0 x1 x2 wf0 wf1 wf2) (St0.start (by intro d hd; simp only [List.mem_cons, List.not_mem_nil, or_false] at hd; rcases hd with rfl | rfl | rfl; exact rep0; exact rep1; exact rep2))).mono fun e W' hr => ?_
  obtain ⟨_, he, hS⟩ := hr
  have bel := hS.chg.below
  subst he
  exact ⟨_, rfl, _, _, _, [], _, [], hW', trodAll_mk1 (shut_bool Try.underlying4 _), (trodAll_cons_mk (Below.trod laidOut (by kernel_rfl) (of_decide_eq_true (by kernel_rfl)) k0 bel lt0) (trodAll_cons_mk (Below.trod laidOut (by kernel_rfl) (of_decide_eq_true (by kernel_rfl)) k1 bel lt1) (trodAll_cons_mk (Below.trod laidOut (by kernel_rfl) (of_decide_eq_true (by kernel_rfl)) k2 bel lt2) trodAll_mk0))), rfl, bel.frame _, fun h => by cases h⟩
theorem over : Rows.compareStepsRow.holds Try.pinned (OpenSpec.ofChange Rows.compareStepsSpec) :=
  OpenClaim.holds_of_wide 5 Try.f5 rfl rfl rfl rfl rfl rfl rfl ⟨rfl, rfl, rfl, rfl, rfl⟩ rfl rfl rfl rfl rfl (by kernel_rfl) Try.func5 (by kernel_rfl)
    (of_decide_eq_true (by kernel_rfl)) (by unfold Func.isWrapper; first | (rw [if_pos (by decide +kernel)]; kernel_rfl) | (rw [if_neg (by decide +kernel)]; exact ⟨rfl, rfl⟩))
    (fun os started H enc _ => lifted os started H enc)
end frameCompareSteps
theorem compareSteps_holds : Rows.CompareStepsSaid := frameCompareSteps.over

end Go.Proofs.Ytffikfajljbmnaa
