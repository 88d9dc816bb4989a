/- CompareLeast: walks, tables, laws. -/
import Derived.Test.YtffikfajljbmnaaProg
import Derived.Test.YtffikfajljbmnaaRows
import Derived.Test.YtffikfajljbmnaaMCompareLeast6
set_option linter.unusedVariables false
set_option linter.unusedSimpArgs false
set_option maxHeartbeats 4000000
set_option maxRecDepth 100000
namespace Go.Proofs.Ytffikfajljbmnaa
open Go.RowKit
theorem loop_at {S σ τ : Type} {B : S → Option (S ⊕ τ)} (n : Nat) (st : Nat → σ → S) (I : Nat → σ → Prop) (Pt : τ → Prop) {s0 : σ} (h0 : I 0 s0)
 (step : ∀ k s, k < n → I k s → (∃ s', B (st k s) = some (.inl (st (k + 1) s')) ∧ I (k + 1) s') ∨ (∃ t, B (st k s) = some (.inr t) ∧ Pt t))
 (last : ∀ s, I n s → ∃ t, B (st n s) = some (.inr t) ∧ Pt t) : ∃ t, whileO B (st 0 s0) = some t ∧ Pt t := by
 have key : ∀ j k s, j + k = n → I k s → ∃ t, whileO B (st k s) = some t ∧ Pt t := by
  intro j
  induction j with
  | zero =>
   intro k s hk hI
   obtain rfl : k = n := by omega
   obtain ⟨t, h1, h2⟩ := last s hI
   exact ⟨t, whileO_done h1, h2⟩
  | succ j ih =>
   intro k s hk hI
   rcases step k s (by omega) hI with ⟨s', h1, h2⟩ | ⟨t, h1, h2⟩
   ·rw [whileO_step h1]; exact ih _ _ (by omega) h2
   ·exact ⟨t, whileO_done h1, h2⟩
 exact key n 0 s0 (by omega) h0
def sm {α : Type} (f : α → Int) : List α → Int
 | [] => 0
 | x :: l => f x + sm f l
theorem sm_append {α : Type} (f : α → Int) (l k : List α) : sm f (l ++ k) = sm f l + sm f k := by
 induction l with
 | nil => simp [sm]
 | cons x l ih => simp only [List.cons_append, sm, ih]; omega
theorem sm_take {α : Type} (f : α → Int) (l : List α) {k : Nat} (h : k < l.length) : sm f (l.take (k + 1)) = sm f (l.take k) + f l[k] := by
 rw [List.take_succ_eq_append_getElem h, sm_append]
 simp [sm]
theorem sm_bd {α : Type} {f : α → Int} {b : Int} {l : List α} (h : ∀ x, x ∈ l → 0 ≤ f x ∧ f x ≤ b) : 0 ≤ sm f l ∧ sm f l ≤ b * l.length := by
 induction l with
 | nil => simp [sm]
 | cons x l ih =>
  have h1 := h x (by simp)
  have h2 := ih fun y hy => h y (by simp [hy])
  simp only [sm, List.length_cons]
  have e : b * ((l.length + 1 : Nat) : Int) = b * l.length + b := by rw [Int.natCast_add, Int.mul_add]; simp
  rw [e]
  omega
def usedS (p : api_Stitch) : Int := if p.Kind = 2 ∨ p.Kind = 9 then 0 else if p.Kind = 3 ∨ p.Kind = 4 ∨ p.Kind = 10 then p.A else if p.Kind = 6 ∨ p.Kind = 7 then p.A + p.B else 1
def madeS (p : api_Stitch) : Int := if p.Kind = 10 then 0 else if p.Kind = 5 ∨ p.Kind = 9 then p.A else if p.Kind = 6 ∨ p.Kind = 7 then p.A + p.B else 1
def okS (p : api_Stitch) : Prop :=
 (p.Kind = 1 ∨ p.Kind = 8) ∧ p.A = 0 ∧ p.B = 0 ∨ p.Kind = 2 ∧ p.A = 0 ∧ p.B = 0 ∧ p.Purl = false ∨ (p.Kind = 3 ∨ p.Kind = 4 ∨ p.Kind = 5) ∧ 2 ≤ p.A ∧ p.A ≤ 4 ∧ p.B = 0 ∨
 (p.Kind = 6 ∨ p.Kind = 7) ∧ 1 ≤ p.A ∧ p.A ≤ 6 ∧ 1 ≤ p.B ∧ p.B ≤ 6 ∨ p.Kind = 9 ∧ 1 ≤ p.A ∧ p.A ≤ 200 ∧ p.B = 0 ∧ p.Purl = false ∨ p.Kind = 10 ∧ 1 ≤ p.A ∧ p.A ≤ 200 ∧ p.B = 0
instance (p : api_Stitch) : Decidable (okS p) := by unfold okS; infer_instance
theorem okS_bd {p : api_Stitch} (h : okS p) : 1 ≤ p.Kind ∧ p.Kind ≤ 10 ∧ 0 ≤ p.A ∧ p.A ≤ 200 ∧ 0 ≤ p.B ∧ p.B ≤ 6 := by
 unfold okS at h
 omega
theorem usedS_bd {p : api_Stitch} (h : okS p) : 0 ≤ usedS p ∧ usedS p ≤ 200 := by
 have hb := okS_bd h
 unfold okS at h
 unfold usedS
 split
 ·omega
 ·split
  ·omega
  ·split <;> omega
theorem madeS_bd {p : api_Stitch} (h : okS p) : 0 ≤ madeS p ∧ madeS p ≤ 200 := by
 have hb := okS_bd h
 unfold okS at h
 unfold madeS
 split
 ·omega
 ·split
  ·omega
  ·split <;> omega
theorem check_form (p : api_Stitch) (f : stitch_form) (h : F_stitch_forms p.Kind = some (f, true)) :
 F_stitch_Check p = some (if (f.a.1 ≤ p.A ∧ p.A ≤ f.a.2) ∧ (f.b.1 ≤ p.B ∧ p.B ≤ f.b.2) ∧ (p.Purl = true → f.sided = true) then 0 else 8) := by
 unfold F_stitch_Check F_stitch_within
 rw [h]
 by_cases a1 : f.a.1 ≤ p.A <;> by_cases a2 : p.A ≤ f.a.2 <;> by_cases b1 : f.b.1 ≤ p.B <;> by_cases b2 : p.B ≤ f.b.2 <;> cases hp : p.Purl <;> cases hs : f.sided <;> simp [a1, a2, b1, b2, hs]
theorem ifc {α : Type} {c d : Prop} [Decidable c] [Decidable d] {a b : α} (h : c ↔ d) : (if c then a else b) = if d then a else b := by
 by_cases hc : c
 ·rw [if_pos hc, if_pos (h.1 hc)]
 ·rw [if_neg hc, if_neg (fun hd => hc (h.2 hd))]
theorem kinds {x : Int} (h : 0 ≤ x ∧ x ≤ 255) : x = 0 ∨ x = 1 ∨ x = 2 ∨ x = 3 ∨ x = 4 ∨ x = 5 ∨ x = 6 ∨ x = 7 ∨ x = 8 ∨ x = 9 ∨ x = 10 ∨ 10 < x := by omega
theorem forms_none {x : Int} (h : 10 < x ∧ x ≤ 255) : ∃ f, F_stitch_forms x = some (f, false) := by
 unfold F_stitch_forms
 have hw : IntKind.i64.wrap x = x := w64_of (by omega) (by omega)
 simp only [dF (show ¬ x < 1 by omega), hw, Bool.false_eq_true, if_false, Option.bind_some, List.length_cons, List.length_nil]
 rw [dT (show ((0 + 1 + 1 + 1 + 1 + 1 + 1 + 1 + 1 + 1 + 1 : Nat) : Int) < x by omega)]
 exact ⟨_, rfl⟩
theorem check_none {p : api_Stitch} {f : stitch_form} (h : F_stitch_forms p.Kind = some (f, false)) : F_stitch_Check p = some 8 := by
 unfold F_stitch_Check
 rw [h]
 simp
theorem check_eq (p : api_Stitch) (hk : 0 ≤ p.Kind ∧ p.Kind ≤ 255) : F_stitch_Check p = some (if okS p then 0 else 8) := by
 rcases kinds hk with h | h | h | h | h | h | h | h | h | h | h | h
 ·rw [check_none (f := ⟨⟨#[]⟩, (0, 0), (0, 0), false, 0, 0⟩) (by rw [h]; rfl), if_neg (by unfold okS; omega)]
 ·rw [check_form p _ (by rw [h]; rfl)]; cases hp : p.Purl <;> exact congrArg some (ifc (by simp [okS, h]; omega))
 ·rw [check_form p _ (by rw [h]; rfl)]; cases hp : p.Purl <;> exact congrArg some (ifc (by simp [okS, h, hp] <;> omega))
 ·rw [check_form p _ (by rw [h]; rfl)]; cases hp : p.Purl <;> exact congrArg some (ifc (by simp [okS, h]; omega))
 ·rw [check_form p _ (by rw [h]; rfl)]; cases hp : p.Purl <;> exact congrArg some (ifc (by simp [okS, h]; omega))
 ·rw [check_form p _ (by rw [h]; rfl)]; cases hp : p.Purl <;> exact congrArg some (ifc (by simp [okS, h]; omega))
 ·rw [check_form p _ (by rw [h]; rfl)]; cases hp : p.Purl <;> exact congrArg some (ifc (by simp [okS, h]; omega))
 ·rw [check_form p _ (by rw [h]; rfl)]; cases hp : p.Purl <;> exact congrArg some (ifc (by simp [okS, h]; omega))
 ·rw [check_form p _ (by rw [h]; rfl)]; cases hp : p.Purl <;> exact congrArg some (ifc (by simp [okS, h]; omega))
 ·rw [check_form p _ (by rw [h]; rfl)]; cases hp : p.Purl <;> exact congrArg some (ifc (by simp [okS, h, hp] <;> omega))
 ·rw [check_form p _ (by rw [h]; rfl)]; cases hp : p.Purl <;> exact congrArg some (ifc (by simp [okS, h]; omega))
 ·obtain ⟨f, hf⟩ := forms_none ⟨h, hk.2⟩
  rw [check_none hf, if_neg (by unfold okS; omega)]
theorem rstitch_eq (p : api_Stitch) : F_raddleref25_Check p = some (if okS p then 0 else 8) := by
 have e3 : (if (p.A == 0) = true then some (p.B == 0) else some false) = some (p.A == 0 && p.B == 0) := by cases h : (p.A == 0) <;> simp
 unfold F_raddleref25_Check
 rw [e3, Option.bind_some]
 by_cases k1 : p.Kind = 1
 ·by_cases hA : p.A = 0 <;> by_cases hB : p.B = 0 <;> simp [k1, hA, hB, okS]
 by_cases k8 : p.Kind = 8
 ·by_cases hA : p.A = 0 <;> by_cases hB : p.B = 0 <;> simp [k8, hA, hB, okS]
 by_cases k2 : p.Kind = 2
 ·by_cases hA : p.A = 0 <;> by_cases hB : p.B = 0 <;> cases hp : p.Purl <;> simp [k2, hA, hB, hp, okS]
 by_cases k3 : p.Kind = 3
 ·by_cases h1 : 2 ≤ p.A <;> by_cases h2 : p.A ≤ 4 <;> by_cases hB : p.B = 0 <;> simp [k3, h1, h2, hB, okS]
 by_cases k4 : p.Kind = 4
 ·by_cases h1 : 2 ≤ p.A <;> by_cases h2 : p.A ≤ 4 <;> by_cases hB : p.B = 0 <;> simp [k4, h1, h2, hB, okS]
 by_cases k5 : p.Kind = 5
 ·by_cases h1 : 2 ≤ p.A <;> by_cases h2 : p.A ≤ 4 <;> by_cases hB : p.B = 0 <;> simp [k5, h1, h2, hB, okS]
 by_cases k6 : p.Kind = 6
 ·by_cases h1 : 1 ≤ p.A <;> by_cases h2 : p.A ≤ 6 <;> by_cases h3 : 1 ≤ p.B <;> by_cases h4 : p.B ≤ 6 <;> simp [k6, h1, h2, h3, h4, okS]
 by_cases k7 : p.Kind = 7
 ·by_cases h1 : 1 ≤ p.A <;> by_cases h2 : p.A ≤ 6 <;> by_cases h3 : 1 ≤ p.B <;> by_cases h4 : p.B ≤ 6 <;> simp [k7, h1, h2, h3, h4, okS]
 by_cases k9 : p.Kind = 9
 ·by_cases h1 : 1 ≤ p.A <;> by_cases h2 : p.A ≤ 200 <;> by_cases hB : p.B = 0 <;> cases hp : p.Purl <;> simp [k9, h1, h2, hB, hp, okS]
 by_cases k10 : p.Kind = 10
 ·by_cases h1 : 1 ≤ p.A <;> by_cases h2 : p.A ≤ 200 <;> by_cases hB : p.B = 0 <;> simp [k10, h1, h2, hB, okS]
 have hn : ¬ okS p := by unfold okS; omega
 simp [k1, k2, k3, k4, k5, k6, k7, k8, k9, k10, hn]
theorem form_ok {p : api_Stitch} (h : okS p) : ∃ f, F_stitch_forms p.Kind = some (f, true) ∧ F_stitch_loops p f.uses = some (usedS p) ∧ F_stitch_loops p f.made = some (madeS p) := by
 have hb := okS_bd h
 have hw : w64 (p.A + p.B) = p.A + p.B := w64_of (by omega) (by omega)
 have l0 : F_stitch_loops p 0 = some 0 := rfl
 have l1 : F_stitch_loops p 1 = some 1 := rfl
 have l2 : F_stitch_loops p 2 = some p.A := rfl
 have l3 : F_stitch_loops p 3 = some (p.A + p.B) := by rw [← hw]; rfl
 rcases kinds (x := p.Kind) (by omega) with k | k | k | k | k | k | k | k | k | k | k | k
 ·omega
 ·exact ⟨⟨⟨#[]⟩, (0, 0), (0, 0), true, 1, 1⟩, by rw [k]; rfl, by rw [l1]; simp [usedS, k], by rw [l1]; simp [madeS, k]⟩
 ·exact ⟨⟨⟨#[]⟩, (0, 0), (0, 0), false, 0, 1⟩, by rw [k]; rfl, by rw [l0]; simp [usedS, k], by rw [l1]; simp [madeS, k]⟩
 ·exact ⟨⟨⟨#[102]⟩, (2, 4), (0, 0), true, 2, 1⟩, by rw [k]; rfl, by rw [l2]; simp [usedS, k], by rw [l1]; simp [madeS, k]⟩
 ·exact ⟨⟨⟨#[108]⟩, (2, 4), (0, 0), true, 2, 1⟩, by rw [k]; rfl, by rw [l2]; simp [usedS, k], by rw [l1]; simp [madeS, k]⟩
 ·exact ⟨⟨⟨#[109]⟩, (2, 4), (0, 0), true, 1, 2⟩, by rw [k]; rfl, by rw [l1]; simp [usedS, k], by rw [l2]; simp [madeS, k]⟩
 ·exact ⟨⟨⟨#[120]⟩, (1, 6), (1, 6), true, 3, 3⟩, by rw [k]; rfl, by rw [l3]; simp [usedS, k], by rw [l3]; simp [madeS, k]⟩
 ·exact ⟨⟨⟨#[121]⟩, (1, 6), (1, 6), true, 3, 3⟩, by rw [k]; rfl, by rw [l3]; simp [usedS, k], by rw [l3]; simp [madeS, k]⟩
 ·exact ⟨⟨⟨#[115]⟩, (0, 0), (0, 0), true, 1, 1⟩, by rw [k]; rfl, by rw [l1]; simp [usedS, k], by rw [l1]; simp [madeS, k]⟩
 ·exact ⟨⟨⟨#[]⟩, (1, 200), (0, 0), false, 0, 2⟩, by rw [k]; rfl, by rw [l0]; simp [usedS, k], by rw [l2]; simp [madeS, k]⟩
 ·exact ⟨⟨⟨#[111]⟩, (1, 200), (0, 0), true, 2, 0⟩, by rw [k]; rfl, by rw [l2]; simp [usedS, k], by rw [l0]; simp [madeS, k]⟩
 ·omega
theorem rused_eq {p : api_Stitch} (h : okS p) : F_raddleref25_Used p = some (usedS p) := by
 have hb := okS_bd h
 have hw : w64 (p.A + p.B) = p.A + p.B := w64_of (by omega) (by omega)
 unfold F_raddleref25_Used usedS
 rcases kinds (x := p.Kind) (by omega) with k | k | k | k | k | k | k | k | k | k | k | k <;> first | omega | simp [k, hw]
theorem rgives_eq {p : api_Stitch} (h : okS p) : F_raddleref25_Gives p = some (madeS p) := by
 have hb := okS_bd h
 have hw : w64 (p.A + p.B) = p.A + p.B := w64_of (by omega) (by omega)
 unfold F_raddleref25_Gives madeS
 rcases kinds (x := p.Kind) (by omega) with k | k | k | k | k | k | k | k | k | k | k | k <;> first | omega | simp [k, hw]
def allOk (l : List api_Stitch) : Prop := ∀ p, p ∈ l → okS p
instance (l : List api_Stitch) : Decidable (allOk l) := by unfold allOk; infer_instance
def wfS (p : api_Stitch) : Prop := 0 ≤ p.Kind ∧ p.Kind ≤ 255
theorem used_bd {l : List api_Stitch} (h : allOk l) : 0 ≤ sm usedS l ∧ sm usedS l ≤ 200 * l.length := sm_bd fun _ hx => usedS_bd (h _ hx)
theorem made_bd {l : List api_Stitch} (h : allOk l) : 0 ≤ sm madeS l ∧ sm madeS l ≤ 200 * l.length := sm_bd fun _ hx => madeS_bd (h _ hx)
theorem take_ok {l : List api_Stitch} (h : allOk l) (k : Nat) : allOk (l.take k) := fun _ hx => h _ (List.mem_of_mem_take hx)
theorem sum_step {l : List api_Stitch} (h : allOk l) (hl : l.length ≤ 100000) {k : Nat} (hk : k < l.length) :
 w64 (sm usedS (l.take k) + usedS l[k]) = sm usedS (l.take (k + 1)) ∧ w64 (sm madeS (l.take k) + madeS l[k]) = sm madeS (l.take (k + 1)) := by
 have h1 := used_bd (take_ok h k)
 have h2 := made_bd (take_ok h k)
 have h3 := usedS_bd (h _ (List.getElem_mem hk))
 have h4 := madeS_bd (h _ (List.getElem_mem hk))
 have hlen : (l.take k).length ≤ 100000 := by rw [List.length_take]; omega
 rw [sm_take _ _ hk, sm_take _ _ hk]
 exact ⟨w64_of (by omega) (by omega), w64_of (by omega) (by omega)⟩
theorem sum_eq {l : List api_Stitch} (h : allOk l) (hl : l.length ≤ 100000) : F_stitch_sum l = some (sm usedS l, sm madeS l) := by
 have key : ∃ t, whileO (stitch_sum_l1 l) (0, 0, 0) = some t ∧ t = (sm usedS l, sm madeS l) := by
  refine loop_at (σ := Unit) l.length (fun k _ => (sm usedS (l.take k), sm madeS (l.take k), (k : Int))) (fun _ _ => True) _ (s0 := ()) trivial ?_ ?_
  ·intro k _ hk _
   refine .inl ⟨(), ?_, trivial⟩
   obtain ⟨f, f1, f2, f3⟩ := form_ok (h _ (List.getElem_mem hk))
   have hs := sum_step h hl hk
   unfold stitch_sum_l1
   simp only [dT (show (k : Int) < (l.length : Int) by omega), if_true, idxO_nat hk, Option.bind_some, f1, f2, f3, hs.1, hs.2, w64_succ (show k < 9223372036854775807 by omega)]
  ·intro _ _
   refine ⟨_, ?_, rfl⟩
   unfold stitch_sum_l1
   simp only [dF (show ¬ (l.length : Int) < (l.length : Int) by omega), Bool.false_eq_true, if_false, List.take_length]
 obtain ⟨t, h1, rfl⟩ := key
 unfold F_stitch_sum
 rw [h1]; rfl
theorem rsums_eq {l : List api_Stitch} (h : allOk l) (hl : l.length ≤ 100000) : F_raddleref25_sums l = some (sm usedS l, sm madeS l) := by
 have key : ∃ t, whileO (raddleref25_sums_l1 l) (0, 0, 0) = some t ∧ t = (sm usedS l, sm madeS l) := by
  refine loop_at (σ := Unit) l.length (fun k _ => (sm usedS (l.take k), sm madeS (l.take k), (k : Int))) (fun _ _ => True) _ (s0 := ()) trivial ?_ ?_
  ·intro k _ hk _
   refine .inl ⟨(), ?_, trivial⟩
   have hs := sum_step h hl hk
   unfold raddleref25_sums_l1
   simp only [dT (show (k : Int) < (l.length : Int) by omega), if_true, idxO_nat hk, Option.bind_some, rused_eq (h _ (List.getElem_mem hk)), rgives_eq (h _ (List.getElem_mem hk)), hs.1, hs.2, w64_succ (show k < 9223372036854775807 by omega)]
  ·intro _ _
   refine ⟨_, ?_, rfl⟩
   unfold raddleref25_sums_l1
   simp only [dF (show ¬ (l.length : Int) < (l.length : Int) by omega), Bool.false_eq_true, if_false, List.take_length]
 obtain ⟨t, h1, rfl⟩ := key
 unfold F_raddleref25_sums
 rw [h1]; rfl
def allS (l : List api_Stitch) : Int := if 200 < l.length then 4 else if allOk l then (if 200 < sm usedS l ∨ 200 < sm madeS l then 4 else 0) else 8
theorem allOk_range {l : List api_Stitch} : (List.range l.length).all (fun k => decide (okS (l.getD k ⟨0, false, 0, 0⟩))) = true ↔ allOk l := by
 rw [List.all_eq_true]
 constructor
 ·intro h p hp
  obtain ⟨k, hk, rfl⟩ := List.getElem_of_mem hp
  have := h k (List.mem_range.2 hk)
  simpa [hk] using this
 ·intro h k hk
  have hk := List.mem_range.1 hk
  have := h _ (List.getElem_mem hk)
  simpa [hk] using this
theorem getD_of {α : Type} {l : List α} {k : Nat} (d : α) (h : k < l.length) : l.getD k d = l[k] := by simp [h]
theorem find_bad {l : List api_Stitch} (hw : ∀ p, p ∈ l → wfS p) (hl : l.length ≤ 100000) : ∃ j, F_slices_IndexFunc___api_Stitch_api_Stitch__s0 l = some j ∧ (0 ≤ j ↔ ¬ allOk l) := by
 have key : ∃ t, whileO (slices_IndexFunc___api_Stitch_api_Stitch__s0_l1 l) 0 = some t ∧ ((t = .inr () ∧ allOk l) ∨ (∃ k : Nat, t = .inl (k : Int) ∧ ¬ allOk l)) := by
  refine loop_ix l.length (fun k => allOk (l.take k)) _ (fun p hp => by simp at hp) ?_ ?_
  ·intro k hk hI
   have hc := check_eq l[k] (hw _ (List.getElem_mem hk))
   unfold slices_IndexFunc___api_Stitch_api_Stitch__s0_l1 F_stitch_All_1
   simp only [dT (show (k : Int) < (l.length : Int) by omega), if_true, idxO_nat hk, Option.bind_some, hc, w64_succ (show k < 9223372036854775807 by omega)]
   by_cases ho : okS l[k]
   ·refine .inl ⟨by simp [ho], fun p hp => ?_⟩
    rw [List.take_succ_eq_append_getElem hk, List.mem_append] at hp
    rcases hp with hp | hp
    ·exact hI p hp
    ·simp at hp; subst hp; exact ho
   ·exact .inr ⟨.inl (k : Int), by simp [ho], .inr ⟨k, rfl, fun h => ho (h _ (List.getElem_mem hk))⟩⟩
  ·intro hI
   refine ⟨.inr (), ?_, .inl ⟨rfl, by simpa using hI⟩⟩
   unfold slices_IndexFunc___api_Stitch_api_Stitch__s0_l1
   simp only [dF (show ¬ (l.length : Int) < (l.length : Int) by omega), Bool.false_eq_true, if_false]
 obtain ⟨t, h1, h2⟩ := key
 unfold F_slices_IndexFunc___api_Stitch_api_Stitch__s0
 rw [h1]
 rcases h2 with ⟨rfl, h⟩ | ⟨k, rfl, h⟩
 ·exact ⟨-1, rfl, by simp [h]⟩
 ·exact ⟨(k : Int), rfl, by simp [h]⟩
theorem all_eq {l : List api_Stitch} (hw : ∀ p, p ∈ l → wfS p) : F_stitch_All l = some (allS l) := by
 unfold F_stitch_All allS
 by_cases hl : 200 < l.length
 ·simp only [dT (show (200 : Int) < (l.length : Int) by omega), if_true, if_pos hl]
 simp only [dF (show ¬ (200 : Int) < (l.length : Int) by omega), Bool.false_eq_true, if_false, if_neg hl]
 obtain ⟨j, h1, h2⟩ := find_bad hw (by omega)
 unfold F_slices_ContainsFunc___api_Stitch_api_Stitch__s0
 rw [h1]
 by_cases ho : allOk l
 ·have : ¬ 0 ≤ j := fun h => h2.1 h ho
  simp only [Option.bind_some, dF this, Bool.false_eq_true, if_false, sum_eq ho (show l.length ≤ 100000 by omega), if_pos ho]
  by_cases hm : 200 < sm usedS l ∨ 200 < sm madeS l
  ·rw [dT (show (200 : Int) < if sm usedS l < sm madeS l then sm madeS l else sm usedS l by split <;> omega)]
   simp [hm]
  ·rw [dF (show ¬ (200 : Int) < if sm usedS l < sm madeS l then sm madeS l else sm usedS l by split <;> omega)]
   simp [hm]
 ·have : 0 ≤ j := h2.2 ho
  simp only [Option.bind_some, dT this, if_true, if_neg ho]
theorem rall_eq (l : List api_Stitch) : F_raddleref25_All l = some (allS l) := by
 unfold F_raddleref25_All allS
 by_cases hl : 200 < l.length
 ·simp only [dT (show (200 : Int) < (l.length : Int) by omega), if_true, if_pos hl]
 simp only [dF (show ¬ (200 : Int) < (l.length : Int) by omega), Bool.false_eq_true, if_false, if_neg hl]
 have hloop : whileO (raddleref25_All_l1 l) 0 = some (if (List.range l.length).all (fun k => decide (okS (l.getD k ⟨0, false, 0, 0⟩))) = true then .inr () else .inl 8) := by
  refine loop_all l.length _ _ _ ?_ ?_
  ·intro k hk
   unfold raddleref25_All_l1
   simp only [dT (show (k : Int) < (l.length : Int) by omega), if_true, idxO_nat hk, Option.bind_some, rstitch_eq, w64_succ (show k < 9223372036854775807 by omega), getD_of _ hk]
   by_cases ho : okS l[k] <;> simp [ho]
  ·unfold raddleref25_All_l1
   simp only [dF (show ¬ (l.length : Int) < (l.length : Int) by omega), Bool.false_eq_true, if_false]
 rw [hloop]
 by_cases ho : allOk l
 ·rw [if_pos (allOk_range.2 ho), if_pos ho]
  simp only [Option.bind_some, rsums_eq ho (show l.length ≤ 100000 by omega)]
  by_cases hu : 200 < sm usedS l
  ·simp [hu]
  ·by_cases hm : 200 < sm madeS l <;> simp [hu, hm]
 ·rw [if_neg (fun h => ho (allOk_range.1 h)), if_neg ho]
  rfl
theorem allS_ok {l : List api_Stitch} (h : allS l = 0) : l.length ≤ 200 ∧ allOk l ∧ sm usedS l ≤ 200 ∧ sm madeS l ≤ 200 := by
 unfold allS at h
 split at h
 ·omega
 ·split at h
  ·rename_i h1 h2
   split at h
   ·omega
   ·rename_i h3
    exact ⟨by omega, h2, by omega, by omega⟩
  ·omega
noncomputable def F_raddleref25_Great (p0 : (List api_Stitch)) : Option Bool :=
 Option.bind (α := Bool) (
  if decide (60 < (p0.length : Int)) then
   if decide ((p0.length : Int) ≤ 200) then
    some true
   else
    some (decide (300 < (p0.length : Int)))
  else
   some (decide (300 < (p0.length : Int)))) fun o4 =>
 some o4
theorem c_raddleref25_Great (E : Nat → Prop) (w0 : World) (p0 : (List api_Stitch)) (v0 : Value) (r : Bool) (h : F_raddleref25_Great p0 = some r) (S : St0 E [] w0 w0 [] [fRep (rL r_api_Stitch) (v0) p0]) :
 Calls Try.prog 22 #[v0] w0 (Ret (X := Unit) E [] w0 (fun _ => .bool r) (fun _ => []) (fun _ => [])) := by
 unfold F_raddleref25_Great at h
 obtain ⟨a5, a6, _, rfl, _⟩ := S.know (i := 0) (e := fRep (rL r_api_Stitch) (v0) p0) rfl
 refine sEnter (args := [.slice a5 p0.length a6]) 16 Try.func22 rfl rfl (by simp) S (fun a S => ?_)
 refine sSeq (fun K3 a7 => sRegion (sN S fun a S => ?_))
 refine lT (a7 _ _ ?_)
 obtain ⟨t5, h, g6⟩ := bS h
 refine sCut (fun a w => ∃ o4, o4 = t5 ∧ St [] E [] w0 16 a w [(2, .bool o4)] [] []) ?_ (fun a w hI => ?_)
 rotate_left
 ·obtain ⟨o4, rfl, S⟩ := hI
  have h := g6
  try dsimp only at h
  obtain rfl := tS h
  exact wp_ret (sRet (.bool o4) S (rsl1 rfl (rvT (t := 2) (v := .bool o4) S rfl)) ⟨(), rfl, S.mem.sel [] [] (by decide) rfl rfl⟩)
 refine sRegion (sM S fun a S => ?_)
 refine sLen S (wN rfl) rfl Try.underlying47 rfl rfl (lb rfl) fun a S => ?_
 refine sBin _ S (wN rfl) rfl rfl rfl (bGt _ _ _ _ .i64 (p0.length : Int) 60) rfl (lb rfl) fun a S => ?_
 refine sM S fun a S => ?_
 rcases iS h with ⟨a0, h⟩ | ⟨a0, h⟩
 rotate_left
 ·refine sSkN 3 3 true 6 S rfl rfl a0 rfl fun a S => ?_
  refine sPickF (.bool false) S (wN rfl) rfl rfl a0 rfl rfl (lb rfl) fun a S => ?_
  refine sM S fun a S => ?_
  refine sMove (.slice a5 p0.length a6) S (wG 8 false 11 rfl rfl rfl rfl) (.inl rfl) rfl rfl (lb rfl) fun a S => ?_
  refine sLen S (wG 8 false 11 rfl rfl rfl rfl) rfl Try.underlying47 rfl rfl (lb rfl) fun a S => ?_
  refine sBin _ S (wG 8 false 11 rfl rfl rfl rfl) rfl rfl rfl (bGt _ _ _ _ .i64 (p0.length : Int) 300) rfl (lb rfl) fun a S => ?_
  refine sPickF (.bool (decide (300 < (p0.length : Int)))) S (wN rfl) rfl rfl rfl rfl rfl (lb rfl) fun a S => ?_
  refine sN S fun a S => ?_
  exact lT (⟨decide (300 < (p0.length : Int)), Option.some.inj h, S.fix [] [] (by decide) rfl rfl rfl⟩)
 refine sMove (.slice a5 p0.length a6) S (wG 3 true 6 rfl rfl rfl a0) (.inl rfl) rfl rfl (lb rfl) fun a S => ?_
 refine sLen S (wG 3 true 6 rfl rfl rfl a0) rfl Try.underlying47 rfl rfl (lb rfl) fun a S => ?_
 refine sBin _ S (wG 3 true 6 rfl rfl rfl a0) rfl rfl rfl (bLe _ _ _ _ .i64 (p0.length : Int) 200) rfl (lb rfl) fun a S => ?_
 refine sPickT (.bool (decide ((p0.length : Int) ≤ 200))) S (wN rfl) rfl rfl a0 rfl rfl (lb rfl) fun a S => ?_
 refine sM S fun a S => ?_
 rcases iS h with ⟨a4, h⟩ | ⟨a4, h⟩
 ·refine sSkN 3 8 false 11 S rfl rfl a4 rfl fun a S => ?_
  refine sPickT (.bool true) S (wN rfl) rfl rfl a4 rfl rfl (lb rfl) fun a S => ?_
  refine sN S fun a S => ?_
  exact lT (⟨true, Option.some.inj h, S.fix [] [] (by decide) rfl rfl rfl⟩)
 refine sMove (.slice a5 p0.length a6) S (wG 8 false 11 rfl rfl rfl a4) (.inl rfl) rfl rfl (lb rfl) fun a S => ?_
 refine sLen S (wG 8 false 11 rfl rfl rfl a4) rfl Try.underlying47 rfl rfl (lb rfl) fun a S => ?_
 refine sBin _ S (wG 8 false 11 rfl rfl rfl a4) rfl rfl rfl (bGt _ _ _ _ .i64 (p0.length : Int) 300) rfl (lb rfl) fun a S => ?_
 refine sPickF (.bool (decide (300 < (p0.length : Int)))) S (wN rfl) rfl rfl a4 rfl rfl (lb rfl) fun a S => ?_
 refine sN S fun a S => ?_
 exact lT (⟨decide (300 < (p0.length : Int)), Option.some.inj h, S.fix [] [] (by decide) rfl rfl rfl⟩)
noncomputable def F_compare_fine (p0 : api_CellStep) : Option Bool :=
 Option.bind (α := Bool) (
  if p0.Kind == 1 then
   some (p0.Kind == 1)
  else
   some (p0.Kind == 4)) fun o5 =>
 if o5 then
  some ((p0.S.Kind == 0) && ((p0.S.Purl == false) && ((p0.S.A == 0) && ((p0.S.B == 0) && true))))
 else
  Option.bind (α := Bool) (
   if p0.Kind == 2 then
    some (p0.Kind == 2)
   else
    some (p0.Kind == 3)) fun a0 =>
  if a0 then
   (F_stitch_Check p0.S).bind fun a4 =>
   some (a4 == 0)
  else
   some false
theorem c_compare_fine (E : Nat → Prop) (w0 : World) (p0 : api_CellStep) (v0 : Value) (r : Bool) (h : F_compare_fine p0 = some r) (S : St0 E [] w0 w0 [] [fRep r_api_CellStep (v0) p0]) :
 Calls Try.prog 90 #[v0] w0 (Ret (X := Unit) E [] w0 (fun _ => .bool r) (fun _ => []) (fun _ => [])) := by
 unfold F_compare_fine at h
 obtain rfl : v0 = .agg #[.int .u8 p0.Kind, .int .u8 p0.S.Kind, .bool p0.S.Purl, iv p0.S.A, iv p0.S.B] := S.know (i := 0) (e := fRep r_api_CellStep (v0) p0) rfl
 refine sEnter (args := [.agg #[.int .u8 p0.Kind, .int .u8 p0.S.Kind, .bool p0.S.Purl, iv p0.S.A, iv p0.S.B]]) 19 Try.func90 rfl rfl (by simp) S (fun a S => ?_)
 refine sSeq (fun K1 af => sRegion (sBox (v := .agg #[.int .u8 p0.Kind, .int .u8 p0.S.Kind, .bool p0.S.Purl, iv p0.S.A, iv p0.S.B]) S (wN rfl) rfl rfl [.int .u8 p0.Kind, .int .u8 p0.S.Kind, .bool p0.S.Purl, iv p0.S.A, iv p0.S.B] rfl rfl (lb rfl) fun a b2 w S => ?_))
 refine sN S fun a S => ?_
 refine lT (af _ _ (sSeq (fun K3 ag => sSeq (fun K4 ah => sRegion (sField (b := b2) (off := 0) 0 0 S (wN rfl) rfl rfl rfl rfl rfl (lb rfl) fun a S => ?_)))))
 refine sLoad1 0 (.int .u8 p0.Kind) S (wN rfl) rfl rfl rfl rfl rfl rfl (lb rfl) fun a S => ?_
 refine lT (ah _ _ (wp_block ?_))
 obtain ⟨t6, h, g7⟩ := bS h
 refine sCut (fun a w => ∃ o5, o5 = t6 ∧ St [] E [] w0 19 a w [(1, .pointer (some ⟨b2, 0, none⟩)), (4, .int .u8 p0.Kind), (5, .bool o5)] [eBox b2 83 [.int .u8 p0.Kind, .int .u8 p0.S.Kind, .bool p0.S.Purl, iv p0.S.A, iv p0.S.B]] []) ?_ (fun a w hI => ?_)
 ·refine sSeq (fun K8 ai => sRegion (sBin _ S (wN rfl) rfl rfl rfl (bEq _ _ _ _ .u8 p0.Kind 1) rfl (lb rfl) fun a S => ?_))
  refine sN S fun a S => ?_
  refine lT (ai _ _ ?_)
  rcases iS h with ⟨a7, h⟩ | ⟨a7, h⟩
  ·refine sCondT S rfl a7 ?_
   exact wp_skip (leafT (⟨p0.Kind == 1, Option.some.inj h, S.fix [0] [] (by decide) rfl rfl rfl⟩))
  refine sCondF S rfl a7 ?_
  refine sRegion (sBin _ S (wN rfl) rfl rfl rfl (bEq _ _ _ _ .u8 p0.Kind 4) rfl (lb rfl) fun a S => ?_)
  refine sN S fun a S => ?_
  exact lT (⟨p0.Kind == 4, Option.some.inj h, S.fix [0] [] (by decide) rfl rfl rfl⟩)
 obtain ⟨o5, rfl, S⟩ := hI
 have h := g7
 try dsimp only at h
 rcases iS h with ⟨a0, h⟩ | ⟨a0, h⟩
 ·refine sCondT S rfl a0 ?_
  refine sSeq (fun am a8 => sRegion (sField (b := b2) (off := 0) 1 1 S (wN rfl) rfl rfl rfl rfl rfl (lb rfl) fun a S => ?_))
  refine sLoadN (p := b2) (off := 1) (T := 83) (vs := [.int .u8 p0.Kind, .int .u8 p0.S.Kind, .bool p0.S.Purl, iv p0.S.A, iv p0.S.B]) 0 [.int .u8 p0.S.Kind, .bool p0.S.Purl, iv p0.S.A, iv p0.S.B] S (wN rfl) rfl rfl rfl rfl rfl rfl rfl (lb rfl) fun a S => ?_
  refine sBuild [] [.int .u8 0, .bool false, iv 0, iv 0] S (wN rfl) rfl rfl rfl rfl (lb rfl) fun a S => ?_
  refine sBin _ S (wN rfl) rfl rfl rfl (bEqV _ _ _ _ #[.int .u8 p0.S.Kind, .bool p0.S.Purl, iv p0.S.A, iv p0.S.B] #[.int .u8 0, .bool false, iv 0, iv 0] ((p0.S.Kind == 0) && ((p0.S.Purl == false) && ((p0.S.A == 0) && ((p0.S.B == 0) && true)))) (by kernel_rfl) (eqlV_of (by kernel_rfl))) rfl (lb rfl) fun a S => ?_
  refine sN S fun a S => ?_
  refine lT (a8 _ _ ?_)
  obtain rfl := tS h
  exact wp_ret (rBlock (rThen (sRet (.bool ((p0.S.Kind == 0) && ((p0.S.Purl == false) && ((p0.S.A == 0) && ((p0.S.B == 0) && true))))) S (rsl1 rfl (rvT (t := 2) (v := .bool ((p0.S.Kind == 0) && ((p0.S.Purl == false) && ((p0.S.A == 0) && ((p0.S.B == 0) && true))))) S rfl)) ⟨(), rfl, S.mem.sel [] [] (by decide) rfl rfl⟩)))
 refine sCondF S rfl a0 ?_
 obtain ⟨aj, h, ak⟩ := bS h
 refine sCut (fun a w => ∃ a9, a9 = aj ∧ St [] E [] w0 19 a w [(1, .pointer (some ⟨b2, 0, none⟩)), (12, .bool a9)] [eBox b2 83 [.int .u8 p0.Kind, .int .u8 p0.S.Kind, .bool p0.S.Purl, iv p0.S.A, iv p0.S.B]] []) ?_ (fun a w hI => ?_)
 ·refine sSeq (fun ao aa => sRegion (sBin _ S (wN rfl) rfl rfl rfl (bEq _ _ _ _ .u8 p0.Kind 2) rfl (lb rfl) fun a S => ?_))
  refine sN S fun a S => ?_
  refine lT (aa _ _ ?_)
  rcases iS h with ⟨a4, h⟩ | ⟨a4, h⟩
  ·refine sCondT S rfl a4 ?_
   exact wp_skip (leafT (⟨p0.Kind == 2, Option.some.inj h, S.fix [0] [] (by decide) rfl rfl rfl⟩))
  refine sCondF S rfl a4 ?_
  refine sRegion (sBin _ S (wN rfl) rfl rfl rfl (bEq _ _ _ _ .u8 p0.Kind 3) rfl (lb rfl) fun a S => ?_)
  refine sN S fun a S => ?_
  exact lT (⟨p0.Kind == 3, Option.some.inj h, S.fix [0] [] (by decide) rfl rfl rfl⟩)
 obtain ⟨a9, rfl, S⟩ := hI
 have h := ak
 try dsimp only at h
 rcases iS h with ⟨a5, h⟩ | ⟨a5, h⟩
 rotate_left
 ·refine sCondF S rfl a5 ?_
  refine wp_skip (leafB (leafT (ag _ _ ?_)))
  refine sSeq (fun ap ab => sRegion (sN S fun a S => ?_))
  refine lT (ab _ _ ?_)
  obtain rfl := tS h
  exact wp_ret (sRet (.bool false) S (rsl1 rfl (rvT (t := 2) (v := .bool false) S rfl)) ⟨(), rfl, S.mem.sel [] [] (by decide) rfl rfl⟩)
 refine sCondT S rfl a5 ?_
 refine sSeq (fun aq ac => sRegion (sField (b := b2) (off := 0) 1 1 S (wN rfl) rfl rfl rfl rfl rfl (lb rfl) fun a S => ?_))
 refine sLoadN (p := b2) (off := 1) (T := 83) (vs := [.int .u8 p0.Kind, .int .u8 p0.S.Kind, .bool p0.S.Purl, iv p0.S.A, iv p0.S.B]) 0 [.int .u8 p0.S.Kind, .bool p0.S.Purl, iv p0.S.A, iv p0.S.B] S (wN rfl) rfl rfl rfl rfl rfl rfl rfl (lb rfl) fun a S => ?_
 obtain ⟨a6, ae, h⟩ := bS h
 have S1 := S.mem
 have S1 := S1.learn (fRep r_api_Stitch (.agg #[.int .u8 p0.S.Kind, .bool p0.S.Purl, iv p0.S.A, iv p0.S.B]) p0.S) rfl
 refine sCq [.agg #[.int .u8 p0.S.Kind, .bool p0.S.Purl, iv p0.S.A, iv p0.S.B]] (iv a6) S callee88 (S1.quiet [0] rfl) (fun E1 w1 S1 => c_stitch_Check E1 w1 p0.S (.agg #[.int .u8 p0.S.Kind, .bool p0.S.Purl, iv p0.S.A, iv p0.S.B]) a6 ae S1) fun a w S => ?_
 refine sBin _ S (wN rfl) rfl rfl rfl (bEq _ _ _ _ .i64 a6 0) rfl (lb rfl) fun a S => ?_
 refine sN S fun a S => ?_
 refine lT (ac _ _ ?_)
 obtain rfl := tS h
 exact wp_ret (rBlock (rThen (sRet (.bool (a6 == 0)) S (rsl1 rfl (rvT (t := 2) (v := .bool (a6 == 0)) S rfl)) ⟨(), rfl, S.mem.sel [] [] (by decide) rfl rfl⟩)))
noncomputable def compare_walk_l1 (p1 : (List api_CellStep)) : Int → Option (Int ⊕ (((List api_Stitch) × (List api_CellStep) × Int) ⊕ Unit)) := fun s0 => match s0 with
 | a0 =>
  if decide (a0 < (p1.length : Int)) then
   (idxO p1 a0).bind fun a4 =>
   (F_compare_fine a4).bind fun a5 =>
   if !a5 then
    some (.inr (.inl (([] : (List api_Stitch)), ([] : (List api_CellStep)), 8)))
   else
    some (.inl (w64 (a0 + 1)))
  else
   some (.inr (.inr ()))
noncomputable def compare_walk_l2 (p1 : (List api_CellStep)) : (List api_Stitch × List api_CellStep × List api_Stitch × Int) → Option ((List api_Stitch × List api_CellStep × List api_Stitch × Int) ⊕ (((List api_Stitch) × (List api_CellStep) × Int) ⊕ (List api_Stitch × List api_CellStep × List api_Stitch))) := fun s0 => match s0 with
 | (a6, a7, a8, a9) =>
  if decide (a9 < (p1.length : Int)) then
   Option.bind (α := (List api_Stitch × List api_CellStep × List api_Stitch) ⊕ ((List api_Stitch) × (List api_CellStep) × Int)) (
    (idxO p1 a9).bind fun a4 =>
    if a4.Kind == 3 then
     (appO a6 [a4.S]).bind fun aa =>
     (appO a7 [(api_CellStep.mk 4 (api_Stitch.mk 0 false 0 0))]).bind fun ab =>
     some (.inl (aa, ab, a8))
    else
     if (a8.length : Int) == 0 then
      some (.inr (([] : (List api_Stitch)), ([] : (List api_CellStep)), 30))
     else
      (idxO a8 0).bind fun a0 =>
      (sliceO a8 1 (a8.length : Int)).bind fun a5 =>
      if a4.Kind == 1 then
       (appO a6 [a0]).bind fun ac =>
       (appO a7 [a4]).bind fun ae =>
       some (.inl (ac, ae, a5))
      else
       if a4.Kind == 2 then
        if ((a4.S.Kind == a0.Kind) && ((a4.S.Purl == a0.Purl) && ((a4.S.A == a0.A) && ((a4.S.B == a0.B) && true)))) then
         some (.inr (([] : (List api_Stitch)), ([] : (List api_CellStep)), 30))
        else
         (appO a6 [a4.S]).bind fun af =>
         (appO a7 [(api_CellStep.mk 2 a0)]).bind fun ag =>
         some (.inl (af, ag, a5))
       else
        if a4.Kind == 4 then
         (appO a7 [(api_CellStep.mk 3 a0)]).bind fun ah =>
         some (.inl (a6, ah, a5))
        else
         some (.inl (a6, a7, a5))) fun z0 => match z0 with
    | .inl (ai, aj, ak) =>
     some (.inl (ai, aj, ak, w64 (a9 + 1)))
    | .inr z =>
     some (.inr (.inl z))
  else
   some (.inr (.inr (a6, a7, a8)))
noncomputable def F_compare_walk (p0 : (List api_Stitch)) (p1 : (List api_CellStep)) : Option ((List api_Stitch) × (List api_CellStep) × Int) :=
 (F_stitch_All p0).bind fun r8 =>
 if r8 != 0 then
  some (([] : (List api_Stitch)), ([] : (List api_CellStep)), r8)
 else
  if decide (400 < (p1.length : Int)) then
   some (([] : (List api_Stitch)), ([] : (List api_CellStep)), 4)
  else
   Option.bind (α := Unit ⊕ ((List api_Stitch) × (List api_CellStep) × Int)) (
    (whileO (compare_walk_l1 p1) 0).bind fun z0 => match z0 with
     | .inl z =>
      some (.inr z)
     | .inr _ =>
      some (.inl ())) fun z0 => match z0 with
    | .inl _ =>
     Option.bind (α := (List api_Stitch × List api_CellStep × List api_Stitch) ⊕ ((List api_Stitch) × (List api_CellStep) × Int)) (
      (whileO (compare_walk_l2 p1) (([] : List api_Stitch), ([] : List api_CellStep), p0, 0)).bind fun z0 => match z0 with
       | .inl z =>
        some (.inr z)
       | .inr (a5, a6, a7) =>
        some (.inl (a5, a6, a7))) fun z0 => match z0 with
      | .inl (a4, a8, a9) =>
       if decide (0 < (a9.length : Int)) then
        some (([] : (List api_Stitch)), ([] : (List api_CellStep)), 30)
       else
        (F_stitch_All a4).bind fun a0 =>
        if a0 != 0 then
         some (([] : (List api_Stitch)), ([] : (List api_CellStep)), a0)
        else
         some (a4, a8, 0)
      | .inr z =>
       some z
    | .inr z =>
     some z
def c_compare_walk_val (r : ((List api_Stitch) × (List api_CellStep) × Int)) (x : Value × Value) : Value := .tuple #[x.1, x.2, .int .i64 r.2.2]
def c_compare_walk_D (r : ((List api_Stitch) × (List api_CellStep) × Int)) (x : Value × Value) : List Fact := [fRep (rL r_api_Stitch) x.1 r.1, fRep (rL r_api_CellStep) x.2 r.2.1]
theorem c_compare_walk (E : Nat → Prop) (w0 : World) (p0 : (List api_Stitch)) (v0 : Value) (p1 : (List api_CellStep)) (v1 : Value) (r : ((List api_Stitch) × (List api_CellStep) × Int)) (h : F_compare_walk p0 p1 = some r) (S : St0 E [] w0 w0 [] [fRep (rL r_api_Stitch) (v0) p0, fRep (rL r_api_CellStep) (v1) p1]) :
 Calls Try.prog 58 #[v0, v1] w0 (Ret (X := Value × Value) E [] w0 (c_compare_walk_val r) (fun _ => []) (c_compare_walk_D r)) := by
 unfold F_compare_walk at h
 obtain ⟨aQ, aR, _, rfl, _⟩ := S.know (i := 0) (e := fRep (rL r_api_Stitch) (v0) p0) rfl
 obtain ⟨ao, ap, _, rfl, _⟩ := S.know (i := 1) (e := fRep (rL r_api_CellStep) (v1) p1) rfl
 refine sEnter (args := [.slice aQ p0.length aR, .slice ao p1.length ap]) 106 Try.func58 rfl rfl (by simp) S (fun a S => ?_)
 refine sSeq (fun K5 dn => sRegion (sN S fun a S => ?_))
 refine sN S fun a S => ?_
 refine sN S fun a S => ?_
 refine lT (dn _ _ (sSeq (fun K6 dp => sSeq (fun K7 dr => sRegion (sM S fun a S => ?_)))))
 obtain ⟨r8, dt, h⟩ := bS h
 have S1 := S.mem
 refine sCq [.slice aQ p0.length aR] (iv r8) S callee56 (S1.quiet [0] rfl) (fun E1 w1 S1 => c_stitch_All E1 w1 p0 (.slice aQ p0.length aR) r8 dt S1) fun a w S => ?_
 refine sN S fun a S => ?_
 refine lT (dr _ _ (sSeq (fun dW cB => sRegion (sM S fun a S => ?_))))
 refine sBin _ S (wN rfl) rfl rfl rfl (bNe _ _ _ _ .i64 r8 0) rfl (lb rfl) fun a S => ?_
 refine lT (cB _ _ ?_)
 rcases iS h with ⟨aS, h⟩ | ⟨aS, h⟩
 ·refine sCondT S rfl aS ?_
  refine sSeq (fun dX cC => sRegion (sM S fun a S => ?_))
  refine sN S fun a S => ?_
  refine sN S fun a S => ?_
  refine sN S fun a S => ?_
  refine lT (cC _ _ ?_)
  obtain rfl := tS h
  have S := S.learn (fRep (rL r_api_Stitch) (.slice none 0 0) ([] : (List api_Stitch))) (rL_nil _ _ _)
  have S := S.learn (fRep (rL r_api_CellStep) (.slice none 0 0) ([] : (List api_CellStep))) (rL_nil _ _ _)
  exact wp_ret (rThen (sRet (.tuple #[.slice none 0 0, .slice none 0 0, iv r8]) S (rsl3 rfl (rvT (t := 4) (v := .slice none 0 0) S rfl) (rvT (t := 5) (v := .slice none 0 0) S rfl) (rvT (t := 6) (v := iv r8) S rfl)) ⟨((.slice none 0 0), (.slice none 0 0)), rfl, S.mem.sel [] [1, 0] (by decide) rfl rfl⟩))
 refine sCondF S rfl aS ?_
 refine wp_skip (leafT (dp _ _ ?_))
 refine sSeq (fun dY cD => sSeq (fun dZ cE => sRegion (sM S fun a S => ?_)))
 refine sLen S (wN rfl) rfl Try.underlying48 rfl rfl (lb rfl) fun a S => ?_
 refine sBin _ S (wN rfl) rfl rfl rfl (bGt _ _ _ _ .i64 (p1.length : Int) 400) rfl (lb rfl) fun a S => ?_
 refine lT (cE _ _ ?_)
 rcases iS h with ⟨aT, h⟩ | ⟨aT, h⟩
 ·refine sCondT S rfl aT ?_
  refine sSeq (fun e5 cF => sRegion (sN S fun a S => ?_))
  refine sN S fun a S => ?_
  refine sN S fun a S => ?_
  refine lT (cF _ _ ?_)
  obtain rfl := tS h
  have S := S.learn (fRep (rL r_api_Stitch) (.slice none 0 0) ([] : (List api_Stitch))) (rL_nil _ _ _)
  have S := S.learn (fRep (rL r_api_CellStep) (.slice none 0 0) ([] : (List api_CellStep))) (rL_nil _ _ _)
  exact wp_ret (rThen (sRet (.tuple #[.slice none 0 0, .slice none 0 0, iv 4]) S (rsl3 rfl (rvT (t := 4) (v := .slice none 0 0) S rfl) (rvT (t := 5) (v := .slice none 0 0) S rfl) (rvT (t := 6) (v := iv 4) S rfl)) ⟨((.slice none 0 0), (.slice none 0 0)), rfl, S.mem.sel [] [1, 0] (by decide) rfl rfl⟩))
 refine sCondF S rfl aT ?_
 refine wp_skip (leafT (cD _ _ ?_))
 obtain ⟨du, h, dg⟩ := bS h
 refine sCut (fun a w => .inl () = du ∧ St [] E [] w0 106 a w [(0, .slice aQ p0.length aR), (1, .slice ao p1.length ap), (4, .slice none 0 0), (5, .slice none 0 0)] [] [fRep (rL r_api_Stitch) (.slice aQ p0.length aR) p0, fRep (rL r_api_CellStep) (.slice ao p1.length ap) p1]) ?_ (fun a w hI => ?_)
 ·refine sSeq (fun e6 cG => sRegion (sM S fun a S => ?_))
  refine sLen S (wN rfl) rfl Try.underlying48 rfl rfl (lb rfl) fun a S => ?_
  refine sM S fun a S => ?_
  refine lT (cG _ _ (wp_block ?_))
  obtain ⟨e7, hl, dh⟩ := bS h
  refine sLoop hl (fun s0 a w => match s0 with | bf => St [] E [] w0 106 a w [(0, .slice aQ p0.length aR), (1, .slice ao p1.length ap), (4, .slice none 0 0), (5, .slice none 0 0), (23, .slice ao p1.length ap), (24, iv (p1.length : Int)), (25, iv bf)] [] [fRep (rL r_api_Stitch) (.slice aQ p0.length aR) p0, fRep (rL r_api_CellStep) (.slice ao p1.length ap) p1]) (S.fix [] [0, 1] (by decide) rfl rfl rfl) ?_
  clear hl h
  intro bf a w c0 hI h bk
  unfold compare_walk_l1 at h
  dsimp only at h hI
  have S := hI
  refine sSeq (fun e8 cH => sRegion (sBin _ S (wN rfl) rfl rfl rfl (bLt _ _ _ _ .i64 bf (p1.length : Int)) rfl (lb rfl) fun a S => ?_))
  refine lT (cH _ _ (sSeq (fun e9 cI => ?_)))
  rcases iS h with ⟨aU, h⟩ | ⟨aU, h⟩
  rotate_left
  ·refine sCondF S rfl aU ?_
   obtain rfl := tS h
   obtain rfl := bk _ rfl
   have h := dh
   try dsimp only at h
   exact wp_exit (xThen (xThen (xHit (leafT (⟨Option.some.inj h, S.fix [] [0, 1] (by decide) rfl rfl rfl⟩)))))
  refine sCondT S rfl aU ?_
  refine wp_skip (leafT (cI _ _ ?_))
  refine sSeq (fun ea cJ => wp_block ?_)
  refine sSeq (fun eb cK => sRegion ?_)
  obtain ⟨a5, cL, h⟩ := bS h
  obtain ⟨di, cM, S⟩ := pIdx (P := Try.prog) (r := r_api_CellStep) (v := .slice ao p1.length ap) (xs := p1) (j := bf) 48 83 1 S Try.underlying48 rfl rfl cL
  refine sIdxV S (wN rfl) rfl rfl rfl cM rfl (lb rfl) fun a S => ?_
  obtain ⟨dj, S⟩ := pLoad (r := r_api_CellStep) (q := di) (x := a5) 0 S rfl
  obtain rfl : dj = .agg #[.int .u8 a5.Kind, .int .u8 a5.S.Kind, .bool a5.S.Purl, iv a5.S.A, iv a5.S.B] := S.mem.know (i := 1) (e := fRep r_api_CellStep (dj) a5) rfl
  refine sLoadVN (vq := di) 0 [.int .u8 a5.Kind, .int .u8 a5.S.Kind, .bool a5.S.Purl, iv a5.S.A, iv a5.S.B] S (wN rfl) rfl rfl rfl rfl rfl rfl (lb rfl) fun a S => ?_
  refine sAlloc (.agg #[.int .u8 0, .int .u8 0, .bool false, iv 0, iv 0]) S (wN rfl) rfl rfl [.int .u8 0, .int .u8 0, .bool false, iv 0, iv 0] rfl rfl (lb rfl) fun a dk w S => ?_
  refine sStore (p := dk) (off := 0) (T := 83) (vs := [.int .u8 0, .int .u8 0, .bool false, iv 0, iv 0]) (v := .agg #[.int .u8 a5.Kind, .int .u8 a5.S.Kind, .bool a5.S.Purl, iv a5.S.A, iv a5.S.B]) 0 [.int .u8 a5.Kind, .int .u8 a5.S.Kind, .bool a5.S.Purl, iv a5.S.A, iv a5.S.B] S (wN rfl) rfl rfl rfl rfl rfl rfl rfl (by simp) rfl fun a w S => ?_
  refine lT (cK _ _ (sSeq (fun ec cN => sRegion (sLoadN (p := dk) (off := 0) (T := 83) (vs := [.int .u8 a5.Kind, .int .u8 a5.S.Kind, .bool a5.S.Purl, iv a5.S.A, iv a5.S.B]) 0 [.int .u8 a5.Kind, .int .u8 a5.S.Kind, .bool a5.S.Purl, iv a5.S.A, iv a5.S.B] S (wN rfl) rfl rfl rfl rfl rfl rfl rfl (lb rfl) fun a S => ?_))))
  obtain ⟨cO, cP, h⟩ := bS h
  have S1 := S.mem
  refine sCq [.agg #[.int .u8 a5.Kind, .int .u8 a5.S.Kind, .bool a5.S.Purl, iv a5.S.A, iv a5.S.B]] (.bool cO) S callee90 (S1.quiet [1] rfl) (fun E1 w1 S1 => c_compare_fine E1 w1 a5 (.agg #[.int .u8 a5.Kind, .int .u8 a5.S.Kind, .bool a5.S.Purl, iv a5.S.A, iv a5.S.B]) cO cP S1) fun a w S => ?_
  refine sNot (b := cO) S (wN rfl) rfl rfl rfl (lb rfl) fun a S => ?_
  refine lT (cN _ _ ?_)
  rcases iS h with ⟨aV, h⟩ | ⟨aV, h⟩
  rotate_left
  ·refine sCondF S rfl aV ?_
   refine wp_skip (leafB (leafT (cJ _ _ ?_)))
   refine sRegion (sBin _ S (wN rfl) rfl rfl rfl (bAdd _ _ _ _ bf 1) rfl (lb rfl) fun a S => ?_)
   refine sM S fun a S => ?_
   exact lT (⟨w64 (bf + 1), (Option.some.inj h).symm, (S.fix [] [3, 4] (by decide) rfl rfl rfl)⟩)
  refine sCondT S rfl aV ?_
  refine sSeq (fun ed cQ => sRegion (sN S fun a S => ?_))
  refine sN S fun a S => ?_
  refine sN S fun a S => ?_
  refine lT (cQ _ _ ?_)
  obtain rfl := tS h
  obtain rfl := bk _ rfl
  have h := dh
  try dsimp only at h
  obtain rfl := tS h
  have h := dg
  try dsimp only at h
  obtain rfl := tS h
  have S := S.learn (fRep (rL r_api_Stitch) (.slice none 0 0) ([] : (List api_Stitch))) (rL_nil _ _ _)
  have S := S.learn (fRep (rL r_api_CellStep) (.slice none 0 0) ([] : (List api_CellStep))) (rL_nil _ _ _)
  exact wp_ret (rBlock (rThen (rThen (rBlock (rThen (sRet (.tuple #[.slice none 0 0, .slice none 0 0, iv 8]) S (rsl3 rfl (rvT (t := 4) (v := .slice none 0 0) S rfl) (rvT (t := 5) (v := .slice none 0 0) S rfl) (rvT (t := 6) (v := iv 8) S rfl)) ⟨((.slice none 0 0), (.slice none 0 0)), rfl, S.mem.sel [] [1, 0] (by decide) rfl rfl⟩))))))
 obtain ⟨rfl, S⟩ := hI
 have h := dg
 try dsimp only at h
 refine sSeq (fun ee cR => sRegion (sM S fun a S => ?_))
 refine sN S fun a S => ?_
 refine lT (cR _ _ ?_)
 obtain ⟨dv, h, cS⟩ := bS h
 refine sCut (fun a w => ∃ ac, ∃ aG, ∃ bg, .inl (ac, aG, bg) = dv ∧ ∃ a6, ∃ a7, ∃ ae, ∃ af, ∃ aW, ∃ aX, St [] E [] w0 106 a w [(4, .slice a6 ac.length a7), (5, .slice ae aG.length af), (10, .slice aW bg.length aX)] [eRow r_api_Stitch 81 (.slice a6 ac.length a7) ac, eRow r_api_CellStep 83 (.slice ae aG.length af) aG] [fRep (rL r_api_Stitch) (.slice aW bg.length aX) bg]) ?_ (fun a w hI => ?_)
 rotate_left
 ·obtain ⟨ac, aG, bg, rfl, a6, a7, ae, af, aW, aX, S⟩ := hI
  have h := cS
  try dsimp only at h
  refine sSeq (fun dw bl => sSeq (fun dx bm => sRegion (sM S fun a S => ?_)))
  refine sLen S (wN rfl) rfl Try.underlying47 rfl rfl (lb rfl) fun a S => ?_
  refine sBin _ S (wN rfl) rfl rfl rfl (bGt _ _ _ _ .i64 (bg.length : Int) 0) rfl (lb rfl) fun a S => ?_
  refine lT (bm _ _ ?_)
  rcases iS h with ⟨ar, h⟩ | ⟨ar, h⟩
  ·refine sCondT S rfl ar ?_
   refine sSeq (fun dy bn => sRegion (sN S fun a S => ?_))
   refine sN S fun a S => ?_
   refine sN S fun a S => ?_
   refine lT (bn _ _ ?_)
   obtain rfl := tS h
   have S := S.learn (fRep (rL r_api_Stitch) (.slice none 0 0) ([] : (List api_Stitch))) (rL_nil _ _ _)
   have S := S.learn (fRep (rL r_api_CellStep) (.slice none 0 0) ([] : (List api_CellStep))) (rL_nil _ _ _)
   exact wp_ret (rThen (sRet (.tuple #[.slice none 0 0, .slice none 0 0, iv 30]) S (rsl3 rfl (rvT (t := 4) (v := .slice none 0 0) S rfl) (rvT (t := 5) (v := .slice none 0 0) S rfl) (rvT (t := 6) (v := iv 30) S rfl)) ⟨((.slice none 0 0), (.slice none 0 0)), rfl, S.mem.sel [] [1, 0] (by decide) rfl rfl⟩))
  refine sCondF S rfl ar ?_
  refine wp_skip (leafT (bl _ _ ?_))
  refine sSeq (fun dz bp => sSeq (fun dA bq => sRegion (sM S fun a S => ?_)))
  obtain ⟨au, br, h⟩ := bS h
  have S1 := S.mem
  have S1 := S1.shutR (r := r_api_Stitch) (T := 81) (v := .slice a6 ac.length a7) (xs := ac) 0 rfl
  refine sCq [.slice a6 ac.length a7] (iv au) S callee56 (S1.quiet [0] rfl) (fun E1 w1 S1 => c_stitch_All E1 w1 ac (.slice a6 ac.length a7) au br S1) fun a w S => ?_
  refine sN S fun a S => ?_
  refine lT (bq _ _ (sSeq (fun dB bt => sRegion (sM S fun a S => ?_))))
  refine sBin _ S (wN rfl) rfl rfl rfl (bNe _ _ _ _ .i64 au 0) rfl (lb rfl) fun a S => ?_
  refine lT (bt _ _ ?_)
  rcases iS h with ⟨av, h⟩ | ⟨av, h⟩
  ·refine sCondT S rfl av ?_
   refine sSeq (fun dC bu => sRegion (sM S fun a S => ?_))
   refine sN S fun a S => ?_
   refine sN S fun a S => ?_
   refine sN S fun a S => ?_
   refine lT (bu _ _ ?_)
   obtain rfl := tS h
   have S := S.learn (fRep (rL r_api_Stitch) (.slice none 0 0) ([] : (List api_Stitch))) (rL_nil _ _ _)
   have S := S.learn (fRep (rL r_api_CellStep) (.slice none 0 0) ([] : (List api_CellStep))) (rL_nil _ _ _)
   exact wp_ret (rThen (sRet (.tuple #[.slice none 0 0, .slice none 0 0, iv au]) S (rsl3 rfl (rvT (t := 4) (v := .slice none 0 0) S rfl) (rvT (t := 5) (v := .slice none 0 0) S rfl) (rvT (t := 6) (v := iv au) S rfl)) ⟨((.slice none 0 0), (.slice none 0 0)), rfl, S.mem.sel [] [1, 0] (by decide) rfl rfl⟩))
  refine sCondF S rfl av ?_
  refine wp_skip (leafT (bp _ _ ?_))
  refine sSeq (fun dD bv => sRegion (sM S fun a S => ?_))
  refine sM S fun a S => ?_
  refine sN S fun a S => ?_
  refine sN S fun a S => ?_
  refine sN S fun a S => ?_
  refine lT (bv _ _ ?_)
  obtain rfl := tS h
  have S := S.shutR (r := r_api_Stitch) (T := 81) (v := .slice a6 ac.length a7) (xs := ac) 0 rfl
  have S := S.shutR (r := r_api_CellStep) (T := 83) (v := .slice ae aG.length af) (xs := aG) 0 rfl
  exact wp_ret (sRet (.tuple #[.slice a6 ac.length a7, .slice ae aG.length af, iv 0]) S (rsl3 rfl (rvT (t := 4) (v := .slice a6 ac.length a7) S rfl) (rvT (t := 5) (v := .slice ae aG.length af) S rfl) (rvT (t := 6) (v := iv 0) S rfl)) ⟨((.slice a6 ac.length a7), (.slice ae aG.length af)), rfl, S.mem.sel [] [1, 0] (by decide) rfl rfl⟩)
 refine sSeq (fun ef cT => sRegion (sM S fun a S => ?_))
 refine sLen S (wN rfl) rfl Try.underlying48 rfl rfl (lb rfl) fun a S => ?_
 refine sM S fun a S => ?_
 refine lT (cT _ _ (wp_block ?_))
 have S := S.nilRow r_api_Stitch 81 (α := api_Stitch)
 have S := S.nilRow r_api_CellStep 83 (α := api_CellStep)
 obtain ⟨eh, hl, cU⟩ := bS h
 refine sLoop hl (fun s0 a w => match s0 with | (am, ai, aq, aZ) => ∃ a8, ∃ a9, ∃ aa, ∃ ab, ∃ ag, ∃ ah, St [] E [] w0 106 a w [(4, .slice a8 am.length a9), (5, .slice aa ai.length ab), (10, .slice ag aq.length ah), (34, .slice ao p1.length ap), (35, iv (p1.length : Int)), (36, iv aZ)] [eRow r_api_Stitch 81 (.slice a8 am.length a9) am, eRow r_api_CellStep 83 (.slice aa ai.length ab) ai] [fRep (rL r_api_Stitch) (.slice ag aq.length ah) aq, fRep (rL r_api_CellStep) (.slice ao p1.length ap) p1]) ⟨none, 0, none, 0, aQ, aR, S.fix [1, 0] [0, 1] (by decide) rfl rfl rfl⟩ ?_
 clear hl h
 intro s0 a w c0 hI h ba
 obtain ⟨am, ai, aq, aZ⟩ := s0
 unfold compare_walk_l2 at h
 dsimp only at h hI
 obtain ⟨a8, a9, aa, ab, ag, ah, S⟩ := hI
 refine sSeq (fun ei cV => sRegion (sBin _ S (wN rfl) rfl rfl rfl (bLt _ _ _ _ .i64 aZ (p1.length : Int)) rfl (lb rfl) fun a S => ?_))
 refine lT (cV _ _ (sSeq (fun ej cW => ?_)))
 rcases iS h with ⟨bb, h⟩ | ⟨bb, h⟩
 rotate_left
 ·refine sCondF S rfl bb ?_
  obtain rfl := tS h
  obtain rfl := ba _ rfl
  have h := cU
  try dsimp only at h
  exact wp_exit (xThen (xThen (xHit (leafT (⟨am, ai, aq, Option.some.inj h, a8, a9, aa, ab, ag, ah, S.fix [0, 1] [0] (by decide) rfl rfl rfl⟩)))))
 refine sCondT S rfl bb ?_
 refine wp_skip (leafT (cW _ _ ?_))
 obtain ⟨dE, h, cX⟩ := bS h
 refine sCut (fun a w => ∃ bh, ∃ bi, ∃ bj, .inl (bh, bi, bj) = dE ∧ ∃ aI, ∃ aJ, ∃ aK, ∃ aL, ∃ aM, ∃ aO, St [] E [] w0 106 a w [(4, .slice aI bh.length aJ), (5, .slice aK bi.length aL), (10, .slice aM bj.length aO), (34, .slice ao p1.length ap), (35, iv (p1.length : Int)), (36, iv aZ)] [eRow r_api_Stitch 81 (.slice aI bh.length aJ) bh, eRow r_api_CellStep 83 (.slice aK bi.length aL) bi] [fRep (rL r_api_Stitch) (.slice aM bj.length aO) bj, fRep (rL r_api_CellStep) (.slice ao p1.length ap) p1]) ?_ (fun a w hI => ?_)
 rotate_left
 ·obtain ⟨bh, bi, bj, rfl, aI, aJ, aK, aL, aM, aO, S⟩ := hI
  have h := cX
  try dsimp only at h
  refine sRegion (sBin _ S (wN rfl) rfl rfl rfl (bAdd _ _ _ _ aZ 1) rfl (lb rfl) fun a S => ?_)
  refine sM S fun a S => ?_
  exact lT (⟨(bh, bi, bj, w64 (aZ + 1)), (Option.some.inj h).symm, ⟨aI, aJ, aK, aL, aM, aO, S.fix [0, 1] [0, 1] (by decide) rfl rfl rfl⟩⟩)
 refine wp_block ?_
 refine sSeq (fun ek cY => sRegion ?_)
 obtain ⟨a4, cZ, h⟩ := bS h
 obtain ⟨dl, d4, S⟩ := pIdx (P := Try.prog) (r := r_api_CellStep) (v := .slice ao p1.length ap) (xs := p1) (j := aZ) 48 83 1 S Try.underlying48 rfl rfl cZ
 refine sIdxV S (wN rfl) rfl rfl rfl d4 rfl (lb rfl) fun a S => ?_
 obtain ⟨dm, S⟩ := pLoad (r := r_api_CellStep) (q := dl) (x := a4) 0 S rfl
 obtain rfl : dm = .agg #[.int .u8 a4.Kind, .int .u8 a4.S.Kind, .bool a4.S.Purl, iv a4.S.A, iv a4.S.B] := S.mem.know (i := 1) (e := fRep r_api_CellStep (dm) a4) rfl
 refine sLoadVN (vq := dl) 0 [.int .u8 a4.Kind, .int .u8 a4.S.Kind, .bool a4.S.Purl, iv a4.S.A, iv a4.S.B] S (wN rfl) rfl rfl rfl rfl rfl rfl (lb rfl) fun a S => ?_
 refine sAlloc (.agg #[.int .u8 0, .int .u8 0, .bool false, iv 0, iv 0]) S (wN rfl) rfl rfl [.int .u8 0, .int .u8 0, .bool false, iv 0, iv 0] rfl rfl (lb rfl) fun a aH w S => ?_
 refine sStore (p := aH) (off := 0) (T := 83) (vs := [.int .u8 0, .int .u8 0, .bool false, iv 0, iv 0]) (v := .agg #[.int .u8 a4.Kind, .int .u8 a4.S.Kind, .bool a4.S.Purl, iv a4.S.A, iv a4.S.B]) 0 [.int .u8 a4.Kind, .int .u8 a4.S.Kind, .bool a4.S.Purl, iv a4.S.A, iv a4.S.B] S (wN rfl) rfl rfl rfl rfl rfl rfl rfl (by simp) rfl fun a w S => ?_
 refine lT (cY _ _ (sSeq (fun el d5 => sSeq (fun em d6 => sRegion (sField (b := aH) (off := 0) 0 0 S (wN rfl) rfl rfl rfl rfl rfl (lb rfl) fun a S => ?_)))))
 refine sLoad1 0 (.int .u8 a4.Kind) S (wN rfl) rfl rfl rfl rfl rfl rfl (lb rfl) fun a S => ?_
 refine sBin _ S (wN rfl) rfl rfl rfl (bEq _ _ _ _ .u8 a4.Kind 3) rfl (lb rfl) fun a S => ?_
 refine lT (d6 _ _ ?_)
 rcases iS h with ⟨bc, h⟩ | ⟨bc, h⟩
 ·refine sCondT S rfl bc ?_
  refine sSeq (fun en d7 => sRegion (sM S fun a S => ?_))
  refine sField (b := aH) (off := 0) 1 1 S (wN rfl) rfl rfl rfl rfl rfl (lb rfl) fun a S => ?_
  refine sLoadN (p := aH) (off := 1) (T := 83) (vs := [.int .u8 a4.Kind, .int .u8 a4.S.Kind, .bool a4.S.Purl, iv a4.S.A, iv a4.S.B]) 0 [.int .u8 a4.S.Kind, .bool a4.S.Purl, iv a4.S.A, iv a4.S.B] S (wN rfl) rfl rfl rfl rfl rfl rfl rfl (lb rfl) fun a S => ?_
  have S := S.learn (fRep r_api_Stitch (.agg #[.int .u8 a4.S.Kind, .bool a4.S.Purl, iv a4.S.A, iv a4.S.B]) a4.S) rfl
  refine sLit (r := r_api_Stitch) (T := 81) (xs := [a4.S]) [(0, .agg #[.int .u8 a4.S.Kind, .bool a4.S.Purl, iv a4.S.A, iv a4.S.B])] 1 [.agg #[.int .u8 a4.S.Kind, .bool a4.S.Purl, iv a4.S.A, iv a4.S.B]] [.int .u8 a4.S.Kind, .bool a4.S.Purl, iv a4.S.A, iv a4.S.B] (.agg #[.int .u8 0, .bool false, iv 0, iv 0]) 24 S (wN rfl) rfl rfl Try.underlying47 rfl (by decide) (by decide) (by kernel_rfl) rfl (fun E1 w1 hE => All.cons (r_api_Stitch.mono hE (S.mem.know (i := 0) (e := fRep r_api_Stitch (.agg #[.int .u8 a4.S.Kind, .bool a4.S.Purl, iv a4.S.A, iv a4.S.B]) a4.S) rfl)) (All.nil _ _ _)) rfl rfl (lb rfl) fun a w bw bx S => ?_
  obtain ⟨d8, bz, h⟩ := bS h
  refine sApp (r := r_api_Stitch) (T := 81) (xs := am) (ys := [a4.S]) (v := .slice a8 am.length a9) (u := .slice bw [a4.S].length bx) 2 (.agg #[.int .u8 0, .bool false, iv 0, iv 0]) 24 S (wN rfl) rfl Try.underlying47 rfl rfl (by decide) rfl rfl rfl (src_R (T := 81) 0 S.mem rfl) bz rfl (lb rfl) fun a w bA bB S => ?_
  refine sN S fun a S => ?_
  refine lT (d7 _ _ (sSeq (fun dG bC => sRegion (sM S fun a S => ?_))))
  refine sBuild [(0, .int .u8 4)] [.int .u8 4, .int .u8 0, .bool false, iv 0, iv 0] S (wN rfl) rfl rfl rfl rfl (lb rfl) fun a S => ?_
  have S := S.learn (fRep r_api_CellStep (.agg #[.int .u8 4, .int .u8 0, .bool false, iv 0, iv 0]) (api_CellStep.mk 4 (api_Stitch.mk 0 false 0 0))) rfl
  refine sLit (r := r_api_CellStep) (T := 83) (xs := [(api_CellStep.mk 4 (api_Stitch.mk 0 false 0 0))]) [(0, .agg #[.int .u8 4, .int .u8 0, .bool false, iv 0, iv 0])] 1 [.agg #[.int .u8 4, .int .u8 0, .bool false, iv 0, iv 0]] [.int .u8 4, .int .u8 0, .bool false, iv 0, iv 0] (.agg #[.int .u8 0, .int .u8 0, .bool false, iv 0, iv 0]) 32 S (wN rfl) rfl rfl Try.underlying48 rfl (by decide) (by decide) (by kernel_rfl) rfl (fun E1 w1 hE => All.cons (r_api_CellStep.mono hE (S.mem.know (i := 0) (e := fRep r_api_CellStep (.agg #[.int .u8 4, .int .u8 0, .bool false, iv 0, iv 0]) (api_CellStep.mk 4 (api_Stitch.mk 0 false 0 0))) rfl)) (All.nil _ _ _)) rfl rfl (lb rfl) fun a w bD bE S => ?_
  obtain ⟨d9, bG, h⟩ := bS h
  refine sApp (r := r_api_CellStep) (T := 83) (xs := ai) (ys := [(api_CellStep.mk 4 (api_Stitch.mk 0 false 0 0))]) (v := .slice aa ai.length ab) (u := .slice bD [(api_CellStep.mk 4 (api_Stitch.mk 0 false 0 0))].length bE) 4 (.agg #[.int .u8 0, .int .u8 0, .bool false, iv 0, iv 0]) 32 S (wN rfl) rfl Try.underlying48 rfl rfl (by decide) rfl rfl rfl (src_R (T := 83) 0 S.mem rfl) bG rfl (lb rfl) fun a w bH bI S => ?_
  refine sN S fun a S => ?_
  refine lT (bC _ _ ?_)
  exact wp_exit (xThen (xHit (leafT (⟨d8, d9, aq, Option.some.inj h, bA, bB, bH, bI, ag, ah, S.fix [2, 0] [5, 6] (by decide) rfl rfl rfl⟩))))
 refine sCondF S rfl bc ?_
 refine wp_skip (leafT (d5 _ _ ?_))
 refine sSeq (fun dH bJ => sSeq (fun dI bK => sRegion (sM S fun a S => ?_)))
 refine sLen S (wN rfl) rfl Try.underlying47 rfl rfl (lb rfl) fun a S => ?_
 refine sBin _ S (wN rfl) rfl rfl rfl (bEq _ _ _ _ .i64 (aq.length : Int) 0) rfl (lb rfl) fun a S => ?_
 refine lT (bK _ _ ?_)
 rcases iS h with ⟨aw, h⟩ | ⟨aw, h⟩
 ·refine sCondT S rfl aw ?_
  refine sSeq (fun dJ bL => sRegion (sN S fun a S => ?_))
  refine sN S fun a S => ?_
  refine sN S fun a S => ?_
  refine lT (bL _ _ ?_)
  obtain rfl := tS h
  have h := cX
  try dsimp only at h
  obtain rfl := tS h
  obtain rfl := ba _ rfl
  have h := cU
  try dsimp only at h
  obtain rfl := tS h
  have h := cS
  try dsimp only at h
  obtain rfl := tS h
  have S := S.learn (fRep (rL r_api_Stitch) (.slice none 0 0) ([] : (List api_Stitch))) (rL_nil _ _ _)
  have S := S.learn (fRep (rL r_api_CellStep) (.slice none 0 0) ([] : (List api_CellStep))) (rL_nil _ _ _)
  exact wp_ret (rThen (rBlock (rThen (rThen (rBlock (rThen (sRet (.tuple #[.slice none 0 0, .slice none 0 0, iv 30]) S (rsl3 rfl (rvT (t := 4) (v := .slice none 0 0) S rfl) (rvT (t := 5) (v := .slice none 0 0) S rfl) (rvT (t := 6) (v := iv 30) S rfl)) ⟨((.slice none 0 0), (.slice none 0 0)), rfl, S.mem.sel [] [1, 0] (by decide) rfl rfl⟩)))))))
 refine sCondF S rfl aw ?_
 refine wp_skip (leafT (bJ _ _ ?_))
 refine sSeq (fun dK bM => sRegion (sM S fun a S => ?_))
 obtain ⟨a0, bN, h⟩ := bS h
 obtain ⟨bO, bP, S⟩ := pIdx (P := Try.prog) (r := r_api_Stitch) (v := .slice ag aq.length ah) (xs := aq) (j := 0) 47 81 3 S Try.underlying47 rfl rfl bN
 refine sIdxV S (wN rfl) rfl rfl rfl bP rfl (lb rfl) fun a S => ?_
 obtain ⟨bQ, S⟩ := pLoad (r := r_api_Stitch) (q := bO) (x := a0) 0 S rfl
 obtain rfl : bQ = .agg #[.int .u8 a0.Kind, .bool a0.Purl, iv a0.A, iv a0.B] := S.mem.know (i := 1) (e := fRep r_api_Stitch (bQ) a0) rfl
 refine sLoadVN (vq := bO) 0 [.int .u8 a0.Kind, .bool a0.Purl, iv a0.A, iv a0.B] S (wN rfl) rfl rfl rfl rfl rfl rfl (lb rfl) fun a S => ?_
 refine sAlloc (.agg #[.int .u8 0, .bool false, iv 0, iv 0]) S (wN rfl) rfl rfl [.int .u8 0, .bool false, iv 0, iv 0] rfl rfl (lb rfl) fun a ax w S => ?_
 refine sStore (p := ax) (off := 0) (T := 81) (vs := [.int .u8 0, .bool false, iv 0, iv 0]) (v := .agg #[.int .u8 a0.Kind, .bool a0.Purl, iv a0.A, iv a0.B]) 0 [.int .u8 a0.Kind, .bool a0.Purl, iv a0.A, iv a0.B] S (wN rfl) rfl rfl rfl rfl rfl rfl rfl (by simp) rfl fun a w S => ?_
 refine lT (bM _ _ (sSeq (fun dL bR => sRegion (sM S fun a S => ?_))))
 obtain ⟨aP, bU, h⟩ := bS h
 refine sSlice (r := r_api_Stitch) (v := .slice ag aq.length ah) (xs := aq) (vlo := (some (.int .i64 1))) (vhi := none) (lo' := 1) (hi' := (aq.length : Int)) 6 S (wN rfl) rfl Try.underlying47 rfl rfl rfl rfl rfl (.inl rfl) (.inr ⟨rfl, rfl⟩) bU rfl (lb rfl) fun a aj ak S => ?_
 refine sN S fun a S => ?_
 refine lT (bR _ _ (sSeq (fun dM bV => sRegion (sField (b := aH) (off := 0) 0 0 S (wN rfl) rfl rfl rfl rfl rfl (lb rfl) fun a S => ?_))))
 refine sLoad1 1 (.int .u8 a4.Kind) S (wN rfl) rfl rfl rfl rfl rfl rfl (lb rfl) fun a S => ?_
 refine lT (bV _ _ (wp_block ?_))
 refine sSeq (fun dN bW => sRegion (sBin _ S (wN rfl) rfl rfl rfl (bEq _ _ _ _ .u8 a4.Kind 1) rfl (lb rfl) fun a S => ?_))
 refine sN S fun a S => ?_
 refine lT (bW _ _ ?_)
 rcases iS h with ⟨ay, h⟩ | ⟨ay, h⟩
 ·refine sCondT S rfl ay ?_
  refine sSeq (fun dO bX => sRegion (sM S fun a S => ?_))
  refine sLoadN (p := ax) (off := 0) (T := 81) (vs := [.int .u8 a0.Kind, .bool a0.Purl, iv a0.A, iv a0.B]) 0 [.int .u8 a0.Kind, .bool a0.Purl, iv a0.A, iv a0.B] S (wN rfl) rfl rfl rfl rfl rfl rfl rfl (lb rfl) fun a S => ?_
  refine sLit (r := r_api_Stitch) (T := 81) (xs := [a0]) [(0, .agg #[.int .u8 a0.Kind, .bool a0.Purl, iv a0.A, iv a0.B])] 1 [.agg #[.int .u8 a0.Kind, .bool a0.Purl, iv a0.A, iv a0.B]] [.int .u8 a0.Kind, .bool a0.Purl, iv a0.A, iv a0.B] (.agg #[.int .u8 0, .bool false, iv 0, iv 0]) 24 S (wN rfl) rfl rfl Try.underlying47 rfl (by decide) (by decide) (by kernel_rfl) rfl (fun E1 w1 hE => All.cons (r_api_Stitch.mono hE (S.mem.know (i := 2) (e := fRep r_api_Stitch (.agg #[.int .u8 a0.Kind, .bool a0.Purl, iv a0.A, iv a0.B]) a0) rfl)) (All.nil _ _ _)) rfl rfl (lb rfl) fun a w bY bZ S => ?_
  obtain ⟨da, c5, h⟩ := bS h
  refine sApp (r := r_api_Stitch) (T := 81) (xs := am) (ys := [a0]) (v := .slice a8 am.length a9) (u := .slice bY [a0].length bZ) 3 (.agg #[.int .u8 0, .bool false, iv 0, iv 0]) 24 S (wN rfl) rfl Try.underlying47 rfl rfl (by decide) rfl rfl rfl (src_R (T := 81) 0 S.mem rfl) c5 rfl (lb rfl) fun a w c6 c7 S => ?_
  refine sN S fun a S => ?_
  refine lT (bX _ _ (sRegion (sM S fun a S => ?_)))
  refine sLoadN (p := aH) (off := 0) (T := 83) (vs := [.int .u8 a4.Kind, .int .u8 a4.S.Kind, .bool a4.S.Purl, iv a4.S.A, iv a4.S.B]) 3 [.int .u8 a4.Kind, .int .u8 a4.S.Kind, .bool a4.S.Purl, iv a4.S.A, iv a4.S.B] S (wN rfl) rfl rfl rfl rfl rfl rfl rfl (lb rfl) fun a S => ?_
  refine sLit (r := r_api_CellStep) (T := 83) (xs := [a4]) [(0, .agg #[.int .u8 a4.Kind, .int .u8 a4.S.Kind, .bool a4.S.Purl, iv a4.S.A, iv a4.S.B])] 1 [.agg #[.int .u8 a4.Kind, .int .u8 a4.S.Kind, .bool a4.S.Purl, iv a4.S.A, iv a4.S.B]] [.int .u8 a4.Kind, .int .u8 a4.S.Kind, .bool a4.S.Purl, iv a4.S.A, iv a4.S.B] (.agg #[.int .u8 0, .int .u8 0, .bool false, iv 0, iv 0]) 32 S (wN rfl) rfl rfl Try.underlying48 rfl (by decide) (by decide) (by kernel_rfl) rfl (fun E1 w1 hE => All.cons (r_api_CellStep.mono hE (S.mem.know (i := 5) (e := fRep r_api_CellStep (.agg #[.int .u8 a4.Kind, .int .u8 a4.S.Kind, .bool a4.S.Purl, iv a4.S.A, iv a4.S.B]) a4) rfl)) (All.nil _ _ _)) rfl rfl (lb rfl) fun a w c8 c9 S => ?_
  obtain ⟨db, ca, h⟩ := bS h
  refine sApp (r := r_api_CellStep) (T := 83) (xs := ai) (ys := [a4]) (v := .slice aa ai.length ab) (u := .slice c8 [a4].length c9) 5 (.agg #[.int .u8 0, .int .u8 0, .bool false, iv 0, iv 0]) 32 S (wN rfl) rfl Try.underlying48 rfl rfl (by decide) rfl rfl rfl (src_R (T := 83) 0 S.mem rfl) ca rfl (lb rfl) fun a w cb cc S => ?_
  refine sN S fun a S => ?_
  exact leafL (leafB (leafB (leafT (⟨da, db, aP, Option.some.inj h, c6, c7, cb, cc, aj, ak, S.fix [2, 0] [0, 8] (by decide) rfl rfl rfl⟩))))
 refine sCondF S rfl ay ?_
 refine sSeq (fun dP cd => sRegion (sBin _ S (wN rfl) rfl rfl rfl (bEq _ _ _ _ .u8 a4.Kind 2) rfl (lb rfl) fun a S => ?_))
 refine sN S fun a S => ?_
 refine lT (cd _ _ ?_)
 rcases iS h with ⟨az, h⟩ | ⟨az, h⟩
 rotate_left
 ·refine sCondF S rfl az ?_
  refine sSeq (fun dQ ce => sRegion (sBin _ S (wN rfl) rfl rfl rfl (bEq _ _ _ _ .u8 a4.Kind 4) rfl (lb rfl) fun a S => ?_))
  refine sN S fun a S => ?_
  refine lT (ce _ _ ?_)
  rcases iS h with ⟨aA, h⟩ | ⟨aA, h⟩
  rotate_left
  ·refine sCondF S rfl aA ?_
   exact wp_skip (leafB (leafB (leafT (⟨am, ai, aP, Option.some.inj h, a8, a9, aa, ab, aj, ak, S.fix [2, 3] [0, 8] (by decide) rfl rfl rfl⟩))))
  refine sCondT S rfl aA ?_
  refine sRegion (sM S fun a S => ?_)
  refine sLoadN (p := ax) (off := 0) (T := 81) (vs := [.int .u8 a0.Kind, .bool a0.Purl, iv a0.A, iv a0.B]) 0 [.int .u8 a0.Kind, .bool a0.Purl, iv a0.A, iv a0.B] S (wN rfl) rfl rfl rfl rfl rfl rfl rfl (lb rfl) fun a S => ?_
  refine sBuild [(0, .int .u8 3), (1, .agg #[.int .u8 a0.Kind, .bool a0.Purl, iv a0.A, iv a0.B])] [.int .u8 3, .int .u8 a0.Kind, .bool a0.Purl, iv a0.A, iv a0.B] S (wN rfl) rfl rfl rfl rfl (lb rfl) fun a S => ?_
  have S := S.learn (fRep r_api_CellStep (.agg #[.int .u8 3, .int .u8 a0.Kind, .bool a0.Purl, iv a0.A, iv a0.B]) (api_CellStep.mk 3 a0)) rfl
  refine sLit (r := r_api_CellStep) (T := 83) (xs := [(api_CellStep.mk 3 a0)]) [(0, .agg #[.int .u8 3, .int .u8 a0.Kind, .bool a0.Purl, iv a0.A, iv a0.B])] 1 [.agg #[.int .u8 3, .int .u8 a0.Kind, .bool a0.Purl, iv a0.A, iv a0.B]] [.int .u8 3, .int .u8 a0.Kind, .bool a0.Purl, iv a0.A, iv a0.B] (.agg #[.int .u8 0, .int .u8 0, .bool false, iv 0, iv 0]) 32 S (wN rfl) rfl rfl Try.underlying48 rfl (by decide) (by decide) (by kernel_rfl) rfl (fun E1 w1 hE => All.cons (r_api_CellStep.mono hE (S.mem.know (i := 0) (e := fRep r_api_CellStep (.agg #[.int .u8 3, .int .u8 a0.Kind, .bool a0.Purl, iv a0.A, iv a0.B]) (api_CellStep.mk 3 a0)) rfl)) (All.nil _ _ _)) rfl rfl (lb rfl) fun a w cg ci S => ?_
  obtain ⟨dc, cj, h⟩ := bS h
  refine sApp (r := r_api_CellStep) (T := 83) (xs := ai) (ys := [(api_CellStep.mk 3 a0)]) (v := .slice aa ai.length ab) (u := .slice cg [(api_CellStep.mk 3 a0)].length ci) 4 (.agg #[.int .u8 0, .int .u8 0, .bool false, iv 0, iv 0]) 32 S (wN rfl) rfl Try.underlying48 rfl rfl (by decide) rfl rfl rfl (src_R (T := 83) 0 S.mem rfl) cj rfl (lb rfl) fun a w ck cl S => ?_
  refine sN S fun a S => ?_
  exact leafL (leafB (leafB (leafT (⟨am, dc, aP, Option.some.inj h, a8, a9, ck, cl, aj, ak, S.fix [4, 0] [1, 9] (by decide) rfl rfl rfl⟩))))
 refine sCondT S rfl az ?_
 refine sSeq (fun dR cm => sSeq (fun dS cn => sRegion (sField (b := aH) (off := 0) 1 1 S (wN rfl) rfl rfl rfl rfl rfl (lb rfl) fun a S => ?_)))
 refine sLoadN (p := aH) (off := 1) (T := 83) (vs := [.int .u8 a4.Kind, .int .u8 a4.S.Kind, .bool a4.S.Purl, iv a4.S.A, iv a4.S.B]) 1 [.int .u8 a4.S.Kind, .bool a4.S.Purl, iv a4.S.A, iv a4.S.B] S (wN rfl) rfl rfl rfl rfl rfl rfl rfl (lb rfl) fun a S => ?_
 refine sLoadN (p := ax) (off := 0) (T := 81) (vs := [.int .u8 a0.Kind, .bool a0.Purl, iv a0.A, iv a0.B]) 0 [.int .u8 a0.Kind, .bool a0.Purl, iv a0.A, iv a0.B] S (wN rfl) rfl rfl rfl rfl rfl rfl rfl (lb rfl) fun a S => ?_
 refine sBin _ S (wN rfl) rfl rfl rfl (bEqV _ _ _ _ #[.int .u8 a4.S.Kind, .bool a4.S.Purl, iv a4.S.A, iv a4.S.B] #[.int .u8 a0.Kind, .bool a0.Purl, iv a0.A, iv a0.B] ((a4.S.Kind == a0.Kind) && ((a4.S.Purl == a0.Purl) && ((a4.S.A == a0.A) && ((a4.S.B == a0.B) && true)))) (by kernel_rfl) (eqlV_of (by kernel_rfl))) rfl (lb rfl) fun a S => ?_
 refine lT (cn _ _ ?_)
 rcases iS h with ⟨aC, h⟩ | ⟨aC, h⟩
 ·refine sCondT S rfl aC ?_
  refine sSeq (fun dU co => sRegion (sN S fun a S => ?_))
  refine sN S fun a S => ?_
  refine sN S fun a S => ?_
  refine lT (co _ _ ?_)
  obtain rfl := tS h
  have h := cX
  try dsimp only at h
  obtain rfl := tS h
  obtain rfl := ba _ rfl
  have h := cU
  try dsimp only at h
  obtain rfl := tS h
  have h := cS
  try dsimp only at h
  obtain rfl := tS h
  have S := S.learn (fRep (rL r_api_Stitch) (.slice none 0 0) ([] : (List api_Stitch))) (rL_nil _ _ _)
  have S := S.learn (fRep (rL r_api_CellStep) (.slice none 0 0) ([] : (List api_CellStep))) (rL_nil _ _ _)
  exact wp_ret (rThen (rBlock (rBlock (rThen (rThen (rBlock (rThen (sRet (.tuple #[.slice none 0 0, .slice none 0 0, iv 30]) S (rsl3 rfl (rvT (t := 4) (v := .slice none 0 0) S rfl) (rvT (t := 5) (v := .slice none 0 0) S rfl) (rvT (t := 6) (v := iv 30) S rfl)) ⟨((.slice none 0 0), (.slice none 0 0)), rfl, S.mem.sel [] [1, 0] (by decide) rfl rfl⟩))))))))
 refine sCondF S rfl aC ?_
 refine wp_skip (leafT (cm _ _ ?_))
 refine sSeq (fun dV cp => sRegion (sM S fun a S => ?_))
 refine sField (b := aH) (off := 0) 1 1 S (wN rfl) rfl rfl rfl rfl rfl (lb rfl) fun a S => ?_
 refine sLoadN (p := aH) (off := 1) (T := 83) (vs := [.int .u8 a4.Kind, .int .u8 a4.S.Kind, .bool a4.S.Purl, iv a4.S.A, iv a4.S.B]) 1 [.int .u8 a4.S.Kind, .bool a4.S.Purl, iv a4.S.A, iv a4.S.B] S (wN rfl) rfl rfl rfl rfl rfl rfl rfl (lb rfl) fun a S => ?_
 have S := S.learn (fRep r_api_Stitch (.agg #[.int .u8 a4.S.Kind, .bool a4.S.Purl, iv a4.S.A, iv a4.S.B]) a4.S) rfl
 refine sLit (r := r_api_Stitch) (T := 81) (xs := [a4.S]) [(0, .agg #[.int .u8 a4.S.Kind, .bool a4.S.Purl, iv a4.S.A, iv a4.S.B])] 1 [.agg #[.int .u8 a4.S.Kind, .bool a4.S.Purl, iv a4.S.A, iv a4.S.B]] [.int .u8 a4.S.Kind, .bool a4.S.Purl, iv a4.S.A, iv a4.S.B] (.agg #[.int .u8 0, .bool false, iv 0, iv 0]) 24 S (wN rfl) rfl rfl Try.underlying47 rfl (by decide) (by decide) (by kernel_rfl) rfl (fun E1 w1 hE => All.cons (r_api_Stitch.mono hE (S.mem.know (i := 0) (e := fRep r_api_Stitch (.agg #[.int .u8 a4.S.Kind, .bool a4.S.Purl, iv a4.S.A, iv a4.S.B]) a4.S) rfl)) (All.nil _ _ _)) rfl rfl (lb rfl) fun a w cq cr S => ?_
 obtain ⟨de, ct, h⟩ := bS h
 refine sApp (r := r_api_Stitch) (T := 81) (xs := am) (ys := [a4.S]) (v := .slice a8 am.length a9) (u := .slice cq [a4.S].length cr) 3 (.agg #[.int .u8 0, .bool false, iv 0, iv 0]) 24 S (wN rfl) rfl Try.underlying47 rfl rfl (by decide) rfl rfl rfl (src_R (T := 81) 0 S.mem rfl) ct rfl (lb rfl) fun a w cu cv S => ?_
 refine sN S fun a S => ?_
 refine lT (cp _ _ (sRegion (sM S fun a S => ?_)))
 refine sLoadN (p := ax) (off := 0) (T := 81) (vs := [.int .u8 a0.Kind, .bool a0.Purl, iv a0.A, iv a0.B]) 2 [.int .u8 a0.Kind, .bool a0.Purl, iv a0.A, iv a0.B] S (wN rfl) rfl rfl rfl rfl rfl rfl rfl (lb rfl) fun a S => ?_
 refine sBuild [(0, .int .u8 2), (1, .agg #[.int .u8 a0.Kind, .bool a0.Purl, iv a0.A, iv a0.B])] [.int .u8 2, .int .u8 a0.Kind, .bool a0.Purl, iv a0.A, iv a0.B] S (wN rfl) rfl rfl rfl rfl (lb rfl) fun a S => ?_
 have S := S.learn (fRep r_api_CellStep (.agg #[.int .u8 2, .int .u8 a0.Kind, .bool a0.Purl, iv a0.A, iv a0.B]) (api_CellStep.mk 2 a0)) rfl
 refine sLit (r := r_api_CellStep) (T := 83) (xs := [(api_CellStep.mk 2 a0)]) [(0, .agg #[.int .u8 2, .int .u8 a0.Kind, .bool a0.Purl, iv a0.A, iv a0.B])] 1 [.agg #[.int .u8 2, .int .u8 a0.Kind, .bool a0.Purl, iv a0.A, iv a0.B]] [.int .u8 2, .int .u8 a0.Kind, .bool a0.Purl, iv a0.A, iv a0.B] (.agg #[.int .u8 0, .int .u8 0, .bool false, iv 0, iv 0]) 32 S (wN rfl) rfl rfl Try.underlying48 rfl (by decide) (by decide) (by kernel_rfl) rfl (fun E1 w1 hE => All.cons (r_api_CellStep.mono hE (S.mem.know (i := 0) (e := fRep r_api_CellStep (.agg #[.int .u8 2, .int .u8 a0.Kind, .bool a0.Purl, iv a0.A, iv a0.B]) (api_CellStep.mk 2 a0)) rfl)) (All.nil _ _ _)) rfl rfl (lb rfl) fun a w cw cx S => ?_
 obtain ⟨df, cy, h⟩ := bS h
 refine sApp (r := r_api_CellStep) (T := 83) (xs := ai) (ys := [(api_CellStep.mk 2 a0)]) (v := .slice aa ai.length ab) (u := .slice cw [(api_CellStep.mk 2 a0)].length cx) 5 (.agg #[.int .u8 0, .int .u8 0, .bool false, iv 0, iv 0]) 32 S (wN rfl) rfl Try.underlying48 rfl rfl (by decide) rfl rfl rfl (src_R (T := 83) 0 S.mem rfl) cy rfl (lb rfl) fun a w cz cA S => ?_
 refine sN S fun a S => ?_
 exact leafL (leafB (leafB (leafT (⟨de, df, aP, Option.some.inj h, cu, cv, cz, cA, aj, ak, S.fix [2, 0] [2, 10] (by decide) rfl rfl rfl⟩))))
noncomputable def F_compare_Patch (p0 : (List api_Stitch)) (p1 : (List api_CellStep)) : Option ((List api_Stitch) × Int) :=
 (F_compare_walk p0 p1).bind fun r7 =>
 some (r7.1, r7.2.2)
def c_compare_Patch_val (r : ((List api_Stitch) × Int)) (x : Value) : Value := .tuple #[x, .int .i64 r.2]
def c_compare_Patch_D (r : ((List api_Stitch) × Int)) (x : Value) : List Fact := [fRep (rL r_api_Stitch) x r.1]
theorem c_compare_Patch (E : Nat → Prop) (w0 : World) (p0 : (List api_Stitch)) (v0 : Value) (p1 : (List api_CellStep)) (v1 : Value) (r : ((List api_Stitch) × Int)) (h : F_compare_Patch p0 p1 = some r) (S : St0 E [] w0 w0 [] [fRep (rL r_api_Stitch) (v0) p0, fRep (rL r_api_CellStep) (v1) p1]) :
 Calls Try.prog 25 #[v0, v1] w0 (Ret (X := Value) E [] w0 (c_compare_Patch_val r) (fun _ => []) (c_compare_Patch_D r)) := by
 unfold F_compare_Patch at h
 obtain ⟨a7, a8, _, rfl, _⟩ := S.know (i := 0) (e := fRep (rL r_api_Stitch) (v0) p0) rfl
 obtain ⟨a9, aa, _, rfl, _⟩ := S.know (i := 1) (e := fRep (rL r_api_CellStep) (v1) p1) rfl
 refine sEnter (args := [.slice a7 p0.length a8, .slice a9 p1.length aa]) 18 Try.func25 rfl rfl (by simp) S (fun a S => ?_)
 refine sSeq (fun K5 ac => sRegion (sN S fun a S => ?_))
 refine sN S fun a S => ?_
 refine lT (ac _ _ (sSeq (fun K6 ae => sRegion (sM S fun a S => ?_))))
 refine sM S fun a S => ?_
 obtain ⟨r7, af, h⟩ := bS h
 refine sCall (X := Value × Value) (f := 58) (vs := [.slice a7 p0.length a8, .slice a9 p1.length aa]) (val := c_compare_walk_val r7) (B' := fun _ => []) (D' := c_compare_walk_D r7) [] [] [fRep (rL r_api_Stitch) (.slice a7 p0.length a8) p0, fRep (rL r_api_CellStep) (.slice a9 p1.length aa) p1] [] [0, 1] S (wN rfl) rfl callee58 rfl (by decide) rfl rfl (fun E1 w1 S1 => c_compare_walk E1 w1 p0 (.slice a7 p0.length a8) p1 (.slice a9 p1.length aa) r7 af S1) rfl (lb rfl) fun xx a w S => ?_
 obtain ⟨u9, ag⟩ := xx
 obtain ⟨a0, a4, _, rfl, _⟩ := S.mem.know (i := 0) (e := fRep (rL r_api_Stitch) (u9) r7.1) rfl
 obtain ⟨a5, a6, _, rfl, _⟩ := S.mem.know (i := 1) (e := fRep (rL r_api_CellStep) (ag) r7.2.1) rfl
 refine sM S fun a S => ?_
 refine sExtract (vs := [.slice a0 r7.1.length a4, .slice a5 r7.2.1.length a6, iv r7.2.2]) (.slice a0 r7.1.length a4) S (wN rfl) rfl rfl rfl rfl (lb rfl) fun a S => ?_
 refine sExtract (vs := [.slice a0 r7.1.length a4, .slice a5 r7.2.1.length a6, iv r7.2.2]) (.slice a5 r7.2.1.length a6) S (wN rfl) rfl rfl rfl rfl (lb rfl) fun a S => ?_
 refine sExtract (vs := [.slice a0 r7.1.length a4, .slice a5 r7.2.1.length a6, iv r7.2.2]) (iv r7.2.2) S (wN rfl) rfl rfl rfl rfl (lb rfl) fun a S => ?_
 refine sN S fun a S => ?_
 refine sN S fun a S => ?_
 refine sN S fun a S => ?_
 refine lT (ae _ _ (sSeq (fun ah ab => sRegion (sM S fun a S => ?_))))
 refine sM S fun a S => ?_
 refine sN S fun a S => ?_
 refine sN S fun a S => ?_
 refine lT (ab _ _ ?_)
 obtain rfl := tS h
 exact wp_ret (sRet (.tuple #[.slice a0 r7.1.length a4, iv r7.2.2]) S (rsl2 rfl (rvT (t := 4) (v := .slice a0 r7.1.length a4) S rfl) (rvT (t := 5) (v := iv r7.2.2) S rfl)) ⟨(.slice a0 r7.1.length a4), rfl, S.mem.sel [] [0] (by decide) rfl rfl⟩)
noncomputable def F_compare_Back (p0 : (List api_Stitch)) (p1 : (List api_CellStep)) : Option ((List api_CellStep) × Int) :=
 (F_compare_walk p0 p1).bind fun r7 =>
 some (r7.2.1, r7.2.2)
def c_compare_Back_val (r : ((List api_CellStep) × Int)) (x : Value) : Value := .tuple #[x, .int .i64 r.2]
def c_compare_Back_D (r : ((List api_CellStep) × Int)) (x : Value) : List Fact := [fRep (rL r_api_CellStep) x r.1]
theorem c_compare_Back (E : Nat → Prop) (w0 : World) (p0 : (List api_Stitch)) (v0 : Value) (p1 : (List api_CellStep)) (v1 : Value) (r : ((List api_CellStep) × Int)) (h : F_compare_Back p0 p1 = some r) (S : St0 E [] w0 w0 [] [fRep (rL r_api_Stitch) (v0) p0, fRep (rL r_api_CellStep) (v1) p1]) :
 Calls Try.prog 27 #[v0, v1] w0 (Ret (X := Value) E [] w0 (c_compare_Back_val r) (fun _ => []) (c_compare_Back_D r)) := by
 unfold F_compare_Back at h
 obtain ⟨a7, a8, _, rfl, _⟩ := S.know (i := 0) (e := fRep (rL r_api_Stitch) (v0) p0) rfl
 obtain ⟨a9, aa, _, rfl, _⟩ := S.know (i := 1) (e := fRep (rL r_api_CellStep) (v1) p1) rfl
 refine sEnter (args := [.slice a7 p0.length a8, .slice a9 p1.length aa]) 18 Try.func27 rfl rfl (by simp) S (fun a S => ?_)
 refine sSeq (fun K5 ac => sRegion (sN S fun a S => ?_))
 refine sN S fun a S => ?_
 refine lT (ac _ _ (sSeq (fun K6 ae => sRegion (sM S fun a S => ?_))))
 refine sM S fun a S => ?_
 obtain ⟨r7, af, h⟩ := bS h
 refine sCall (X := Value × Value) (f := 58) (vs := [.slice a7 p0.length a8, .slice a9 p1.length aa]) (val := c_compare_walk_val r7) (B' := fun _ => []) (D' := c_compare_walk_D r7) [] [] [fRep (rL r_api_Stitch) (.slice a7 p0.length a8) p0, fRep (rL r_api_CellStep) (.slice a9 p1.length aa) p1] [] [0, 1] S (wN rfl) rfl callee58 rfl (by decide) rfl rfl (fun E1 w1 S1 => c_compare_walk E1 w1 p0 (.slice a7 p0.length a8) p1 (.slice a9 p1.length aa) r7 af S1) rfl (lb rfl) fun xx a w S => ?_
 obtain ⟨u9, ag⟩ := xx
 obtain ⟨a5, a6, _, rfl, _⟩ := S.mem.know (i := 0) (e := fRep (rL r_api_Stitch) (u9) r7.1) rfl
 obtain ⟨a0, a4, _, rfl, _⟩ := S.mem.know (i := 1) (e := fRep (rL r_api_CellStep) (ag) r7.2.1) rfl
 refine sM S fun a S => ?_
 refine sExtract (vs := [.slice a5 r7.1.length a6, .slice a0 r7.2.1.length a4, iv r7.2.2]) (.slice a5 r7.1.length a6) S (wN rfl) rfl rfl rfl rfl (lb rfl) fun a S => ?_
 refine sExtract (vs := [.slice a5 r7.1.length a6, .slice a0 r7.2.1.length a4, iv r7.2.2]) (.slice a0 r7.2.1.length a4) S (wN rfl) rfl rfl rfl rfl (lb rfl) fun a S => ?_
 refine sExtract (vs := [.slice a5 r7.1.length a6, .slice a0 r7.2.1.length a4, iv r7.2.2]) (iv r7.2.2) S (wN rfl) rfl rfl rfl rfl (lb rfl) fun a S => ?_
 refine sN S fun a S => ?_
 refine sN S fun a S => ?_
 refine sN S fun a S => ?_
 refine lT (ae _ _ (sSeq (fun ah ab => sRegion (sM S fun a S => ?_))))
 refine sM S fun a S => ?_
 refine sN S fun a S => ?_
 refine sN S fun a S => ?_
 refine lT (ab _ _ ?_)
 obtain rfl := tS h
 exact wp_ret (sRet (.tuple #[.slice a0 r7.2.1.length a4, iv r7.2.2]) S (rsl2 rfl (rvT (t := 4) (v := .slice a0 r7.2.1.length a4) S rfl) (rvT (t := 5) (v := iv r7.2.2) S rfl)) ⟨(.slice a0 r7.2.1.length a4), rfl, S.mem.sel [] [1] (by decide) rfl rfl⟩)
def anc_raddleref25_Same_0 : List (List Nat) := [[], [], [0, 1], [0, 1, 2], [], [], [4, 5], [4, 5, 6], [0, 1, 2, 3, 4, 5, 6, 7]]
noncomputable def raddleref25_Same_l1 (p0 : (List api_Stitch)) (p1 : (List api_Stitch)) : Int → Option (Int ⊕ (Bool ⊕ Unit)) := fun s0 => match s0 with
 | a0 =>
  if decide (a0 < (p0.length : Int)) then
   (idxO p0 a0).bind fun a4 =>
   (idxO p1 a0).bind fun a5 =>
   if !((a4.Kind == a5.Kind) && ((a4.Purl == a5.Purl) && ((a4.A == a5.A) && ((a4.B == a5.B) && true)))) then
    some (.inr (.inl false))
   else
    some (.inl (w64 (a0 + 1)))
  else
   some (.inr (.inr ()))
noncomputable def F_raddleref25_Same (p0 : (List api_Stitch)) (p1 : (List api_Stitch)) : Option Bool :=
 if (p0.length : Int) != (p1.length : Int) then
  some false
 else
  Option.bind (α := Unit ⊕ Bool) (
   (whileO (raddleref25_Same_l1 p0 p1) 0).bind fun z0 => match z0 with
    | .inl z =>
     some (.inr z)
    | .inr _ =>
     some (.inl ())) fun z0 => match z0 with
   | .inl _ =>
    some true
   | .inr z =>
    some z
theorem c_raddleref25_Same (E : Nat → Prop) (w0 : World) (p0 : (List api_Stitch)) (v0 : Value) (p1 : (List api_Stitch)) (v1 : Value) (r : Bool) (h : F_raddleref25_Same p0 p1 = some r) (S : St0 E [] w0 w0 [] [fRep (rL r_api_Stitch) (v0) p0, fRep (rL r_api_Stitch) (v1) p1]) :
 Calls Try.prog 30 #[v0, v1] w0 (Ret (X := Unit) E [] w0 (fun _ => .bool r) (fun _ => []) (fun _ => [])) := by
 unfold F_raddleref25_Same at h
 obtain ⟨a8, a9, _, rfl, _⟩ := S.know (i := 0) (e := fRep (rL r_api_Stitch) (v0) p0) rfl
 obtain ⟨aa, ab, _, rfl, _⟩ := S.know (i := 1) (e := fRep (rL r_api_Stitch) (v1) p1) rfl
 refine sEnter (args := [.slice a8 p0.length a9, .slice aa p1.length ab]) 26 Try.func30 rfl rfl (by simp) S (fun a S => ?_)
 refine sSeq (fun K5 aA => sRegion (sN S fun a S => ?_))
 refine lT (aA _ _ (sSeq (fun K6 aC => sSeq (fun K7 aG => sRegion (sM S fun a S => ?_)))))
 refine sLen S (wN rfl) rfl Try.underlying47 rfl rfl (lb rfl) fun a S => ?_
 refine sM S fun a S => ?_
 refine sLen S (wN rfl) rfl Try.underlying47 rfl rfl (lb rfl) fun a S => ?_
 refine sBin _ S (wN rfl) rfl rfl rfl (bNe _ _ _ _ .i64 (p0.length : Int) (p1.length : Int)) rfl (lb rfl) fun a S => ?_
 refine lT (aG _ _ ?_)
 rcases iS h with ⟨ae, h⟩ | ⟨ae, h⟩
 ·refine sCondT S rfl ae ?_
  refine sSeq (fun K9 aH => sRegion (sN S fun a S => ?_))
  refine lT (aH _ _ ?_)
  obtain rfl := tS h
  exact wp_ret (rThen (sRet (.bool false) S (rsl1 rfl (rvT (t := 4) (v := .bool false) S rfl)) ⟨(), rfl, S.mem.sel [] [] (by decide) rfl rfl⟩))
 refine sCondF S rfl ae ?_
 refine wp_skip (leafT (aC _ _ ?_))
 obtain ⟨aI, h, aw⟩ := bS h
 refine sCut (fun a w => .inl () = aI ∧ St [] E [] w0 26 a w [] [] []) ?_ (fun a w hI => ?_)
 rotate_left
 ·obtain ⟨rfl, S⟩ := hI
  have h := aw
  try dsimp only at h
  refine sSeq (fun aJ af => sRegion (sN S fun a S => ?_))
  refine lT (af _ _ ?_)
  obtain rfl := tS h
  exact wp_ret (sRet (.bool true) S (rsl1 rfl (rvT (t := 4) (v := .bool true) S rfl)) ⟨(), rfl, S.mem.sel [] [] (by decide) rfl rfl⟩)
 refine sSeq (fun aK ag => sRegion (sN S fun a S => ?_))
 refine lT (ag _ _ (wp_block ?_))
 obtain ⟨aL, hl, ax⟩ := bS h
 refine sLoop hl (fun s0 a w => match s0 with | a5 => St [] E [] w0 26 a w [(0, .slice a8 p0.length a9), (1, .slice aa p1.length ab), (5, iv a5)] [] [fRep (rL r_api_Stitch) (.slice a8 p0.length a9) p0, fRep (rL r_api_Stitch) (.slice aa p1.length ab) p1]) (S.fix [] [0, 1] (by decide) rfl rfl rfl) ?_
 clear hl h
 intro a5 a w c0 hI h ac
 unfold raddleref25_Same_l1 at h
 dsimp only at h hI
 have S := hI
 refine sSeq (fun aM ah => sSeq (fun aO ai => sRegion (sM S fun a S => ?_)))
 refine sM S fun a S => ?_
 refine sLen S (wN rfl) rfl Try.underlying47 rfl rfl (lb rfl) fun a S => ?_
 refine sBin _ S (wN rfl) rfl rfl rfl (bLt _ _ _ _ .i64 a5 (p0.length : Int)) rfl (lb rfl) fun a S => ?_
 refine lT (ai _ _ ?_)
 rcases iS h with ⟨a6, h⟩ | ⟨a6, h⟩
 rotate_left
 ·refine sCondF S rfl a6 ?_
  obtain rfl := tS h
  obtain rfl := ac _ rfl
  have h := ax
  try dsimp only at h
  exact wp_exit (xThen (xThen (xHit (leafT (⟨Option.some.inj h, S.fix [] [] (by decide) rfl rfl rfl⟩)))))
 refine sCondT S rfl a6 ?_
 refine wp_skip (leafT (ah _ _ ?_))
 refine sSeq (fun aP aj => wp_block ?_)
 refine sSeq (fun aQ ak => ?_)
 obtain ⟨a0, am, h⟩ := bS h
 obtain ⟨a4, ao, h⟩ := bS h
 obtain ⟨ap, aq, S⟩ := pIdx (P := Try.prog) (r := r_api_Stitch) (v := .slice a8 p0.length a9) (xs := p0) (j := a5) 47 81 0 S Try.underlying47 rfl rfl am
 obtain ⟨ay, S⟩ := pLoad (r := r_api_Stitch) (q := ap) (x := a0) 0 S rfl
 obtain rfl : ay = .agg #[.int .u8 a0.Kind, .bool a0.Purl, iv a0.A, iv a0.B] := S.mem.know (i := 1) (e := fRep r_api_Stitch (ay) a0) rfl
 obtain ⟨ar, au, S⟩ := pIdx (P := Try.prog) (r := r_api_Stitch) (v := .slice aa p1.length ab) (xs := p1) (j := a5) 47 81 4 S Try.underlying47 rfl rfl ao
 obtain ⟨az, S⟩ := pLoad (r := r_api_Stitch) (q := ar) (x := a4) 0 S rfl
 obtain rfl : az = .agg #[.int .u8 a4.Kind, .bool a4.Purl, iv a4.A, iv a4.B] := S.mem.know (i := 1) (e := fRep r_api_Stitch (az) a4) rfl
 refine sDraw (nf := []) (W := [(0, 17, .slice a8 p0.length a9), (1, 18, iv a5), (2, 19, ap), (3, 20, .agg #[.int .u8 a0.Kind, .bool a0.Purl, iv a0.A, iv a0.B]), (4, 21, .slice aa p1.length ab), (5, 22, iv a5), (6, 23, ar), (7, 24, .agg #[.int .u8 a4.Kind, .bool a4.Purl, iv a4.A, iv a4.B]), (8, 25, .bool (!((a0.Kind == a4.Kind) && ((a0.Purl == a4.Purl) && ((a0.A == a4.A) && ((a0.B == a4.B) && true))))))]) rfl S ?_
 refine node_by (A := anc_raddleref25_Same_0) 9 (by kernel_rfl) (by kernel_rfl) (by kernel_rfl) (by kernel_rfl) (by kernel_rfl) [0, 1, 2, 3, 4, 5, 6, 7, 8] (by kernel_rfl) (by decide) (by decide) (fF ?_ (fF ?_ (fF ?_ (fF ?_ (fF ?_ (fF ?_ (fF ?_ (fF ?_ (fF ?_ (trivial)))))))))) [(0, .slice a8 p0.length a9), (1, .slice aa p1.length ab), (5, iv a5), (25, .bool (!((a0.Kind == a4.Kind) && ((a0.Purl == a4.Purl) && ((a0.A == a4.A) && ((a0.B == a4.B) && true))))))] (fin_of [none, none, none, some 8] rfl (by kernel_rfl) (by kernel_rfl)) (fun _ a w S => ?_)
 ·exact fM 0 none rfl rfl rfl rfl (.inl rfl) rfl rfl rfl
 ·exact fM 1 none rfl rfl rfl rfl (.inl rfl) rfl rfl rfl
 ·refine fJ [(17, _), (18, _)] 2 [some 0, some 1] fun G a w S => ?_
  exact sIdxV S (wN rfl) rfl rfl rfl aq rfl (lb rfl) fun a S => leafL ⟨rfl, S⟩
 ·refine fJ [(19, _)] 3 [some 2] fun G a w S => ?_
  exact sLoadVN (vq := ap) 3 [.int .u8 a0.Kind, .bool a0.Purl, iv a0.A, iv a0.B] S (wN rfl) rfl rfl rfl rfl rfl rfl (lb rfl) fun a S => leafL ⟨rfl, S⟩
 ·exact fM 4 none rfl rfl rfl rfl (.inl rfl) rfl rfl rfl
 ·exact fM 5 none rfl rfl rfl rfl (.inl rfl) rfl rfl rfl
 ·refine fJ [(21, _), (22, _)] 6 [some 4, some 5] fun G a w S => ?_
  exact sIdxV S (wN rfl) rfl rfl rfl au rfl (lb rfl) fun a S => leafL ⟨rfl, S⟩
 ·refine fJ [(23, _)] 7 [some 6] fun G a w S => ?_
  exact sLoadVN (vq := ar) 0 [.int .u8 a4.Kind, .bool a4.Purl, iv a4.A, iv a4.B] S (wN rfl) rfl rfl rfl rfl rfl rfl (lb rfl) fun a S => leafL ⟨rfl, S⟩
 ·refine fJ [(20, _), (24, _)] 8 [some 3, some 7] fun G a w S => ?_
  exact sBin _ S (wN rfl) rfl rfl rfl (bNeV _ _ _ _ #[.int .u8 a0.Kind, .bool a0.Purl, iv a0.A, iv a0.B] #[.int .u8 a4.Kind, .bool a4.Purl, iv a4.A, iv a4.B] ((a0.Kind == a4.Kind) && ((a0.Purl == a4.Purl) && ((a0.A == a4.A) && ((a0.B == a4.B) && true)))) (by kernel_rfl) (eqlV_of (by kernel_rfl))) rfl (lb rfl) fun a S => leafL ⟨rfl, S⟩
 refine leafT (ak _ _ ?_)
 rcases iS h with ⟨a7, h⟩ | ⟨a7, h⟩
 rotate_left
 ·refine sCondF S rfl a7 ?_
  refine wp_skip (leafB (leafT (aj _ _ ?_)))
  refine sRegion (sM S fun a S => ?_)
  refine sBin _ S (wN rfl) rfl rfl rfl (bAdd _ _ _ _ a5 1) rfl (lb rfl) fun a S => ?_
  refine sN S fun a S => ?_
  exact lT (⟨w64 (a5 + 1), (Option.some.inj h).symm, (S.fix [] [6, 7] (by decide) rfl rfl rfl)⟩)
 refine sCondT S rfl a7 ?_
 refine sSeq (fun aR av => sRegion (sN S fun a S => ?_))
 refine lT (av _ _ ?_)
 obtain rfl := tS h
 obtain rfl := ac _ rfl
 have h := ax
 try dsimp only at h
 obtain rfl := tS h
 have h := aw
 try dsimp only at h
 obtain rfl := tS h
 exact wp_ret (rBlock (rThen (rThen (rBlock (rThen (sRet (.bool false) S (rsl1 rfl (rvT (t := 4) (v := .bool false) S rfl)) ⟨(), rfl, S.mem.sel [] [] (by decide) rfl rfl⟩))))))
theorem steq (x y : api_Stitch) : ((x.Kind == y.Kind) && ((x.Purl == y.Purl) && ((x.A == y.A) && ((x.B == y.B) && true)))) = decide (x = y) := by
 by_cases h : x = y
 ·subst h; simp
 ·rw [dF h]
  refine Bool.eq_false_iff.2 fun hb => h ?_
  simp only [Bool.and_eq_true, beq_iff_eq, and_true] at hb
  cases x; cases y
  simp only at hb
  obtain ⟨h1, h2, h3, h4⟩ := hb
  rw [h1, h2, h3, h4]
theorem min3_nat (x y z : Nat) : min3 (x : Int) (y : Int) (z : Int) = ((min (min x y) z : Nat) : Int) := by
 unfold min3
 repeat' split
 all_goals omega
def stS {β : Type} (z : β) (W : Nat → β) (n k : Nat) : List β := (List.range (n + 1)).map fun j => if k ≤ j then W j else z
theorem stS_len {β : Type} (z : β) (W : Nat → β) (n k : Nat) : (stS z W n k).length = n + 1 := by simp [stS]
theorem stS_get {β : Type} (z : β) (W : Nat → β) {n k j : Nat} (hj : j ≤ n) (hk : k ≤ j) : idxO (stS z W n k) (j : Int) = some (W j) := by
 rw [idxO_nat (by rw [stS_len]; omega)]
 simp [stS, hk]
theorem stS_idx {β : Type} (z : β) (W : Nat → β) {n k j : Nat} (hj : j ≤ n) : ∃ y, idxO (stS z W n k) (j : Int) = some y := ⟨_, idxO_nat (by rw [stS_len]; omega)⟩
theorem stS_list {β : Type} (z : β) (W : Nat → β) (n k : Nat) : (stS z W n (k + 1)).set k (W k) = stS z W n k := by
 apply List.ext_getElem?
 intro t
 by_cases ht : t < n + 1
 ·rw [List.getElem?_set]
  simp only [stS, List.getElem?_map, List.getElem?_range ht, Option.map_some, List.length_map, List.length_range]
  by_cases e : k = t
  ·subst e; rw [if_pos rfl, if_pos ht, if_pos (Nat.le_refl _)]
  ·rw [if_neg e]
   by_cases e2 : k ≤ t
   ·rw [if_pos (by omega), if_pos e2]
   ·rw [if_neg (by omega), if_neg e2]
 ·rw [List.getElem?_eq_none (by simp [stS]; omega), List.getElem?_eq_none (by simp [stS]; omega)]
theorem stS_set {β : Type} (z : β) (W : Nat → β) {n k : Nat} (hk : k ≤ n) {v : β} (hv : v = W k) : setO (stS z W n (k + 1)) (k : Int) v = some (stS z W n k) := by
 rw [setO_nat (by rw [stS_len]; omega), hv, stS_list]
theorem stS_same {β : Type} (z : β) (W : Nat → β) {n k : Nat} (h : W k = z) : stS z W n (k + 1) = stS z W n k := by
 unfold stS
 refine map_cong fun j _ => ?_
 by_cases e : k = j
 ·subst e; rw [if_neg (by omega), if_pos (Nat.le_refl _), h]
 ·by_cases e2 : k ≤ j
  ·rw [if_pos (by omega), if_pos e2]
  ·rw [if_neg (by omega), if_neg e2]
theorem stS_top {β : Type} (z : β) (W : Nat → β) (n : Nat) : stS z W n (n + 1) = List.replicate (n + 1) z := by
 unfold stS
 have : (List.range (n + 1)).map (fun j => if n + 1 ≤ j then W j else z) = (List.range (n + 1)).map fun _ => z := map_cong fun j hj => if_neg (by omega)
 rw [this]
 simp [List.map_const']
theorem loop_dn {σ τ : Type} {B : Int × σ → Option ((Int × σ) ⊕ τ)} (n : Nat) (st : Nat → σ) {t : τ} (h : ∀ k, k ≤ n → B ((k : Int), st (k + 1)) = some (.inl ((k : Int) - 1, st k))) (hn : B (-1, st 0) = some (.inr t)) : whileO B ((n : Int), st (n + 1)) = some t := by
 have key : ∀ k, k ≤ n + 1 → whileO B ((k : Int) - 1, st k) = some t := by
  intro k
  induction k with
  | zero => intro _; exact whileO_done hn
  | succ k ih =>
   intro hk
   rw [show (((k + 1 : Nat) : Int) - 1) = (k : Int) by omega, whileO_step (h k (by omega))]
   exact ih (by omega)
 have := key (n + 1) (Nat.le_refl _)
 rw [show (((n + 1 : Nat) : Int) - 1) = (n : Int) by omega] at this
 exact this
theorem loop_dn2 {σ τ : Type} {B : σ × Int → Option ((σ × Int) ⊕ τ)} (n : Nat) (st : Nat → σ) {t : τ} (h : ∀ k, k ≤ n → B (st (k + 1), (k : Int)) = some (.inl (st k, (k : Int) - 1))) (hn : B (st 0, -1) = some (.inr t)) : whileO B (st (n + 1), (n : Int)) = some t := by
 have key : ∀ k, k ≤ n + 1 → whileO B (st k, (k : Int) - 1) = some t := by
  intro k
  induction k with
  | zero => intro _; exact whileO_done hn
  | succ k ih =>
   intro hk
   rw [show (((k + 1 : Nat) : Int) - 1) = (k : Int) by omega, whileO_step (h k (by omega))]
   exact ih (by omega)
 have := key (n + 1) (Nat.le_refl _)
 rw [show (((n + 1 : Nat) : Int) - 1) = (n : Int) by omega] at this
 exact this
theorem w64_pred {k : Nat} (h : k ≤ 9223372036854775807) : w64 ((k : Int) - 1) = (k : Int) - 1 := w64_of (by omega) (by omega)
section
variable {α : Type} (al : α → Nat) (bo : α → α → Nat)
def Wg (a b : List α) (i k : Nat) : Nat := wed al bo (a.drop i) (b.drop k)
end
section
variable {α : Type} {al : α → Nat} {bo : α → α → Nat} {a b : List α}
theorem Wg_end : Wg al bo a b a.length b.length = 0 := by unfold Wg; rw [List.drop_length, List.drop_length]; rfl
theorem Wg_b {k : Nat} (hk : k < b.length) : Wg al bo a b a.length k = Wg al bo a b a.length (k + 1) + al b[k] := by
 unfold Wg; rw [List.drop_length, List.drop_eq_getElem_cons hk]; rfl
theorem Wg_a {i : Nat} (hi : i < a.length) : Wg al bo a b i b.length = Wg al bo a b (i + 1) b.length + al a[i] := by
 unfold Wg; rw [List.drop_length, List.drop_eq_getElem_cons hi]; rfl
theorem Wg_ab {i k : Nat} (hi : i < a.length) (hk : k < b.length) : Wg al bo a b i k = min (min (Wg al bo a b (i + 1) k + al a[i]) (Wg al bo a b i (k + 1) + al b[k])) (Wg al bo a b (i + 1) (k + 1) + bo a[i] b[k]) := by
 unfold Wg; rw [List.drop_eq_getElem_cons hi, List.drop_eq_getElem_cons hk, wed_cc]
theorem sumA_drop (b : List α) (k : Nat) : sumA al (b.drop k) ≤ sumA al b := by
 induction b generalizing k with
 | nil => simp [sumA]
 | cons y b ih =>
  cases k with
  | zero => exact Nat.le_refl _
  | succ k => have := ih k; simp only [List.drop_succ_cons, sumA]; omega
theorem Wg_bd (i k : Nat) : Wg al bo a b i k ≤ sumA al a + sumA al b := by
 have h1 := wed_sum (al := al) (bo := bo) (a.drop i) (b.drop k)
 have h2 := sumA_drop (al := al) a i
 have h3 := sumA_drop (al := al) b k
 unfold Wg
 omega
end
def tbS {α : Type} (al : α → Nat) (bo : α → α → Nat) (a b : List α) (i : Nat) : List (List Int) := stS [] (fun i => stS 0 (fun k => ((Wg al bo a b i k : Nat) : Int)) b.length 0) a.length i
theorem tb_row {α : Type} (al : α → Nat) (bo : α → α → Nat) (a b : List α) {i j : Nat} (hi : i ≤ a.length) (hj : j ≤ i) : idxO (tbS al bo a b j) (i : Int) = some (stS 0 (fun k => ((Wg al bo a b i k : Nat) : Int)) b.length 0) := stS_get _ _ hi hj
theorem tb_val {α : Type} (al : α → Nat) (bo : α → α → Nat) (a b : List α) (i : Nat) {k : Nat} (hk : k ≤ b.length) : idxO (stS 0 (fun k => ((Wg al bo a b i k : Nat) : Int)) b.length 0) (k : Int) = some ((Wg al bo a b i k : Nat) : Int) := stS_get _ _ hk (Nat.zero_le _)
theorem rowS_set {α : Type} (al : α → Nat) (bo : α → α → Nat) (a b : List α) (i : Nat) {k : Nat} (hk : k ≤ b.length) : setO (stS (0 : Int) (fun k => ((Wg al bo a b i k : Nat) : Int)) b.length (k + 1)) (k : Int) ((Wg al bo a b i k : Nat) : Int) = some (stS 0 (fun k => ((Wg al bo a b i k : Nat) : Int)) b.length k) := stS_set _ _ hk rfl
theorem ctable_eq (a b : List api_Stitch) (ha : a.length ≤ 1000) (hb : b.length ≤ 1000) : F_compare_cellTable a b = some (tbS al1 bo1 a b 0) := by
 have hbd : ∀ i k, Wg al1 bo1 a b i k ≤ 2000 := by
  intro i k
  have h1 := Wg_bd (al := al1) (bo := bo1) (a := a) (b := b) i k
  rw [sumA_one (al := al1) (fun _ => rfl), sumA_one (al := al1) (fun _ => rfl)] at h1
  omega
 have hc2 : ∀ x y, F_compare_cellTable_2 x y = some ((bo1 x y : Nat) : Int) := by
  intro x y
  unfold F_compare_cellTable_2
  rw [steq]
  by_cases h : x = y
  ·rw [dT h, bo1_eq h]; rfl
  ·rw [dF h, bo1_ne h]; rfl
 have hc1 : ∀ x, F_compare_cellTable_1 x = some ((al1 x : Nat) : Int) := fun x => rfl
 have hrow : ∀ i, i ≤ a.length → whileO (compare_table_api_Stitch__s0_l1 (i : Int) a b (tbS al1 bo1 a b (i + 1))) ((b.length : Int), List.replicate (b.length + 1) 0) = some (stS 0 (fun k => ((Wg al1 bo1 a b i k : Nat) : Int)) b.length 0) := by
  intro i hi
  have h := loop_dn (B := compare_table_api_Stitch__s0_l1 (i : Int) a b (tbS al1 bo1 a b (i + 1))) b.length (fun k => stS 0 (fun k => ((Wg al1 bo1 a b i k : Nat) : Int)) b.length k) (t := stS 0 (fun k => ((Wg al1 bo1 a b i k : Nat) : Int)) b.length 0)
   (fun k hk => by
    have b1 := hbd i (k + 1)
    have b2 := hbd (i + 1) k
    have b3 := hbd (i + 1) (k + 1)
    obtain ⟨y, hy⟩ := stS_idx (0 : Int) (fun k => ((Wg al1 bo1 a b i k : Nat) : Int)) (k := k + 1) hk
    unfold compare_table_api_Stitch__s0_l1
    simp only [dT (show (0 : Int) ≤ (k : Int) by omega), if_true]
    by_cases e1 : i = a.length
    ·by_cases e2 : k = b.length
     ·simp only [bT (show (i : Int) = (a.length : Int) by omega), bT (show (k : Int) = (b.length : Int) by omega), if_true, Option.bind_some, w64_pred (show k ≤ 9223372036854775807 by omega)]
      rw [stS_same (0 : Int) (fun k => ((Wg al1 bo1 a b i k : Nat) : Int)) (by rw [e1, e2, Wg_end]; rfl)]
     ·have hk2 : k < b.length := by omega
      simp only [bT (show (i : Int) = (a.length : Int) by omega), bF (show ¬ (k : Int) = (b.length : Int) by omega), if_true, Bool.false_eq_true, if_false, Option.bind_some, w64_succ (show k < 9223372036854775807 by omega), stS_get (0 : Int) (fun k => ((Wg al1 bo1 a b i k : Nat) : Int)) (show k + 1 ≤ b.length by omega) (Nat.le_refl _), idxO_nat hk2, hc1, hy, w64_pred (show k ≤ 9223372036854775807 by omega)]
      have hv : w64 (((Wg al1 bo1 a b i (k + 1) : Nat) : Int) + ((al1 b[k] : Nat) : Int)) = ((Wg al1 bo1 a b i k : Nat) : Int) := by rw [wadd (by simp only [al1]; omega), e1, Wg_b hk2]
      rw [hv, rowS_set al1 bo1 a b i hk]
      rfl
    ·have hi2 : i < a.length := by omega
     by_cases e2 : k = b.length
     ·simp only [bF (show ¬ (i : Int) = (a.length : Int) by omega), bT (show (k : Int) = (b.length : Int) by omega), if_true, Bool.false_eq_true, if_false, Option.bind_some, w64_succ (show i < 9223372036854775807 by omega), tb_row al1 bo1 a b (show i + 1 ≤ a.length by omega) (Nat.le_refl _), tb_val al1 bo1 a b (i + 1) hk, idxO_nat hi2, hc1, hy, w64_pred (show k ≤ 9223372036854775807 by omega)]
      have hv : w64 (((Wg al1 bo1 a b (i + 1) k : Nat) : Int) + ((al1 a[i] : Nat) : Int)) = ((Wg al1 bo1 a b i k : Nat) : Int) := by rw [wadd (by simp only [al1]; omega), e2, Wg_a hi2]
      rw [hv, rowS_set al1 bo1 a b i hk]
      rfl
     ·have hk2 : k < b.length := by omega
      have b4 := bo1_le a[i] b[k]
      simp only [bF (show ¬ (i : Int) = (a.length : Int) by omega), bF (show ¬ (k : Int) = (b.length : Int) by omega), Bool.false_eq_true, if_false, Option.bind_some, w64_succ (show i < 9223372036854775807 by omega), w64_succ (show k < 9223372036854775807 by omega), tb_row al1 bo1 a b (show i + 1 ≤ a.length by omega) (Nat.le_refl _), tb_val al1 bo1 a b (i + 1) hk, tb_val al1 bo1 a b (i + 1) (show k + 1 ≤ b.length by omega), stS_get (0 : Int) (fun k => ((Wg al1 bo1 a b i k : Nat) : Int)) (show k + 1 ≤ b.length by omega) (Nat.le_refl _), idxO_nat hi2, idxO_nat hk2, hc1, hc2, hy, w64_pred (show k ≤ 9223372036854775807 by omega)]
      have hv : min3 (w64 (((Wg al1 bo1 a b (i + 1) k : Nat) : Int) + ((al1 a[i] : Nat) : Int))) (w64 (((Wg al1 bo1 a b i (k + 1) : Nat) : Int) + ((al1 b[k] : Nat) : Int))) (w64 (((Wg al1 bo1 a b (i + 1) (k + 1) : Nat) : Int) + ((bo1 a[i] b[k] : Nat) : Int))) = ((Wg al1 bo1 a b i k : Nat) : Int) := by
       rw [wadd (a := Wg al1 bo1 a b (i + 1) k) (by simp only [al1]; omega), wadd (a := Wg al1 bo1 a b i (k + 1)) (by simp only [al1]; omega), wadd (by omega), min3_nat, Wg_ab hi2 hk2]
      rw [hv, rowS_set al1 bo1 a b i hk]
      rfl)
   (by
    unfold compare_table_api_Stitch__s0_l1
    simp only [dF (show ¬ (0 : Int) ≤ -1 by decide), Bool.false_eq_true, if_false])
  rw [stS_top] at h
  exact h
 have h := loop_dn2 (B := compare_table_api_Stitch__s0_l2 b a) a.length (fun i => tbS al1 bo1 a b i) (t := tbS al1 bo1 a b 0)
  (fun i hi => by
   obtain ⟨y, hy⟩ := stS_idx ([] : List Int) (fun i => stS 0 (fun k => ((Wg al1 bo1 a b i k : Nat) : Int)) b.length 0) (k := i + 1) hi
   have hy2 : idxO (tbS al1 bo1 a b (i + 1)) (i : Int) = some y := hy
   unfold compare_table_api_Stitch__s0_l2
   simp only [dT (show (0 : Int) ≤ (i : Int) by omega), if_true, w64_succ (show b.length < 9223372036854775807 by omega)]
   rw [makeO_of (k := b.length + 1) rfl (by omega)]
   simp only [Option.bind_some, hy2, hrow i hi, w64_pred (show i ≤ 9223372036854775807 by omega), Int.toNat_natCast]
   rw [show (tbS al1 bo1 a b (i + 1)).set i (stS 0 (fun k => ((Wg al1 bo1 a b i k : Nat) : Int)) b.length 0) = tbS al1 bo1 a b i from stS_list _ _ _ _])
  (by
   unfold compare_table_api_Stitch__s0_l2
   simp only [dF (show ¬ (0 : Int) ≤ -1 by decide), Bool.false_eq_true, if_false])
 have ht : tbS al1 bo1 a b (a.length + 1) = List.replicate (a.length + 1) [] := stS_top _ _ _
 rw [ht] at h
 unfold F_compare_cellTable F_compare_table_api_Stitch__s0
 simp only [w64_succ (show a.length < 9223372036854775807 by omega)]
 rw [makeO_of (k := a.length + 1) rfl (by omega)]
 simp only [Option.bind_some, h]
theorem tb_at (a b : List api_Stitch) {i k : Nat} (hi : i ≤ a.length) (hk : k ≤ b.length) : ∃ r, idxO (tbS al1 bo1 a b 0) (i : Int) = some r ∧ idxO r (k : Int) = some ((D1 (a.drop i) (b.drop k) : Nat) : Int) :=
 ⟨_, tb_row al1 bo1 a b hi (Nat.zero_le _), tb_val al1 bo1 a b i hk⟩
theorem D1_bd (a b : List api_Stitch) : D1 a b ≤ a.length + b.length := by have := D1_max a b; omega
theorem edits_loop (a b : List api_Stitch) (ha : a.length ≤ 1000) (hb : b.length ≤ 1000) : ∀ (n i k : Nat) (out : List api_CellStep), i ≤ a.length → k ≤ b.length → (a.length - i) + (b.length - k) ≤ n → out.length + n ≤ 100000 →
 whileO (compare_Edits_l2 a b (tbS al1 bo1 a b 0)) (out, (i : Int), (k : Int)) = some (out ++ eds n (a.drop i) (b.drop k)) := by
 intro n
 induction n with
 | zero =>
  intro i k out hi hk h _
  have e1 : i = a.length := by omega
  have e2 : k = b.length := by omega
  refine whileO_done ?_
  unfold compare_Edits_l2
  simp only [dF (show ¬ (i : Int) < (a.length : Int) by omega), dF (show ¬ (k : Int) < (b.length : Int) by omega), Bool.false_eq_true, if_false, Option.bind_some, eds, List.append_nil]
 | succ n ih =>
  intro i k out hi hk h ho
  by_cases c1 : i < a.length
  ·obtain ⟨r, h1, h2⟩ := tb_at a b hi hk
   obtain ⟨r', h3, h4⟩ := tb_at a b (show i + 1 ≤ a.length by omega) hk
   have bd := D1_bd (a.drop (i + 1)) (b.drop k)
   rw [List.length_drop, List.length_drop] at bd
   by_cases c2 : k < b.length
   ·obtain ⟨r'', h5, h6⟩ := tb_at a b (show i + 1 ≤ a.length by omega) (show k + 1 ≤ b.length by omega)
    obtain rfl : r' = r'' := Option.some.inj (h3.symm.trans h5)
    have bd2 := D1_bd (a.drop (i + 1)) (b.drop (k + 1))
    rw [List.length_drop, List.length_drop] at bd2
    rw [List.drop_eq_getElem_cons c1, List.drop_eq_getElem_cons c2] at *
    simp only [eds]
    have hstep : compare_Edits_l2 a b (tbS al1 bo1 a b 0) (out, (i : Int), (k : Int)) =
     (if a[i] = b[k] ∧ D1 (a[i] :: a.drop (i + 1)) (b[k] :: b.drop (k + 1)) = D1 (a.drop (i + 1)) (b.drop (k + 1)) then some (.inl (out ++ [⟨1, z0⟩], ((i + 1 : Nat) : Int), ((k + 1 : Nat) : Int)))
     else if ¬ a[i] = b[k] ∧ D1 (a[i] :: a.drop (i + 1)) (b[k] :: b.drop (k + 1)) = 1 + D1 (a.drop (i + 1)) (b.drop (k + 1)) then some (.inl (out ++ [⟨2, b[k]⟩], ((i + 1 : Nat) : Int), ((k + 1 : Nat) : Int)))
     else if D1 (a[i] :: a.drop (i + 1)) (b[k] :: b.drop (k + 1)) = 1 + D1 (a.drop (i + 1)) (b[k] :: b.drop (k + 1)) then some (.inl (out ++ [⟨4, z0⟩], ((i + 1 : Nat) : Int), (k : Int)))
     else some (.inl (out ++ [⟨3, b[k]⟩], (i : Int), ((k + 1 : Nat) : Int)))) := by
     have w1 : w64 (1 + ((D1 (a.drop (i + 1)) (b.drop (k + 1)) : Nat) : Int)) = ((1 + D1 (a.drop (i + 1)) (b.drop (k + 1)) : Nat) : Int) := by rw [w64_of (by omega) (by omega)]; omega
     have w2 : w64 (1 + ((D1 (a.drop (i + 1)) (b[k] :: b.drop (k + 1)) : Nat) : Int)) = ((1 + D1 (a.drop (i + 1)) (b[k] :: b.drop (k + 1)) : Nat) : Int) := by rw [w64_of (by omega) (by omega)]; omega
     generalize D1 (a.drop (i + 1)) (b.drop (k + 1)) = d2 at *
     generalize D1 (a.drop (i + 1)) (b[k] :: b.drop (k + 1)) = d3 at *
     generalize D1 (a[i] :: a.drop (i + 1)) (b[k] :: b.drop (k + 1)) = d1 at *
     unfold compare_Edits_l2
     simp only [dT (show (i : Int) < (a.length : Int) by omega), dT (show (k : Int) < (b.length : Int) by omega), if_true, Option.bind_some, h1, h2, h3, h4, h6, idxO_nat c1, idxO_nat c2, steq, w64_succ (show i < 9223372036854775807 by omega), w64_succ (show k < 9223372036854775807 by omega), w1, w2]
     have hap : ∀ s : api_CellStep, appO out [s] = some (out ++ [s]) := fun s => appO_of (by simp; omega)
     by_cases q1 : a[i] = b[k]
     ·by_cases q2 : d1 = d2
      ·rw [if_pos (show a[i] = b[k] ∧ d1 = d2 from ⟨q1, q2⟩)]
       simp only [dT q1, if_true, bT (show (d1 : Int) = (d2 : Int) by omega), Option.bind_some, hap]
       rfl
      ·rw [if_neg (show ¬ (a[i] = b[k] ∧ d1 = d2) from fun x => q2 x.2), if_neg (show ¬ (¬ a[i] = b[k] ∧ d1 = 1 + d2) from fun x => x.1 q1)]
       by_cases q3 : d1 = 1 + d3
       ·rw [if_pos q3]
        simp only [dT q1, if_true, bF (show ¬ (d1 : Int) = (d2 : Int) by omega), Bool.false_eq_true, if_false, Bool.not_true, bT (show (d1 : Int) = ((1 + d3 : Nat) : Int) by omega), Option.bind_some, hap]
        rfl
       ·rw [if_neg q3]
        simp only [dT q1, if_true, bF (show ¬ (d1 : Int) = (d2 : Int) by omega), Bool.false_eq_true, if_false, Bool.not_true, bF (show ¬ (d1 : Int) = ((1 + d3 : Nat) : Int) by omega), Option.bind_some, hap]
     ·rw [if_neg (show ¬ (a[i] = b[k] ∧ d1 = d2) from fun x => q1 x.1)]
      by_cases q2 : d1 = 1 + d2
      ·rw [if_pos (show ¬ a[i] = b[k] ∧ d1 = 1 + d2 from ⟨q1, q2⟩)]
       simp only [dF q1, Bool.false_eq_true, if_false, Bool.not_false, if_true, bT (show (d1 : Int) = ((1 + d2 : Nat) : Int) by omega), Option.bind_some, hap]
      ·rw [if_neg (show ¬ (¬ a[i] = b[k] ∧ d1 = 1 + d2) from fun x => q2 x.2)]
       by_cases q3 : d1 = 1 + d3
       ·rw [if_pos q3]
        simp only [dF q1, Bool.false_eq_true, if_false, Bool.not_false, if_true, bF (show ¬ (d1 : Int) = ((1 + d2 : Nat) : Int) by omega), bT (show (d1 : Int) = ((1 + d3 : Nat) : Int) by omega), Option.bind_some, hap]
        rfl
       ·rw [if_neg q3]
        simp only [dF q1, Bool.false_eq_true, if_false, Bool.not_false, if_true, bF (show ¬ (d1 : Int) = ((1 + d2 : Nat) : Int) by omega), bF (show ¬ (d1 : Int) = ((1 + d3 : Nat) : Int) by omega), Option.bind_some, hap]
    by_cases q1 : a[i] = b[k] ∧ D1 (a[i] :: a.drop (i + 1)) (b[k] :: b.drop (k + 1)) = D1 (a.drop (i + 1)) (b.drop (k + 1))
    ·rw [if_pos q1] at hstep ⊢
     rw [whileO_step hstep, ih (i + 1) (k + 1) _ (by omega) (by omega) (by omega) (by simp; omega), List.append_assoc]
     rfl
    rw [if_neg q1] at hstep ⊢
    by_cases q2 : ¬ a[i] = b[k] ∧ D1 (a[i] :: a.drop (i + 1)) (b[k] :: b.drop (k + 1)) = 1 + D1 (a.drop (i + 1)) (b.drop (k + 1))
    ·rw [if_pos q2] at hstep ⊢
     rw [whileO_step hstep, ih (i + 1) (k + 1) _ (by omega) (by omega) (by omega) (by simp; omega), List.append_assoc]
     rfl
    rw [if_neg q2] at hstep ⊢
    by_cases q3 : D1 (a[i] :: a.drop (i + 1)) (b[k] :: b.drop (k + 1)) = 1 + D1 (a.drop (i + 1)) (b[k] :: b.drop (k + 1))
    ·rw [if_pos q3] at hstep ⊢
     rw [whileO_step hstep, ih (i + 1) k _ (by omega) (by omega) (by omega) (by simp; omega), List.append_assoc, List.drop_eq_getElem_cons c2]
     rfl
    ·rw [if_neg q3] at hstep ⊢
     rw [whileO_step hstep, ih i (k + 1) _ (by omega) (by omega) (by omega) (by simp; omega), List.append_assoc, List.drop_eq_getElem_cons c1]
     rfl
   ·have e2 : k = b.length := by omega
    have hstep : compare_Edits_l2 a b (tbS al1 bo1 a b 0) (out, (i : Int), (k : Int)) = some (.inl (out ++ [⟨4, z0⟩], ((i + 1 : Nat) : Int), (k : Int))) := by
     have hd : D1 (a.drop i) (b.drop k) = 1 + D1 (a.drop (i + 1)) (b.drop k) := by
      rw [e2, List.drop_length, List.drop_eq_getElem_cons c1]; exact Nat.add_comm (D1 (a.drop (i + 1)) []) 1
     have w2 : w64 (1 + ((D1 (a.drop (i + 1)) (b.drop k) : Nat) : Int)) = ((1 + D1 (a.drop (i + 1)) (b.drop k) : Nat) : Int) := by rw [w64_of (by omega) (by omega)]; omega
     have hap : ∀ s : api_CellStep, appO out [s] = some (out ++ [s]) := fun s => appO_of (by simp; omega)
     unfold compare_Edits_l2
     simp only [dT (show (i : Int) < (a.length : Int) by omega), dF (show ¬ (k : Int) < (b.length : Int) by omega), if_true, Bool.false_eq_true, if_false, Option.bind_some, h1, h2, h3, h4, w64_succ (show i < 9223372036854775807 by omega), w2, hd, beq_self_eq_true, hap]
     rfl
    rw [whileO_step hstep, ih (i + 1) k _ (by omega) (by omega) (by omega) (by simp; omega), List.append_assoc, e2, List.drop_length, List.drop_eq_getElem_cons c1]
    rfl
  ·have e1 : i = a.length := by omega
   by_cases c2 : k < b.length
   ·obtain ⟨r, h1, h2⟩ := tb_at a b hi hk
    have hstep : compare_Edits_l2 a b (tbS al1 bo1 a b 0) (out, (i : Int), (k : Int)) = some (.inl (out ++ [⟨3, b[k]⟩], (i : Int), ((k + 1 : Nat) : Int))) := by
     have hap : ∀ s : api_CellStep, appO out [s] = some (out ++ [s]) := fun s => appO_of (by simp; omega)
     unfold compare_Edits_l2
     simp only [dF (show ¬ (i : Int) < (a.length : Int) by omega), dT (show (k : Int) < (b.length : Int) by omega), if_true, Bool.false_eq_true, if_false, Option.bind_some, h1, h2, idxO_nat c2, w64_succ (show k < 9223372036854775807 by omega), hap]
    rw [whileO_step hstep, ih i (k + 1) _ (by omega) (by omega) (by omega) (by simp; omega), List.append_assoc, e1, List.drop_length, List.drop_eq_getElem_cons c2]
    rfl
   ·have e2 : k = b.length := by omega
    have hx : eds (n + 1) (a.drop i) (b.drop k) = [] := by rw [e1, e2, List.drop_length, List.drop_length]; rfl
    rw [hx, List.append_nil]
    refine whileO_done ?_
    unfold compare_Edits_l2
    simp only [dF (show ¬ (i : Int) < (a.length : Int) by omega), dF (show ¬ (k : Int) < (b.length : Int) by omega), Bool.false_eq_true, if_false, Option.bind_some]
def editsS (a b : List api_Stitch) : List api_CellStep × Int × Int :=
 if allS a = 0 then (if allS b = 0 then (eds (a.length + b.length) a b, ((D1 a b : Nat) : Int), 0) else ([], 0, allS b)) else ([], 0, allS a)
theorem edits_eq {a b : List api_Stitch} (wa : ∀ p, p ∈ a → wfS p) (wb : ∀ p, p ∈ b → wfS p) : F_compare_Edits a b = some (editsS a b) := by
 have hw : whileO (compare_Edits_l1 a b) 0 = some (if allS a = 0 then (if allS b = 0 then .inr () else .inl ([], 0, allS b)) else .inl ([], 0, allS a)) := by
  have h0 : compare_Edits_l1 a b 0 = some (if allS a = 0 then .inl 1 else .inr (.inl ([], 0, allS a))) := by
   unfold compare_Edits_l1
   simp only [show decide ((0 : Int) < 2) = true from rfl, if_true, show idxO ([a, b] : List (List api_Stitch)) 0 = some a from rfl, Option.bind_some, all_eq wa]
   by_cases h : allS a = 0
   ·rw [nF h, if_pos h]; rfl
   ·rw [nT h, if_neg h]; rfl
  have h1 : compare_Edits_l1 a b 1 = some (if allS b = 0 then .inl 2 else .inr (.inl ([], 0, allS b))) := by
   unfold compare_Edits_l1
   simp only [show decide ((1 : Int) < 2) = true from rfl, if_true, show idxO ([a, b] : List (List api_Stitch)) 1 = some b from rfl, Option.bind_some, all_eq wb]
   by_cases h : allS b = 0
   ·rw [nF h, if_pos h]; rfl
   ·rw [nT h, if_neg h]; rfl
  have h2 : compare_Edits_l1 a b 2 = some (.inr (.inr ())) := by
   unfold compare_Edits_l1
   simp only [show decide ((2 : Int) < 2) = false from rfl, Bool.false_eq_true, if_false]
  by_cases ha : allS a = 0
  ·rw [if_pos ha] at h0 ⊢
   rw [whileO_step h0]
   by_cases hb : allS b = 0
   ·rw [if_pos hb] at h1 ⊢
    rw [whileO_step h1, whileO_done h2]
   ·rw [if_neg hb] at h1 ⊢
    rw [whileO_done h1]
  ·rw [if_neg ha] at h0 ⊢
   rw [whileO_done h0]
 unfold F_compare_Edits editsS
 rw [hw]
 by_cases ha : allS a = 0
 case neg => rw [if_neg ha, if_neg ha]; rfl
 by_cases hb : allS b = 0
 case neg => rw [if_pos ha, if_pos ha, if_neg hb, if_neg hb]; rfl
 rw [if_pos ha, if_pos ha, if_pos hb, if_pos hb]
 have la := (allS_ok ha).1
 have lb := (allS_ok hb).1
 have hl := edits_loop a b (by omega) (by omega) (a.length + b.length) 0 0 [] (by omega) (by omega) (by omega) (by simp; omega)
 obtain ⟨r, h1, h2⟩ := tb_at a b (Nat.zero_le _) (Nat.zero_le _)
 have h0 : ((0 : Nat) : Int) = 0 := rfl
 rw [h0] at hl h1 h2
 simp only [List.drop_zero, List.nil_append] at hl h2
 simp only [Option.bind_some, ctable_eq a b (by omega) (by omega), hl, h1, h2]
def wkr : List api_CellStep → List api_Stitch → Option (List api_Stitch × List api_CellStep × List api_Stitch)
 | [], rest => some ([], [], rest)
 | s :: l, rest =>
  if s.Kind = 3 then (wkr l rest).map fun r => (s.S :: r.1, ⟨4, z0⟩ :: r.2.1, r.2.2)
  else match rest with
   | [] => none
   | c :: rest =>
    if s.Kind = 1 then (wkr l rest).map fun r => (c :: r.1, s :: r.2.1, r.2.2)
    else if s.Kind = 2 then (if s.S = c then none else (wkr l rest).map fun r => (s.S :: r.1, ⟨2, c⟩ :: r.2.1, r.2.2))
    else (wkr l rest).map fun r => (r.1, ⟨3, c⟩ :: r.2.1, r.2.2)
theorem wkr_add {s : api_CellStep} (h : s.Kind = 3) (l : List api_CellStep) (rest : List api_Stitch) : wkr (s :: l) rest = (wkr l rest).map fun r => (s.S :: r.1, ⟨4, z0⟩ :: r.2.1, r.2.2) := by
 cases rest <;> simp only [wkr, h, if_true]
theorem wkr_none {s : api_CellStep} (h : ¬ s.Kind = 3) (l : List api_CellStep) : wkr (s :: l) [] = none := by
 simp only [wkr, h, if_false]
theorem wkr_keep {s : api_CellStep} (h : s.Kind = 1) (l : List api_CellStep) (c : api_Stitch) (rest : List api_Stitch) : wkr (s :: l) (c :: rest) = (wkr l rest).map fun r => (c :: r.1, s :: r.2.1, r.2.2) := by
 have h3 : ¬ s.Kind = 3 := by omega
 simp only [wkr, if_neg h3, if_pos h]
theorem wkr_change {s : api_CellStep} (h : s.Kind = 2) (l : List api_CellStep) (c : api_Stitch) (rest : List api_Stitch) : wkr (s :: l) (c :: rest) = if s.S = c then none else (wkr l rest).map fun r => (s.S :: r.1, ⟨2, c⟩ :: r.2.1, r.2.2) := by
 have h3 : ¬ s.Kind = 3 := by omega
 have h1 : ¬ s.Kind = 1 := by omega
 simp only [wkr, if_neg h3, if_neg h1, if_pos h]
theorem wkr_drop {s : api_CellStep} (h : s.Kind = 4) (l : List api_CellStep) (c : api_Stitch) (rest : List api_Stitch) : wkr (s :: l) (c :: rest) = (wkr l rest).map fun r => (r.1, ⟨3, c⟩ :: r.2.1, r.2.2) := by
 have h3 : ¬ s.Kind = 3 := by omega
 have h1 : ¬ s.Kind = 1 := by omega
 have h2 : ¬ s.Kind = 2 := by omega
 simp only [wkr, if_neg h3, if_neg h1, if_neg h2]
theorem wk_r (l : List api_CellStep) : ∀ a, (∀ s, s ∈ l → kindOk s) → wk l a = (wkr l a).bind fun r => if r.2.2.length = 0 then some (r.1, r.2.1) else none := by
 induction l with
 | nil =>
  intro a _
  cases a with
  | nil => rfl
  | cons c a => simp [wk, wkr]
 | cons s l ih =>
  intro a hk
  have hk2 : ∀ s, s ∈ l → kindOk s := fun s hs => hk s (List.mem_cons_of_mem _ hs)
  have lift : ∀ (f : List api_Stitch × List api_CellStep × List api_Stitch → List api_Stitch × List api_CellStep × List api_Stitch) (g : List api_Stitch × List api_CellStep → List api_Stitch × List api_CellStep) (b : List api_Stitch), (∀ r, (f r).2.2 = r.2.2 ∧ ((f r).1, (f r).2.1) = g (r.1, r.2.1)) →
   (wk l b).map g = ((wkr l b).map f).bind fun r => if r.2.2.length = 0 then some (r.1, r.2.1) else none := by
   intro f g b hf
   rw [ih b hk2]
   cases wkr l b with
   | none => rfl
   | some r =>
    obtain ⟨h1, h2⟩ := hf r
    simp only [Option.bind_some, Option.map_some, h1]
    by_cases c : r.2.2.length = 0
    ·rw [if_pos c, if_pos c, Option.map_some, h2]
    ·rw [if_neg c, if_neg c]; rfl
  by_cases k3 : s.Kind = 3
  ·rw [wk_add k3, wkr_add k3]
   exact lift _ _ a fun r => ⟨rfl, rfl⟩
  cases a with
  | nil => rw [wk_none k3, wkr_none k3]; rfl
  | cons c a =>
   rcases hk s (List.mem_cons_self ..) with k | k | k | k
   ·rw [wk_keep k, wkr_keep k]
    exact lift _ _ a fun r => ⟨rfl, rfl⟩
   ·rw [wk_change k, wkr_change k]
    by_cases e : s.S = c
    ·rw [if_pos e, if_pos e]; rfl
    ·rw [if_neg e, if_neg e]
     exact lift _ _ a fun r => ⟨rfl, rfl⟩
   ·exact absurd k k3
   ·rw [wk_drop k, wkr_drop k]
    exact lift _ _ a fun r => ⟨rfl, rfl⟩
theorem wkr_mem (l : List api_CellStep) : ∀ a r, (∀ s, s ∈ l → kindOk s) → wkr l a = some r → (∀ p, p ∈ r.1 → p ∈ a ∨ ∃ s, s ∈ l ∧ p = s.S) ∧ r.1.length ≤ l.length ∧ r.2.1.length ≤ l.length ∧ r.2.2.length ≤ a.length := by
 induction l with
 | nil =>
  intro a r _ h
  cases h
  exact ⟨fun p hp => (by cases hp), Nat.le_refl _, Nat.le_refl _, Nat.le_refl _⟩
 | cons s l ih =>
  intro a r hk h
  have hk2 : ∀ s, s ∈ l → kindOk s := fun s hs => hk s (List.mem_cons_of_mem _ hs)
  by_cases k3 : s.Kind = 3
  ·rw [wkr_add k3, Option.map_eq_some_iff] at h
   obtain ⟨q, hq, rfl⟩ := h
   obtain ⟨i1, i2, i3, i4⟩ := ih a q hk2 hq
   refine ⟨fun p hp => ?_, by simp only [List.length_cons]; omega, by simp only [List.length_cons]; omega, i4⟩
   rcases List.mem_cons.1 hp with rfl | hp
   ·exact .inr ⟨s, List.mem_cons_self .., rfl⟩
   ·rcases i1 p hp with h1 | ⟨t, h1, h2⟩
    ·exact .inl h1
    ·exact .inr ⟨t, List.mem_cons_of_mem _ h1, h2⟩
  cases a with
  | nil => rw [wkr_none k3] at h; cases h
  | cons c a =>
   have up : ∀ {q : List api_Stitch × List api_CellStep × List api_Stitch}, (∀ p, p ∈ q.1 → p ∈ a ∨ ∃ s, s ∈ l ∧ p = s.S) → ∀ p, p ∈ q.1 → p ∈ c :: a ∨ ∃ t, t ∈ s :: l ∧ p = t.S := by
    intro q i1 p hp
    rcases i1 p hp with h1 | ⟨t, h1, h2⟩
    ·exact .inl (List.mem_cons_of_mem _ h1)
    ·exact .inr ⟨t, List.mem_cons_of_mem _ h1, h2⟩
   rcases hk s (List.mem_cons_self ..) with k | k | k | k
   ·rw [wkr_keep k, Option.map_eq_some_iff] at h
    obtain ⟨q, hq, rfl⟩ := h
    obtain ⟨i1, i2, i3, i4⟩ := ih a q hk2 hq
    refine ⟨fun p hp => ?_, by simp only [List.length_cons]; omega, by simp only [List.length_cons]; omega, by simp only [List.length_cons]; omega⟩
    rcases List.mem_cons.1 hp with rfl | hp
    ·exact .inl (List.mem_cons_self ..)
    ·exact up i1 p hp
   ·rw [wkr_change k] at h
    by_cases e : s.S = c
    ·rw [if_pos e] at h; cases h
    rw [if_neg e, Option.map_eq_some_iff] at h
    obtain ⟨q, hq, rfl⟩ := h
    obtain ⟨i1, i2, i3, i4⟩ := ih a q hk2 hq
    refine ⟨fun p hp => ?_, by simp only [List.length_cons]; omega, by simp only [List.length_cons]; omega, by simp only [List.length_cons]; omega⟩
    rcases List.mem_cons.1 hp with rfl | hp
    ·exact .inr ⟨s, List.mem_cons_self .., rfl⟩
    ·exact up i1 p hp
   ·exact absurd k k3
   ·rw [wkr_drop k, Option.map_eq_some_iff] at h
    obtain ⟨q, hq, rfl⟩ := h
    obtain ⟨i1, i2, i3, i4⟩ := ih a q hk2 hq
    exact ⟨up i1, by simp only [List.length_cons]; omega, by simp only [List.length_cons]; omega, by simp only [List.length_cons]; omega⟩
def wOut (out : List api_Stitch) (back : List api_CellStep) (w : Option (List api_Stitch × List api_CellStep × List api_Stitch)) : ((List api_Stitch × List api_CellStep × Int) ⊕ (List api_Stitch × List api_CellStep × List api_Stitch)) :=
 match w with
 | none => .inl ([], [], 30)
 | some r => .inr (out ++ r.1, back ++ r.2.1, r.2.2)
theorem wOut_map (out o2 : List api_Stitch) (back b2 : List api_CellStep) (w : Option (List api_Stitch × List api_CellStep × List api_Stitch)) : wOut (out ++ o2) (back ++ b2) w = wOut out back (w.map fun r => (o2 ++ r.1, b2 ++ r.2.1, r.2.2)) := by
 cases w with
 | none => rfl
 | some r => simp only [wOut, Option.map_some, List.append_assoc]
theorem walk_loop (l : List api_CellStep) (hk : ∀ s, s ∈ l → kindOk s) (hl : l.length ≤ 1000) : ∀ (n k : Nat) (out : List api_Stitch) (back : List api_CellStep) (rest : List api_Stitch), k + n = l.length → out.length ≤ k → back.length ≤ k →
 whileO (compare_walk_l2 l) (out, back, rest, (k : Int)) = some (wOut out back (wkr (l.drop k) rest)) := by
 intro n
 induction n with
 | zero =>
  intro k out back rest h _ _
  have e : l.drop k = [] := by rw [show k = l.length by omega, List.drop_length]
  rw [e]
  refine whileO_done ?_
  unfold compare_walk_l2
  simp only [dF (show ¬ (k : Int) < (l.length : Int) by omega), Bool.false_eq_true, if_false, wkr, wOut, List.append_nil]
 | succ n ih =>
  intro k out back rest h ho hb
  have hk2 : k < l.length := by omega
  have hks := hk _ (List.getElem_mem hk2)
  have hap : ∀ s : api_Stitch, appO out [s] = some (out ++ [s]) := fun s => appO_of (by simp; omega)
  have hab : ∀ s : api_CellStep, appO back [s] = some (back ++ [s]) := fun s => appO_of (by simp; omega)
  rw [List.drop_eq_getElem_cons hk2]
  generalize hs : l[k] = s at *
  have hix : idxO l (k : Int) = some s := by rw [idxO_nat hk2, hs]
  by_cases k3 : s.Kind = 3
  ·have hst : compare_walk_l2 l (out, back, rest, (k : Int)) = some (.inl (out ++ [s.S], back ++ [⟨4, z0⟩], rest, ((k + 1 : Nat) : Int))) := by
    unfold compare_walk_l2
    simp only [dT (show (k : Int) < (l.length : Int) by omega), if_true, hix, Option.bind_some, bT k3, hap, hab, w64_succ (show k < 9223372036854775807 by omega)]
    rfl
   rw [whileO_step hst, ih (k + 1) _ _ _ (by omega) (by simp; omega) (by simp; omega), wkr_add k3, wOut_map]
   rfl
  cases rest with
  | nil =>
   rw [wkr_none k3]
   refine whileO_done ?_
   unfold compare_walk_l2
   simp only [dT (show (k : Int) < (l.length : Int) by omega), if_true, hix, Option.bind_some, bF k3, Bool.false_eq_true, if_false, List.length_nil]
   rfl
  | cons c rest =>
   have hsl : sliceO (c :: rest) 1 (((c :: rest).length : Nat) : Int) = some rest := sliceO_all (xs := c :: rest) (k := 1) (by simp)
   have h0 : idxO (c :: rest) 0 = some c := rfl
   have hn : ¬ (((c :: rest).length : Nat) : Int) = 0 := by simp only [List.length_cons]; omega
   rcases hks with q | q | q | q
   ·have hst : compare_walk_l2 l (out, back, c :: rest, (k : Int)) = some (.inl (out ++ [c], back ++ [s], rest, ((k + 1 : Nat) : Int))) := by
     unfold compare_walk_l2
     simp only [dT (show (k : Int) < (l.length : Int) by omega), if_true, hix, Option.bind_some, bF k3, bF hn, Bool.false_eq_true, if_false, h0, hsl, bT q, hap, hab, w64_succ (show k < 9223372036854775807 by omega)]
    rw [whileO_step hst, ih (k + 1) _ _ _ (by omega) (by simp; omega) (by simp; omega), wkr_keep q, wOut_map]
    rfl
   ·by_cases e : s.S = c
    ·rw [wkr_change q, if_pos e]
     refine whileO_done ?_
     unfold compare_walk_l2
     simp only [dT (show (k : Int) < (l.length : Int) by omega), if_true, hix, Option.bind_some, bF k3, bF hn, Bool.false_eq_true, if_false, h0, hsl, bF (show ¬ s.Kind = 1 by omega), bT q, steq, dT e]
     rfl
    ·have hst : compare_walk_l2 l (out, back, c :: rest, (k : Int)) = some (.inl (out ++ [s.S], back ++ [⟨2, c⟩], rest, ((k + 1 : Nat) : Int))) := by
      unfold compare_walk_l2
      simp only [dT (show (k : Int) < (l.length : Int) by omega), if_true, hix, Option.bind_some, bF k3, bF hn, Bool.false_eq_true, if_false, h0, hsl, bF (show ¬ s.Kind = 1 by omega), bT q, steq, dF e, hap, hab, w64_succ (show k < 9223372036854775807 by omega)]
     rw [whileO_step hst, ih (k + 1) _ _ _ (by omega) (by simp; omega) (by simp; omega), wkr_change q, if_neg e, wOut_map]
     rfl
   ·exact absurd q k3
   ·have hst : compare_walk_l2 l (out, back, c :: rest, (k : Int)) = some (.inl (out ++ [], back ++ [⟨3, c⟩], rest, ((k + 1 : Nat) : Int))) := by
     unfold compare_walk_l2
     simp only [dT (show (k : Int) < (l.length : Int) by omega), if_true, hix, Option.bind_some, bF k3, bF hn, Bool.false_eq_true, if_false, h0, hsl, bF (show ¬ s.Kind = 1 by omega), bF (show ¬ s.Kind = 2 by omega), bT q, hab, w64_succ (show k < 9223372036854775807 by omega), List.append_nil]
    rw [whileO_step hst, ih (k + 1) _ _ _ (by omega) (by simp; omega) (by simp; omega), wkr_drop q, wOut_map]
    rfl
def fineB (s : api_CellStep) : Bool := if s.Kind = 1 ∨ s.Kind = 4 then decide (s.S = z0) else if s.Kind = 2 ∨ s.Kind = 3 then decide (okS s.S) else false
theorem fineB_kind {s : api_CellStep} (h : fineB s = true) : kindOk s := by
 unfold fineB at h
 unfold kindOk
 by_cases c1 : s.Kind = 1 ∨ s.Kind = 4
 ·omega
 rw [if_neg c1] at h
 by_cases c2 : s.Kind = 2 ∨ s.Kind = 3
 ·omega
 rw [if_neg c2] at h
 cases h
theorem ok8 (p : api_Stitch) : (((if okS p then (0 : Int) else 8)) == 0) = decide (okS p) := by
 by_cases h : okS p
 ·rw [if_pos h, dT h]; rfl
 ·rw [if_neg h, dF h]; rfl
theorem fine_eq {s : api_CellStep} (hw : wfS s.S) : F_compare_fine s = some (fineB s) := by
 have hz : ((s.S.Kind == 0) && ((s.S.Purl == false) && ((s.S.A == 0) && ((s.S.B == 0) && true)))) = decide (s.S = z0) := steq s.S z0
 unfold F_compare_fine fineB
 rw [hz, check_eq _ hw]
 by_cases c1 : s.Kind = 1
 ·rw [if_pos (show s.Kind = 1 ∨ s.Kind = 4 from .inl c1)]; simp only [bT c1, if_true, Option.bind_some]
 by_cases c4 : s.Kind = 4
 ·rw [if_pos (show s.Kind = 1 ∨ s.Kind = 4 from .inr c4)]; simp only [bF c1, bT c4, Bool.false_eq_true, if_false, if_true, Option.bind_some]
 rw [if_neg (show ¬ (s.Kind = 1 ∨ s.Kind = 4) by omega)]
 by_cases c2 : s.Kind = 2
 ·rw [if_pos (show s.Kind = 2 ∨ s.Kind = 3 from .inl c2)]; simp only [bF c1, bF c4, bT c2, Bool.false_eq_true, if_false, if_true, Option.bind_some, ok8]
 by_cases c3 : s.Kind = 3
 ·rw [if_pos (show s.Kind = 2 ∨ s.Kind = 3 from .inr c3)]; simp only [bF c1, bF c4, bF c2, bT c3, Bool.false_eq_true, if_false, if_true, Option.bind_some, ok8]
 rw [if_neg (show ¬ (s.Kind = 2 ∨ s.Kind = 3) by omega)]
 simp only [bF c1, bF c4, bF c2, bF c3, Bool.false_eq_true, if_false, Option.bind_some]
def walkS (a : List api_Stitch) (l : List api_CellStep) : List api_Stitch × List api_CellStep × Int :=
 if allS a = 0 then (if 400 < l.length then ([], [], 4) else if l.all fineB = true then
  (match wk l a with
  | none => ([], [], 30)
  | some r => if allS r.1 = 0 then (r.1, r.2, 0) else ([], [], allS r.1)) else ([], [], 8)) else ([], [], allS a)
theorem walk_eq {a : List api_Stitch} {l : List api_CellStep} (wa : ∀ p, p ∈ a → wfS p) (wl : ∀ s, s ∈ l → wfS s.S) (hl : l.length ≤ 1000000) : F_compare_walk a l = some (walkS a l) := by
 unfold F_compare_walk walkS
 rw [all_eq wa]
 by_cases h0 : allS a = 0
 case neg => rw [if_neg h0]; simp only [Option.bind_some, nT h0, if_true]
 rw [if_pos h0]
 by_cases h1 : 400 < l.length
 ·rw [if_pos h1]; simp only [Option.bind_some, nF h0, Bool.false_eq_true, if_false, dT (show (400 : Int) < (l.length : Int) by omega), if_true]
 rw [if_neg h1]
 have hw : whileO (compare_walk_l1 l) 0 = some (if l.all fineB = true then .inr () else .inl ([], [], 8)) := by
  refine loop_allL l _ _ _ (fun k hk => ?_) ?_
  ·unfold compare_walk_l1
   simp only [dT (show (k : Int) < (l.length : Int) by omega), if_true, idxO_nat hk, Option.bind_some, fine_eq (wl _ (List.getElem_mem hk)), w64_succ (show k < 9223372036854775807 by omega)]
   cases fineB l[k] <;> rfl
  ·unfold compare_walk_l1
   simp only [dF (show ¬ (l.length : Int) < (l.length : Int) by omega), Bool.false_eq_true, if_false]
 simp only [Option.bind_some, nF h0, Bool.false_eq_true, if_false, dF (show ¬ (400 : Int) < (l.length : Int) by omega), hw]
 by_cases h2 : l.all fineB = true
 case neg => rw [if_neg h2, if_neg h2]; rfl
 rw [if_pos h2, if_pos h2]
 have hk : ∀ s, s ∈ l → kindOk s := fun s hs => fineB_kind (List.all_eq_true.1 h2 s hs)
 have hlp := walk_loop l hk (by omega) l.length 0 [] [] a (by omega) (by simp) (by simp)
 have hz : ((0 : Nat) : Int) = 0 := rfl
 rw [hz, List.drop_zero] at hlp
 rw [wk_r l a hk]
 simp only [Option.bind_some, hlp]
 cases hr : wkr l a with
 | none => rfl
 | some r =>
  obtain ⟨m1, m2, m3, m4⟩ := wkr_mem l a r hk hr
  have hwf : ∀ p, p ∈ r.1 → wfS p := fun p hp => by
   rcases m1 p hp with h | ⟨s, h, e⟩
   ·exact wa p h
   ·rw [e]; exact wl s h
  simp only [wOut, List.nil_append, Option.bind_some]
  by_cases c : r.2.2.length = 0
  ·rw [if_pos c]
   simp only [dF (show ¬ (0 : Int) < (r.2.2.length : Int) by omega), Bool.false_eq_true, if_false, all_eq hwf, Option.bind_some]
   by_cases h3 : allS r.1 = 0
   ·rw [if_pos h3]; simp only [nF h3, Bool.false_eq_true, if_false]
   ·rw [if_neg h3]; simp only [nT h3, if_true]
  ·rw [if_neg c]
   simp only [dT (show (0 : Int) < (r.2.2.length : Int) by omega), if_true]
instance decCs : DecidableEq api_CellStep := fun a b => decidable_of_iff (a.Kind = b.Kind ∧ a.S = b.S) (by cases a; cases b; simp)
theorem rsame25_eq (a b : List api_Stitch) (hl : a.length ≤ 9223372036854775807) : F_raddleref25_Same a b = some (decide (a = b)) := by
 by_cases h3 : (a.length : Int) = (b.length : Int)
 case neg => unfold F_raddleref25_Same; simp only [nT h3, if_true]; rw [decide_eq_false]; rintro rfl; exact h3 rfl
 have hw : whileO (raddleref25_Same_l1 a b) 0 = some (if a = b then .inr () else .inl false) := by
  refine loop_eql a b (by omega) _ _ (fun k hk => ?_) ?_
  ·unfold raddleref25_Same_l1
   simp only [dT (show (k : Int) < (a.length : Int) by omega), if_true, idxO_nat hk, idxO_nat (xs := b) (k := k) (by omega), Option.bind_some, steq, w64_succ (show k < 9223372036854775807 by omega)]
   by_cases e : a[k] = b[k]'(by omega)
   ·rw [if_pos e, dT e]; rfl
   ·rw [if_neg e, dF e]; rfl
  ·unfold raddleref25_Same_l1; simp
 unfold F_raddleref25_Same
 simp only [nF h3, Bool.false_eq_true, if_false, Option.bind_some, hw]
 by_cases e : a = b
 ·rw [if_pos e]; simp [e]
 ·rw [if_neg e]; simp [e]
theorem rgreat25_eq (l : List api_Stitch) : ∃ b, F_raddleref25_Great l = some b := by
 unfold F_raddleref25_Great
 by_cases h1 : (60 : Int) < (l.length : Int)
 ·simp only [dT h1, if_true]; repeat' split
  all_goals exact ⟨_, rfl⟩
 ·simp only [dF h1, Bool.false_eq_true, if_false]; repeat' split
  all_goals exact ⟨_, rfl⟩
theorem wf_st {l : List api_Stitch} (h : Wl wf_api_Stitch l) : ∀ p, p ∈ l → wfS p := fun p hp => inK_u8 (h.2 p hp).1
noncomputable def raddleref46_Cost_l1 (p0 : (List api_CellStep)) : (Int × Int) → Option ((Int × Int) ⊕ Int) := fun s0 => match s0 with
 | (s9, a0) =>
  if decide (a0 < (p0.length : Int)) then
   Option.bind (α := Int) (
    (idxO p0 a0).bind fun a4 =>
    if a4.Kind != 1 then
     some (w64 (s9 + 1))
    else
     some s9) fun a5 =>
   some (.inl (a5, w64 (a0 + 1)))
  else
   some (.inr s9)
noncomputable def F_raddleref46_Cost (p0 : (List api_CellStep)) : Option Int :=
 Option.bind (α := Int) (
  (whileO (raddleref46_Cost_l1 p0) (0, 0)).bind fun a0 =>
   some a0) fun o5 =>
 some o5
theorem c_raddleref46_Cost (E : Nat → Prop) (w0 : World) (p0 : (List api_CellStep)) (v0 : Value) (r : Int) (h : F_raddleref46_Cost p0 = some r) (S : St0 E [] w0 w0 [] [fRep (rL r_api_CellStep) (v0) p0]) :
 Calls Try.prog 44 #[v0] w0 (Ret (X := Unit) E [] w0 (fun _ => .int .i64 r) (fun _ => []) (fun _ => [])) := by
 unfold F_raddleref46_Cost at h
 obtain ⟨a6, a7, _, rfl, _⟩ := S.know (i := 0) (e := fRep (rL r_api_CellStep) (v0) p0) rfl
 refine sEnter (args := [.slice a6 p0.length a7]) 20 Try.func44 rfl rfl (by simp) S (fun a S => ?_)
 refine sSeq (fun K3 ao => sRegion (sN S fun a S => ?_))
 refine lT (ao _ _ (sSeq (fun K4 ap => sRegion (sN S fun a S => ?_))))
 refine lT (ap _ _ ?_)
 obtain ⟨t6, h, g7⟩ := bS h
 refine sCut (fun a w => ∃ o5, o5 = t6 ∧ St [] E [] w0 20 a w [(3, iv o5)] [] []) ?_ (fun a w hI => ?_)
 rotate_left
 ·obtain ⟨o5, rfl, S⟩ := hI
  have h := g7
  try dsimp only at h
  refine sSeq (fun aw aa => sRegion (sM S fun a S => ?_))
  refine sN S fun a S => ?_
  refine lT (aa _ _ ?_)
  obtain rfl := tS h
  exact wp_ret (sRet (iv o5) S (rsl1 rfl (rvT (t := 2) (v := iv o5) S rfl)) ⟨(), rfl, S.mem.sel [] [] (by decide) rfl rfl⟩)
 refine sSeq (fun K8 aq => sRegion (sN S fun a S => ?_))
 refine lT (aq _ _ (wp_block ?_))
 obtain ⟨ax, hl, ar⟩ := bS h
 refine sLoop hl (fun s0 a w => match s0 with | (s9, a0) => St [] E [] w0 20 a w [(0, .slice a6 p0.length a7), (3, iv s9), (4, iv a0)] [] [fRep (rL r_api_CellStep) (.slice a6 p0.length a7) p0]) (S.fix [] [0] (by decide) rfl rfl rfl) ?_
 clear hl h
 intro s0 a w c0 hI h ab
 obtain ⟨s9, a0⟩ := s0
 unfold raddleref46_Cost_l1 at h
 dsimp only at h hI
 have S := hI
 refine sSeq (fun ay ac => sSeq (fun az ae => sRegion (sM S fun a S => ?_)))
 refine sM S fun a S => ?_
 refine sLen S (wN rfl) rfl Try.underlying48 rfl rfl (lb rfl) fun a S => ?_
 refine sBin _ S (wN rfl) rfl rfl rfl (bLt _ _ _ _ .i64 a0 (p0.length : Int)) rfl (lb rfl) fun a S => ?_
 refine lT (ae _ _ ?_)
 rcases iS h with ⟨a4, h⟩ | ⟨a4, h⟩
 rotate_left
 ·refine sCondF S rfl a4 ?_
  obtain rfl := tS h
  obtain rfl := ab _ rfl
  have h := ar
  try dsimp only at h
  exact wp_exit (xThen (xThen (xHit (leafT (⟨s9, Option.some.inj h, S.fix [] [] (by decide) rfl rfl rfl⟩)))))
 refine sCondT S rfl a4 ?_
 refine wp_skip (leafT (ac _ _ ?_))
 obtain ⟨au, h, av⟩ := bS h
 refine sCut (fun a w => ∃ a9, a9 = au ∧ St [] E [] w0 20 a w [(0, .slice a6 p0.length a7), (3, iv a9), (4, iv a0)] [] [fRep (rL r_api_CellStep) (.slice a6 p0.length a7) p0]) ?_ (fun a w hI => ?_)
 rotate_left
 ·obtain ⟨a9, rfl, S⟩ := hI
  have h := av
  try dsimp only at h
  refine sRegion (sM S fun a S => ?_)
  refine sBin _ S (wN rfl) rfl rfl rfl (bAdd _ _ _ _ a0 1) rfl (lb rfl) fun a S => ?_
  refine sN S fun a S => ?_
  exact lT (⟨(a9, w64 (a0 + 1)), (Option.some.inj h).symm, (S.fix [] [0] (by decide) rfl rfl rfl)⟩)
 refine wp_block ?_
 refine sSeq (fun aA af => sRegion (sM S fun a S => ?_))
 refine sM S fun a S => ?_
 obtain ⟨a8, ag, h⟩ := bS h
 obtain ⟨aj, ah, S⟩ := pIdx (P := Try.prog) (r := r_api_CellStep) (v := .slice a6 p0.length a7) (xs := p0) (j := a0) 48 83 0 S Try.underlying48 rfl rfl ag
 refine sIdxV S (wN rfl) rfl rfl rfl ah rfl (lb rfl) fun a S => ?_
 obtain ⟨ak, ai, S⟩ := pFld (P := Try.prog) (r := r_api_CellStep) (s2 := (rI .u8)) (g := (·.Kind)) (q := aj) (z := a8) 83 0 0 0 S rfl rfl comp_api_CellStep_Kind
 refine sFldV (q := aj) S (wN rfl) rfl rfl ai rfl (lb rfl) fun a S => ?_
 obtain ⟨am, S⟩ := pLoad (r := (rI .u8)) (q := ak) (x := a8.Kind) 0 S rfl
 obtain rfl : am = .int .u8 a8.Kind := S.mem.know (i := 1) (e := fRep (rI .u8) (am) a8.Kind) rfl
 refine sLoadV1 (vq := ak) 0 (.int .u8 a8.Kind) S (wN rfl) rfl rfl rfl rfl rfl (lb rfl) fun a S => ?_
 refine sBin _ S (wN rfl) rfl rfl rfl (bNe _ _ _ _ .u8 a8.Kind 1) rfl (lb rfl) fun a S => ?_
 refine lT (af _ _ ?_)
 rcases iS h with ⟨a5, h⟩ | ⟨a5, h⟩
 rotate_left
 ·refine sCondF S rfl a5 ?_
  exact wp_skip (leafB (leafT (⟨s9, Option.some.inj h, S.fix [] [4] (by decide) rfl rfl rfl⟩)))
 refine sCondT S rfl a5 ?_
 refine sRegion (sM S fun a S => ?_)
 refine sBin _ S (wN rfl) rfl rfl rfl (bAdd _ _ _ _ s9 1) rfl (lb rfl) fun a S => ?_
 refine sN S fun a S => ?_
 exact leafL (leafB (leafT (⟨w64 (s9 + 1), Option.some.inj h, S.fix [] [4] (by decide) rfl rfl rfl⟩)))
noncomputable def F_raddlelaw46_CompareLeast (p0 : (List api_Stitch)) (p1 : (List api_Stitch)) (p2 : (List api_CellStep)) : Option Bool :=
 (F_raddlelaw46_alive).bind fun r9 =>
 Option.bind (α := Bool) (
  (F_raddleref25_Great p0).bind fun ab =>
  if ab then
   some true
  else
   (F_raddleref25_Great p1).bind fun ac =>
   if ac then
    some true
   else
    (F_raddleref25_All p0).bind fun ae =>
    if ae != 0 then
     some true
    else
     (F_raddleref25_All p1).bind fun af =>
     if af != 0 then
      some true
     else
      if decide (450 < (p2.length : Int)) then
       some true
      else
       some (!r9)) fun ag =>
 if ag then
  some r9
 else
  (F_compare_Edits p0 p1).bind fun a4 =>
  (F_compare_Patch p0 a4.1).bind fun a8 =>
  Option.bind (α := Bool) (
   if a4.2.2 != 0 then
    some true
   else
    if a8.2 != 0 then
     some true
    else
     (F_raddleref25_Same a8.1 p1).bind fun ah =>
     if !ah then
      some true
     else
      (F_raddleref46_Cost a4.1).bind fun ai =>
      some (ai != a4.2.1)) fun aj =>
  if aj then
   some false
  else
   (F_compare_Patch p0 p2).bind fun a0 =>
   if a0.2 != 0 then
    Option.bind (α := Bool) (
     if r9 then
      some ((a0.1.length : Int) == 0)
     else
      some false) fun ak =>
    some ak
   else
    (F_compare_Edits p0 a0.1).bind fun a5 =>
    (F_compare_Back p0 p2).bind fun a6 =>
    (F_compare_Patch a0.1 a6.1).bind fun a9 =>
    Option.bind (α := Bool) (
     if r9 then
      if a5.2.2 == 0 then
       (F_raddleref46_Cost p2).bind fun aa =>
       if decide (a5.2.1 ≤ aa) then
        if decide ((a5.1.length : Int) ≤ (w64 ((p0.length : Int) + (a0.1.length : Int)))) then
         if a6.2 == 0 then
          if a9.2 == 0 then
           (F_raddleref25_Same a9.1 p0).bind fun am =>
           if am then
            (F_raddleref46_Cost a6.1).bind fun a7 =>
            some (a7 == aa)
           else
            some false
          else
           some false
         else
          some false
        else
         some false
       else
        some false
      else
       some false
     else
      some false) fun ao =>
    some ao
theorem c_raddlelaw46_CompareLeast (E : Nat → Prop) (w0 : World) (p0 : (List api_Stitch)) (v0 : Value) (p1 : (List api_Stitch)) (v1 : Value) (p2 : (List api_CellStep)) (v2 : Value) (r : Bool) (h : F_raddlelaw46_CompareLeast p0 p1 p2 = some r) (S : St0 E [] w0 w0 [] [fRep (rL r_api_Stitch) (v0) p0, fRep (rL r_api_Stitch) (v1) p1, fRep (rL r_api_CellStep) (v2) p2]) :
 Calls Try.prog 11 #[v0, v1, v2] w0 (Ret (X := Unit) E [] w0 (fun _ => .bool r) (fun _ => []) (fun _ => [])) := by
 unfold F_raddlelaw46_CompareLeast at h
 obtain ⟨a4, a5, _, rfl, _⟩ := S.know (i := 0) (e := fRep (rL r_api_Stitch) (v0) p0) rfl
 obtain ⟨ar, au, _, rfl, _⟩ := S.know (i := 1) (e := fRep (rL r_api_Stitch) (v1) p1) rfl
 obtain ⟨ai, aj, _, rfl, _⟩ := S.know (i := 2) (e := fRep (rL r_api_CellStep) (v2) p2) rfl
 refine sEnter (args := [.slice a4 p0.length a5, .slice ar p1.length au, .slice ai p2.length aj]) 154 Try.func11 rfl rfl (by simp) S (fun a S => ?_)
 refine sSeq (fun K7 bQ => sRegion (sN S fun a S => ?_))
 refine lT (bQ _ _ (sSeq (fun K8 bR => sRegion ?_)))
 obtain ⟨r9, bh, h⟩ := bS h
 have S1 := S.mem
 refine sCq [] (.bool r9) S callee31 (S1.quiet [] rfl) (fun E1 w1 S1 => c_raddlelaw46_alive E1 w1  r9 bh S1) fun a w S => ?_
 refine sN S fun a S => ?_
 refine lT (bR _ _ (sSeq (fun cd bi => ?_)))
 obtain ⟨bU, h, bV⟩ := bS h
 refine sCut (fun a w => ∃ bj, bj = bU ∧ St [] E [] w0 154 a w [(0, .slice a4 p0.length a5), (1, .slice ar p1.length au), (2, .slice ai p2.length aj), (7, .bool r9), (47, .bool bj)] [] [fRep (rL r_api_Stitch) (.slice a4 p0.length a5) p0, fRep (rL r_api_Stitch) (.slice ar p1.length au) p1, fRep (rL r_api_CellStep) (.slice ai p2.length aj) p2]) ?_ (fun a w hI => ?_)
 ·refine sRegion (sM S fun a S => ?_)
  obtain ⟨bP, bk, h⟩ := bS h
  have S1 := S.mem
  refine sCq [.slice a4 p0.length a5] (.bool bP) S callee22 (S1.quiet [0] rfl) (fun E1 w1 S1 => c_raddleref25_Great E1 w1 p0 (.slice a4 p0.length a5) bP bk S1) fun a w S => ?_
  refine sM S fun a S => ?_
  rcases iS h with ⟨aA, h⟩ | ⟨aA, h⟩
  ·refine sSkN 2 2 false 25 S rfl rfl aA rfl fun a S => ?_
   refine sPickT (.bool true) S (wN rfl) rfl rfl aA rfl rfl (lb rfl) fun a S => ?_
   refine sM S fun a S => ?_
   refine sSkN 3 6 false 29 S rfl rfl rfl rfl fun a S => ?_
   refine sPickT (.bool true) S (wN rfl) rfl rfl rfl rfl rfl (lb rfl) fun a S => ?_
   refine sM S fun a S => ?_
   refine sSkN 3 11 false 34 S rfl rfl rfl rfl fun a S => ?_
   refine sPickT (.bool true) S (wN rfl) rfl rfl rfl rfl rfl (lb rfl) fun a S => ?_
   refine sM S fun a S => ?_
   refine sSkN 3 16 false 39 S rfl rfl rfl rfl fun a S => ?_
   refine sPickT (.bool true) S (wN rfl) rfl rfl rfl rfl rfl (lb rfl) fun a S => ?_
   refine sM S fun a S => ?_
   refine sSkN 2 21 false 44 S rfl rfl rfl rfl fun a S => ?_
   refine sPickT (.bool true) S (wN rfl) rfl rfl rfl rfl rfl (lb rfl) fun a S => ?_
   exact lT (⟨true, Option.some.inj h, S.fix [] [0, 1, 2] (by decide) rfl rfl rfl⟩)
  refine sMove (.slice ar p1.length au) S (wG 2 false 25 rfl rfl rfl aA) (.inl rfl) rfl rfl (lb rfl) fun a S => ?_
  obtain ⟨bl, bm, h⟩ := bS h
  have S1 := S.mem
  refine sCallQ (X := Unit) (f := 22) (vs := [.slice ar p1.length au]) (val := fun _ => .bool bl) S (wG 2 false 25 rfl rfl rfl aA) rfl callee22 rfl (S1.quiet [1] rfl) (fun E1 w1 S1 => c_raddleref25_Great E1 w1 p1 (.slice ar p1.length au) bl bm S1) rfl (lb rfl) fun _ a w S => ?_
  refine sPickF (.bool bl) S (wN rfl) rfl rfl aA rfl rfl (lb rfl) fun a S => ?_
  refine sM S fun a S => ?_
  rcases iS h with ⟨av, h⟩ | ⟨av, h⟩
  ·refine sSkN 3 6 false 29 S rfl rfl av rfl fun a S => ?_
   refine sPickT (.bool true) S (wN rfl) rfl rfl av rfl rfl (lb rfl) fun a S => ?_
   refine sM S fun a S => ?_
   refine sSkN 3 11 false 34 S rfl rfl rfl rfl fun a S => ?_
   refine sPickT (.bool true) S (wN rfl) rfl rfl rfl rfl rfl (lb rfl) fun a S => ?_
   refine sM S fun a S => ?_
   refine sSkN 3 16 false 39 S rfl rfl rfl rfl fun a S => ?_
   refine sPickT (.bool true) S (wN rfl) rfl rfl rfl rfl rfl (lb rfl) fun a S => ?_
   refine sM S fun a S => ?_
   refine sSkN 2 21 false 44 S rfl rfl rfl rfl fun a S => ?_
   refine sPickT (.bool true) S (wN rfl) rfl rfl rfl rfl rfl (lb rfl) fun a S => ?_
   exact lT (⟨true, Option.some.inj h, S.fix [] [0, 1, 2] (by decide) rfl rfl rfl⟩)
  refine sMove (.slice a4 p0.length a5) S (wG 6 false 29 rfl rfl rfl av) (.inl rfl) rfl rfl (lb rfl) fun a S => ?_
  obtain ⟨bc, bn, h⟩ := bS h
  have S1 := S.mem
  refine sCallQ (X := Unit) (f := 38) (vs := [.slice a4 p0.length a5]) (val := fun _ => iv bc) S (wG 6 false 29 rfl rfl rfl av) rfl callee38 rfl (S1.quiet [0] rfl) (fun E1 w1 S1 => c_raddleref25_All E1 w1 p0 (.slice a4 p0.length a5) bc bn S1) rfl (lb rfl) fun _ a w S => ?_
  refine sBin _ S (wG 6 false 29 rfl rfl rfl av) rfl rfl rfl (bNe _ _ _ _ .i64 bc 0) rfl (lb rfl) fun a S => ?_
  refine sPickF (.bool (bc != 0)) S (wN rfl) rfl rfl av rfl rfl (lb rfl) fun a S => ?_
  refine sM S fun a S => ?_
  rcases iS h with ⟨aw, h⟩ | ⟨aw, h⟩
  ·refine sSkN 3 11 false 34 S rfl rfl aw rfl fun a S => ?_
   refine sPickT (.bool true) S (wN rfl) rfl rfl aw rfl rfl (lb rfl) fun a S => ?_
   refine sM S fun a S => ?_
   refine sSkN 3 16 false 39 S rfl rfl rfl rfl fun a S => ?_
   refine sPickT (.bool true) S (wN rfl) rfl rfl rfl rfl rfl (lb rfl) fun a S => ?_
   refine sM S fun a S => ?_
   refine sSkN 2 21 false 44 S rfl rfl rfl rfl fun a S => ?_
   refine sPickT (.bool true) S (wN rfl) rfl rfl rfl rfl rfl (lb rfl) fun a S => ?_
   exact lT (⟨true, Option.some.inj h, S.fix [] [0, 1, 2] (by decide) rfl rfl rfl⟩)
  refine sMove (.slice ar p1.length au) S (wG 11 false 34 rfl rfl rfl aw) (.inl rfl) rfl rfl (lb rfl) fun a S => ?_
  obtain ⟨bf, bp, h⟩ := bS h
  have S1 := S.mem
  refine sCallQ (X := Unit) (f := 38) (vs := [.slice ar p1.length au]) (val := fun _ => iv bf) S (wG 11 false 34 rfl rfl rfl aw) rfl callee38 rfl (S1.quiet [1] rfl) (fun E1 w1 S1 => c_raddleref25_All E1 w1 p1 (.slice ar p1.length au) bf bp S1) rfl (lb rfl) fun _ a w S => ?_
  refine sBin _ S (wG 11 false 34 rfl rfl rfl aw) rfl rfl rfl (bNe _ _ _ _ .i64 bf 0) rfl (lb rfl) fun a S => ?_
  refine sPickF (.bool (bf != 0)) S (wN rfl) rfl rfl aw rfl rfl (lb rfl) fun a S => ?_
  refine sM S fun a S => ?_
  rcases iS h with ⟨ax, h⟩ | ⟨ax, h⟩
  ·refine sSkN 3 16 false 39 S rfl rfl ax rfl fun a S => ?_
   refine sPickT (.bool true) S (wN rfl) rfl rfl ax rfl rfl (lb rfl) fun a S => ?_
   refine sM S fun a S => ?_
   refine sSkN 2 21 false 44 S rfl rfl rfl rfl fun a S => ?_
   refine sPickT (.bool true) S (wN rfl) rfl rfl rfl rfl rfl (lb rfl) fun a S => ?_
   exact lT (⟨true, Option.some.inj h, S.fix [] [0, 1, 2] (by decide) rfl rfl rfl⟩)
  refine sMove (.slice ai p2.length aj) S (wG 16 false 39 rfl rfl rfl ax) (.inl rfl) rfl rfl (lb rfl) fun a S => ?_
  refine sLen S (wG 16 false 39 rfl rfl rfl ax) rfl Try.underlying48 rfl rfl (lb rfl) fun a S => ?_
  refine sBin _ S (wG 16 false 39 rfl rfl rfl ax) rfl rfl rfl (bGt _ _ _ _ .i64 (p2.length : Int) 450) rfl (lb rfl) fun a S => ?_
  refine sPickF (.bool (decide (450 < (p2.length : Int)))) S (wN rfl) rfl rfl ax rfl rfl (lb rfl) fun a S => ?_
  refine sM S fun a S => ?_
  rcases iS h with ⟨aC, h⟩ | ⟨aC, h⟩
  ·refine sSkN 2 21 false 44 S rfl rfl aC rfl fun a S => ?_
   refine sPickT (.bool true) S (wN rfl) rfl rfl aC rfl rfl (lb rfl) fun a S => ?_
   exact lT (⟨true, Option.some.inj h, S.fix [] [0, 1, 2] (by decide) rfl rfl rfl⟩)
  refine sMove (.bool r9) S (wG 21 false 44 rfl rfl rfl aC) (.inl rfl) rfl rfl (lb rfl) fun a S => ?_
  refine sNot (b := r9) S (wG 21 false 44 rfl rfl rfl aC) rfl rfl rfl (lb rfl) fun a S => ?_
  refine sPickF (.bool (!r9)) S (wN rfl) rfl rfl aC rfl rfl (lb rfl) fun a S => ?_
  exact lT (⟨!r9, Option.some.inj h, S.fix [] [0, 1, 2] (by decide) rfl rfl rfl⟩)
 obtain ⟨bj, rfl, S⟩ := hI
 have h := bV
 try dsimp only at h
 rcases iS h with ⟨aT, h⟩ | ⟨aT, h⟩
 ·refine sCondT S rfl aT ?_
  refine sSeq (fun ce bq => sRegion (sM S fun a S => ?_))
  refine sN S fun a S => ?_
  refine lT (bq _ _ ?_)
  obtain rfl := tS h
  exact wp_ret (rThen (sRet (.bool r9) S (rsl1 rfl (rvT (t := 6) (v := .bool r9) S rfl)) ⟨(), rfl, S.mem.sel [] [] (by decide) rfl rfl⟩))
 refine sCondF S rfl aT ?_
 refine wp_skip (leafT (bi _ _ ?_))
 refine sSeq (fun cg br => sRegion (sM S fun a S => ?_))
 refine sM S fun a S => ?_
 obtain ⟨a0, bt, h⟩ := bS h
 refine sCall (X := Value) (f := 23) (vs := [.slice a4 p0.length a5, .slice ar p1.length au]) (val := c_compare_Edits_val a0) (B' := fun _ => []) (D' := c_compare_Edits_D a0) [] [] [fRep (rL r_api_Stitch) (.slice a4 p0.length a5) p0, fRep (rL r_api_Stitch) (.slice ar p1.length au) p1] [] [0, 1] S (wN rfl) rfl callee23 rfl (by decide) rfl rfl (fun E1 w1 S1 => c_compare_Edits E1 w1 p0 (.slice a4 p0.length a5) p1 (.slice ar p1.length au) a0 bt S1) rfl (lb rfl) fun bW a w S => ?_
 obtain ⟨ac, ae, _, rfl, _⟩ := S.mem.know (i := 0) (e := fRep (rL r_api_CellStep) (bW) a0.1) rfl
 refine sM S fun a S => ?_
 refine sExtract (vs := [.slice ac a0.1.length ae, iv a0.2.1, iv a0.2.2]) (.slice ac a0.1.length ae) S (wN rfl) rfl rfl rfl rfl (lb rfl) fun a S => ?_
 refine sExtract (vs := [.slice ac a0.1.length ae, iv a0.2.1, iv a0.2.2]) (iv a0.2.1) S (wN rfl) rfl rfl rfl rfl (lb rfl) fun a S => ?_
 refine sExtract (vs := [.slice ac a0.1.length ae, iv a0.2.1, iv a0.2.2]) (iv a0.2.2) S (wN rfl) rfl rfl rfl rfl (lb rfl) fun a S => ?_
 refine sN S fun a S => ?_
 refine sN S fun a S => ?_
 refine sN S fun a S => ?_
 refine lT (br _ _ (sSeq (fun ci bu => sRegion (sM S fun a S => ?_))))
 refine sM S fun a S => ?_
 obtain ⟨ak, bv, h⟩ := bS h
 refine sCall (X := Value) (f := 25) (vs := [.slice a4 p0.length a5, .slice ac a0.1.length ae]) (val := c_compare_Patch_val ak) (B' := fun _ => []) (D' := c_compare_Patch_D ak) [] [] [fRep (rL r_api_Stitch) (.slice a4 p0.length a5) p0, fRep (rL r_api_CellStep) (.slice ac a0.1.length ae) a0.1] [] [1, 0] S (wN rfl) rfl callee25 rfl (by decide) rfl rfl (fun E1 w1 S1 => c_compare_Patch E1 w1 p0 (.slice a4 p0.length a5) a0.1 (.slice ac a0.1.length ae) ak bv S1) rfl (lb rfl) fun bX a w S => ?_
 obtain ⟨aG, aH, _, rfl, _⟩ := S.mem.know (i := 0) (e := fRep (rL r_api_Stitch) (bX) ak.1) rfl
 refine sM S fun a S => ?_
 refine sExtract (vs := [.slice aG ak.1.length aH, iv ak.2]) (.slice aG ak.1.length aH) S (wN rfl) rfl rfl rfl rfl (lb rfl) fun a S => ?_
 refine sExtract (vs := [.slice aG ak.1.length aH, iv ak.2]) (iv ak.2) S (wN rfl) rfl rfl rfl rfl (lb rfl) fun a S => ?_
 refine sN S fun a S => ?_
 refine sN S fun a S => ?_
 refine lT (bu _ _ (sSeq (fun cj bw => ?_)))
 obtain ⟨bY, h, bZ⟩ := bS h
 refine sCut (fun a w => ∃ bx, bx = bY ∧ St [] E [] w0 154 a w [(0, .slice a4 p0.length a5), (2, .slice ai p2.length aj), (7, .bool r9), (79, .bool bx)] [] [fRep (rL r_api_Stitch) (.slice a4 p0.length a5) p0, fRep (rL r_api_CellStep) (.slice ai p2.length aj) p2]) ?_ (fun a w hI => ?_)
 ·refine sRegion (sM S fun a S => ?_)
  refine sBin _ S (wN rfl) rfl rfl rfl (bNe _ _ _ _ .i64 a0.2.2 0) rfl (lb rfl) fun a S => ?_
  refine sM S fun a S => ?_
  rcases iS h with ⟨aI, h⟩ | ⟨aI, h⟩
  ·refine sSkN 2 2 false 64 S rfl rfl aI rfl fun a S => ?_
   refine sPickT (.bool true) S (wN rfl) rfl rfl aI rfl rfl (lb rfl) fun a S => ?_
   refine sM S fun a S => ?_
   refine sSkN 4 6 false 68 S rfl rfl rfl rfl fun a S => ?_
   refine sPickT (.bool true) S (wN rfl) rfl rfl rfl rfl rfl (lb rfl) fun a S => ?_
   refine sM S fun a S => ?_
   refine sSkN 4 12 false 74 S rfl rfl rfl rfl fun a S => ?_
   refine sPickT (.bool true) S (wN rfl) rfl rfl rfl rfl rfl (lb rfl) fun a S => ?_
   exact lT (⟨true, Option.some.inj h, S.fix [] [2, 4] (by decide) rfl rfl rfl⟩)
  refine sMove (iv ak.2) S (wG 2 false 64 rfl rfl rfl aI) (.inl rfl) rfl rfl (lb rfl) fun a S => ?_
  refine sBin _ S (wG 2 false 64 rfl rfl rfl aI) rfl rfl rfl (bNe _ _ _ _ .i64 ak.2 0) rfl (lb rfl) fun a S => ?_
  refine sPickF (.bool (ak.2 != 0)) S (wN rfl) rfl rfl aI rfl rfl (lb rfl) fun a S => ?_
  refine sM S fun a S => ?_
  rcases iS h with ⟨am, h⟩ | ⟨am, h⟩
  ·refine sSkN 4 6 false 68 S rfl rfl am rfl fun a S => ?_
   refine sPickT (.bool true) S (wN rfl) rfl rfl am rfl rfl (lb rfl) fun a S => ?_
   refine sM S fun a S => ?_
   refine sSkN 4 12 false 74 S rfl rfl rfl rfl fun a S => ?_
   refine sPickT (.bool true) S (wN rfl) rfl rfl rfl rfl rfl (lb rfl) fun a S => ?_
   exact lT (⟨true, Option.some.inj h, S.fix [] [2, 4] (by decide) rfl rfl rfl⟩)
  refine sMove (.slice aG ak.1.length aH) S (wG 6 false 68 rfl rfl rfl am) (.inl rfl) rfl rfl (lb rfl) fun a S => ?_
  refine sMove (.slice ar p1.length au) S (wG 6 false 68 rfl rfl rfl am) (.inl rfl) rfl rfl (lb rfl) fun a S => ?_
  obtain ⟨bg, bz, h⟩ := bS h
  have S1 := S.mem
  refine sCallQ (X := Unit) (f := 30) (vs := [.slice aG ak.1.length aH, .slice ar p1.length au]) (val := fun _ => .bool bg) S (wG 6 false 68 rfl rfl rfl am) rfl callee30 rfl (S1.quiet [0, 3] rfl) (fun E1 w1 S1 => c_raddleref25_Same E1 w1 ak.1 (.slice aG ak.1.length aH) p1 (.slice ar p1.length au) bg bz S1) rfl (lb rfl) fun _ a w S => ?_
  refine sNot (b := bg) S (wG 6 false 68 rfl rfl rfl am) rfl rfl rfl (lb rfl) fun a S => ?_
  refine sPickF (.bool (!bg)) S (wN rfl) rfl rfl am rfl rfl (lb rfl) fun a S => ?_
  refine sM S fun a S => ?_
  rcases iS h with ⟨ao, h⟩ | ⟨ao, h⟩
  ·refine sSkN 4 12 false 74 S rfl rfl ao rfl fun a S => ?_
   refine sPickT (.bool true) S (wN rfl) rfl rfl ao rfl rfl (lb rfl) fun a S => ?_
   exact lT (⟨true, Option.some.inj h, S.fix [] [2, 4] (by decide) rfl rfl rfl⟩)
  refine sMove (.slice ac a0.1.length ae) S (wG 12 false 74 rfl rfl rfl ao) (.inl rfl) rfl rfl (lb rfl) fun a S => ?_
  obtain ⟨aW, bA, h⟩ := bS h
  have S1 := S.mem
  refine sCallQ (X := Unit) (f := 44) (vs := [.slice ac a0.1.length ae]) (val := fun _ => iv aW) S (wG 12 false 74 rfl rfl rfl ao) rfl callee44 rfl (S1.quiet [1] rfl) (fun E1 w1 S1 => c_raddleref46_Cost E1 w1 a0.1 (.slice ac a0.1.length ae) aW bA S1) rfl (lb rfl) fun _ a w S => ?_
  refine sMove (iv a0.2.1) S (wG 12 false 74 rfl rfl rfl ao) (.inl rfl) rfl rfl (lb rfl) fun a S => ?_
  refine sBin _ S (wG 12 false 74 rfl rfl rfl ao) rfl rfl rfl (bNe _ _ _ _ .i64 aW a0.2.1) rfl (lb rfl) fun a S => ?_
  refine sPickF (.bool (aW != a0.2.1)) S (wN rfl) rfl rfl ao rfl rfl (lb rfl) fun a S => ?_
  exact lT (⟨aW != a0.2.1, Option.some.inj h, S.fix [] [2, 4] (by decide) rfl rfl rfl⟩)
 obtain ⟨bx, rfl, S⟩ := hI
 have h := bZ
 try dsimp only at h
 rcases iS h with ⟨aU, h⟩ | ⟨aU, h⟩
 ·refine sCondT S rfl aU ?_
  refine sSeq (fun ck bB => sRegion (sN S fun a S => ?_))
  refine lT (bB _ _ ?_)
  obtain rfl := tS h
  exact wp_ret (rThen (sRet (.bool false) S (rsl1 rfl (rvT (t := 6) (v := .bool false) S rfl)) ⟨(), rfl, S.mem.sel [] [] (by decide) rfl rfl⟩))
 refine sCondF S rfl aU ?_
 refine wp_skip (leafT (bw _ _ ?_))
 refine sSeq (fun cl bC => sRegion (sM S fun a S => ?_))
 refine sM S fun a S => ?_
 obtain ⟨a6, bD, h⟩ := bS h
 refine sCall (X := Value) (f := 25) (vs := [.slice a4 p0.length a5, .slice ai p2.length aj]) (val := c_compare_Patch_val a6) (B' := fun _ => []) (D' := c_compare_Patch_D a6) [] [] [fRep (rL r_api_Stitch) (.slice a4 p0.length a5) p0, fRep (rL r_api_CellStep) (.slice ai p2.length aj) p2] [] [0, 1] S (wN rfl) rfl callee25 rfl (by decide) rfl rfl (fun E1 w1 S1 => c_compare_Patch E1 w1 p0 (.slice a4 p0.length a5) p2 (.slice ai p2.length aj) a6 bD S1) rfl (lb rfl) fun c5 a w S => ?_
 obtain ⟨a9, aa, _, rfl, _⟩ := S.mem.know (i := 0) (e := fRep (rL r_api_Stitch) (c5) a6.1) rfl
 refine sM S fun a S => ?_
 refine sExtract (vs := [.slice a9 a6.1.length aa, iv a6.2]) (.slice a9 a6.1.length aa) S (wN rfl) rfl rfl rfl rfl (lb rfl) fun a S => ?_
 refine sExtract (vs := [.slice a9 a6.1.length aa, iv a6.2]) (iv a6.2) S (wN rfl) rfl rfl rfl rfl (lb rfl) fun a S => ?_
 refine sN S fun a S => ?_
 refine sN S fun a S => ?_
 refine lT (bC _ _ (sSeq (fun cm bE => sSeq (fun cn bG => sRegion (sM S fun a S => ?_)))))
 refine sBin _ S (wN rfl) rfl rfl rfl (bNe _ _ _ _ .i64 a6.2 0) rfl (lb rfl) fun a S => ?_
 refine lT (bG _ _ ?_)
 rcases iS h with ⟨aV, h⟩ | ⟨aV, h⟩
 ·refine sCondT S rfl aV ?_
  obtain ⟨c6, h, c7⟩ := bS h
  refine sCut (fun a w => ∃ aX, aX = c6 ∧ St [] E [] w0 154 a w [(6, .bool aX)] [] []) ?_ (fun a w hI => ?_)
  rotate_left
  ·obtain ⟨aX, rfl, S⟩ := hI
   have h := c7
   try dsimp only at h
   obtain rfl := tS h
   exact wp_ret (rThen (sRet (.bool aX) S (rsl1 rfl (rvT (t := 6) (v := .bool aX) S rfl)) ⟨(), rfl, S.mem.sel [] [] (by decide) rfl rfl⟩))
  refine sRegion (sM S fun a S => ?_)
  refine sM S fun a S => ?_
  rcases iS h with ⟨ay, h⟩ | ⟨ay, h⟩
  rotate_left
  ·refine sSkN 3 1 true 89 S rfl rfl ay rfl fun a S => ?_
   refine sPickF (.bool false) S (wN rfl) rfl rfl ay rfl rfl (lb rfl) fun a S => ?_
   refine sN S fun a S => ?_
   exact lT (⟨false, Option.some.inj h, S.fix [] [] (by decide) rfl rfl rfl⟩)
  refine sMove (.slice a9 a6.1.length aa) S (wG 1 true 89 rfl rfl rfl ay) (.inl rfl) rfl rfl (lb rfl) fun a S => ?_
  refine sLen S (wG 1 true 89 rfl rfl rfl ay) rfl Try.underlying47 rfl rfl (lb rfl) fun a S => ?_
  refine sBin _ S (wG 1 true 89 rfl rfl rfl ay) rfl rfl rfl (bEq _ _ _ _ .i64 (a6.1.length : Int) 0) rfl (lb rfl) fun a S => ?_
  refine sPickT (.bool ((a6.1.length : Int) == 0)) S (wN rfl) rfl rfl ay rfl rfl (lb rfl) fun a S => ?_
  refine sN S fun a S => ?_
  exact lT (⟨(a6.1.length : Int) == 0, Option.some.inj h, S.fix [] [] (by decide) rfl rfl rfl⟩)
 refine sCondF S rfl aV ?_
 refine wp_skip (leafT (bE _ _ ?_))
 refine sSeq (fun co bH => sRegion (sM S fun a S => ?_))
 refine sM S fun a S => ?_
 obtain ⟨a7, bI, h⟩ := bS h
 refine sCall (X := Value) (f := 23) (vs := [.slice a4 p0.length a5, .slice a9 a6.1.length aa]) (val := c_compare_Edits_val a7) (B' := fun _ => []) (D' := c_compare_Edits_D a7) [] [] [fRep (rL r_api_Stitch) (.slice a4 p0.length a5) p0, fRep (rL r_api_Stitch) (.slice a9 a6.1.length aa) a6.1] [] [1, 0] S (wN rfl) rfl callee23 rfl (by decide) rfl rfl (fun E1 w1 S1 => c_compare_Edits E1 w1 p0 (.slice a4 p0.length a5) a6.1 (.slice a9 a6.1.length aa) a7 bI S1) rfl (lb rfl) fun c8 a w S => ?_
 obtain ⟨aP, aQ, _, rfl, _⟩ := S.mem.know (i := 0) (e := fRep (rL r_api_CellStep) (c8) a7.1) rfl
 refine sM S fun a S => ?_
 refine sExtract (vs := [.slice aP a7.1.length aQ, iv a7.2.1, iv a7.2.2]) (.slice aP a7.1.length aQ) S (wN rfl) rfl rfl rfl rfl (lb rfl) fun a S => ?_
 refine sExtract (vs := [.slice aP a7.1.length aQ, iv a7.2.1, iv a7.2.2]) (iv a7.2.1) S (wN rfl) rfl rfl rfl rfl (lb rfl) fun a S => ?_
 refine sExtract (vs := [.slice aP a7.1.length aQ, iv a7.2.1, iv a7.2.2]) (iv a7.2.2) S (wN rfl) rfl rfl rfl rfl (lb rfl) fun a S => ?_
 refine sN S fun a S => ?_
 refine sN S fun a S => ?_
 refine sN S fun a S => ?_
 refine lT (bH _ _ (sSeq (fun cp bJ => sRegion (sM S fun a S => ?_))))
 refine sM S fun a S => ?_
 obtain ⟨ab, bK, h⟩ := bS h
 refine sCall (X := Value) (f := 27) (vs := [.slice a4 p0.length a5, .slice ai p2.length aj]) (val := c_compare_Back_val ab) (B' := fun _ => []) (D' := c_compare_Back_D ab) [] [] [fRep (rL r_api_Stitch) (.slice a4 p0.length a5) p0, fRep (rL r_api_CellStep) (.slice ai p2.length aj) p2] [] [2, 3] S (wN rfl) rfl callee27 rfl (by decide) rfl rfl (fun E1 w1 S1 => c_compare_Back E1 w1 p0 (.slice a4 p0.length a5) p2 (.slice ai p2.length aj) ab bK S1) rfl (lb rfl) fun c9 a w S => ?_
 obtain ⟨af, ag, _, rfl, _⟩ := S.mem.know (i := 0) (e := fRep (rL r_api_CellStep) (c9) ab.1) rfl
 refine sM S fun a S => ?_
 refine sExtract (vs := [.slice af ab.1.length ag, iv ab.2]) (.slice af ab.1.length ag) S (wN rfl) rfl rfl rfl rfl (lb rfl) fun a S => ?_
 refine sExtract (vs := [.slice af ab.1.length ag, iv ab.2]) (iv ab.2) S (wN rfl) rfl rfl rfl rfl (lb rfl) fun a S => ?_
 refine sN S fun a S => ?_
 refine sN S fun a S => ?_
 refine lT (bJ _ _ (sSeq (fun cq bL => sRegion (sM S fun a S => ?_))))
 refine sM S fun a S => ?_
 obtain ⟨ap, bM, h⟩ := bS h
 refine sCall (X := Value) (f := 25) (vs := [.slice a9 a6.1.length aa, .slice af ab.1.length ag]) (val := c_compare_Patch_val ap) (B' := fun _ => []) (D' := c_compare_Patch_D ap) [] [] [fRep (rL r_api_Stitch) (.slice a9 a6.1.length aa) a6.1, fRep (rL r_api_CellStep) (.slice af ab.1.length ag) ab.1] [] [2, 0] S (wN rfl) rfl callee25 rfl (by decide) rfl rfl (fun E1 w1 S1 => c_compare_Patch E1 w1 a6.1 (.slice a9 a6.1.length aa) ab.1 (.slice af ab.1.length ag) ap bM S1) rfl (lb rfl) fun ca a w S => ?_
 obtain ⟨aJ, aK, _, rfl, _⟩ := S.mem.know (i := 0) (e := fRep (rL r_api_Stitch) (ca) ap.1) rfl
 refine sM S fun a S => ?_
 refine sExtract (vs := [.slice aJ ap.1.length aK, iv ap.2]) (.slice aJ ap.1.length aK) S (wN rfl) rfl rfl rfl rfl (lb rfl) fun a S => ?_
 refine sExtract (vs := [.slice aJ ap.1.length aK, iv ap.2]) (iv ap.2) S (wN rfl) rfl rfl rfl rfl (lb rfl) fun a S => ?_
 refine sN S fun a S => ?_
 refine sN S fun a S => ?_
 refine lT (bL _ _ ?_)
 obtain ⟨cb, h, cc⟩ := bS h
 refine sCut (fun a w => ∃ aZ, aZ = cb ∧ St [] E [] w0 154 a w [(6, .bool aZ)] [] []) ?_ (fun a w hI => ?_)
 rotate_left
 ·obtain ⟨aZ, rfl, S⟩ := hI
  have h := cc
  try dsimp only at h
  obtain rfl := tS h
  exact wp_ret (sRet (.bool aZ) S (rsl1 rfl (rvT (t := 6) (v := .bool aZ) S rfl)) ⟨(), rfl, S.mem.sel [] [] (by decide) rfl rfl⟩)
 refine sRegion (sM S fun a S => ?_)
 refine sM S fun a S => ?_
 rcases iS h with ⟨aL, h⟩ | ⟨aL, h⟩
 rotate_left
 ·refine sSkN 2 1 true 114 S rfl rfl aL rfl fun a S => ?_
  refine sPickF (.bool false) S (wN rfl) rfl rfl aL rfl rfl (lb rfl) fun a S => ?_
  refine sM S fun a S => ?_
  refine sSkN 4 5 true 118 S rfl rfl rfl rfl fun a S => ?_
  refine sPickF (.bool false) S (wN rfl) rfl rfl rfl rfl rfl (lb rfl) fun a S => ?_
  refine sM S fun a S => ?_
  refine sSkN 8 11 true 124 S rfl rfl rfl rfl fun a S => ?_
  refine sPickF (.bool false) S (wN rfl) rfl rfl rfl rfl rfl (lb rfl) fun a S => ?_
  refine sM S fun a S => ?_
  refine sSkN 2 21 true 134 S rfl rfl rfl rfl fun a S => ?_
  refine sPickF (.bool false) S (wN rfl) rfl rfl rfl rfl rfl (lb rfl) fun a S => ?_
  refine sM S fun a S => ?_
  refine sSkN 2 25 true 138 S rfl rfl rfl rfl fun a S => ?_
  refine sPickF (.bool false) S (wN rfl) rfl rfl rfl rfl rfl (lb rfl) fun a S => ?_
  refine sM S fun a S => ?_
  refine sSkN 3 29 true 142 S rfl rfl rfl rfl fun a S => ?_
  refine sPickF (.bool false) S (wN rfl) rfl rfl rfl rfl rfl (lb rfl) fun a S => ?_
  refine sM S fun a S => ?_
  refine sSkN 5 34 true 147 S rfl rfl rfl rfl fun a S => ?_
  refine sPickF (.bool false) S (wN rfl) rfl rfl rfl rfl rfl (lb rfl) fun a S => ?_
  refine sN S fun a S => ?_
  exact lT (⟨false, Option.some.inj h, S.fix [] [] (by decide) rfl rfl rfl⟩)
 refine sMove (iv a7.2.2) S (wG 1 true 114 rfl rfl rfl aL) (.inl rfl) rfl rfl (lb rfl) fun a S => ?_
 refine sBin _ S (wG 1 true 114 rfl rfl rfl aL) rfl rfl rfl (bEq _ _ _ _ .i64 a7.2.2 0) rfl (lb rfl) fun a S => ?_
 refine sPickT (.bool (a7.2.2 == 0)) S (wN rfl) rfl rfl aL rfl rfl (lb rfl) fun a S => ?_
 refine sM S fun a S => ?_
 rcases iS h with ⟨aq, h⟩ | ⟨aq, h⟩
 rotate_left
 ·refine sSkN 4 5 true 118 S rfl rfl aq rfl fun a S => ?_
  refine sPickF (.bool false) S (wN rfl) rfl rfl aq rfl rfl (lb rfl) fun a S => ?_
  refine sM S fun a S => ?_
  refine sSkN 8 11 true 124 S rfl rfl rfl rfl fun a S => ?_
  refine sPickF (.bool false) S (wN rfl) rfl rfl rfl rfl rfl (lb rfl) fun a S => ?_
  refine sM S fun a S => ?_
  refine sSkN 2 21 true 134 S rfl rfl rfl rfl fun a S => ?_
  refine sPickF (.bool false) S (wN rfl) rfl rfl rfl rfl rfl (lb rfl) fun a S => ?_
  refine sM S fun a S => ?_
  refine sSkN 2 25 true 138 S rfl rfl rfl rfl fun a S => ?_
  refine sPickF (.bool false) S (wN rfl) rfl rfl rfl rfl rfl (lb rfl) fun a S => ?_
  refine sM S fun a S => ?_
  refine sSkN 3 29 true 142 S rfl rfl rfl rfl fun a S => ?_
  refine sPickF (.bool false) S (wN rfl) rfl rfl rfl rfl rfl (lb rfl) fun a S => ?_
  refine sM S fun a S => ?_
  refine sSkN 5 34 true 147 S rfl rfl rfl rfl fun a S => ?_
  refine sPickF (.bool false) S (wN rfl) rfl rfl rfl rfl rfl (lb rfl) fun a S => ?_
  refine sN S fun a S => ?_
  exact lT (⟨false, Option.some.inj h, S.fix [] [] (by decide) rfl rfl rfl⟩)
 refine sMove (iv a7.2.1) S (wG 5 true 118 rfl rfl rfl aq) (.inl rfl) rfl rfl (lb rfl) fun a S => ?_
 refine sMove (.slice ai p2.length aj) S (wG 5 true 118 rfl rfl rfl aq) (.inl rfl) rfl rfl (lb rfl) fun a S => ?_
 obtain ⟨aS, ba, h⟩ := bS h
 have S1 := S.mem
 refine sCallQ (X := Unit) (f := 44) (vs := [.slice ai p2.length aj]) (val := fun _ => iv aS) S (wG 5 true 118 rfl rfl rfl aq) rfl callee44 rfl (S1.quiet [5] rfl) (fun E1 w1 S1 => c_raddleref46_Cost E1 w1 p2 (.slice ai p2.length aj) aS ba S1) rfl (lb rfl) fun _ a w S => ?_
 refine sBin _ S (wG 5 true 118 rfl rfl rfl aq) rfl rfl rfl (bLe _ _ _ _ .i64 a7.2.1 aS) rfl (lb rfl) fun a S => ?_
 refine sPickT (.bool (decide (a7.2.1 ≤ aS))) S (wN rfl) rfl rfl aq rfl rfl (lb rfl) fun a S => ?_
 refine sM S fun a S => ?_
 rcases iS h with ⟨a8, h⟩ | ⟨a8, h⟩
 rotate_left
 ·refine sSkN 8 11 true 124 S rfl rfl a8 rfl fun a S => ?_
  refine sPickF (.bool false) S (wN rfl) rfl rfl a8 rfl rfl (lb rfl) fun a S => ?_
  refine sM S fun a S => ?_
  refine sSkN 2 21 true 134 S rfl rfl rfl rfl fun a S => ?_
  refine sPickF (.bool false) S (wN rfl) rfl rfl rfl rfl rfl (lb rfl) fun a S => ?_
  refine sM S fun a S => ?_
  refine sSkN 2 25 true 138 S rfl rfl rfl rfl fun a S => ?_
  refine sPickF (.bool false) S (wN rfl) rfl rfl rfl rfl rfl (lb rfl) fun a S => ?_
  refine sM S fun a S => ?_
  refine sSkN 3 29 true 142 S rfl rfl rfl rfl fun a S => ?_
  refine sPickF (.bool false) S (wN rfl) rfl rfl rfl rfl rfl (lb rfl) fun a S => ?_
  refine sM S fun a S => ?_
  refine sSkN 5 34 true 147 S rfl rfl rfl rfl fun a S => ?_
  refine sPickF (.bool false) S (wN rfl) rfl rfl rfl rfl rfl (lb rfl) fun a S => ?_
  refine sN S fun a S => ?_
  exact lT (⟨false, Option.some.inj h, S.fix [] [] (by decide) rfl rfl rfl⟩)
 refine sMove (.slice aP a7.1.length aQ) S (wG 11 true 124 rfl rfl rfl a8) (.inl rfl) rfl rfl (lb rfl) fun a S => ?_
 refine sLen S (wG 11 true 124 rfl rfl rfl a8) rfl Try.underlying48 rfl rfl (lb rfl) fun a S => ?_
 refine sMove (.slice a4 p0.length a5) S (wG 11 true 124 rfl rfl rfl a8) (.inl rfl) rfl rfl (lb rfl) fun a S => ?_
 refine sLen S (wG 11 true 124 rfl rfl rfl a8) rfl Try.underlying47 rfl rfl (lb rfl) fun a S => ?_
 refine sMove (.slice a9 a6.1.length aa) S (wG 11 true 124 rfl rfl rfl a8) (.inl rfl) rfl rfl (lb rfl) fun a S => ?_
 refine sLen S (wG 11 true 124 rfl rfl rfl a8) rfl Try.underlying47 rfl rfl (lb rfl) fun a S => ?_
 refine sBin _ S (wG 11 true 124 rfl rfl rfl a8) rfl rfl rfl (bAdd _ _ _ _ (p0.length : Int) (a6.1.length : Int)) rfl (lb rfl) fun a S => ?_
 refine sBin _ S (wG 11 true 124 rfl rfl rfl a8) rfl rfl rfl (bLe _ _ _ _ .i64 (a7.1.length : Int) (w64 ((p0.length : Int) + (a6.1.length : Int)))) rfl (lb rfl) fun a S => ?_
 refine sPickT (.bool (decide ((a7.1.length : Int) ≤ (w64 ((p0.length : Int) + (a6.1.length : Int)))))) S (wN rfl) rfl rfl a8 rfl rfl (lb rfl) fun a S => ?_
 refine sM S fun a S => ?_
 rcases iS h with ⟨aM, h⟩ | ⟨aM, h⟩
 rotate_left
 ·refine sSkN 2 21 true 134 S rfl rfl aM rfl fun a S => ?_
  refine sPickF (.bool false) S (wN rfl) rfl rfl aM rfl rfl (lb rfl) fun a S => ?_
  refine sM S fun a S => ?_
  refine sSkN 2 25 true 138 S rfl rfl rfl rfl fun a S => ?_
  refine sPickF (.bool false) S (wN rfl) rfl rfl rfl rfl rfl (lb rfl) fun a S => ?_
  refine sM S fun a S => ?_
  refine sSkN 3 29 true 142 S rfl rfl rfl rfl fun a S => ?_
  refine sPickF (.bool false) S (wN rfl) rfl rfl rfl rfl rfl (lb rfl) fun a S => ?_
  refine sM S fun a S => ?_
  refine sSkN 5 34 true 147 S rfl rfl rfl rfl fun a S => ?_
  refine sPickF (.bool false) S (wN rfl) rfl rfl rfl rfl rfl (lb rfl) fun a S => ?_
  refine sN S fun a S => ?_
  exact lT (⟨false, Option.some.inj h, S.fix [] [] (by decide) rfl rfl rfl⟩)
 refine sMove (iv ab.2) S (wG 21 true 134 rfl rfl rfl aM) (.inl rfl) rfl rfl (lb rfl) fun a S => ?_
 refine sBin _ S (wG 21 true 134 rfl rfl rfl aM) rfl rfl rfl (bEq _ _ _ _ .i64 ab.2 0) rfl (lb rfl) fun a S => ?_
 refine sPickT (.bool (ab.2 == 0)) S (wN rfl) rfl rfl aM rfl rfl (lb rfl) fun a S => ?_
 refine sM S fun a S => ?_
 rcases iS h with ⟨aO, h⟩ | ⟨aO, h⟩
 rotate_left
 ·refine sSkN 2 25 true 138 S rfl rfl aO rfl fun a S => ?_
  refine sPickF (.bool false) S (wN rfl) rfl rfl aO rfl rfl (lb rfl) fun a S => ?_
  refine sM S fun a S => ?_
  refine sSkN 3 29 true 142 S rfl rfl rfl rfl fun a S => ?_
  refine sPickF (.bool false) S (wN rfl) rfl rfl rfl rfl rfl (lb rfl) fun a S => ?_
  refine sM S fun a S => ?_
  refine sSkN 5 34 true 147 S rfl rfl rfl rfl fun a S => ?_
  refine sPickF (.bool false) S (wN rfl) rfl rfl rfl rfl rfl (lb rfl) fun a S => ?_
  refine sN S fun a S => ?_
  exact lT (⟨false, Option.some.inj h, S.fix [] [] (by decide) rfl rfl rfl⟩)
 refine sMove (iv ap.2) S (wG 25 true 138 rfl rfl rfl aO) (.inl rfl) rfl rfl (lb rfl) fun a S => ?_
 refine sBin _ S (wG 25 true 138 rfl rfl rfl aO) rfl rfl rfl (bEq _ _ _ _ .i64 ap.2 0) rfl (lb rfl) fun a S => ?_
 refine sPickT (.bool (ap.2 == 0)) S (wN rfl) rfl rfl aO rfl rfl (lb rfl) fun a S => ?_
 refine sM S fun a S => ?_
 rcases iS h with ⟨az, h⟩ | ⟨az, h⟩
 rotate_left
 ·refine sSkN 3 29 true 142 S rfl rfl az rfl fun a S => ?_
  refine sPickF (.bool false) S (wN rfl) rfl rfl az rfl rfl (lb rfl) fun a S => ?_
  refine sM S fun a S => ?_
  refine sSkN 5 34 true 147 S rfl rfl rfl rfl fun a S => ?_
  refine sPickF (.bool false) S (wN rfl) rfl rfl rfl rfl rfl (lb rfl) fun a S => ?_
  refine sN S fun a S => ?_
  exact lT (⟨false, Option.some.inj h, S.fix [] [] (by decide) rfl rfl rfl⟩)
 refine sMove (.slice aJ ap.1.length aK) S (wG 29 true 142 rfl rfl rfl az) (.inl rfl) rfl rfl (lb rfl) fun a S => ?_
 refine sMove (.slice a4 p0.length a5) S (wG 29 true 142 rfl rfl rfl az) (.inl rfl) rfl rfl (lb rfl) fun a S => ?_
 obtain ⟨bN, bO, h⟩ := bS h
 have S1 := S.mem
 refine sCallQ (X := Unit) (f := 30) (vs := [.slice aJ ap.1.length aK, .slice a4 p0.length a5]) (val := fun _ => .bool bN) S (wG 29 true 142 rfl rfl rfl az) rfl callee30 rfl (S1.quiet [0, 4] rfl) (fun E1 w1 S1 => c_raddleref25_Same E1 w1 ap.1 (.slice aJ ap.1.length aK) p0 (.slice a4 p0.length a5) bN bO S1) rfl (lb rfl) fun _ a w S => ?_
 refine sPickT (.bool bN) S (wN rfl) rfl rfl az rfl rfl (lb rfl) fun a S => ?_
 refine sM S fun a S => ?_
 rcases iS h with ⟨ah, h⟩ | ⟨ah, h⟩
 rotate_left
 ·refine sSkN 5 34 true 147 S rfl rfl ah rfl fun a S => ?_
  refine sPickF (.bool false) S (wN rfl) rfl rfl ah rfl rfl (lb rfl) fun a S => ?_
  refine sN S fun a S => ?_
  exact lT (⟨false, Option.some.inj h, S.fix [] [] (by decide) rfl rfl rfl⟩)
 refine sMove (.slice af ab.1.length ag) S (wG 34 true 147 rfl rfl rfl ah) (.inl rfl) rfl rfl (lb rfl) fun a S => ?_
 obtain ⟨aR, bb, h⟩ := bS h
 have S1 := S.mem
 refine sCallQ (X := Unit) (f := 44) (vs := [.slice af ab.1.length ag]) (val := fun _ => iv aR) S (wG 34 true 147 rfl rfl rfl ah) rfl callee44 rfl (S1.quiet [1] rfl) (fun E1 w1 S1 => c_raddleref46_Cost E1 w1 ab.1 (.slice af ab.1.length ag) aR bb S1) rfl (lb rfl) fun _ a w S => ?_
 refine sMove (.slice ai p2.length aj) S (wG 34 true 147 rfl rfl rfl ah) (.inl rfl) rfl rfl (lb rfl) fun a S => ?_
 have S1 := S.mem
 refine sCallQ (X := Unit) (f := 44) (vs := [.slice ai p2.length aj]) (val := fun _ => iv aS) S (wG 34 true 147 rfl rfl rfl ah) rfl callee44 rfl (S1.quiet [5] rfl) (fun E1 w1 S1 => c_raddleref46_Cost E1 w1 p2 (.slice ai p2.length aj) aS ba S1) rfl (lb rfl) fun _ a w S => ?_
 refine sBin _ S (wG 34 true 147 rfl rfl rfl ah) rfl rfl rfl (bEq _ _ _ _ .i64 aR aS) rfl (lb rfl) fun a S => ?_
 refine sPickT (.bool (aR == aS)) S (wN rfl) rfl rfl ah rfl rfl (lb rfl) fun a S => ?_
 refine sN S fun a S => ?_
 exact lT (⟨aR == aS, Option.some.inj h, S.fix [] [] (by decide) rfl rfl rfl⟩)
theorem editsS_ok2 {a b : List api_Stitch} (ha : allS a = 0) (hb : allS b = 0) : editsS a b = (eds (a.length + b.length) a b, ((D1 a b : Nat) : Int), 0) := by
 unfold editsS
 rw [if_pos ha, if_pos hb]
def cf (s : api_CellStep) : Int := if s.Kind = 1 then 0 else 1
theorem sm_cost (l : List api_CellStep) : sm cf l = ((costS l : Nat) : Int) := by
 induction l with
 | nil => rfl
 | cons s l ih =>
  simp only [sm, costS, ih, cf]
  split <;> omega
theorem costS_le (l : List api_CellStep) : costS l ≤ l.length := by
 induction l with
 | nil => exact Nat.le_refl _
 | cons s l ih => simp only [costS, List.length_cons]; split <;> omega
theorem cost_eq (l : List api_CellStep) (hl : l.length ≤ 1000000) : F_raddleref46_Cost l = some ((costS l : Nat) : Int) := by
 have hbd : ∀ k, k ≤ l.length → 0 ≤ sm cf (l.take k) ∧ sm cf (l.take k) ≤ 1000000 := by
  intro k hk
  rw [sm_cost]
  have := costS_le (l.take k)
  rw [List.length_take] at this
  omega
 have h := loop_seq (B := raddleref46_Cost_l1 l) (fun k => (sm cf (l.take k), (k : Int))) l.length (t := sm cf (l.take l.length))
  (fun k hk => by
   have hb := hbd k (by omega)
   unfold raddleref46_Cost_l1
   simp only [dT (show (k : Int) < (l.length : Int) by omega), if_true, idxO_nat hk, Option.bind_some, sm_take cf l hk, w64_succ (show k < 9223372036854775807 by omega)]
   by_cases c : l[k].Kind = 1
   ·simp only [nF c, Bool.false_eq_true, if_false, Option.bind_some, cf, if_pos c, Int.add_zero]
   ·simp only [nT c, if_true, Option.bind_some, cf, if_neg c]
    rw [w64_of (by omega) (by omega)])
  (by
   unfold raddleref46_Cost_l1
   simp only [dF (show ¬ (l.length : Int) < (l.length : Int) by omega), Bool.false_eq_true, if_false])
 have e0 : (sm cf (l.take 0), (((0 : Nat) : Int))) = ((0 : Int), (0 : Int)) := rfl
 simp only [e0] at h
 unfold F_raddleref46_Cost
 rw [h, List.take_length, sm_cost]
 rfl
theorem fine_drop : fineB ⟨4, z0⟩ = true := by decide
theorem fine_keep : fineB ⟨1, z0⟩ = true := by decide
theorem fine_of {y : api_Stitch} (h : okS y) : fineB ⟨2, y⟩ = true ∧ fineB ⟨3, y⟩ = true := by
 constructor
 ·unfold fineB
  rw [if_neg (show ¬ ((2 : Int) = 1 ∨ (2 : Int) = 4) by decide), if_pos (show (2 : Int) = 2 ∨ (2 : Int) = 3 by decide)]
  exact dT h
 ·unfold fineB
  rw [if_neg (show ¬ ((3 : Int) = 1 ∨ (3 : Int) = 4) by decide), if_pos (show (3 : Int) = 2 ∨ (3 : Int) = 3 by decide)]
  exact dT h
theorem wf_z0 : wfS z0 := ⟨by decide, by decide⟩
theorem walkS_ok {a : List api_Stitch} {l : List api_CellStep} (h : (walkS a l).2.2 = 0) : ∃ d u, walkS a l = (d, u, 0) ∧ wk l a = some (d, u) ∧ allS d = 0 ∧ l.all fineB = true ∧ l.length ≤ 400 := by
 unfold walkS at h ⊢
 by_cases h0 : allS a = 0
 case neg => rw [if_neg h0] at h; exact absurd h h0
 rw [if_pos h0] at h ⊢
 by_cases h1 : 400 < l.length
 ·rw [if_pos h1] at h; cases h
 rw [if_neg h1] at h ⊢
 by_cases h2 : l.all fineB = true
 case neg => rw [if_neg h2] at h; cases h
 rw [if_pos h2] at h ⊢
 cases hr : wk l a with
 | none => rw [hr] at h; cases h
 | some r =>
  rw [hr] at h
  dsimp only at h ⊢
  by_cases h3 : allS r.1 = 0
  ·rw [if_pos h3]; exact ⟨r.1, r.2, rfl, rfl, h3, h2, by omega⟩
  ·rw [if_neg h3] at h; exact absurd h h3
theorem walkS_err {a : List api_Stitch} {l : List api_CellStep} (h : ¬ (walkS a l).2.2 = 0) : (walkS a l).1 = [] := by
 unfold walkS at h ⊢
 by_cases h0 : allS a = 0
 case neg => rw [if_neg h0]
 rw [if_pos h0] at h ⊢
 by_cases h1 : 400 < l.length
 ·rw [if_pos h1]
 rw [if_neg h1] at h ⊢
 by_cases h2 : l.all fineB = true
 case neg => rw [if_neg h2]
 rw [if_pos h2] at h ⊢
 cases hr : wk l a with
 | none => rfl
 | some r =>
  rw [hr] at h
  dsimp only at h ⊢
  by_cases h3 : allS r.1 = 0
  ·rw [if_pos h3] at h; exact absurd rfl h
  ·rw [if_neg h3]
theorem walkS_of {a d : List api_Stitch} {l u : List api_CellStep} (h0 : allS a = 0) (h1 : l.length ≤ 400) (h2 : ∀ s, s ∈ l → fineB s = true) (h3 : wk l a = some (d, u)) (h4 : allS d = 0) : walkS a l = (d, u, 0) := by
 unfold walkS
 rw [if_pos h0, if_neg (by omega), if_pos (List.all_eq_true.2 h2), h3]
 dsimp only
 rw [if_pos h4]
theorem law_CompareLeast' (hal : F_raddlelaw46_alive = some true) (a b : List api_Stitch) (l : List api_CellStep) (wa : Wl wf_api_Stitch a) (wb : Wl wf_api_Stitch b) (wl : Wl wf_api_CellStep l) : F_raddlelaw46_CompareLeast a b l = some true := by
 unfold F_raddlelaw46_CompareLeast
 obtain ⟨b1, h1⟩ := rgreat25_eq a
 obtain ⟨b2, h2⟩ := rgreat25_eq b
 rw [hal, h1, h2]
 cases b1 with
 | true => rfl
 | false =>
 cases b2 with
 | true => rfl
 | false =>
 simp only [Bool.false_eq_true, if_false, Option.bind_some, rall_eq]
 by_cases e1 : allS a = 0
 case neg => simp only [nT e1, if_true, Option.bind_some]
 by_cases e2 : allS b = 0
 case neg => simp only [nF e1, nT e2, Bool.false_eq_true, if_false, if_true, Option.bind_some]
 by_cases e3 : (450 : Int) < (l.length : Int)
 ·simp only [nF e1, nF e2, dT e3, Bool.false_eq_true, if_false, if_true, Option.bind_some]
 obtain ⟨la, ka, -⟩ := allS_ok e1
 obtain ⟨lb, kb, -⟩ := allS_ok e2
 have wa := wf_st wa
 have wb := wf_st wb
 have wls : ∀ s, s ∈ l → wfS s.S := fun s hs => inK_u8 (wl.2 s hs).2.1
 obtain ⟨⟨v, k1⟩, k2, k3, k4⟩ := eds_ok (a.length + b.length) a b (Nat.le_refl _)
 have f1 : ∀ s, s ∈ eds (a.length + b.length) a b → fineB s = true := by
  intro s hs
  rcases k4 s hs with rfl | rfl | ⟨y, hy, rfl | rfl⟩
  ·exact fine_keep
  ·exact fine_drop
  ·exact (fine_of (kb y hy)).1
  ·exact (fine_of (kb y hy)).2
 have f2 : ∀ s, s ∈ eds (a.length + b.length) a b → wfS s.S := by
  intro s hs
  rcases k4 s hs with rfl | rfl | ⟨y, hy, rfl | rfl⟩
  ·exact wf_z0
  ·exact wf_z0
  ·exact wb y hy
  ·exact wb y hy
 have w1 := walkS_of e1 (by omega) f1 k1 e2
 have c1 := cost_eq (eds (a.length + b.length) a b) (by omega)
 rw [k2] at c1
 have wq := walk_eq wa f2 (by omega)
 rw [w1] at wq
 have wq2 := walk_eq wa wls (show l.length ≤ 1000000 by omega)
 unfold F_compare_Patch F_compare_Back
 simp only [nF e1, nF e2, dF e3, Bool.false_eq_true, if_false, Bool.not_true, Option.bind_some, edits_eq wa wb, editsS_ok2 e1 e2, wq, bne_self_eq_false, rsame25_eq b b (by omega), decide_true, c1, wq2]
 by_cases e4 : (walkS a l).2.2 = 0
 case neg =>
  have := walkS_err e4
  simp only [nT e4, if_true, Option.bind_some, this, List.length_nil]
  rfl
 obtain ⟨d, u, x1, x2, x3, x4, x5⟩ := walkS_ok e4
 have hk : ∀ s, s ∈ l → kindOk s := fun s hs => fineB_kind (List.all_eq_true.1 x4 s hs)
 obtain ⟨ld, kd, -⟩ := allS_ok x3
 obtain ⟨⟨l', y1⟩, y2, y3, y4⟩ := wk_back l a d u hk x2
 have hcl := wk_cost l a d u hk x2
 have wd : ∀ p, p ∈ d → wfS p := by
  intro p hp
  have hb := okS_bd (kd p hp)
  exact ⟨by omega, by omega⟩
 have g1 : ∀ s, s ∈ u → fineB s = true := by
  intro s hs
  rcases y4 s hs with ⟨q1, -⟩ | rfl | ⟨y, hy, rfl | rfl⟩
  ·exact List.all_eq_true.1 x4 s q1
  ·exact fine_drop
  ·exact (fine_of (ka y hy)).1
  ·exact (fine_of (ka y hy)).2
 have g2 : ∀ s, s ∈ u → wfS s.S := by
  intro s hs
  rcases y4 s hs with ⟨q1, -⟩ | rfl | ⟨y, hy, rfl | rfl⟩
  ·exact wls s q1
  ·exact wf_z0
  ·exact wa y hy
  ·exact wa y hy
 have w2 := walkS_of x3 (by omega) g1 y1 e1
 have wq3 := walk_eq wd g2 (by omega)
 rw [w2] at wq3
 have c2 := cost_eq l (by omega)
 have c3 := cost_eq u (by omega)
 rw [y2] at c3
 have k5 := (eds_ok (a.length + d.length) a d (Nat.le_refl _)).2.2.1
 rw [x1]
 simp only [bne_self_eq_false, Bool.false_eq_true, if_false, Option.bind_some, edits_eq wa wd, editsS_ok2 e1 x3, wq3, if_true, beq_self_eq_true, c2, c3, dT (show ((D1 a d : Nat) : Int) ≤ ((costS l : Nat) : Int) by omega), wadd (show a.length + d.length ≤ 9223372036854775807 by omega), dT (show ((eds (a.length + d.length) a d).length : Int) ≤ ((a.length + d.length : Nat) : Int) by omega), rsame25_eq a a (by omega), decide_true]
theorem law_CompareLeast (a b : List api_Stitch) (l : List api_CellStep) (wa : Wl wf_api_Stitch a) (wb : Wl wf_api_Stitch b) (wl : Wl wf_api_CellStep l) : F_raddlelaw46_CompareLeast a b l = some true := law_CompareLeast' k_raddlelaw46_alive a b l wa wb wl
namespace frameCompareLeast
open Go.ChangeShapes Go.WideShapes Go.ChangeAt Go.Joins
theorem own : ownKnob Try.prog.godebug = none := by kernel_rfl
theorem laidOut : laidOutB Try.prog = true := by kernel_rfl
theorem lifted (os : Os) (started : os.Started) (H : Type) (enc : TypeId × Value → H) :
 ReturnsInHanded {} Try.checked os 11 .any (Rows.compareLeastSpec.pre6 enc Try.prog Try.f11 Rows.compareLeastRow.domain false) (Rows.compareLeastSpec.post enc Try.prog Try.f11 false true false false) := by
 refine returnsInHanded_of_change (C := Try.checked) own started (by kernel_rfl) Try.func11
  (ChangeSpec.witness6 (enc := enc) (C := Try.checked) false ⟨#[], #[.slice none 0 0, .slice none 0 0, .slice none 0 0], []⟩ 8 (by kernel_rfl) (by kernel_rfl) (by kernel_rfl) (by kernel_rfl)) ?_
 intro W base args ds gs before hval0 hW hcnd _
 have hval : ∀ (j : Nat) t v, Try.f11.params[j]? = some t → args[j]? = some v → Value.okWide Try.prog W .any base t v := hval0
 have hW' := hW
 obtain ⟨p, q, hA0, hV, rfl, hfz, hnd⟩ := hW
 have hA : DataW.TrodAll enc Try.prog W 0 (fun _ => true) true Try.f11.params.toList args.toList ds p := hA0
 rw [Try.params11] at hA hval
 obtain ⟨v0, vs0, d0, ds0, p0, q0, hargs, rfl, rfl, h0, r0⟩ := trodAll_cons hA
 obtain ⟨v1, vs1, d1, ds1, p1, q1, rfl, rfl, rfl, h1, r1⟩ := trodAll_cons r0
 obtain ⟨v2, vs2, d2, ds2, p2, q2, rfl, rfl, rfl, h2, r2⟩ := trodAll_cons r1
 obtain ⟨rfl, rfl, rfl⟩ := trodAll_nil r2
 obtain rfl : args = #[v0, v1, v2] := by cases args; simp_all
 obtain ⟨rfl, rfl⟩ := trodVars_none hV
 have k0 := h0
 have lt0 : ∀ x ∈ p0, x.block < W.heap.size := by obtain ⟨m, hm⟩ := k0; exact DataW.trod_lt m _ _ _ hm
 have k1 := h1
 have lt1 : ∀ x ∈ p1, x.block < W.heap.size := by obtain ⟨m, hm⟩ := k1; exact DataW.trod_lt m _ _ _ hm
 have k2 := h2
 have lt2 : ∀ x ∈ p2, x.block < W.heap.size := by obtain ⟨m, hm⟩ := k2; exact DataW.trod_lt m _ _ _ hm
 obtain ⟨x0, rep0, wf0⟩ := top_slice Try.underlying47 (op_slice (r := r_api_Stitch) Try.underlying47 (by kernel_rfl) op_api_Stitch) (hval 0 _ v0 rfl rfl) h0
 obtain ⟨x1, rep1, wf1⟩ := top_slice Try.underlying47 (op_slice (r := r_api_Stitch) Try.underlying47 (by kernel_rfl) op_api_Stitch) (hval 1 _ v1 rfl rfl) h1
 obtain ⟨x2, rep2, wf2⟩ := top_slice Try.underlying48 (op_slice (r := r_api_CellStep) Try.underlying48 (by kernel_rfl) op_api_CellStep) (hval 2 _ v2 rfl rfl) h2
 clear hA0 hval0
 refine (c_raddlelaw46_CompareLeast (fun _ => False) W x0 v0 x1 v1 x2 v2 true (law_CompareLeast x0 x1 x2 wf0 wf1 wf2) (St0.start (by intro d hd; simp only [List.mem_cons, List.not_mem_nil, or_false] at hd; rcases hd with rfl | rfl | rfl; exact rep0; exact rep1; exact rep2))).mono fun e W' hr => ?_
 obtain ⟨_, he, hS⟩ := hr
 have bel := hS.chg.below
 subst he
 exact ⟨_, rfl, _, _, _, [], _, [], hW', trodAll_mk1 (shut_bool Try.underlying4 _), (trodAll_cons_mk (Below.trod laidOut (by kernel_rfl) (of_decide_eq_true (by kernel_rfl)) k0 bel lt0) (trodAll_cons_mk (Below.trod laidOut (by kernel_rfl) (of_decide_eq_true (by kernel_rfl)) k1 bel lt1) (trodAll_cons_mk (Below.trod laidOut (by kernel_rfl) (of_decide_eq_true (by kernel_rfl)) k2 bel lt2) trodAll_mk0))), rfl, bel.frame _, fun h => by cases h⟩
theorem over : Rows.compareLeastRow.holds Try.pinned (OpenSpec.ofChange Rows.compareLeastSpec) :=
 OpenClaim.holds_of_wide 11 Try.f11 rfl rfl rfl rfl rfl rfl rfl ⟨rfl, rfl, rfl, rfl, rfl⟩ rfl rfl rfl rfl rfl (by kernel_rfl) Try.func11 (by kernel_rfl)
  (of_decide_eq_true (by kernel_rfl)) (by unfold Func.isWrapper; first | (rw [if_pos (by decide +kernel)]; kernel_rfl) | (rw [if_neg (by decide +kernel)]; exact ⟨rfl, rfl⟩))
  (fun os started H enc _ => lifted os started H enc)
end frameCompareLeast
theorem compareLeast_holds : Rows.CompareLeastSaid := frameCompareLeast.over
end Go.Proofs.Ytffikfajljbmnaa
