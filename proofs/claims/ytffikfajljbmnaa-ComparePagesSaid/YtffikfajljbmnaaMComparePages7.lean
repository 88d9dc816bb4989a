/- ComparePages: walks, tables, laws. -/
import Derived.Test.YtffikfajljbmnaaProg
import Derived.Test.YtffikfajljbmnaaRows
import Derived.Test.YtffikfajljbmnaaMComparePages6
set_option linter.unusedVariables false
set_option linter.unusedSimpArgs false
set_option maxHeartbeats 4000000
set_option maxRecDepth 100000
namespace Go.Proofs.Ytffikfajljbmnaa
open Go.RowKit
theorem loop_at {S σ τ : Type} {B : S → Option (S ⊕ τ)} (n : Nat) (st : Nat → σ → S) (I : Nat → σ → Prop) (Pt : τ → Prop) {s0 : σ} (h0 : I 0 s0)
 (step : ∀ k s, k < n → I k s → (∃ s', B (st k s) = some (.inl (st (k + 1) s')) ∧ I (k + 1) s') ∨ (∃ t, B (st k s) = some (.inr t) ∧ Pt t))
 (last : ∀ s, I n s → ∃ t, B (st n s) = some (.inr t) ∧ Pt t) : ∃ t, whileO B (st 0 s0) = some t ∧ Pt t := by
 have key : ∀ j k s, j + k = n → I k s → ∃ t, whileO B (st k s) = some t ∧ Pt t := by
  intro j
  induction j with
  | zero =>
   intro k s hk hI
   obtain rfl : k = n := by omega
   obtain ⟨t, h1, h2⟩ := last s hI
   exact ⟨t, whileO_done h1, h2⟩
  | succ j ih =>
   intro k s hk hI
   rcases step k s (by omega) hI with ⟨s', h1, h2⟩ | ⟨t, h1, h2⟩
   ·rw [whileO_step h1]; exact ih _ _ (by omega) h2
   ·exact ⟨t, whileO_done h1, h2⟩
 exact key n 0 s0 (by omega) h0
theorem whileO_none {σ τ : Type} {B : σ → Option (σ ⊕ τ)} {s : σ} (h : B s = none) : whileO B s = none := by
 cases hx : whileO B s with
 | none => rfl
 | some t =>
  obtain ⟨n, hn⟩ := whileO_some hx
  cases n with
  | zero => simp [iterO] at hn
  | succ n => rw [iterO, h] at hn; cases hn
theorem whileO_eq {σ τ : Type} (B : σ → Option (σ ⊕ τ)) (s : σ) : whileO B s = (B s).bind fun r => match r with | .inl s' => whileO B s' | .inr t => some t := by
 cases h : B s with
 | none => rw [whileO_none h]; rfl
 | some r =>
  cases r with
  | inl s' => rw [whileO_step h]; rfl
  | inr t => rw [whileO_done h]; rfl
def sm {α : Type} (f : α → Int) : List α → Int
 | [] => 0
 | x :: l => f x + sm f l
theorem sm_append {α : Type} (f : α → Int) (l k : List α) : sm f (l ++ k) = sm f l + sm f k := by
 induction l with
 | nil => simp [sm]
 | cons x l ih => simp only [List.cons_append, sm, ih]; omega
theorem sm_take {α : Type} (f : α → Int) (l : List α) {k : Nat} (h : k < l.length) : sm f (l.take (k + 1)) = sm f (l.take k) + f l[k] := by
 rw [List.take_succ_eq_append_getElem h, sm_append]
 simp [sm]
theorem sm_bd {α : Type} {f : α → Int} {b : Int} {l : List α} (h : ∀ x, x ∈ l → 0 ≤ f x ∧ f x ≤ b) : 0 ≤ sm f l ∧ sm f l ≤ b * l.length := by
 induction l with
 | nil => simp [sm]
 | cons x l ih =>
  have h1 := h x (by simp)
  have h2 := ih fun y hy => h y (by simp [hy])
  simp only [sm, List.length_cons]
  have e : b * ((l.length + 1 : Nat) : Int) = b * l.length + b := by rw [Int.natCast_add, Int.mul_add]; simp
  rw [e]
  omega
def usedS (p : api_Stitch) : Int := if p.Kind = 2 ∨ p.Kind = 9 then 0 else if p.Kind = 3 ∨ p.Kind = 4 ∨ p.Kind = 10 then p.A else if p.Kind = 6 ∨ p.Kind = 7 then p.A + p.B else 1
def madeS (p : api_Stitch) : Int := if p.Kind = 10 then 0 else if p.Kind = 5 ∨ p.Kind = 9 then p.A else if p.Kind = 6 ∨ p.Kind = 7 then p.A + p.B else 1
def okS (p : api_Stitch) : Prop :=
 (p.Kind = 1 ∨ p.Kind = 8) ∧ p.A = 0 ∧ p.B = 0 ∨ p.Kind = 2 ∧ p.A = 0 ∧ p.B = 0 ∧ p.Purl = false ∨ (p.Kind = 3 ∨ p.Kind = 4 ∨ p.Kind = 5) ∧ 2 ≤ p.A ∧ p.A ≤ 4 ∧ p.B = 0 ∨
 (p.Kind = 6 ∨ p.Kind = 7) ∧ 1 ≤ p.A ∧ p.A ≤ 6 ∧ 1 ≤ p.B ∧ p.B ≤ 6 ∨ p.Kind = 9 ∧ 1 ≤ p.A ∧ p.A ≤ 200 ∧ p.B = 0 ∧ p.Purl = false ∨ p.Kind = 10 ∧ 1 ≤ p.A ∧ p.A ≤ 200 ∧ p.B = 0
instance (p : api_Stitch) : Decidable (okS p) := by unfold okS; infer_instance
theorem okS_bd {p : api_Stitch} (h : okS p) : 1 ≤ p.Kind ∧ p.Kind ≤ 10 ∧ 0 ≤ p.A ∧ p.A ≤ 200 ∧ 0 ≤ p.B ∧ p.B ≤ 6 := by
 unfold okS at h
 omega
theorem usedS_bd {p : api_Stitch} (h : okS p) : 0 ≤ usedS p ∧ usedS p ≤ 200 := by
 have hb := okS_bd h
 unfold okS at h
 unfold usedS
 split
 ·omega
 ·split
  ·omega
  ·split <;> omega
theorem madeS_bd {p : api_Stitch} (h : okS p) : 0 ≤ madeS p ∧ madeS p ≤ 200 := by
 have hb := okS_bd h
 unfold okS at h
 unfold madeS
 split
 ·omega
 ·split
  ·omega
  ·split <;> omega
theorem check_form (p : api_Stitch) (f : stitch_form) (h : F_stitch_forms p.Kind = some (f, true)) :
 F_stitch_Check p = some (if (f.a.1 ≤ p.A ∧ p.A ≤ f.a.2) ∧ (f.b.1 ≤ p.B ∧ p.B ≤ f.b.2) ∧ (p.Purl = true → f.sided = true) then 0 else 8) := by
 unfold F_stitch_Check F_stitch_within
 rw [h]
 by_cases a1 : f.a.1 ≤ p.A <;> by_cases a2 : p.A ≤ f.a.2 <;> by_cases b1 : f.b.1 ≤ p.B <;> by_cases b2 : p.B ≤ f.b.2 <;> cases hp : p.Purl <;> cases hs : f.sided <;> simp [a1, a2, b1, b2, hs]
theorem ifc {α : Type} {c d : Prop} [Decidable c] [Decidable d] {a b : α} (h : c ↔ d) : (if c then a else b) = if d then a else b := by
 by_cases hc : c
 ·rw [if_pos hc, if_pos (h.1 hc)]
 ·rw [if_neg hc, if_neg (fun hd => hc (h.2 hd))]
theorem kinds {x : Int} (h : 0 ≤ x ∧ x ≤ 255) : x = 0 ∨ x = 1 ∨ x = 2 ∨ x = 3 ∨ x = 4 ∨ x = 5 ∨ x = 6 ∨ x = 7 ∨ x = 8 ∨ x = 9 ∨ x = 10 ∨ 10 < x := by omega
theorem forms_none {x : Int} (h : 10 < x ∧ x ≤ 255) : ∃ f, F_stitch_forms x = some (f, false) := by
 unfold F_stitch_forms
 have hw : IntKind.i64.wrap x = x := w64_of (by omega) (by omega)
 simp only [dF (show ¬ x < 1 by omega), hw, Bool.false_eq_true, if_false, Option.bind_some, List.length_cons, List.length_nil]
 rw [dT (show ((0 + 1 + 1 + 1 + 1 + 1 + 1 + 1 + 1 + 1 + 1 : Nat) : Int) < x by omega)]
 exact ⟨_, rfl⟩
theorem check_none {p : api_Stitch} {f : stitch_form} (h : F_stitch_forms p.Kind = some (f, false)) : F_stitch_Check p = some 8 := by
 unfold F_stitch_Check
 rw [h]
 simp
theorem check_eq (p : api_Stitch) (hk : 0 ≤ p.Kind ∧ p.Kind ≤ 255) : F_stitch_Check p = some (if okS p then 0 else 8) := by
 rcases kinds hk with h | h | h | h | h | h | h | h | h | h | h | h
 ·rw [check_none (f := ⟨⟨#[]⟩, (0, 0), (0, 0), false, 0, 0⟩) (by rw [h]; rfl), if_neg (by unfold okS; omega)]
 ·rw [check_form p _ (by rw [h]; rfl)]; cases hp : p.Purl <;> exact congrArg some (ifc (by simp [okS, h]; omega))
 ·rw [check_form p _ (by rw [h]; rfl)]; cases hp : p.Purl <;> exact congrArg some (ifc (by simp [okS, h, hp] <;> omega))
 ·rw [check_form p _ (by rw [h]; rfl)]; cases hp : p.Purl <;> exact congrArg some (ifc (by simp [okS, h]; omega))
 ·rw [check_form p _ (by rw [h]; rfl)]; cases hp : p.Purl <;> exact congrArg some (ifc (by simp [okS, h]; omega))
 ·rw [check_form p _ (by rw [h]; rfl)]; cases hp : p.Purl <;> exact congrArg some (ifc (by simp [okS, h]; omega))
 ·rw [check_form p _ (by rw [h]; rfl)]; cases hp : p.Purl <;> exact congrArg some (ifc (by simp [okS, h]; omega))
 ·rw [check_form p _ (by rw [h]; rfl)]; cases hp : p.Purl <;> exact congrArg some (ifc (by simp [okS, h]; omega))
 ·rw [check_form p _ (by rw [h]; rfl)]; cases hp : p.Purl <;> exact congrArg some (ifc (by simp [okS, h]; omega))
 ·rw [check_form p _ (by rw [h]; rfl)]; cases hp : p.Purl <;> exact congrArg some (ifc (by simp [okS, h, hp] <;> omega))
 ·rw [check_form p _ (by rw [h]; rfl)]; cases hp : p.Purl <;> exact congrArg some (ifc (by simp [okS, h]; omega))
 ·obtain ⟨f, hf⟩ := forms_none ⟨h, hk.2⟩
  rw [check_none hf, if_neg (by unfold okS; omega)]
theorem rstitch_eq (p : api_Stitch) : F_raddleref25_Check p = some (if okS p then 0 else 8) := by
 have e3 : (if (p.A == 0) = true then some (p.B == 0) else some false) = some (p.A == 0 && p.B == 0) := by cases h : (p.A == 0) <;> simp
 unfold F_raddleref25_Check
 rw [e3, Option.bind_some]
 by_cases k1 : p.Kind = 1
 ·by_cases hA : p.A = 0 <;> by_cases hB : p.B = 0 <;> simp [k1, hA, hB, okS]
 by_cases k8 : p.Kind = 8
 ·by_cases hA : p.A = 0 <;> by_cases hB : p.B = 0 <;> simp [k8, hA, hB, okS]
 by_cases k2 : p.Kind = 2
 ·by_cases hA : p.A = 0 <;> by_cases hB : p.B = 0 <;> cases hp : p.Purl <;> simp [k2, hA, hB, hp, okS]
 by_cases k3 : p.Kind = 3
 ·by_cases h1 : 2 ≤ p.A <;> by_cases h2 : p.A ≤ 4 <;> by_cases hB : p.B = 0 <;> simp [k3, h1, h2, hB, okS]
 by_cases k4 : p.Kind = 4
 ·by_cases h1 : 2 ≤ p.A <;> by_cases h2 : p.A ≤ 4 <;> by_cases hB : p.B = 0 <;> simp [k4, h1, h2, hB, okS]
 by_cases k5 : p.Kind = 5
 ·by_cases h1 : 2 ≤ p.A <;> by_cases h2 : p.A ≤ 4 <;> by_cases hB : p.B = 0 <;> simp [k5, h1, h2, hB, okS]
 by_cases k6 : p.Kind = 6
 ·by_cases h1 : 1 ≤ p.A <;> by_cases h2 : p.A ≤ 6 <;> by_cases h3 : 1 ≤ p.B <;> by_cases h4 : p.B ≤ 6 <;> simp [k6, h1, h2, h3, h4, okS]
 by_cases k7 : p.Kind = 7
 ·by_cases h1 : 1 ≤ p.A <;> by_cases h2 : p.A ≤ 6 <;> by_cases h3 : 1 ≤ p.B <;> by_cases h4 : p.B ≤ 6 <;> simp [k7, h1, h2, h3, h4, okS]
 by_cases k9 : p.Kind = 9
 ·by_cases h1 : 1 ≤ p.A <;> by_cases h2 : p.A ≤ 200 <;> by_cases hB : p.B = 0 <;> cases hp : p.Purl <;> simp [k9, h1, h2, hB, hp, okS]
 by_cases k10 : p.Kind = 10
 ·by_cases h1 : 1 ≤ p.A <;> by_cases h2 : p.A ≤ 200 <;> by_cases hB : p.B = 0 <;> simp [k10, h1, h2, hB, okS]
 have hn : ¬ okS p := by unfold okS; omega
 simp [k1, k2, k3, k4, k5, k6, k7, k8, k9, k10, hn]
theorem form_ok {p : api_Stitch} (h : okS p) : ∃ f, F_stitch_forms p.Kind = some (f, true) ∧ F_stitch_loops p f.uses = some (usedS p) ∧ F_stitch_loops p f.made = some (madeS p) := by
 have hb := okS_bd h
 have hw : w64 (p.A + p.B) = p.A + p.B := w64_of (by omega) (by omega)
 have l0 : F_stitch_loops p 0 = some 0 := rfl
 have l1 : F_stitch_loops p 1 = some 1 := rfl
 have l2 : F_stitch_loops p 2 = some p.A := rfl
 have l3 : F_stitch_loops p 3 = some (p.A + p.B) := by rw [← hw]; rfl
 rcases kinds (x := p.Kind) (by omega) with k | k | k | k | k | k | k | k | k | k | k | k
 ·omega
 ·exact ⟨⟨⟨#[]⟩, (0, 0), (0, 0), true, 1, 1⟩, by rw [k]; rfl, by rw [l1]; simp [usedS, k], by rw [l1]; simp [madeS, k]⟩
 ·exact ⟨⟨⟨#[]⟩, (0, 0), (0, 0), false, 0, 1⟩, by rw [k]; rfl, by rw [l0]; simp [usedS, k], by rw [l1]; simp [madeS, k]⟩
 ·exact ⟨⟨⟨#[102]⟩, (2, 4), (0, 0), true, 2, 1⟩, by rw [k]; rfl, by rw [l2]; simp [usedS, k], by rw [l1]; simp [madeS, k]⟩
 ·exact ⟨⟨⟨#[108]⟩, (2, 4), (0, 0), true, 2, 1⟩, by rw [k]; rfl, by rw [l2]; simp [usedS, k], by rw [l1]; simp [madeS, k]⟩
 ·exact ⟨⟨⟨#[109]⟩, (2, 4), (0, 0), true, 1, 2⟩, by rw [k]; rfl, by rw [l1]; simp [usedS, k], by rw [l2]; simp [madeS, k]⟩
 ·exact ⟨⟨⟨#[120]⟩, (1, 6), (1, 6), true, 3, 3⟩, by rw [k]; rfl, by rw [l3]; simp [usedS, k], by rw [l3]; simp [madeS, k]⟩
 ·exact ⟨⟨⟨#[121]⟩, (1, 6), (1, 6), true, 3, 3⟩, by rw [k]; rfl, by rw [l3]; simp [usedS, k], by rw [l3]; simp [madeS, k]⟩
 ·exact ⟨⟨⟨#[115]⟩, (0, 0), (0, 0), true, 1, 1⟩, by rw [k]; rfl, by rw [l1]; simp [usedS, k], by rw [l1]; simp [madeS, k]⟩
 ·exact ⟨⟨⟨#[]⟩, (1, 200), (0, 0), false, 0, 2⟩, by rw [k]; rfl, by rw [l0]; simp [usedS, k], by rw [l2]; simp [madeS, k]⟩
 ·exact ⟨⟨⟨#[111]⟩, (1, 200), (0, 0), true, 2, 0⟩, by rw [k]; rfl, by rw [l2]; simp [usedS, k], by rw [l0]; simp [madeS, k]⟩
 ·omega
theorem rused_eq {p : api_Stitch} (h : okS p) : F_raddleref25_Used p = some (usedS p) := by
 have hb := okS_bd h
 have hw : w64 (p.A + p.B) = p.A + p.B := w64_of (by omega) (by omega)
 unfold F_raddleref25_Used usedS
 rcases kinds (x := p.Kind) (by omega) with k | k | k | k | k | k | k | k | k | k | k | k <;> first | omega | simp [k, hw]
theorem rgives_eq {p : api_Stitch} (h : okS p) : F_raddleref25_Gives p = some (madeS p) := by
 have hb := okS_bd h
 have hw : w64 (p.A + p.B) = p.A + p.B := w64_of (by omega) (by omega)
 unfold F_raddleref25_Gives madeS
 rcases kinds (x := p.Kind) (by omega) with k | k | k | k | k | k | k | k | k | k | k | k <;> first | omega | simp [k, hw]
def allOk (l : List api_Stitch) : Prop := ∀ p, p ∈ l → okS p
instance (l : List api_Stitch) : Decidable (allOk l) := by unfold allOk; infer_instance
def wfS (p : api_Stitch) : Prop := 0 ≤ p.Kind ∧ p.Kind ≤ 255
theorem used_bd {l : List api_Stitch} (h : allOk l) : 0 ≤ sm usedS l ∧ sm usedS l ≤ 200 * l.length := sm_bd fun _ hx => usedS_bd (h _ hx)
theorem made_bd {l : List api_Stitch} (h : allOk l) : 0 ≤ sm madeS l ∧ sm madeS l ≤ 200 * l.length := sm_bd fun _ hx => madeS_bd (h _ hx)
theorem take_ok {l : List api_Stitch} (h : allOk l) (k : Nat) : allOk (l.take k) := fun _ hx => h _ (List.mem_of_mem_take hx)
theorem sum_step {l : List api_Stitch} (h : allOk l) (hl : l.length ≤ 100000) {k : Nat} (hk : k < l.length) :
 w64 (sm usedS (l.take k) + usedS l[k]) = sm usedS (l.take (k + 1)) ∧ w64 (sm madeS (l.take k) + madeS l[k]) = sm madeS (l.take (k + 1)) := by
 have h1 := used_bd (take_ok h k)
 have h2 := made_bd (take_ok h k)
 have h3 := usedS_bd (h _ (List.getElem_mem hk))
 have h4 := madeS_bd (h _ (List.getElem_mem hk))
 have hlen : (l.take k).length ≤ 100000 := by rw [List.length_take]; omega
 rw [sm_take _ _ hk, sm_take _ _ hk]
 exact ⟨w64_of (by omega) (by omega), w64_of (by omega) (by omega)⟩
theorem sum_eq {l : List api_Stitch} (h : allOk l) (hl : l.length ≤ 100000) : F_stitch_sum l = some (sm usedS l, sm madeS l) := by
 have key : ∃ t, whileO (stitch_sum_l1 l) (0, 0, 0) = some t ∧ t = (sm usedS l, sm madeS l) := by
  refine loop_at (σ := Unit) l.length (fun k _ => (sm usedS (l.take k), sm madeS (l.take k), (k : Int))) (fun _ _ => True) _ (s0 := ()) trivial ?_ ?_
  ·intro k _ hk _
   refine .inl ⟨(), ?_, trivial⟩
   obtain ⟨f, f1, f2, f3⟩ := form_ok (h _ (List.getElem_mem hk))
   have hs := sum_step h hl hk
   unfold stitch_sum_l1
   simp only [dT (show (k : Int) < (l.length : Int) by omega), if_true, idxO_nat hk, Option.bind_some, f1, f2, f3, hs.1, hs.2, w64_succ (show k < 9223372036854775807 by omega)]
  ·intro _ _
   refine ⟨_, ?_, rfl⟩
   unfold stitch_sum_l1
   simp only [dF (show ¬ (l.length : Int) < (l.length : Int) by omega), Bool.false_eq_true, if_false, List.take_length]
 obtain ⟨t, h1, rfl⟩ := key
 unfold F_stitch_sum
 rw [h1]; rfl
theorem rsums_eq {l : List api_Stitch} (h : allOk l) (hl : l.length ≤ 100000) : F_raddleref25_sums l = some (sm usedS l, sm madeS l) := by
 have key : ∃ t, whileO (raddleref25_sums_l1 l) (0, 0, 0) = some t ∧ t = (sm usedS l, sm madeS l) := by
  refine loop_at (σ := Unit) l.length (fun k _ => (sm usedS (l.take k), sm madeS (l.take k), (k : Int))) (fun _ _ => True) _ (s0 := ()) trivial ?_ ?_
  ·intro k _ hk _
   refine .inl ⟨(), ?_, trivial⟩
   have hs := sum_step h hl hk
   unfold raddleref25_sums_l1
   simp only [dT (show (k : Int) < (l.length : Int) by omega), if_true, idxO_nat hk, Option.bind_some, rused_eq (h _ (List.getElem_mem hk)), rgives_eq (h _ (List.getElem_mem hk)), hs.1, hs.2, w64_succ (show k < 9223372036854775807 by omega)]
  ·intro _ _
   refine ⟨_, ?_, rfl⟩
   unfold raddleref25_sums_l1
   simp only [dF (show ¬ (l.length : Int) < (l.length : Int) by omega), Bool.false_eq_true, if_false, List.take_length]
 obtain ⟨t, h1, rfl⟩ := key
 unfold F_raddleref25_sums
 rw [h1]; rfl
def allS (l : List api_Stitch) : Int := if 200 < l.length then 4 else if allOk l then (if 200 < sm usedS l ∨ 200 < sm madeS l then 4 else 0) else 8
theorem allOk_range {l : List api_Stitch} : (List.range l.length).all (fun k => decide (okS (l.getD k ⟨0, false, 0, 0⟩))) = true ↔ allOk l := by
 rw [List.all_eq_true]
 constructor
 ·intro h p hp
  obtain ⟨k, hk, rfl⟩ := List.getElem_of_mem hp
  have := h k (List.mem_range.2 hk)
  simpa [hk] using this
 ·intro h k hk
  have hk := List.mem_range.1 hk
  have := h _ (List.getElem_mem hk)
  simpa [hk] using this
theorem getD_of {α : Type} {l : List α} {k : Nat} (d : α) (h : k < l.length) : l.getD k d = l[k] := by simp [h]
theorem find_bad {l : List api_Stitch} (hw : ∀ p, p ∈ l → wfS p) (hl : l.length ≤ 100000) : ∃ j, F_slices_IndexFunc___api_Stitch_api_Stitch__s0 l = some j ∧ (0 ≤ j ↔ ¬ allOk l) := by
 have key : ∃ t, whileO (slices_IndexFunc___api_Stitch_api_Stitch__s0_l1 l) 0 = some t ∧ ((t = .inr () ∧ allOk l) ∨ (∃ k : Nat, t = .inl (k : Int) ∧ ¬ allOk l)) := by
  refine loop_ix l.length (fun k => allOk (l.take k)) _ (fun p hp => by simp at hp) ?_ ?_
  ·intro k hk hI
   have hc := check_eq l[k] (hw _ (List.getElem_mem hk))
   unfold slices_IndexFunc___api_Stitch_api_Stitch__s0_l1 F_stitch_All_1
   simp only [dT (show (k : Int) < (l.length : Int) by omega), if_true, idxO_nat hk, Option.bind_some, hc, w64_succ (show k < 9223372036854775807 by omega)]
   by_cases ho : okS l[k]
   ·refine .inl ⟨by simp [ho], fun p hp => ?_⟩
    rw [List.take_succ_eq_append_getElem hk, List.mem_append] at hp
    rcases hp with hp | hp
    ·exact hI p hp
    ·simp at hp; subst hp; exact ho
   ·exact .inr ⟨.inl (k : Int), by simp [ho], .inr ⟨k, rfl, fun h => ho (h _ (List.getElem_mem hk))⟩⟩
  ·intro hI
   refine ⟨.inr (), ?_, .inl ⟨rfl, by simpa using hI⟩⟩
   unfold slices_IndexFunc___api_Stitch_api_Stitch__s0_l1
   simp only [dF (show ¬ (l.length : Int) < (l.length : Int) by omega), Bool.false_eq_true, if_false]
 obtain ⟨t, h1, h2⟩ := key
 unfold F_slices_IndexFunc___api_Stitch_api_Stitch__s0
 rw [h1]
 rcases h2 with ⟨rfl, h⟩ | ⟨k, rfl, h⟩
 ·exact ⟨-1, rfl, by simp [h]⟩
 ·exact ⟨(k : Int), rfl, by simp [h]⟩
theorem all_eq {l : List api_Stitch} (hw : ∀ p, p ∈ l → wfS p) : F_stitch_All l = some (allS l) := by
 unfold F_stitch_All allS
 by_cases hl : 200 < l.length
 ·simp only [dT (show (200 : Int) < (l.length : Int) by omega), if_true, if_pos hl]
 simp only [dF (show ¬ (200 : Int) < (l.length : Int) by omega), Bool.false_eq_true, if_false, if_neg hl]
 obtain ⟨j, h1, h2⟩ := find_bad hw (by omega)
 unfold F_slices_ContainsFunc___api_Stitch_api_Stitch__s0
 rw [h1]
 by_cases ho : allOk l
 ·have : ¬ 0 ≤ j := fun h => h2.1 h ho
  simp only [Option.bind_some, dF this, Bool.false_eq_true, if_false, sum_eq ho (show l.length ≤ 100000 by omega), if_pos ho]
  by_cases hm : 200 < sm usedS l ∨ 200 < sm madeS l
  ·rw [dT (show (200 : Int) < if sm usedS l < sm madeS l then sm madeS l else sm usedS l by split <;> omega)]
   simp [hm]
  ·rw [dF (show ¬ (200 : Int) < if sm usedS l < sm madeS l then sm madeS l else sm usedS l by split <;> omega)]
   simp [hm]
 ·have : 0 ≤ j := h2.2 ho
  simp only [Option.bind_some, dT this, if_true, if_neg ho]
theorem rall_eq (l : List api_Stitch) : F_raddleref25_All l = some (allS l) := by
 unfold F_raddleref25_All allS
 by_cases hl : 200 < l.length
 ·simp only [dT (show (200 : Int) < (l.length : Int) by omega), if_true, if_pos hl]
 simp only [dF (show ¬ (200 : Int) < (l.length : Int) by omega), Bool.false_eq_true, if_false, if_neg hl]
 have hloop : whileO (raddleref25_All_l1 l) 0 = some (if (List.range l.length).all (fun k => decide (okS (l.getD k ⟨0, false, 0, 0⟩))) = true then .inr () else .inl 8) := by
  refine loop_all l.length _ _ _ ?_ ?_
  ·intro k hk
   unfold raddleref25_All_l1
   simp only [dT (show (k : Int) < (l.length : Int) by omega), if_true, idxO_nat hk, Option.bind_some, rstitch_eq, w64_succ (show k < 9223372036854775807 by omega), getD_of _ hk]
   by_cases ho : okS l[k] <;> simp [ho]
  ·unfold raddleref25_All_l1
   simp only [dF (show ¬ (l.length : Int) < (l.length : Int) by omega), Bool.false_eq_true, if_false]
 rw [hloop]
 by_cases ho : allOk l
 ·rw [if_pos (allOk_range.2 ho), if_pos ho]
  simp only [Option.bind_some, rsums_eq ho (show l.length ≤ 100000 by omega)]
  by_cases hu : 200 < sm usedS l
  ·simp [hu]
  ·by_cases hm : 200 < sm madeS l <;> simp [hu, hm]
 ·rw [if_neg (fun h => ho (allOk_range.1 h)), if_neg ho]
  rfl
theorem allS_ok {l : List api_Stitch} (h : allS l = 0) : l.length ≤ 200 ∧ allOk l ∧ sm usedS l ≤ 200 ∧ sm madeS l ≤ 200 := by
 unfold allS at h
 split at h
 ·omega
 ·split at h
  ·rename_i h1 h2
   split at h
   ·omega
   ·rename_i h3
    exact ⟨by omega, h2, by omega, by omega⟩
  ·omega
def fin3 {σ τ : Type} (z0 : (σ ⊕ τ) ⊕ σ) : Option (σ ⊕ τ) := match z0 with
 | .inl z => some z
 | .inr g => some (.inl g)
def anc_raddleref25_Same_0 : List (List Nat) := [[], [], [0, 1], [0, 1, 2], [], [], [4, 5], [4, 5, 6], [0, 1, 2, 3, 4, 5, 6, 7]]
noncomputable def raddleref25_Same_l1 (p0 : (List api_Stitch)) (p1 : (List api_Stitch)) : Int → Option (Int ⊕ (Bool ⊕ Unit)) := fun s0 => match s0 with
 | a0 =>
  if decide (a0 < (p0.length : Int)) then
   (idxO p0 a0).bind fun a4 =>
   (idxO p1 a0).bind fun a5 =>
   if !((a4.Kind == a5.Kind) && ((a4.Purl == a5.Purl) && ((a4.A == a5.A) && ((a4.B == a5.B) && true)))) then
    some (.inr (.inl false))
   else
    some (.inl (w64 (a0 + 1)))
  else
   some (.inr (.inr ()))
noncomputable def F_raddleref25_Same (p0 : (List api_Stitch)) (p1 : (List api_Stitch)) : Option Bool :=
 if (p0.length : Int) != (p1.length : Int) then
  some false
 else
  Option.bind (α := Unit ⊕ Bool) (
   (whileO (raddleref25_Same_l1 p0 p1) 0).bind fun z0 => match z0 with
    | .inl z =>
     some (.inr z)
    | .inr _ =>
     some (.inl ())) fun z0 => match z0 with
   | .inl _ =>
    some true
   | .inr z =>
    some z
theorem c_raddleref25_Same (E : Nat → Prop) (w0 : World) (p0 : (List api_Stitch)) (v0 : Value) (p1 : (List api_Stitch)) (v1 : Value) (r : Bool) (h : F_raddleref25_Same p0 p1 = some r) (S : St0 E [] w0 w0 [] [fRep (rL r_api_Stitch) (v0) p0, fRep (rL r_api_Stitch) (v1) p1]) :
 Calls Try.prog 30 #[v0, v1] w0 (Ret (X := Unit) E [] w0 (fun _ => .bool r) (fun _ => []) (fun _ => [])) := by
 unfold F_raddleref25_Same at h
 obtain ⟨ad1, cp2, _, rfl, _⟩ := S.know (i := 0) (e := fRep (rL r_api_Stitch) (v0) p0) rfl
 obtain ⟨ad3, cp4, _, rfl, _⟩ := S.know (i := 1) (e := fRep (rL r_api_Stitch) (v1) p1) rfl
 refine sEnter (args := [.slice ad1 p0.length cp2, .slice ad3 p1.length cp4]) 26 Try.func30 rfl rfl (by simp) S (fun a S => ?_)
 refine sSeq (fun K5 hK5 => sRegion (sN S fun a S => ?_))
 refine lT (hK5 _ _ (sSeq (fun K6 hK6 => sSeq (fun K7 hK7 => sRegion (sM S fun a S => ?_)))))
 refine sLen S (wN rfl) rfl Try.underlying47 rfl rfl (lb rfl) fun a S => ?_
 refine sM S fun a S => ?_
 refine sLen S (wN rfl) rfl Try.underlying47 rfl rfl (lb rfl) fun a S => ?_
 refine sBin _ S (wN rfl) rfl rfl rfl (bNe _ _ _ _ .i64 (p0.length : Int) (p1.length : Int)) rfl (lb rfl) fun a S => ?_
 refine lT (hK7 _ _ ?_)
 rcases iS h with ⟨hc8, h⟩ | ⟨hc8, h⟩
 ·refine sCondT S rfl hc8 ?_
  refine sSeq (fun K9 hK9 => sRegion (sN S fun a S => ?_))
  refine lT (hK9 _ _ ?_)
  obtain rfl := tS h
  exact wp_ret (rThen (sRet (.bool false) S (rsl1 rfl (rvT (t := 4) (v := .bool false) S rfl)) ⟨(), rfl, S.mem.sel [] [] (by decide) rfl rfl⟩))
 refine sCondF S rfl hc8 ?_
 refine wp_skip (leafT (hK6 _ _ ?_))
 obtain ⟨av, h, ap⟩ := bS h
 refine sCut (fun a w => .inl () = av ∧ St [] E [] w0 26 a w [] [] []) ?_ (fun a w hI => ?_)
 rotate_left
 ·obtain ⟨rfl, S⟩ := hI
  have h := ap
  try dsimp only at h
  refine sSeq (fun aw a9 => sRegion (sN S fun a S => ?_))
  refine lT (a9 _ _ ?_)
  obtain rfl := tS h
  exact wp_ret (sRet (.bool true) S (rsl1 rfl (rvT (t := 4) (v := .bool true) S rfl)) ⟨(), rfl, S.mem.sel [] [] (by decide) rfl rfl⟩)
 refine sSeq (fun ax aa => sRegion (sN S fun a S => ?_))
 refine lT (aa _ _ (wp_block ?_))
 obtain ⟨ay, hl, aq⟩ := bS h
 refine sLoop hl (fun s0 a w => match s0 with | a5 => St [] E [] w0 26 a w [(0, .slice ad1 p0.length cp2), (1, .slice ad3 p1.length cp4), (5, iv a5)] [] [fRep (rL r_api_Stitch) (.slice ad1 p0.length cp2) p0, fRep (rL r_api_Stitch) (.slice ad3 p1.length cp4) p1]) (S.fix [] [0, 1] (by decide) rfl rfl rfl) ?_
 clear hl h
 intro a5 a w c0 hI h a8
 unfold raddleref25_Same_l1 at h
 dsimp only at h hI
 have S := hI
 refine sSeq (fun az ab => sSeq (fun aA ac => sRegion (sM S fun a S => ?_)))
 refine sM S fun a S => ?_
 refine sLen S (wN rfl) rfl Try.underlying47 rfl rfl (lb rfl) fun a S => ?_
 refine sBin _ S (wN rfl) rfl rfl rfl (bLt _ _ _ _ .i64 a5 (p0.length : Int)) rfl (lb rfl) fun a S => ?_
 refine lT (ac _ _ ?_)
 rcases iS h with ⟨a6, h⟩ | ⟨a6, h⟩
 rotate_left
 ·refine sCondF S rfl a6 ?_
  obtain rfl := tS h
  obtain rfl := a8 _ rfl
  have h := aq
  try dsimp only at h
  exact wp_exit (xThen (xThen (xHit (leafT (⟨Option.some.inj h, S.fix [] [] (by decide) rfl rfl rfl⟩)))))
 refine sCondT S rfl a6 ?_
 refine wp_skip (leafT (ab _ _ ?_))
 refine sSeq (fun aC ae => wp_block ?_)
 refine sSeq (fun aG af => ?_)
 obtain ⟨a0, ag, h⟩ := bS h
 obtain ⟨a4, ah, h⟩ := bS h
 obtain ⟨ai, aj, S⟩ := pIdx (P := Try.prog) (r := r_api_Stitch) (v := .slice ad1 p0.length cp2) (xs := p0) (j := a5) 47 81 0 S Try.underlying47 rfl rfl ag
 obtain ⟨ar, S⟩ := pLoad (r := r_api_Stitch) (q := ai) (x := a0) 0 S rfl
 obtain rfl : ar = .agg #[.int .u8 a0.Kind, .bool a0.Purl, iv a0.A, iv a0.B] := S.mem.know (i := 1) (e := fRep r_api_Stitch (ar) a0) rfl
 obtain ⟨ak, am, S⟩ := pIdx (P := Try.prog) (r := r_api_Stitch) (v := .slice ad3 p1.length cp4) (xs := p1) (j := a5) 47 81 4 S Try.underlying47 rfl rfl ah
 obtain ⟨au, S⟩ := pLoad (r := r_api_Stitch) (q := ak) (x := a4) 0 S rfl
 obtain rfl : au = .agg #[.int .u8 a4.Kind, .bool a4.Purl, iv a4.A, iv a4.B] := S.mem.know (i := 1) (e := fRep r_api_Stitch (au) a4) rfl
 refine sDraw (nf := []) (W := [(0, 17, .slice ad1 p0.length cp2), (1, 18, iv a5), (2, 19, ai), (3, 20, .agg #[.int .u8 a0.Kind, .bool a0.Purl, iv a0.A, iv a0.B]), (4, 21, .slice ad3 p1.length cp4), (5, 22, iv a5), (6, 23, ak), (7, 24, .agg #[.int .u8 a4.Kind, .bool a4.Purl, iv a4.A, iv a4.B]), (8, 25, .bool (!((a0.Kind == a4.Kind) && ((a0.Purl == a4.Purl) && ((a0.A == a4.A) && ((a0.B == a4.B) && true))))))]) rfl S ?_
 refine node_by (A := anc_raddleref25_Same_0) 9 (by kernel_rfl) (by kernel_rfl) (by kernel_rfl) (by kernel_rfl) (by kernel_rfl) [0, 1, 2, 3, 4, 5, 6, 7, 8] (by kernel_rfl) (by decide) (by decide) (fF ?_ (fF ?_ (fF ?_ (fF ?_ (fF ?_ (fF ?_ (fF ?_ (fF ?_ (fF ?_ (trivial)))))))))) [(0, .slice ad1 p0.length cp2), (1, .slice ad3 p1.length cp4), (5, iv a5), (25, .bool (!((a0.Kind == a4.Kind) && ((a0.Purl == a4.Purl) && ((a0.A == a4.A) && ((a0.B == a4.B) && true))))))] (fin_of [none, none, none, some 8] rfl (by kernel_rfl) (by kernel_rfl)) (fun _ a w S => ?_)
 ·exact fM 0 none rfl rfl rfl rfl (.inl rfl) rfl rfl rfl
 ·exact fM 1 none rfl rfl rfl rfl (.inl rfl) rfl rfl rfl
 ·refine fJ [(17, _), (18, _)] 2 [some 0, some 1] fun G a w S => ?_
  exact sIdxV S (wN rfl) rfl rfl rfl aj rfl (lb rfl) fun a S => leafL ⟨rfl, S⟩
 ·refine fJ [(19, _)] 3 [some 2] fun G a w S => ?_
  exact sLoadVN (vq := ai) 3 [.int .u8 a0.Kind, .bool a0.Purl, iv a0.A, iv a0.B] S (wN rfl) rfl rfl rfl rfl rfl rfl (lb rfl) fun a S => leafL ⟨rfl, S⟩
 ·exact fM 4 none rfl rfl rfl rfl (.inl rfl) rfl rfl rfl
 ·exact fM 5 none rfl rfl rfl rfl (.inl rfl) rfl rfl rfl
 ·refine fJ [(21, _), (22, _)] 6 [some 4, some 5] fun G a w S => ?_
  exact sIdxV S (wN rfl) rfl rfl rfl am rfl (lb rfl) fun a S => leafL ⟨rfl, S⟩
 ·refine fJ [(23, _)] 7 [some 6] fun G a w S => ?_
  exact sLoadVN (vq := ak) 0 [.int .u8 a4.Kind, .bool a4.Purl, iv a4.A, iv a4.B] S (wN rfl) rfl rfl rfl rfl rfl rfl (lb rfl) fun a S => leafL ⟨rfl, S⟩
 ·refine fJ [(20, _), (24, _)] 8 [some 3, some 7] fun G a w S => ?_
  exact sBin _ S (wN rfl) rfl rfl rfl (bNeV _ _ _ _ #[.int .u8 a0.Kind, .bool a0.Purl, iv a0.A, iv a0.B] #[.int .u8 a4.Kind, .bool a4.Purl, iv a4.A, iv a4.B] ((a0.Kind == a4.Kind) && ((a0.Purl == a4.Purl) && ((a0.A == a4.A) && ((a0.B == a4.B) && true)))) (by kernel_rfl) (eqlV_of (by kernel_rfl))) rfl (lb rfl) fun a S => leafL ⟨rfl, S⟩
 refine leafT (af _ _ ?_)
 rcases iS h with ⟨a7, h⟩ | ⟨a7, h⟩
 rotate_left
 ·refine sCondF S rfl a7 ?_
  refine wp_skip (leafB (leafT (ae _ _ ?_)))
  refine sRegion (sM S fun a S => ?_)
  refine sBin _ S (wN rfl) rfl rfl rfl (bAdd _ _ _ _ a5 1) rfl (lb rfl) fun a S => ?_
  refine sN S fun a S => ?_
  exact lT (⟨w64 (a5 + 1), (Option.some.inj h).symm, (S.fix [] [6, 7] (by decide) rfl rfl rfl)⟩)
 refine sCondT S rfl a7 ?_
 refine sSeq (fun aH ao => sRegion (sN S fun a S => ?_))
 refine lT (ao _ _ ?_)
 obtain rfl := tS h
 obtain rfl := a8 _ rfl
 have h := aq
 try dsimp only at h
 obtain rfl := tS h
 have h := ap
 try dsimp only at h
 obtain rfl := tS h
 exact wp_ret (rBlock (rThen (rThen (rBlock (rThen (sRet (.bool false) S (rsl1 rfl (rvT (t := 4) (v := .bool false) S rfl)) ⟨(), rfl, S.mem.sel [] [] (by decide) rfl rfl⟩))))))
theorem steq (x y : api_Stitch) : ((x.Kind == y.Kind) && ((x.Purl == y.Purl) && ((x.A == y.A) && ((x.B == y.B) && true)))) = decide (x = y) := by
 by_cases h : x = y
 ·subst h; simp
 ·rw [dF h]
  refine Bool.eq_false_iff.2 fun hb => h ?_
  simp only [Bool.and_eq_true, beq_iff_eq, and_true] at hb
  cases x; cases y
  simp only at hb
  obtain ⟨h1, h2, h3, h4⟩ := hb
  rw [h1, h2, h3, h4]
theorem min3_nat (x y z : Nat) : min3 (x : Int) (y : Int) (z : Int) = ((min (min x y) z : Nat) : Int) := by
 unfold min3
 repeat' split
 all_goals omega
def stS {β : Type} (z : β) (W : Nat → β) (n k : Nat) : List β := (List.range (n + 1)).map fun j => if k ≤ j then W j else z
theorem stS_len {β : Type} (z : β) (W : Nat → β) (n k : Nat) : (stS z W n k).length = n + 1 := by simp [stS]
theorem stS_get {β : Type} (z : β) (W : Nat → β) {n k j : Nat} (hj : j ≤ n) (hk : k ≤ j) : idxO (stS z W n k) (j : Int) = some (W j) := by
 rw [idxO_nat (by rw [stS_len]; omega)]
 simp [stS, hk]
theorem stS_idx {β : Type} (z : β) (W : Nat → β) {n k j : Nat} (hj : j ≤ n) : ∃ y, idxO (stS z W n k) (j : Int) = some y := ⟨_, idxO_nat (by rw [stS_len]; omega)⟩
theorem stS_list {β : Type} (z : β) (W : Nat → β) (n k : Nat) : (stS z W n (k + 1)).set k (W k) = stS z W n k := by
 apply List.ext_getElem?
 intro t
 by_cases ht : t < n + 1
 ·rw [List.getElem?_set]
  simp only [stS, List.getElem?_map, List.getElem?_range ht, Option.map_some, List.length_map, List.length_range]
  by_cases e : k = t
  ·subst e; rw [if_pos rfl, if_pos ht, if_pos (Nat.le_refl _)]
  ·rw [if_neg e]
   by_cases e2 : k ≤ t
   ·rw [if_pos (by omega), if_pos e2]
   ·rw [if_neg (by omega), if_neg e2]
 ·rw [List.getElem?_eq_none (by simp [stS]; omega), List.getElem?_eq_none (by simp [stS]; omega)]
theorem stS_set {β : Type} (z : β) (W : Nat → β) {n k : Nat} (hk : k ≤ n) {v : β} (hv : v = W k) : setO (stS z W n (k + 1)) (k : Int) v = some (stS z W n k) := by
 rw [setO_nat (by rw [stS_len]; omega), hv, stS_list]
theorem stS_same {β : Type} (z : β) (W : Nat → β) {n k : Nat} (h : W k = z) : stS z W n (k + 1) = stS z W n k := by
 unfold stS
 refine map_cong fun j _ => ?_
 by_cases e : k = j
 ·subst e; rw [if_neg (by omega), if_pos (Nat.le_refl _), h]
 ·by_cases e2 : k ≤ j
  ·rw [if_pos (by omega), if_pos e2]
  ·rw [if_neg (by omega), if_neg e2]
theorem stS_top {β : Type} (z : β) (W : Nat → β) (n : Nat) : stS z W n (n + 1) = List.replicate (n + 1) z := by
 unfold stS
 have : (List.range (n + 1)).map (fun j => if n + 1 ≤ j then W j else z) = (List.range (n + 1)).map fun _ => z := map_cong fun j hj => if_neg (by omega)
 rw [this]
 simp [List.map_const']
theorem loop_dn {σ τ : Type} {B : Int × σ → Option ((Int × σ) ⊕ τ)} (n : Nat) (st : Nat → σ) {t : τ} (h : ∀ k, k ≤ n → B ((k : Int), st (k + 1)) = some (.inl ((k : Int) - 1, st k))) (hn : B (-1, st 0) = some (.inr t)) : whileO B ((n : Int), st (n + 1)) = some t := by
 have key : ∀ k, k ≤ n + 1 → whileO B ((k : Int) - 1, st k) = some t := by
  intro k
  induction k with
  | zero => intro _; exact whileO_done hn
  | succ k ih =>
   intro hk
   rw [show (((k + 1 : Nat) : Int) - 1) = (k : Int) by omega, whileO_step (h k (by omega))]
   exact ih (by omega)
 have := key (n + 1) (Nat.le_refl _)
 rw [show (((n + 1 : Nat) : Int) - 1) = (n : Int) by omega] at this
 exact this
theorem loop_dn2 {σ τ : Type} {B : σ × Int → Option ((σ × Int) ⊕ τ)} (n : Nat) (st : Nat → σ) {t : τ} (h : ∀ k, k ≤ n → B (st (k + 1), (k : Int)) = some (.inl (st k, (k : Int) - 1))) (hn : B (st 0, -1) = some (.inr t)) : whileO B (st (n + 1), (n : Int)) = some t := by
 have key : ∀ k, k ≤ n + 1 → whileO B (st k, (k : Int) - 1) = some t := by
  intro k
  induction k with
  | zero => intro _; exact whileO_done hn
  | succ k ih =>
   intro hk
   rw [show (((k + 1 : Nat) : Int) - 1) = (k : Int) by omega, whileO_step (h k (by omega))]
   exact ih (by omega)
 have := key (n + 1) (Nat.le_refl _)
 rw [show (((n + 1 : Nat) : Int) - 1) = (n : Int) by omega] at this
 exact this
theorem w64_pred {k : Nat} (h : k ≤ 9223372036854775807) : w64 ((k : Int) - 1) = (k : Int) - 1 := w64_of (by omega) (by omega)
section
variable {α : Type} (al : α → Nat) (bo : α → α → Nat)
def Wg (a b : List α) (i k : Nat) : Nat := wed al bo (a.drop i) (b.drop k)
end
section
variable {α : Type} {al : α → Nat} {bo : α → α → Nat} {a b : List α}
theorem Wg_end : Wg al bo a b a.length b.length = 0 := by unfold Wg; rw [List.drop_length, List.drop_length]; rfl
theorem Wg_b {k : Nat} (hk : k < b.length) : Wg al bo a b a.length k = Wg al bo a b a.length (k + 1) + al b[k] := by
 unfold Wg; rw [List.drop_length, List.drop_eq_getElem_cons hk]; rfl
theorem Wg_a {i : Nat} (hi : i < a.length) : Wg al bo a b i b.length = Wg al bo a b (i + 1) b.length + al a[i] := by
 unfold Wg; rw [List.drop_length, List.drop_eq_getElem_cons hi]; rfl
theorem Wg_ab {i k : Nat} (hi : i < a.length) (hk : k < b.length) : Wg al bo a b i k = min (min (Wg al bo a b (i + 1) k + al a[i]) (Wg al bo a b i (k + 1) + al b[k])) (Wg al bo a b (i + 1) (k + 1) + bo a[i] b[k]) := by
 unfold Wg; rw [List.drop_eq_getElem_cons hi, List.drop_eq_getElem_cons hk, wed_cc]
theorem sumA_drop (b : List α) (k : Nat) : sumA al (b.drop k) ≤ sumA al b := by
 induction b generalizing k with
 | nil => simp [sumA]
 | cons y b ih =>
  cases k with
  | zero => exact Nat.le_refl _
  | succ k => have := ih k; simp only [List.drop_succ_cons, sumA]; omega
theorem Wg_bd (i k : Nat) : Wg al bo a b i k ≤ sumA al a + sumA al b := by
 have h1 := wed_sum (al := al) (bo := bo) (a.drop i) (b.drop k)
 have h2 := sumA_drop (al := al) a i
 have h3 := sumA_drop (al := al) b k
 unfold Wg
 omega
end
def tbS {α : Type} (al : α → Nat) (bo : α → α → Nat) (a b : List α) (i : Nat) : List (List Int) := stS [] (fun i => stS 0 (fun k => ((Wg al bo a b i k : Nat) : Int)) b.length 0) a.length i
theorem tb_row {α : Type} (al : α → Nat) (bo : α → α → Nat) (a b : List α) {i j : Nat} (hi : i ≤ a.length) (hj : j ≤ i) : idxO (tbS al bo a b j) (i : Int) = some (stS 0 (fun k => ((Wg al bo a b i k : Nat) : Int)) b.length 0) := stS_get _ _ hi hj
theorem tb_val {α : Type} (al : α → Nat) (bo : α → α → Nat) (a b : List α) (i : Nat) {k : Nat} (hk : k ≤ b.length) : idxO (stS 0 (fun k => ((Wg al bo a b i k : Nat) : Int)) b.length 0) (k : Int) = some ((Wg al bo a b i k : Nat) : Int) := stS_get _ _ hk (Nat.zero_le _)
theorem rowS_set {α : Type} (al : α → Nat) (bo : α → α → Nat) (a b : List α) (i : Nat) {k : Nat} (hk : k ≤ b.length) : setO (stS (0 : Int) (fun k => ((Wg al bo a b i k : Nat) : Int)) b.length (k + 1)) (k : Int) ((Wg al bo a b i k : Nat) : Int) = some (stS 0 (fun k => ((Wg al bo a b i k : Nat) : Int)) b.length k) := stS_set _ _ hk rfl
theorem ctable_eq (a b : List api_Stitch) (ha : a.length ≤ 1000) (hb : b.length ≤ 1000) : F_compare_cellTable a b = some (tbS al1 bo1 a b 0) := by
 have hbd : ∀ i k, Wg al1 bo1 a b i k ≤ 2000 := by
  intro i k
  have h1 := Wg_bd (al := al1) (bo := bo1) (a := a) (b := b) i k
  rw [sumA_one (al := al1) (fun _ => rfl), sumA_one (al := al1) (fun _ => rfl)] at h1
  omega
 have hc2 : ∀ x y, F_compare_cellTable_2 x y = some ((bo1 x y : Nat) : Int) := by
  intro x y
  unfold F_compare_cellTable_2
  rw [steq]
  by_cases h : x = y
  ·rw [dT h, bo1_eq h]; rfl
  ·rw [dF h, bo1_ne h]; rfl
 have hc1 : ∀ x, F_compare_cellTable_1 x = some ((al1 x : Nat) : Int) := fun x => rfl
 have hrow : ∀ i, i ≤ a.length → whileO (compare_table_api_Stitch__s0_l1 (i : Int) a b (tbS al1 bo1 a b (i + 1))) ((b.length : Int), List.replicate (b.length + 1) 0) = some (stS 0 (fun k => ((Wg al1 bo1 a b i k : Nat) : Int)) b.length 0) := by
  intro i hi
  have h := loop_dn (B := compare_table_api_Stitch__s0_l1 (i : Int) a b (tbS al1 bo1 a b (i + 1))) b.length (fun k => stS 0 (fun k => ((Wg al1 bo1 a b i k : Nat) : Int)) b.length k) (t := stS 0 (fun k => ((Wg al1 bo1 a b i k : Nat) : Int)) b.length 0)
   (fun k hk => by
    have b1 := hbd i (k + 1)
    have b2 := hbd (i + 1) k
    have b3 := hbd (i + 1) (k + 1)
    obtain ⟨y, hy⟩ := stS_idx (0 : Int) (fun k => ((Wg al1 bo1 a b i k : Nat) : Int)) (k := k + 1) hk
    unfold compare_table_api_Stitch__s0_l1
    simp only [dT (show (0 : Int) ≤ (k : Int) by omega), if_true]
    by_cases e1 : i = a.length
    ·by_cases e2 : k = b.length
     ·simp only [bT (show (i : Int) = (a.length : Int) by omega), bT (show (k : Int) = (b.length : Int) by omega), if_true, Option.bind_some, w64_pred (show k ≤ 9223372036854775807 by omega)]
      rw [stS_same (0 : Int) (fun k => ((Wg al1 bo1 a b i k : Nat) : Int)) (by rw [e1, e2, Wg_end]; rfl)]
     ·have hk2 : k < b.length := by omega
      simp only [bT (show (i : Int) = (a.length : Int) by omega), bF (show ¬ (k : Int) = (b.length : Int) by omega), if_true, Bool.false_eq_true, if_false, Option.bind_some, w64_succ (show k < 9223372036854775807 by omega), stS_get (0 : Int) (fun k => ((Wg al1 bo1 a b i k : Nat) : Int)) (show k + 1 ≤ b.length by omega) (Nat.le_refl _), idxO_nat hk2, hc1, hy, w64_pred (show k ≤ 9223372036854775807 by omega)]
      have hv : w64 (((Wg al1 bo1 a b i (k + 1) : Nat) : Int) + ((al1 b[k] : Nat) : Int)) = ((Wg al1 bo1 a b i k : Nat) : Int) := by rw [wadd (by simp only [al1]; omega), e1, Wg_b hk2]
      rw [hv, rowS_set al1 bo1 a b i hk]
      rfl
    ·have hi2 : i < a.length := by omega
     by_cases e2 : k = b.length
     ·simp only [bF (show ¬ (i : Int) = (a.length : Int) by omega), bT (show (k : Int) = (b.length : Int) by omega), if_true, Bool.false_eq_true, if_false, Option.bind_some, w64_succ (show i < 9223372036854775807 by omega), tb_row al1 bo1 a b (show i + 1 ≤ a.length by omega) (Nat.le_refl _), tb_val al1 bo1 a b (i + 1) hk, idxO_nat hi2, hc1, hy, w64_pred (show k ≤ 9223372036854775807 by omega)]
      have hv : w64 (((Wg al1 bo1 a b (i + 1) k : Nat) : Int) + ((al1 a[i] : Nat) : Int)) = ((Wg al1 bo1 a b i k : Nat) : Int) := by rw [wadd (by simp only [al1]; omega), e2, Wg_a hi2]
      rw [hv, rowS_set al1 bo1 a b i hk]
      rfl
     ·have hk2 : k < b.length := by omega
      have b4 := bo1_le a[i] b[k]
      simp only [bF (show ¬ (i : Int) = (a.length : Int) by omega), bF (show ¬ (k : Int) = (b.length : Int) by omega), Bool.false_eq_true, if_false, Option.bind_some, w64_succ (show i < 9223372036854775807 by omega), w64_succ (show k < 9223372036854775807 by omega), tb_row al1 bo1 a b (show i + 1 ≤ a.length by omega) (Nat.le_refl _), tb_val al1 bo1 a b (i + 1) hk, tb_val al1 bo1 a b (i + 1) (show k + 1 ≤ b.length by omega), stS_get (0 : Int) (fun k => ((Wg al1 bo1 a b i k : Nat) : Int)) (show k + 1 ≤ b.length by omega) (Nat.le_refl _), idxO_nat hi2, idxO_nat hk2, hc1, hc2, hy, w64_pred (show k ≤ 9223372036854775807 by omega)]
      have hv : min3 (w64 (((Wg al1 bo1 a b (i + 1) k : Nat) : Int) + ((al1 a[i] : Nat) : Int))) (w64 (((Wg al1 bo1 a b i (k + 1) : Nat) : Int) + ((al1 b[k] : Nat) : Int))) (w64 (((Wg al1 bo1 a b (i + 1) (k + 1) : Nat) : Int) + ((bo1 a[i] b[k] : Nat) : Int))) = ((Wg al1 bo1 a b i k : Nat) : Int) := by
       rw [wadd (a := Wg al1 bo1 a b (i + 1) k) (by simp only [al1]; omega), wadd (a := Wg al1 bo1 a b i (k + 1)) (by simp only [al1]; omega), wadd (by omega), min3_nat, Wg_ab hi2 hk2]
      rw [hv, rowS_set al1 bo1 a b i hk]
      rfl)
   (by
    unfold compare_table_api_Stitch__s0_l1
    simp only [dF (show ¬ (0 : Int) ≤ -1 by decide), Bool.false_eq_true, if_false])
  rw [stS_top] at h
  exact h
 have h := loop_dn2 (B := compare_table_api_Stitch__s0_l2 b a) a.length (fun i => tbS al1 bo1 a b i) (t := tbS al1 bo1 a b 0)
  (fun i hi => by
   obtain ⟨y, hy⟩ := stS_idx ([] : List Int) (fun i => stS 0 (fun k => ((Wg al1 bo1 a b i k : Nat) : Int)) b.length 0) (k := i + 1) hi
   have hy2 : idxO (tbS al1 bo1 a b (i + 1)) (i : Int) = some y := hy
   unfold compare_table_api_Stitch__s0_l2
   simp only [dT (show (0 : Int) ≤ (i : Int) by omega), if_true, w64_succ (show b.length < 9223372036854775807 by omega)]
   rw [makeO_of (k := b.length + 1) rfl (by omega)]
   simp only [Option.bind_some, hy2, hrow i hi, w64_pred (show i ≤ 9223372036854775807 by omega), Int.toNat_natCast]
   rw [show (tbS al1 bo1 a b (i + 1)).set i (stS 0 (fun k => ((Wg al1 bo1 a b i k : Nat) : Int)) b.length 0) = tbS al1 bo1 a b i from stS_list _ _ _ _])
  (by
   unfold compare_table_api_Stitch__s0_l2
   simp only [dF (show ¬ (0 : Int) ≤ -1 by decide), Bool.false_eq_true, if_false])
 have ht : tbS al1 bo1 a b (a.length + 1) = List.replicate (a.length + 1) [] := stS_top _ _ _
 rw [ht] at h
 unfold F_compare_cellTable F_compare_table_api_Stitch__s0
 simp only [w64_succ (show a.length < 9223372036854775807 by omega)]
 rw [makeO_of (k := a.length + 1) rfl (by omega)]
 simp only [Option.bind_some, h]
theorem tb_at (a b : List api_Stitch) {i k : Nat} (hi : i ≤ a.length) (hk : k ≤ b.length) : ∃ r, idxO (tbS al1 bo1 a b 0) (i : Int) = some r ∧ idxO r (k : Int) = some ((D1 (a.drop i) (b.drop k) : Nat) : Int) :=
 ⟨_, tb_row al1 bo1 a b hi (Nat.zero_le _), tb_val al1 bo1 a b i hk⟩
theorem uses_eq {l : List api_Stitch} (hw : ∀ p, p ∈ l → wfS p) : F_stitch_Uses l = some (if allS l = 0 then (sm usedS l, 0) else (0, allS l)) := by
 unfold F_stitch_Uses
 rw [all_eq hw, Option.bind_some]
 by_cases h : allS l = 0
 ·simp only [nF h, Bool.false_eq_true, if_false, sum_eq (allS_ok h).2.1 (show l.length ≤ 100000 by have := (allS_ok h).1; omega), Option.bind_some, if_pos h]
 ·simp only [nT h, if_true, if_neg h]
theorem makes_eq {l : List api_Stitch} (hw : ∀ p, p ∈ l → wfS p) : F_stitch_Makes l = some (if allS l = 0 then (sm madeS l, 0) else (0, allS l)) := by
 unfold F_stitch_Makes
 rw [all_eq hw, Option.bind_some]
 by_cases h : allS l = 0
 ·simp only [nF h, Bool.false_eq_true, if_false, sum_eq (allS_ok h).2.1 (show l.length ≤ 100000 by have := (allS_ok h).1; omega), Option.bind_some, if_pos h]
 ·simp only [nT h, if_true, if_neg h]
theorem ruses_eq (l : List api_Stitch) : F_raddleref25_Uses l = some (if allS l = 0 then (sm usedS l, 0) else (0, allS l)) := by
 unfold F_raddleref25_Uses
 rw [rall_eq, Option.bind_some]
 by_cases h : allS l = 0
 ·simp only [nF h, Bool.false_eq_true, if_false, rsums_eq (allS_ok h).2.1 (show l.length ≤ 100000 by have := (allS_ok h).1; omega), Option.bind_some, if_pos h]
 ·simp only [nT h, if_true, if_neg h]
theorem rmakes_eq (l : List api_Stitch) : F_raddleref25_Makes l = some (if allS l = 0 then (sm madeS l, 0) else (0, allS l)) := by
 unfold F_raddleref25_Makes
 rw [rall_eq, Option.bind_some]
 by_cases h : allS l = 0
 ·simp only [nF h, Bool.false_eq_true, if_false, rsums_eq (allS_ok h).2.1 (show l.length ≤ 100000 by have := (allS_ok h).1; omega), Option.bind_some, if_pos h]
 ·simp only [nT h, if_true, if_neg h]
def wfR (rows : List api_Row) : Prop := ∀ r, r ∈ rows → ∀ p, p ∈ r.Cells → wfS p
def chkR : Int → List api_Row → Int
 | _, [] => 0
 | n, r :: rs => if allS r.Cells ≠ 0 then allS r.Cells else if sm usedS r.Cells ≠ n then 26 else chkR (sm madeS r.Cells) rs
def ctl : Nat → Int → List api_Row → List (Int × chart_count)
 | _, _, [] => []
 | i, n, r :: rs => if allS r.Cells ≠ 0 then [((i : Int), ⟨n, 0, allS r.Cells⟩)] else if sm usedS r.Cells ≠ n then [((i : Int), ⟨n, 0, 26⟩)] else ((i : Int), ⟨n, sm madeS r.Cells, 0⟩) :: ctl (i + 1) (sm madeS r.Cells) rs
theorem counted_loop {σ τ : Type} (c : api_Chart) (hw : wfR c.Rows) (hl : c.Rows.length ≤ 1000000000) (B : σ → (Int × chart_count) → Option (σ ⊕ τ)) : ∀ (rs : List api_Row) (i : Nat) (n : Int) (z : σ), c.Rows.drop i = rs → (whileO (chart_counted_1_l1 c B) (n, (i : Int), z)).bind fin3 = foldO B z (ctl i n rs) := by
 intro rs
 induction rs with
 | nil =>
  intro i n z hd
  have hi : c.Rows.length ≤ i := by
   have := congrArg List.length hd
   simp at this; omega
  have : chart_counted_1_l1 c B (n, (i : Int), z) = some (.inr (.inr z)) := by
   unfold chart_counted_1_l1
   simp only [dF (show ¬ (i : Int) < (c.Rows.length : Int) by omega), Bool.false_eq_true, if_false]
  rw [whileO_done this]
  rfl
 | cons r rs ih =>
  intro i n z hd
  have hi : i < c.Rows.length := by
   have := congrArg List.length hd
   simp at this; omega
  have hr : c.Rows[i] = r := by
   have := List.getElem_drop (xs := c.Rows) (i := i) (j := 0) (h := by rw [hd]; simp)
   simp only [hd, List.getElem_cons_zero, Nat.add_zero] at this
   exact this.symm
  have hrs : c.Rows.drop (i + 1) = rs := by
   rw [← List.drop_drop, hd]; rfl
  have hwr : ∀ p, p ∈ r.Cells → wfS p := hw r (hr ▸ List.getElem_mem hi)
  have hs : w64 ((i : Int) + 1) = ((i + 1 : Nat) : Int) := w64_succ (by omega)
  simp only [ctl]
  by_cases ha : allS r.Cells = 0
  ·have eu : F_stitch_Uses r.Cells = some (sm usedS r.Cells, 0) := by rw [uses_eq hwr, if_pos ha]
   have em : F_stitch_Makes r.Cells = some (sm madeS r.Cells, 0) := by rw [makes_eq hwr, if_pos ha]
   rw [if_neg (by simp [ha])]
   by_cases hu : sm usedS r.Cells = n
   ·have e1 : chart_counted_1_l1 c B (n, (i : Int), z) = (B z ((i : Int), ⟨n, sm madeS r.Cells, 0⟩)).bind fun y => match y with | .inl z' => some (.inl (sm madeS r.Cells, ((i + 1 : Nat) : Int), z')) | .inr t => some (.inr (.inl (.inr t))) := by
     unfold chart_counted_1_l1
     simp only [dT (show (i : Int) < (c.Rows.length : Int) by omega), if_true, idxO_nat hi, hr, Option.bind_some, eu, em, bne_self_eq_false, Bool.false_eq_true, if_false, nF hu, hs]
     try congr 1
    rw [if_neg (by simp [hu]), whileO_eq, e1, foldO]
    cases hb : B z ((i : Int), ⟨n, sm madeS r.Cells, 0⟩) with
    | none => rfl
    | some y =>
     cases y with
     | inl z' => exact ih (i + 1) (sm madeS r.Cells) z' hrs
     | inr t => rfl
   ·have e1 : chart_counted_1_l1 c B (n, (i : Int), z) = (B z ((i : Int), ⟨n, 0, 26⟩)).bind fun y => match y with | .inl z' => some (.inr (.inl (.inl z'))) | .inr t => some (.inr (.inl (.inr t))) := by
     unfold chart_counted_1_l1
     simp only [dT (show (i : Int) < (c.Rows.length : Int) by omega), if_true, idxO_nat hi, hr, Option.bind_some, eu, em, bne_self_eq_false, Bool.false_eq_true, if_false, nT hu, nT (show ¬ (26 : Int) = 0 by omega)]
     try congr 1
    rw [if_pos (by simp [hu]), whileO_eq, e1, foldO]
    cases hb : B z ((i : Int), ⟨n, 0, 26⟩) with
    | none => rfl
    | some y => cases y <;> rfl
  ·have eu : F_stitch_Uses r.Cells = some (0, allS r.Cells) := by rw [uses_eq hwr, if_neg ha]
   have e1 : chart_counted_1_l1 c B (n, (i : Int), z) = (B z ((i : Int), ⟨n, 0, allS r.Cells⟩)).bind fun y => match y with | .inl z' => some (.inr (.inl (.inl z'))) | .inr t => some (.inr (.inl (.inr t))) := by
    unfold chart_counted_1_l1
    simp only [dT (show (i : Int) < (c.Rows.length : Int) by omega), if_true, idxO_nat hi, hr, Option.bind_some, eu, nT ha]
    try congr 1
   rw [if_pos (by simp [ha]), whileO_eq, e1, foldO]
   cases hb : B z ((i : Int), ⟨n, 0, allS r.Cells⟩) with
   | none => rfl
   | some y => cases y <;> rfl
theorem chcount_eq {σ τ : Type} (c : api_Chart) (hw : wfR c.Rows) (hl : c.Rows.length ≤ 1000000000) (B : σ → (Int × chart_count) → Option (σ ⊕ τ)) (z : σ) : I_chart_counted_1 c σ τ B z = foldO B z (ctl 0 c.Start c.Rows) := by
 rw [← counted_loop c hw hl B c.Rows 0 c.Start z rfl]
 unfold I_chart_counted_1
 try congr 1
def chk (c : api_Chart) : Int := if 100 < c.Rows.length then 4 else if c.Start < 0 ∨ 200 < c.Start then 8 else chkR c.Start c.Rows
theorem check_fold : ∀ (rs : List api_Row) (i : Nat) (n : Int), foldO chart_Check_l2 () (ctl i n rs) = some (if chkR n rs = 0 then .inl () else .inr (chkR n rs)) := by
 intro rs
 induction rs with
 | nil => intro i n; rfl
 | cons r rs ih =>
  intro i n
  simp only [ctl, chkR]
  by_cases ha : allS r.Cells = 0
  ·simp only [ha, ne_eq, not_true_eq_false, if_false]
   by_cases hu : sm usedS r.Cells = n
   ·simp only [hu, not_true_eq_false, if_false, foldO, chart_Check_l2, bne_self_eq_false, Bool.false_eq_true, Option.bind_some]
    exact ih _ _
   ·simp only [hu, not_false_eq_true, if_true, foldO, chart_Check_l2, nT (show ¬ (26 : Int) = 0 by omega), Option.bind_some]
    rfl
  ·simp only [ha, ne_eq, not_false_eq_true, if_true, foldO, chart_Check_l2, nT ha, Option.bind_some, if_false]
theorem chart_check_eq (c : api_Chart) (hw : wfR c.Rows) : F_chart_Check c = some (chk c) := by
 unfold F_chart_Check chk F_chart_counted
 by_cases h1 : 100 < c.Rows.length
 ·simp only [dT (show (100 : Int) < (c.Rows.length : Int) by omega), if_true, if_pos h1]
 simp only [dF (show ¬ (100 : Int) < (c.Rows.length : Int) by omega), Bool.false_eq_true, if_false, if_neg h1, Option.bind_some, chcount_eq c hw (show c.Rows.length ≤ 1000000000 by omega), check_fold]
 by_cases h2 : c.Start < 0
 ·simp [h2]
 by_cases h3 : 200 < c.Start
 ·simp [h2, h3]
 by_cases h4 : chkR c.Start c.Rows = 0 <;> simp [h2, h3, h4]
theorem rchart_loop (c : api_Chart) (hl : c.Rows.length ≤ 1000000000) : ∀ (rs : List api_Row) (i : Nat) (n : Int), c.Rows.drop i = rs → whileO (raddleref26_Check_l1 c) (n, (i : Int)) = some (if chkR n rs = 0 then .inr () else .inl (chkR n rs)) := by
 intro rs
 induction rs with
 | nil =>
  intro i n hd
  have hi : c.Rows.length ≤ i := by
   have := congrArg List.length hd
   simp at this; omega
  have : raddleref26_Check_l1 c (n, (i : Int)) = some (.inr (.inr ())) := by
   unfold raddleref26_Check_l1
   simp only [dF (show ¬ (i : Int) < (c.Rows.length : Int) by omega), Bool.false_eq_true, if_false]
  rw [whileO_done this]
  rfl
 | cons r rs ih =>
  intro i n hd
  have hi : i < c.Rows.length := by
   have := congrArg List.length hd
   simp at this; omega
  have hr : c.Rows[i] = r := by
   have := List.getElem_drop (xs := c.Rows) (i := i) (j := 0) (h := by rw [hd]; simp)
   simp only [hd, List.getElem_cons_zero, Nat.add_zero] at this
   exact this.symm
  have hrs : c.Rows.drop (i + 1) = rs := by
   rw [← List.drop_drop, hd]; rfl
  have hs : w64 ((i : Int) + 1) = ((i + 1 : Nat) : Int) := w64_succ (by omega)
  by_cases ha : allS r.Cells = 0
  ·have eu : F_raddleref25_Uses r.Cells = some (sm usedS r.Cells, 0) := by rw [ruses_eq, if_pos ha]
   have em : F_raddleref25_Makes r.Cells = some (sm madeS r.Cells, 0) := by rw [rmakes_eq, if_pos ha]
   by_cases hu : sm usedS r.Cells = n
   ·have e1 : raddleref26_Check_l1 c (n, (i : Int)) = some (.inl (sm madeS r.Cells, ((i + 1 : Nat) : Int))) := by
     unfold raddleref26_Check_l1
     simp only [dT (show (i : Int) < (c.Rows.length : Int) by omega), if_true, idxO_nat hi, hr, Option.bind_some, eu, em, bne_self_eq_false, Bool.false_eq_true, if_false, nF hu, hs]
    have hc : chkR n (r :: rs) = chkR (sm madeS r.Cells) rs := by simp [chkR, ha, hu]
    rw [whileO_step e1, ih (i + 1) (sm madeS r.Cells) hrs, hc]
   ·have e1 : raddleref26_Check_l1 c (n, (i : Int)) = some (.inr (.inl 26)) := by
     unfold raddleref26_Check_l1
     simp only [dT (show (i : Int) < (c.Rows.length : Int) by omega), if_true, idxO_nat hi, hr, Option.bind_some, eu, em, bne_self_eq_false, Bool.false_eq_true, if_false, nT hu]
    have hc : chkR n (r :: rs) = 26 := by simp [chkR, ha, hu]
    rw [whileO_done e1, hc]
    rfl
  ·have eu : F_raddleref25_Uses r.Cells = some (0, allS r.Cells) := by rw [ruses_eq, if_neg ha]
   have e1 : raddleref26_Check_l1 c (n, (i : Int)) = some (.inr (.inl (allS r.Cells))) := by
    unfold raddleref26_Check_l1
    simp only [dT (show (i : Int) < (c.Rows.length : Int) by omega), if_true, idxO_nat hi, hr, Option.bind_some, eu, nT ha]
   have hc : chkR n (r :: rs) = allS r.Cells := by simp [chkR, ha]
   rw [whileO_done e1, hc, if_neg ha]
theorem rchart_check_eq (c : api_Chart) : F_raddleref26_Check c = some (chk c) := by
 unfold F_raddleref26_Check chk
 by_cases h1 : 100 < c.Rows.length
 ·simp only [dT (show (100 : Int) < (c.Rows.length : Int) by omega), if_true, if_pos h1]
 simp only [dF (show ¬ (100 : Int) < (c.Rows.length : Int) by omega), Bool.false_eq_true, if_false, if_neg h1]
 have hloop := rchart_loop c (by omega) c.Rows 0 c.Start rfl
 have h0 : ((0 : Nat) : Int) = 0 := rfl
 rw [h0] at hloop
 rw [hloop]
 by_cases h2 : c.Start < 0
 ·simp [h2]
 by_cases h3 : 200 < c.Start
 ·simp [h2, h3]
 by_cases h4 : chkR c.Start c.Rows = 0 <;> simp [h2, h3, h4]
theorem chk_ok {c : api_Chart} (h : chk c = 0) : c.Rows.length ≤ 100 ∧ 0 ≤ c.Start ∧ c.Start ≤ 200 ∧ chkR c.Start c.Rows = 0 := by
 unfold chk at h
 split at h
 ·omega
 ·split at h
  ·omega
  ·rename_i h1 h2
   exact ⟨by omega, by omega, by omega, h⟩
theorem chkR_cons {n : Int} {r : api_Row} {rs : List api_Row} : chkR n (r :: rs) = 0 ↔ allS r.Cells = 0 ∧ sm usedS r.Cells = n ∧ chkR (sm madeS r.Cells) rs = 0 := by
 simp only [chkR]
 by_cases ha : allS r.Cells = 0
 ·by_cases hu : sm usedS r.Cells = n
  ·simp [ha, hu]
  ·simp [ha, hu]
 ·simp [ha]
theorem chkR_mem : ∀ {rs : List api_Row} {n : Int}, chkR n rs = 0 → ∀ r, r ∈ rs → allS r.Cells = 0 := by
 intro rs
 induction rs with
 | nil => intro n _ r hr; cases hr
 | cons x rs ih =>
  intro n h r hr
  obtain ⟨h1, h2, h3⟩ := chkR_cons.1 h
  rcases List.mem_cons.1 hr with rfl | hr
  ·exact h1
  ·exact ih h3 r hr
theorem wfR_of {c : api_Chart} (h : wf_api_Chart c) : wfR c.Rows := fun r hr p hp => inK_u8 ((((h.2.2 r hr).2).2 p hp).1)
noncomputable def raddleref46_GreatChart_l1 (p0 : api_Chart) : Int → Option (Int ⊕ (Bool ⊕ Unit)) := fun s0 => match s0 with
 | a0 =>
  if decide (a0 < (p0.Rows.length : Int)) then
   (idxO p0.Rows a0).bind fun a4 =>
   if decide (24 < (a4.Cells.length : Int)) then
    some (.inr (.inl true))
   else
    some (.inl (w64 (a0 + 1)))
  else
   some (.inr (.inr ()))
noncomputable def F_raddleref46_GreatChart (p0 : api_Chart) : Option Bool :=
 Option.bind (α := Unit ⊕ Bool) (
  (whileO (raddleref46_GreatChart_l1 p0) 0).bind fun z0 => match z0 with
   | .inl z =>
    some (.inr z)
   | .inr _ =>
    some (.inl ())) fun z0 => match z0 with
  | .inl _ =>
   Option.bind (α := Bool) (
    if decide (8 < (p0.Rows.length : Int)) then
     if decide ((p0.Rows.length : Int) ≤ 100) then
      some true
     else
      some (decide (110 < (p0.Rows.length : Int)))
    else
     some (decide (110 < (p0.Rows.length : Int)))) fun a0 =>
   some a0
  | .inr z =>
   some z
theorem c_raddleref46_GreatChart (E : Nat → Prop) (w0 : World) (p0 : api_Chart) (v0 : Value) (r : Bool) (h : F_raddleref46_GreatChart p0 = some r) (S : St0 E [] w0 w0 [] [fRep r_api_Chart (v0) p0]) :
 Calls Try.prog 19 #[v0] w0 (Ret (X := Unit) E [] w0 (fun _ => .bool r) (fun _ => []) (fun _ => [])) := by
 unfold F_raddleref46_GreatChart at h
 obtain ⟨u1, rfl, hu2⟩ := S.know (i := 0) (e := fRep r_api_Chart (v0) p0) rfl
 have S := S.learn (fRep (rL r_api_Row) u1 p0.Rows) hu2
 obtain ⟨ad3, cp4, _, rfl, _⟩ := hu2
 refine sEnter (args := [.agg #[iv p0.Start, .slice ad3 p0.Rows.length cp4]]) 35 Try.func19 rfl rfl (by simp) S (fun a S => ?_)
 refine sSeq (fun K5 hK5 => sRegion (sBox (v := .agg #[iv p0.Start, .slice ad3 p0.Rows.length cp4]) S (wN rfl) rfl rfl [iv p0.Start, .slice ad3 p0.Rows.length cp4] rfl rfl (lb rfl) fun a b6 w S => ?_))
 refine sN S fun a S => ?_
 refine lT (hK5 _ _ ?_)
 obtain ⟨t7, h, g8⟩ := bS h
 refine sCut (fun a w => .inl () = t7 ∧ St [] E [] w0 35 a w [(1, .pointer (some ⟨b6, 0, none⟩))] [eBox b6 42 [iv p0.Start, .slice ad3 p0.Rows.length cp4]] [fRep (rL r_api_Row) (.slice ad3 p0.Rows.length cp4) p0.Rows]) ?_ (fun a w hI => ?_)
 ·refine sSeq (fun K9 hK9 => sRegion (sN S fun a S => ?_))
  refine lT (hK9 _ _ (wp_block ?_))
  obtain ⟨aw, hl, ao⟩ := bS h
  refine sLoop hl (fun s0 a w => match s0 with | a7 => St [] E [] w0 35 a w [(1, .pointer (some ⟨b6, 0, none⟩)), (3, iv a7)] [eBox b6 42 [iv p0.Start, .slice ad3 p0.Rows.length cp4]] [fRep (rL r_api_Row) (.slice ad3 p0.Rows.length cp4) p0.Rows]) (S.fix [0] [0] (by decide) rfl rfl rfl) ?_
  clear hl h
  intro a7 a w c0 hI h a8
  unfold raddleref46_GreatChart_l1 at h
  dsimp only at h hI
  have S := hI
  refine sSeq (fun ax ab => sSeq (fun ay ac => sRegion (sM S fun a S => ?_)))
  refine sField (b := b6) (off := 0) 1 1 S (wN rfl) rfl rfl rfl rfl rfl (lb rfl) fun a S => ?_
  refine sLoad1 0 (.slice ad3 p0.Rows.length cp4) S (wN rfl) rfl rfl rfl rfl rfl rfl (lb rfl) fun a S => ?_
  refine sLen S (wN rfl) rfl Try.underlying40 rfl rfl (lb rfl) fun a S => ?_
  refine sBin _ S (wN rfl) rfl rfl rfl (bLt _ _ _ _ .i64 a7 (p0.Rows.length : Int)) rfl (lb rfl) fun a S => ?_
  refine lT (ac _ _ ?_)
  rcases iS h with ⟨a5, h⟩ | ⟨a5, h⟩
  rotate_left
  ·refine sCondF S rfl a5 ?_
   obtain rfl := tS h
   obtain rfl := a8 _ rfl
   have h := ao
   try dsimp only at h
   exact wp_exit (xThen (xThen (xHit (leafT (⟨Option.some.inj h, S.fix [0] [0] (by decide) rfl rfl rfl⟩)))))
  refine sCondT S rfl a5 ?_
  refine wp_skip (leafT (ab _ _ ?_))
  refine sSeq (fun az ae => wp_block ?_)
  refine sSeq (fun aA af => sRegion (sField (b := b6) (off := 0) 1 1 S (wN rfl) rfl rfl rfl rfl rfl (lb rfl) fun a S => ?_))
  refine sLoad1 0 (.slice ad3 p0.Rows.length cp4) S (wN rfl) rfl rfl rfl rfl rfl rfl (lb rfl) fun a S => ?_
  refine sM S fun a S => ?_
  obtain ⟨a9, ag, h⟩ := bS h
  obtain ⟨ap, ah, S⟩ := pIdx (P := Try.prog) (r := r_api_Row) (v := .slice ad3 p0.Rows.length cp4) (xs := p0.Rows) (j := a7) 40 87 0 S Try.underlying40 rfl rfl ag
  refine sIdxV S (wN rfl) rfl rfl rfl ah rfl (lb rfl) fun a S => ?_
  obtain ⟨aq, ai, S⟩ := pFld (P := Try.prog) (r := r_api_Row) (s2 := (rL r_api_Stitch)) (g := (·.Cells)) (q := ap) (z := a9) 87 1 0 1 S rfl rfl comp_api_Row_Cells
  refine sFldV (q := ap) S (wN rfl) rfl rfl ai rfl (lb rfl) fun a S => ?_
  obtain ⟨ar, S⟩ := pLoad (r := (rL r_api_Stitch)) (q := aq) (x := a9.Cells) 0 S rfl
  obtain ⟨aj, ak, _, rfl, _⟩ := S.mem.know (i := 1) (e := fRep (rL r_api_Stitch) (ar) a9.Cells) rfl
  refine sLoadV1 (vq := aq) 0 (.slice aj a9.Cells.length ak) S (wN rfl) rfl rfl rfl rfl rfl (lb rfl) fun a S => ?_
  refine sLen S (wN rfl) rfl Try.underlying47 rfl rfl (lb rfl) fun a S => ?_
  refine sBin _ S (wN rfl) rfl rfl rfl (bGt _ _ _ _ .i64 (a9.Cells.length : Int) 24) rfl (lb rfl) fun a S => ?_
  refine lT (af _ _ ?_)
  rcases iS h with ⟨a6, h⟩ | ⟨a6, h⟩
  rotate_left
  ·refine sCondF S rfl a6 ?_
   refine wp_skip (leafB (leafT (ae _ _ ?_)))
   refine sRegion (sM S fun a S => ?_)
   refine sBin _ S (wN rfl) rfl rfl rfl (bAdd _ _ _ _ a7 1) rfl (lb rfl) fun a S => ?_
   refine sN S fun a S => ?_
   exact lT (⟨w64 (a7 + 1), (Option.some.inj h).symm, (S.fix [0] [4] (by decide) rfl rfl rfl)⟩)
  refine sCondT S rfl a6 ?_
  refine sSeq (fun aC am => sRegion (sN S fun a S => ?_))
  refine lT (am _ _ ?_)
  obtain rfl := tS h
  obtain rfl := a8 _ rfl
  have h := ao
  try dsimp only at h
  obtain rfl := tS h
  have h := g8
  try dsimp only at h
  obtain rfl := tS h
  exact wp_ret (rBlock (rThen (rThen (rBlock (rThen (sRet (.bool true) S (rsl1 rfl (rvT (t := 2) (v := .bool true) S rfl)) ⟨(), rfl, S.mem.sel [] [] (by decide) rfl rfl⟩))))))
 obtain ⟨rfl, S⟩ := hI
 have h := g8
 try dsimp only at h
 obtain ⟨au, h, av⟩ := bS h
 refine sCut (fun a w => ∃ aa, aa = au ∧ St [] E [] w0 35 a w [(2, .bool aa)] [] []) ?_ (fun a w hI => ?_)
 rotate_left
 ·obtain ⟨aa, rfl, S⟩ := hI
  have h := av
  try dsimp only at h
  obtain rfl := tS h
  exact wp_ret (sRet (.bool aa) S (rsl1 rfl (rvT (t := 2) (v := .bool aa) S rfl)) ⟨(), rfl, S.mem.sel [] [] (by decide) rfl rfl⟩)
 refine sRegion (sField (b := b6) (off := 0) 1 1 S (wN rfl) rfl rfl rfl rfl rfl (lb rfl) fun a S => ?_)
 refine sLoad1 0 (.slice ad3 p0.Rows.length cp4) S (wN rfl) rfl rfl rfl rfl rfl rfl (lb rfl) fun a S => ?_
 refine sLen S (wN rfl) rfl Try.underlying40 rfl rfl (lb rfl) fun a S => ?_
 refine sBin _ S (wN rfl) rfl rfl rfl (bGt _ _ _ _ .i64 (p0.Rows.length : Int) 8) rfl (lb rfl) fun a S => ?_
 refine sM S fun a S => ?_
 rcases iS h with ⟨a0, h⟩ | ⟨a0, h⟩
 rotate_left
 ·refine sSkN 4 4 true 23 S rfl rfl a0 rfl fun a S => ?_
  refine sPickF (.bool false) S (wN rfl) rfl rfl a0 rfl rfl (lb rfl) fun a S => ?_
  refine sM S fun a S => ?_
  refine sField (b := b6) (off := 0) 1 1 S (wG 10 false 29 rfl rfl rfl rfl) rfl rfl rfl rfl rfl (lb rfl) fun a S => ?_
  refine sLoad1 0 (.slice ad3 p0.Rows.length cp4) S (wG 10 false 29 rfl rfl rfl rfl) rfl rfl rfl rfl rfl rfl (lb rfl) fun a S => ?_
  refine sLen S (wG 10 false 29 rfl rfl rfl rfl) rfl Try.underlying40 rfl rfl (lb rfl) fun a S => ?_
  refine sBin _ S (wG 10 false 29 rfl rfl rfl rfl) rfl rfl rfl (bGt _ _ _ _ .i64 (p0.Rows.length : Int) 110) rfl (lb rfl) fun a S => ?_
  refine sPickF (.bool (decide (110 < (p0.Rows.length : Int)))) S (wN rfl) rfl rfl rfl rfl rfl (lb rfl) fun a S => ?_
  refine sN S fun a S => ?_
  exact lT (⟨decide (110 < (p0.Rows.length : Int)), Option.some.inj h, S.fix [] [] (by decide) rfl rfl rfl⟩)
 refine sField (b := b6) (off := 0) 1 1 S (wG 4 true 23 rfl rfl rfl a0) rfl rfl rfl rfl rfl (lb rfl) fun a S => ?_
 refine sLoad1 0 (.slice ad3 p0.Rows.length cp4) S (wG 4 true 23 rfl rfl rfl a0) rfl rfl rfl rfl rfl rfl (lb rfl) fun a S => ?_
 refine sLen S (wG 4 true 23 rfl rfl rfl a0) rfl Try.underlying40 rfl rfl (lb rfl) fun a S => ?_
 refine sBin _ S (wG 4 true 23 rfl rfl rfl a0) rfl rfl rfl (bLe _ _ _ _ .i64 (p0.Rows.length : Int) 100) rfl (lb rfl) fun a S => ?_
 refine sPickT (.bool (decide ((p0.Rows.length : Int) ≤ 100))) S (wN rfl) rfl rfl a0 rfl rfl (lb rfl) fun a S => ?_
 refine sM S fun a S => ?_
 rcases iS h with ⟨a4, h⟩ | ⟨a4, h⟩
 ·refine sSkN 4 10 false 29 S rfl rfl a4 rfl fun a S => ?_
  refine sPickT (.bool true) S (wN rfl) rfl rfl a4 rfl rfl (lb rfl) fun a S => ?_
  refine sN S fun a S => ?_
  exact lT (⟨true, Option.some.inj h, S.fix [] [] (by decide) rfl rfl rfl⟩)
 refine sField (b := b6) (off := 0) 1 1 S (wG 10 false 29 rfl rfl rfl a4) rfl rfl rfl rfl rfl (lb rfl) fun a S => ?_
 refine sLoad1 0 (.slice ad3 p0.Rows.length cp4) S (wG 10 false 29 rfl rfl rfl a4) rfl rfl rfl rfl rfl rfl (lb rfl) fun a S => ?_
 refine sLen S (wG 10 false 29 rfl rfl rfl a4) rfl Try.underlying40 rfl rfl (lb rfl) fun a S => ?_
 refine sBin _ S (wG 10 false 29 rfl rfl rfl a4) rfl rfl rfl (bGt _ _ _ _ .i64 (p0.Rows.length : Int) 110) rfl (lb rfl) fun a S => ?_
 refine sPickF (.bool (decide (110 < (p0.Rows.length : Int)))) S (wN rfl) rfl rfl a4 rfl rfl (lb rfl) fun a S => ?_
 refine sN S fun a S => ?_
 exact lT (⟨decide (110 < (p0.Rows.length : Int)), Option.some.inj h, S.fix [] [] (by decide) rfl rfl rfl⟩)
theorem alR_bd {r : api_Row} (h : r.Cells.length ≤ 200) : alR r ≤ 201 := by unfold alR; omega
theorem boR_bd {x y : api_Row} (hx : x.Cells.length ≤ 200) (hy : y.Cells.length ≤ 200) : boR x y ≤ 201 := by
 have := D1_max x.Cells y.Cells
 unfold boR
 split <;> omega
theorem DR_bd {a b : List api_Row} (ha : a.length ≤ 100) (hb : b.length ≤ 100) (ca : ∀ r, r ∈ a → r.Cells.length ≤ 200) (cb : ∀ r, r ∈ b → r.Cells.length ≤ 200) (i k : Nat) : Wg alR boR a b i k ≤ 50000 := by
 have h1 := Wg_bd (al := alR) (bo := boR) (a := a) (b := b) i k
 have h2 := sumA_bd a ca
 have h3 := sumA_bd b cb
 have h4 : a.length * 201 ≤ 100 * 201 := Nat.mul_le_mul_right _ ha
 have h5 : b.length * 201 ≤ 100 * 201 := Nat.mul_le_mul_right _ hb
 omega
theorem row1_eq {r : api_Row} (h : r.Cells.length ≤ 200) : F_compare_Charts_1 r = some ((alR r : Nat) : Int) := by
 unfold F_compare_Charts_1 alR
 rw [w64_of (by omega) (by omega)]
 exact congrArg some (by omega)
theorem back_ne (p q : Bool) (d : Nat) (hd : d ≤ 1000) : (if (p != q) = true then some (w64 ((d : Int) + 1)) else some (d : Int)) = some ((d + (if p = q then 0 else 1) : Nat) : Int) := by
 rw [w64_succ (by omega)]
 cases p <;> cases q <;> rfl
theorem row2_eq {x y : api_Row} (hx : x.Cells.length ≤ 200) (hy : y.Cells.length ≤ 200) : F_compare_Charts_2 x y = some ((boR x y : Nat) : Int) := by
 obtain ⟨r, h1, h2⟩ := tb_at x.Cells y.Cells (Nat.zero_le _) (Nat.zero_le _)
 have h0 : ((0 : Nat) : Int) = 0 := rfl
 rw [h0] at h1 h2
 simp only [List.drop_zero] at h2
 have := D1_max x.Cells y.Cells
 unfold F_compare_Charts_2 boR
 simp only [ctable_eq x.Cells y.Cells (by omega) (by omega), h1, h2, Option.bind_some, back_ne x.Back y.Back (D1 x.Cells y.Cells) (by omega)]
theorem rowtab_eq (a b : List api_Row) (ha : a.length ≤ 100) (hb : b.length ≤ 100) (ca : ∀ r, r ∈ a → r.Cells.length ≤ 200) (cb : ∀ r, r ∈ b → r.Cells.length ≤ 200) : F_compare_table_api_Row__s0 a b = some (tbS alR boR a b 0) := by
 have hbd : ∀ i k, Wg alR boR a b i k ≤ 50000 := fun i k => DR_bd ha hb ca cb i k
 have hrow : ∀ i, i ≤ a.length → whileO (compare_table_api_Row__s0_l1 (i : Int) a b (tbS alR boR a b (i + 1))) ((b.length : Int), List.replicate (b.length + 1) 0) = some (stS 0 (fun k => ((Wg alR boR a b i k : Nat) : Int)) b.length 0) := by
  intro i hi
  have h := loop_dn (B := compare_table_api_Row__s0_l1 (i : Int) a b (tbS alR boR a b (i + 1))) b.length (fun k => stS 0 (fun k => ((Wg alR boR a b i k : Nat) : Int)) b.length k) (t := stS 0 (fun k => ((Wg alR boR a b i k : Nat) : Int)) b.length 0)
   (fun k hk => by
    have b1 := hbd i (k + 1)
    have b2 := hbd (i + 1) k
    have b3 := hbd (i + 1) (k + 1)
    obtain ⟨y, hy⟩ := stS_idx (0 : Int) (fun k => ((Wg alR boR a b i k : Nat) : Int)) (k := k + 1) hk
    unfold compare_table_api_Row__s0_l1
    simp only [dT (show (0 : Int) ≤ (k : Int) by omega), if_true]
    by_cases e1 : i = a.length
    ·by_cases e2 : k = b.length
     ·simp only [bT (show (i : Int) = (a.length : Int) by omega), bT (show (k : Int) = (b.length : Int) by omega), if_true, Option.bind_some, w64_pred (show k ≤ 9223372036854775807 by omega)]
      rw [stS_same (0 : Int) (fun k => ((Wg alR boR a b i k : Nat) : Int)) (by rw [e1, e2, Wg_end]; rfl)]
     ·have hk2 : k < b.length := by omega
      have m2 := row1_eq (cb _ (List.getElem_mem hk2))
      have n2 := alR_bd (cb _ (List.getElem_mem hk2))
      simp only [bT (show (i : Int) = (a.length : Int) by omega), bF (show ¬ (k : Int) = (b.length : Int) by omega), if_true, Bool.false_eq_true, if_false, Option.bind_some, w64_succ (show k < 9223372036854775807 by omega), stS_get (0 : Int) (fun k => ((Wg alR boR a b i k : Nat) : Int)) (show k + 1 ≤ b.length by omega) (Nat.le_refl _), idxO_nat hk2, m2, hy, w64_pred (show k ≤ 9223372036854775807 by omega)]
      have hv : w64 (((Wg alR boR a b i (k + 1) : Nat) : Int) + ((alR b[k] : Nat) : Int)) = ((Wg alR boR a b i k : Nat) : Int) := by rw [wadd (by omega), e1, Wg_b hk2]
      rw [hv, rowS_set alR boR a b i hk]
      rfl
    ·have hi2 : i < a.length := by omega
     have m1 := row1_eq (ca _ (List.getElem_mem hi2))
     have n1 := alR_bd (ca _ (List.getElem_mem hi2))
     by_cases e2 : k = b.length
     ·simp only [bF (show ¬ (i : Int) = (a.length : Int) by omega), bT (show (k : Int) = (b.length : Int) by omega), if_true, Bool.false_eq_true, if_false, Option.bind_some, w64_succ (show i < 9223372036854775807 by omega), tb_row alR boR a b (show i + 1 ≤ a.length by omega) (Nat.le_refl _), tb_val alR boR a b (i + 1) hk, idxO_nat hi2, m1, hy, w64_pred (show k ≤ 9223372036854775807 by omega)]
      have hv : w64 (((Wg alR boR a b (i + 1) k : Nat) : Int) + ((alR a[i] : Nat) : Int)) = ((Wg alR boR a b i k : Nat) : Int) := by rw [wadd (by omega), e2, Wg_a hi2]
      rw [hv, rowS_set alR boR a b i hk]
      rfl
     ·have hk2 : k < b.length := by omega
      have m2 := row1_eq (cb _ (List.getElem_mem hk2))
      have n2 := alR_bd (cb _ (List.getElem_mem hk2))
      have b4 := boR_bd (ca _ (List.getElem_mem hi2)) (cb _ (List.getElem_mem hk2))
      have m3 := row2_eq (ca _ (List.getElem_mem hi2)) (cb _ (List.getElem_mem hk2))
      simp only [bF (show ¬ (i : Int) = (a.length : Int) by omega), bF (show ¬ (k : Int) = (b.length : Int) by omega), Bool.false_eq_true, if_false, Option.bind_some, w64_succ (show i < 9223372036854775807 by omega), w64_succ (show k < 9223372036854775807 by omega), tb_row alR boR a b (show i + 1 ≤ a.length by omega) (Nat.le_refl _), tb_val alR boR a b (i + 1) hk, tb_val alR boR a b (i + 1) (show k + 1 ≤ b.length by omega), stS_get (0 : Int) (fun k => ((Wg alR boR a b i k : Nat) : Int)) (show k + 1 ≤ b.length by omega) (Nat.le_refl _), idxO_nat hi2, idxO_nat hk2, m1, m2, m3, hy, w64_pred (show k ≤ 9223372036854775807 by omega)]
      have hv : min3 (w64 (((Wg alR boR a b (i + 1) k : Nat) : Int) + ((alR a[i] : Nat) : Int))) (w64 (((Wg alR boR a b i (k + 1) : Nat) : Int) + ((alR b[k] : Nat) : Int))) (w64 (((Wg alR boR a b (i + 1) (k + 1) : Nat) : Int) + ((boR a[i] b[k] : Nat) : Int))) = ((Wg alR boR a b i k : Nat) : Int) := by
       rw [wadd (a := Wg alR boR a b (i + 1) k) (by omega), wadd (a := Wg alR boR a b i (k + 1)) (by omega), wadd (by omega), min3_nat, Wg_ab hi2 hk2]
      rw [hv, rowS_set alR boR a b i hk]
      rfl)
   (by
    unfold compare_table_api_Row__s0_l1
    simp only [dF (show ¬ (0 : Int) ≤ -1 by decide), Bool.false_eq_true, if_false])
  rw [stS_top] at h
  exact h
 have h := loop_dn2 (B := compare_table_api_Row__s0_l2 b a) a.length (fun i => tbS alR boR a b i) (t := tbS alR boR a b 0)
  (fun i hi => by
   obtain ⟨y, hy⟩ := stS_idx ([] : List Int) (fun i => stS 0 (fun k => ((Wg alR boR a b i k : Nat) : Int)) b.length 0) (k := i + 1) hi
   have hy2 : idxO (tbS alR boR a b (i + 1)) (i : Int) = some y := hy
   unfold compare_table_api_Row__s0_l2
   simp only [dT (show (0 : Int) ≤ (i : Int) by omega), if_true, w64_succ (show b.length < 9223372036854775807 by omega)]
   rw [makeO_of (k := b.length + 1) rfl (by omega)]
   simp only [Option.bind_some, hy2, hrow i hi, w64_pred (show i ≤ 9223372036854775807 by omega), Int.toNat_natCast]
   rw [show (tbS alR boR a b (i + 1)).set i (stS 0 (fun k => ((Wg alR boR a b i k : Nat) : Int)) b.length 0) = tbS alR boR a b i from stS_list _ _ _ _])
  (by
   unfold compare_table_api_Row__s0_l2
   simp only [dF (show ¬ (0 : Int) ≤ -1 by decide), Bool.false_eq_true, if_false])
 have ht : tbS alR boR a b (a.length + 1) = List.replicate (a.length + 1) [] := stS_top _ _ _
 rw [ht] at h
 unfold F_compare_table_api_Row__s0
 simp only [w64_succ (show a.length < 9223372036854775807 by omega)]
 rw [makeO_of (k := a.length + 1) rfl (by omega)]
 simp only [Option.bind_some, h]
def chartsS (a b : api_Chart) : Int × Int := if chk a = 0 then (if chk b = 0 then (((DC a b : Nat) : Int), 0) else (0, chk b)) else (0, chk a)
theorem chk_cells {c : api_Chart} (h : chk c = 0) : c.Rows.length ≤ 100 ∧ ∀ r, r ∈ c.Rows → r.Cells.length ≤ 200 := by
 obtain ⟨h1, _, _, h4⟩ := chk_ok h
 exact ⟨h1, fun r hr => (allS_ok (chkR_mem h4 r hr)).1⟩
theorem start_ne (p q : Int) (d : Nat) (hd : d ≤ 100000) : (if (p != q) = true then some (w64 ((d : Int) + 1)) else some (d : Int)) = some ((d + (if p = q then 0 else 1) : Nat) : Int) := by
 rw [w64_succ (by omega)]
 by_cases h : p = q
 ·rw [nF h, if_pos h]; rfl
 ·rw [nT h, if_neg h]; rfl
theorem charts_eq {a b : api_Chart} (wa : wfR a.Rows) (wb : wfR b.Rows) : F_compare_Charts a b = some (chartsS a b) := by
 unfold F_compare_Charts chartsS
 rw [chart_check_eq a wa, chart_check_eq b wb]
 by_cases h1 : chk a = 0
 case neg => rw [if_neg h1]; simp only [Option.bind_some, nT h1, if_true]
 by_cases h2 : chk b = 0
 case neg => rw [if_pos h1, if_neg h2]; simp only [Option.bind_some, nF h1, nT h2, Bool.false_eq_true, if_false, if_true]
 rw [if_pos h1, if_pos h2]
 obtain ⟨la, ca⟩ := chk_cells h1
 obtain ⟨lb, cb⟩ := chk_cells h2
 have t1 := tb_row alR boR a.Rows b.Rows (Nat.zero_le _) (Nat.le_refl 0)
 have t2 := tb_val alR boR a.Rows b.Rows 0 (Nat.zero_le _)
 have h0 : ((0 : Nat) : Int) = 0 := rfl
 rw [h0] at t1 t2
 have hd := DR_bd la lb ca cb 0 0
 have hD : Wg alR boR a.Rows b.Rows 0 0 = DR a.Rows b.Rows := rfl
 rw [hD] at hd t2
 simp only [Option.bind_some, nF h1, nF h2, Bool.false_eq_true, if_false, rowtab_eq a.Rows b.Rows la lb ca cb, t1, t2, start_ne a.Start b.Start (DR a.Rows b.Rows) (by omega)]
 rfl
theorem rgreatC_eq (c : api_Chart) (hl : c.Rows.length ≤ 9223372036854775807) : ∃ b, F_raddleref46_GreatChart c = some b := by
 have hw : whileO (raddleref46_GreatChart_l1 c) 0 = some (if c.Rows.all (fun r => !decide (24 < r.Cells.length)) = true then .inr () else .inl true) := by
  refine loop_allL c.Rows _ _ _ (fun k hk => ?_) ?_
  ·unfold raddleref46_GreatChart_l1
   simp only [dT (show (k : Int) < (c.Rows.length : Int) by omega), if_true, idxO_nat hk, Option.bind_some, w64_succ (show k < 9223372036854775807 by omega)]
   by_cases h : 24 < c.Rows[k].Cells.length
   ·simp only [dT (show (24 : Int) < (c.Rows[k].Cells.length : Int) by omega), dT h, if_true, Bool.not_true, Bool.false_eq_true, if_false]
   ·simp only [dF (show ¬ (24 : Int) < (c.Rows[k].Cells.length : Int) by omega), dF h, Bool.false_eq_true, if_false, Bool.not_false, if_true]
  ·unfold raddleref46_GreatChart_l1
   simp only [dF (show ¬ (c.Rows.length : Int) < (c.Rows.length : Int) by omega), Bool.false_eq_true, if_false]
 unfold F_raddleref46_GreatChart
 rw [hw]
 by_cases h : c.Rows.all (fun r => !decide (24 < r.Cells.length)) = true
 ·rw [if_pos h]
  simp only [Option.bind_some]
  by_cases h1 : (8 : Int) < (c.Rows.length : Int)
  ·by_cases h2 : (c.Rows.length : Int) ≤ 100
   ·simp only [dT h1, dT h2, if_true, Option.bind_some]; exact ⟨_, rfl⟩
   ·simp only [dT h1, dF h2, if_true, Bool.false_eq_true, if_false, Option.bind_some]; exact ⟨_, rfl⟩
  ·simp only [dF h1, Bool.false_eq_true, if_false, Option.bind_some]; exact ⟨_, rfl⟩
 ·rw [if_neg h]; exact ⟨_, rfl⟩
instance decCs : DecidableEq api_CellStep := fun a b => decidable_of_iff (a.Kind = b.Kind ∧ a.S = b.S) (by cases a; cases b; simp)
theorem rsame25_eq (a b : List api_Stitch) (hl : a.length ≤ 9223372036854775807) : F_raddleref25_Same a b = some (decide (a = b)) := by
 by_cases h3 : (a.length : Int) = (b.length : Int)
 case neg => unfold F_raddleref25_Same; simp only [nT h3, if_true]; rw [decide_eq_false]; rintro rfl; exact h3 rfl
 have hw : whileO (raddleref25_Same_l1 a b) 0 = some (if a = b then .inr () else .inl false) := by
  refine loop_eql a b (by omega) _ _ (fun k hk => ?_) ?_
  ·unfold raddleref25_Same_l1
   simp only [dT (show (k : Int) < (a.length : Int) by omega), if_true, idxO_nat hk, idxO_nat (xs := b) (k := k) (by omega), Option.bind_some, steq, w64_succ (show k < 9223372036854775807 by omega)]
   by_cases e : a[k] = b[k]'(by omega)
   ·rw [if_pos e, dT e]; rfl
   ·rw [if_neg e, dF e]; rfl
  ·unfold raddleref25_Same_l1; simp
 unfold F_raddleref25_Same
 simp only [nF h3, Bool.false_eq_true, if_false, Option.bind_some, hw]
 by_cases e : a = b
 ·rw [if_pos e]; simp [e]
 ·rw [if_neg e]; simp [e]
def anc_raddleref26_Same_0 : List (List Nat) := [[], [0], [], [0, 1, 2], [0, 1, 2, 3], [0, 1, 2, 3, 4], [], [6], [], [6, 7, 8], [6, 7, 8, 9], [6, 7, 8, 9, 10], [0, 1, 2, 3, 4, 5, 6, 7, 8, 9, 10, 11], [0, 1, 2, 3, 4, 5, 6, 7, 8, 9, 10, 11, 12], [0, 1, 2, 3, 4, 5, 6, 7, 8, 9, 10, 11, 12, 13], [0, 1, 2, 3, 4, 5, 6, 7, 8, 9, 10, 11, 12, 13, 14], [0, 1, 2, 3, 4, 5, 6, 7, 8, 9, 10, 11, 12, 13], [0, 1, 2, 3, 4, 5, 6, 7, 8, 9, 10, 11, 12, 13, 14, 15, 16], [0, 1, 2, 3, 4, 5, 6, 7, 8, 9, 10, 11, 12, 13, 14, 15, 16, 17], [0, 1, 2, 3, 4, 5, 6, 7, 8, 9, 10, 11, 12, 13, 14, 15, 16, 17, 18], [0, 1, 2, 3, 4, 5, 6, 7, 8, 9, 10, 11, 12, 13], [0, 1, 2, 3, 4, 5, 6, 7, 8, 9, 10, 11, 12, 13, 20], [0, 1, 2, 3, 4, 5, 6, 7, 8, 9, 10, 11, 12, 13], [0, 1, 2, 3, 4, 5, 6, 7, 8, 9, 10, 11, 12, 13, 20, 21, 22], [0, 1, 2, 3, 4, 5, 6, 7, 8, 9, 10, 11, 12, 13, 20, 21, 22, 23], [0, 1, 2, 3, 4, 5, 6, 7, 8, 9, 10, 11, 12, 13, 20, 21, 22, 23, 24], [0, 1, 2, 3, 4, 5, 6, 7, 8, 9, 10, 11, 12, 13, 14, 15, 16, 17, 18, 19, 20, 21, 22, 23, 24, 25], [0, 1, 2, 3, 4, 5, 6, 7, 8, 9, 10, 11, 12, 13, 14, 15, 16, 17, 18, 19, 20, 21, 22, 23, 24, 25, 26], [0, 1, 2, 3, 4, 5, 6, 7, 8, 9, 10, 11, 12, 13, 14, 15, 16, 17, 18, 19, 20, 21, 22, 23, 24, 25, 26, 27]]
noncomputable def raddleref26_Same_l1 (p0 : api_Chart) (p1 : api_Chart) : Int → Option (Int ⊕ (Bool ⊕ Unit)) := fun s0 => match s0 with
 | a0 =>
  if decide (a0 < (p0.Rows.length : Int)) then
   Option.bind (α := Bool) (
    (idxO p0.Rows a0).bind fun a4 =>
    (idxO p1.Rows a0).bind fun a5 =>
    if a4.Back != a5.Back then
     some true
    else
     (F_raddleref25_Same a4.Cells a5.Cells).bind fun a6 =>
     some (!a6)) fun a7 =>
   if a7 then
    some (.inr (.inl false))
   else
    some (.inl (w64 (a0 + 1)))
  else
   some (.inr (.inr ()))
noncomputable def F_raddleref26_Same (p0 : api_Chart) (p1 : api_Chart) : Option Bool :=
 Option.bind (α := Bool) (
  if p0.Start != p1.Start then
   some true
  else
   some ((p0.Rows.length : Int) != (p1.Rows.length : Int))) fun a0 =>
 if a0 then
  some false
 else
  Option.bind (α := Unit ⊕ Bool) (
   (whileO (raddleref26_Same_l1 p0 p1) 0).bind fun z0 => match z0 with
    | .inl z =>
     some (.inr z)
    | .inr _ =>
     some (.inl ())) fun z0 => match z0 with
   | .inl _ =>
    some true
   | .inr z =>
    some z
theorem c_raddleref26_Same (E : Nat → Prop) (w0 : World) (p0 : api_Chart) (v0 : Value) (p1 : api_Chart) (v1 : Value) (r : Bool) (h : F_raddleref26_Same p0 p1 = some r) (S : St0 E [] w0 w0 [] [fRep r_api_Chart (v0) p0, fRep r_api_Chart (v1) p1]) :
 Calls Try.prog 40 #[v0, v1] w0 (Ret (X := Unit) E [] w0 (fun _ => .bool r) (fun _ => []) (fun _ => [])) := by
 unfold F_raddleref26_Same at h
 obtain ⟨u1, rfl, hu2⟩ := S.know (i := 0) (e := fRep r_api_Chart (v0) p0) rfl
 have S := S.learn (fRep (rL r_api_Row) u1 p0.Rows) hu2
 obtain ⟨ad3, cp4, _, rfl, _⟩ := hu2
 obtain ⟨u5, rfl, hu6⟩ := S.know (i := 2) (e := fRep r_api_Chart (v1) p1) rfl
 have S := S.learn (fRep (rL r_api_Row) u5 p1.Rows) hu6
 obtain ⟨ad7, cp8, _, rfl, _⟩ := hu6
 refine sEnter (args := [.agg #[iv p0.Start, .slice ad3 p0.Rows.length cp4], .agg #[iv p1.Start, .slice ad7 p1.Rows.length cp8]]) 56 Try.func40 rfl rfl (by simp) S (fun a S => ?_)
 refine sSeq (fun K9 hK9 => sRegion (sBox (v := .agg #[iv p0.Start, .slice ad3 p0.Rows.length cp4]) S (wN rfl) rfl rfl [iv p0.Start, .slice ad3 p0.Rows.length cp4] rfl rfl (lb rfl) fun a a8 w S => ?_))
 refine sBox (v := .agg #[iv p1.Start, .slice ad7 p1.Rows.length cp8]) S (wN rfl) rfl rfl [iv p1.Start, .slice ad7 p1.Rows.length cp8] rfl rfl (lb rfl) fun a a9 w S => ?_
 refine sN S fun a S => ?_
 refine lT (hK9 _ _ (sSeq (fun bx av => ?_)))
 obtain ⟨bn, h, bp⟩ := bS h
 refine sCut (fun a w => ∃ aw, aw = bn ∧ St [] E [] w0 56 a w [(2, .pointer (some ⟨a8, 0, none⟩)), (3, .pointer (some ⟨a9, 0, none⟩)), (19, .bool aw)] [eBox a8 42 [iv p0.Start, .slice ad3 p0.Rows.length cp4], eBox a9 42 [iv p1.Start, .slice ad7 p1.Rows.length cp8]] [fRep (rL r_api_Row) (.slice ad3 p0.Rows.length cp4) p0.Rows, fRep (rL r_api_Row) (.slice ad7 p1.Rows.length cp8) p1.Rows]) ?_ (fun a w hI => ?_)
 ·refine sRegion (sField (b := a8) (off := 0) 0 0 S (wN rfl) rfl rfl rfl rfl rfl (lb rfl) fun a S => ?_)
  refine sLoad1 1 (iv p0.Start) S (wN rfl) rfl rfl rfl rfl rfl rfl (lb rfl) fun a S => ?_
  refine sField (b := a9) (off := 0) 0 0 S (wN rfl) rfl rfl rfl rfl rfl (lb rfl) fun a S => ?_
  refine sLoad1 0 (iv p1.Start) S (wN rfl) rfl rfl rfl rfl rfl rfl (lb rfl) fun a S => ?_
  refine sBin _ S (wN rfl) rfl rfl rfl (bNe _ _ _ _ .i64 p0.Start p1.Start) rfl (lb rfl) fun a S => ?_
  refine sM S fun a S => ?_
  rcases iS h with ⟨a7, h⟩ | ⟨a7, h⟩
  ·refine sSkN 7 5 false 11 S rfl rfl a7 rfl fun a S => ?_
   refine sPickT (.bool true) S (wN rfl) rfl rfl a7 rfl rfl (lb rfl) fun a S => ?_
   exact lT (⟨true, Option.some.inj h, S.fix [1, 0] [1, 0] (by decide) rfl rfl rfl⟩)
  refine sField (b := a8) (off := 0) 1 1 S (wG 5 false 11 rfl rfl rfl a7) rfl rfl rfl rfl rfl (lb rfl) fun a S => ?_
  refine sLoad1 1 (.slice ad3 p0.Rows.length cp4) S (wG 5 false 11 rfl rfl rfl a7) rfl rfl rfl rfl rfl rfl (lb rfl) fun a S => ?_
  refine sLen S (wG 5 false 11 rfl rfl rfl a7) rfl Try.underlying40 rfl rfl (lb rfl) fun a S => ?_
  refine sField (b := a9) (off := 0) 1 1 S (wG 5 false 11 rfl rfl rfl a7) rfl rfl rfl rfl rfl (lb rfl) fun a S => ?_
  refine sLoad1 0 (.slice ad7 p1.Rows.length cp8) S (wG 5 false 11 rfl rfl rfl a7) rfl rfl rfl rfl rfl rfl (lb rfl) fun a S => ?_
  refine sLen S (wG 5 false 11 rfl rfl rfl a7) rfl Try.underlying40 rfl rfl (lb rfl) fun a S => ?_
  refine sBin _ S (wG 5 false 11 rfl rfl rfl a7) rfl rfl rfl (bNe _ _ _ _ .i64 (p0.Rows.length : Int) (p1.Rows.length : Int)) rfl (lb rfl) fun a S => ?_
  refine sPickF (.bool ((p0.Rows.length : Int) != (p1.Rows.length : Int))) S (wN rfl) rfl rfl a7 rfl rfl (lb rfl) fun a S => ?_
  exact lT (⟨(p0.Rows.length : Int) != (p1.Rows.length : Int), Option.some.inj h, S.fix [1, 0] [1, 0] (by decide) rfl rfl rfl⟩)
 obtain ⟨aw, rfl, S⟩ := hI
 have h := bp
 try dsimp only at h
 rcases iS h with ⟨ag, h⟩ | ⟨ag, h⟩
 ·refine sCondT S rfl ag ?_
  refine sSeq (fun bz ax => sRegion (sN S fun a S => ?_))
  refine lT (ax _ _ ?_)
  obtain rfl := tS h
  exact wp_ret (rThen (sRet (.bool false) S (rsl1 rfl (rvT (t := 4) (v := .bool false) S rfl)) ⟨(), rfl, S.mem.sel [] [] (by decide) rfl rfl⟩))
 refine sCondF S rfl ag ?_
 refine wp_skip (leafT (av _ _ ?_))
 obtain ⟨bq, h, bh⟩ := bS h
 refine sCut (fun a w => .inl () = bq ∧ St [] E [] w0 56 a w [] [] []) ?_ (fun a w hI => ?_)
 rotate_left
 ·obtain ⟨rfl, S⟩ := hI
  have h := bh
  try dsimp only at h
  refine sSeq (fun br am => sRegion (sN S fun a S => ?_))
  refine lT (am _ _ ?_)
  obtain rfl := tS h
  exact wp_ret (sRet (.bool true) S (rsl1 rfl (rvT (t := 4) (v := .bool true) S rfl)) ⟨(), rfl, S.mem.sel [] [] (by decide) rfl rfl⟩)
 refine sSeq (fun bA ay => sRegion (sN S fun a S => ?_))
 refine lT (ay _ _ (wp_block ?_))
 obtain ⟨bB, hl, bi⟩ := bS h
 refine sLoop hl (fun s0 a w => match s0 with | a6 => St [] E [] w0 56 a w [(2, .pointer (some ⟨a8, 0, none⟩)), (3, .pointer (some ⟨a9, 0, none⟩)), (5, iv a6)] [eBox a8 42 [iv p0.Start, .slice ad3 p0.Rows.length cp4], eBox a9 42 [iv p1.Start, .slice ad7 p1.Rows.length cp8]] [fRep (rL r_api_Row) (.slice ad3 p0.Rows.length cp4) p0.Rows, fRep (rL r_api_Row) (.slice ad7 p1.Rows.length cp8) p1.Rows]) (S.fix [0, 1] [0, 1] (by decide) rfl rfl rfl) ?_
 clear hl h
 intro a6 a w c0 hI h ao
 unfold raddleref26_Same_l1 at h
 dsimp only at h hI
 have S := hI
 refine sSeq (fun bC az => sSeq (fun bD aA => sRegion (sM S fun a S => ?_)))
 refine sField (b := a8) (off := 0) 1 1 S (wN rfl) rfl rfl rfl rfl rfl (lb rfl) fun a S => ?_
 refine sLoad1 0 (.slice ad3 p0.Rows.length cp4) S (wN rfl) rfl rfl rfl rfl rfl rfl (lb rfl) fun a S => ?_
 refine sLen S (wN rfl) rfl Try.underlying40 rfl rfl (lb rfl) fun a S => ?_
 refine sBin _ S (wN rfl) rfl rfl rfl (bLt _ _ _ _ .i64 a6 (p0.Rows.length : Int)) rfl (lb rfl) fun a S => ?_
 refine lT (aA _ _ ?_)
 rcases iS h with ⟨ah, h⟩ | ⟨ah, h⟩
 rotate_left
 ·refine sCondF S rfl ah ?_
  obtain rfl := tS h
  obtain rfl := ao _ rfl
  have h := bi
  try dsimp only at h
  exact wp_exit (xThen (xThen (xHit (leafT (⟨Option.some.inj h, S.fix [] [] (by decide) rfl rfl rfl⟩)))))
 refine sCondT S rfl ah ?_
 refine wp_skip (leafT (az _ _ ?_))
 refine sSeq (fun bE aC => wp_block ?_)
 obtain ⟨bt, h, bu⟩ := bS h
 refine sCut (fun a w => ∃ aG, aG = bt ∧ St [] E [] w0 56 a w [(2, .pointer (some ⟨a8, 0, none⟩)), (3, .pointer (some ⟨a9, 0, none⟩)), (5, iv a6), (55, .bool aG)] [eBox a8 42 [iv p0.Start, .slice ad3 p0.Rows.length cp4], eBox a9 42 [iv p1.Start, .slice ad7 p1.Rows.length cp8]] [fRep (rL r_api_Row) (.slice ad3 p0.Rows.length cp4) p0.Rows, fRep (rL r_api_Row) (.slice ad7 p1.Rows.length cp8) p1.Rows]) ?_ (fun a w hI => ?_)
 rotate_left
 ·obtain ⟨aG, rfl, S⟩ := hI
  have h := bu
  try dsimp only at h
  rcases iS h with ⟨ai, h⟩ | ⟨ai, h⟩
  rotate_left
  ·refine sCondF S rfl ai ?_
   refine wp_skip (leafB (leafT (aC _ _ ?_)))
   refine sRegion (sM S fun a S => ?_)
   refine sBin _ S (wN rfl) rfl rfl rfl (bAdd _ _ _ _ a6 1) rfl (lb rfl) fun a S => ?_
   refine sN S fun a S => ?_
   exact lT (⟨w64 (a6 + 1), (Option.some.inj h).symm, (S.fix [0, 1] [0, 1] (by decide) rfl rfl rfl)⟩)
  refine sCondT S rfl ai ?_
  refine sSeq (fun bG aH => sRegion (sN S fun a S => ?_))
  refine lT (aH _ _ ?_)
  obtain rfl := tS h
  obtain rfl := ao _ rfl
  have h := bi
  try dsimp only at h
  obtain rfl := tS h
  have h := bh
  try dsimp only at h
  obtain rfl := tS h
  exact wp_ret (rBlock (rThen (rThen (rBlock (rThen (sRet (.bool false) S (rsl1 rfl (rvT (t := 4) (v := .bool false) S rfl)) ⟨(), rfl, S.mem.sel [] [] (by decide) rfl rfl⟩))))))
 obtain ⟨a4, aj, h⟩ := bS h
 obtain ⟨a5, ak, h⟩ := bS h
 rcases iS h with ⟨a0, h⟩ | ⟨a0, h⟩
 ·obtain ⟨aI, aJ, S⟩ := pIdx (P := Try.prog) (r := r_api_Row) (v := .slice ad3 p0.Rows.length cp4) (xs := p0.Rows) (j := a6) 40 87 0 S Try.underlying40 rfl rfl aj
  obtain ⟨aK, aL, S⟩ := pFld (P := Try.prog) (r := r_api_Row) (s2 := rB) (g := (·.Back)) (q := aI) (z := a4) 87 0 0 0 S rfl rfl comp_api_Row_Back
  obtain ⟨bj, S⟩ := pLoad (r := rB) (q := aK) (x := a4.Back) 0 S rfl
  obtain rfl : bj = .bool a4.Back := S.mem.know (i := 1) (e := fRep rB (bj) a4.Back) rfl
  obtain ⟨aM, aO, S⟩ := pIdx (P := Try.prog) (r := r_api_Row) (v := .slice ad7 p1.Rows.length cp8) (xs := p1.Rows) (j := a6) 40 87 5 S Try.underlying40 rfl rfl ak
  obtain ⟨aP, aQ, S⟩ := pFld (P := Try.prog) (r := r_api_Row) (s2 := rB) (g := (·.Back)) (q := aM) (z := a5) 87 0 0 0 S rfl rfl comp_api_Row_Back
  obtain ⟨bk, S⟩ := pLoad (r := rB) (q := aP) (x := a5.Back) 0 S rfl
  obtain rfl : bk = .bool a5.Back := S.mem.know (i := 1) (e := fRep rB (bk) a5.Back) rfl
  refine sDraw (nf := []) (W := [(0, 27, .pointer (some ⟨a8, 1, none⟩)), (1, 28, .slice ad3 p0.Rows.length cp4), (2, 29, iv a6), (3, 30, aI), (4, 31, aK), (5, 32, .bool a4.Back), (6, 33, .pointer (some ⟨a9, 1, none⟩)), (7, 34, .slice ad7 p1.Rows.length cp8), (8, 35, iv a6), (9, 36, aM), (10, 37, aP), (11, 38, .bool a5.Back), (12, 39, .bool (a4.Back != a5.Back)), (13, 40, .bool (a4.Back != a5.Back)), (14, 41, undef), (15, 42, undef), (16, 43, undef), (17, 44, undef), (18, 45, undef), (19, 46, undef), (20, 47, undef), (21, 48, undef), (22, 49, undef), (23, 50, undef), (24, 51, undef), (25, 52, undef), (26, 53, undef), (27, 54, undef), (28, 55, .bool true)]) rfl S ?_
  refine node_by (A := anc_raddleref26_Same_0) 29 (by kernel_rfl) (by kernel_rfl) (by kernel_rfl) (by kernel_rfl) (by kernel_rfl) [0, 1, 2, 3, 4, 5, 6, 7, 8, 9, 10, 11, 12, 13, 14, 15, 16, 17, 18, 19, 20, 21, 22, 23, 24, 25, 26, 27, 28] (by kernel_rfl) (by decide) (by decide) (fF ?_ (fF ?_ (fF ?_ (fF ?_ (fF ?_ (fF ?_ (fF ?_ (fF ?_ (fF ?_ (fF ?_ (fF ?_ (fF ?_ (fF ?_ (fF ?_ (fF ?_ (fF ?_ (fF ?_ (fF ?_ (fF ?_ (fF ?_ (fF ?_ (fF ?_ (fF ?_ (fF ?_ (fF ?_ (fF ?_ (fF ?_ (fF ?_ (fF ?_ (trivial)))))))))))))))))))))))))))))) [(2, .pointer (some ⟨a8, 0, none⟩)), (3, .pointer (some ⟨a9, 0, none⟩)), (5, iv a6), (41, undef), (42, undef), (43, undef), (44, undef), (45, undef), (46, undef), (47, undef), (48, undef), (49, undef), (50, undef), (51, undef), (52, undef), (53, undef), (54, undef), (55, .bool true)] (fin_of [none, none, none, some 14, some 15, some 16, some 17, some 18, some 19, some 20, some 21, some 22, some 23, some 24, some 25, some 26, some 27, some 28] rfl (by kernel_rfl) (by kernel_rfl)) (fun _ a w S => ?_)
  ·refine fJ [(2, _)] 0 [none] fun G a w S => ?_
   exact sField (b := a8) (off := 0) 1 1 S (wN rfl) rfl rfl rfl rfl rfl (lb rfl) fun a S => leafL ⟨rfl, S⟩
  ·refine fJ [(27, _)] 1 [some 0] fun G a w S => ?_
   exact sLoad1 0 (.slice ad3 p0.Rows.length cp4) S (wN rfl) rfl rfl rfl rfl rfl rfl (lb rfl) fun a S => leafL ⟨rfl, S⟩
  ·exact fM 2 none rfl rfl rfl rfl (.inl rfl) rfl rfl rfl
  ·refine fJ [(28, _), (29, _)] 3 [some 1, some 2] fun G a w S => ?_
   exact sIdxV S (wN rfl) rfl rfl rfl aJ rfl (lb rfl) fun a S => leafL ⟨rfl, S⟩
  ·refine fJ [(30, _)] 4 [some 3] fun G a w S => ?_
   exact sFldV (q := aI) S (wN rfl) rfl rfl aL rfl (lb rfl) fun a S => leafL ⟨rfl, S⟩
  ·refine fJ [(31, _)] 5 [some 4] fun G a w S => ?_
   exact sLoadV1 (vq := aK) 4 (.bool a4.Back) S (wN rfl) rfl rfl rfl rfl rfl (lb rfl) fun a S => leafL ⟨rfl, S⟩
  ·refine fJ [(3, _)] 6 [none] fun G a w S => ?_
   exact sField (b := a9) (off := 0) 1 1 S (wN rfl) rfl rfl rfl rfl rfl (lb rfl) fun a S => leafL ⟨rfl, S⟩
  ·refine fJ [(33, _)] 7 [some 6] fun G a w S => ?_
   exact sLoad1 1 (.slice ad7 p1.Rows.length cp8) S (wN rfl) rfl rfl rfl rfl rfl rfl (lb rfl) fun a S => leafL ⟨rfl, S⟩
  ·exact fM 8 none rfl rfl rfl rfl (.inl rfl) rfl rfl rfl
  ·refine fJ [(34, _), (35, _)] 9 [some 7, some 8] fun G a w S => ?_
   exact sIdxV S (wN rfl) rfl rfl rfl aO rfl (lb rfl) fun a S => leafL ⟨rfl, S⟩
  ·refine fJ [(36, _)] 10 [some 9] fun G a w S => ?_
   exact sFldV (q := aM) S (wN rfl) rfl rfl aQ rfl (lb rfl) fun a S => leafL ⟨rfl, S⟩
  ·refine fJ [(37, _)] 11 [some 10] fun G a w S => ?_
   exact sLoadV1 (vq := aP) 0 (.bool a5.Back) S (wN rfl) rfl rfl rfl rfl rfl (lb rfl) fun a S => leafL ⟨rfl, S⟩
  ·refine fJ [(32, _), (38, _)] 12 [some 5, some 11] fun G a w S => ?_
   exact sBin _ S (wN rfl) rfl rfl rfl (bNeB _ _ _ _ Try.underlying4 a4.Back a5.Back) rfl (lb rfl) fun a S => leafL ⟨rfl, S⟩
  ·exact fM 13 (some 12) rfl rfl rfl rfl (.inl rfl) rfl rfl rfl
  ·refine fJ [(2, _), (40, _)] 14 [none, some 13] fun G a w S => ?_
   exact sSk S rfl rfl rfl a0 rfl rfl fun a S => leafL ⟨rfl, S⟩
  ·refine fJ [(41, _), (40, _)] 15 [some 14, some 13] fun G a w S => ?_
   exact sSk S rfl rfl rfl a0 rfl rfl fun a S => leafL ⟨rfl, S⟩
  ·refine fJ [(5, _), (40, _)] 16 [none, some 13] fun G a w S => ?_
   exact sSk S rfl rfl rfl a0 rfl rfl fun a S => leafL ⟨rfl, S⟩
  ·refine fJ [(42, _), (43, _), (40, _)] 17 [some 15, some 16, some 13] fun G a w S => ?_
   exact sSk S rfl rfl rfl a0 rfl rfl fun a S => leafL ⟨rfl, S⟩
  ·refine fJ [(44, _), (40, _)] 18 [some 17, some 13] fun G a w S => ?_
   exact sSk S rfl rfl rfl a0 rfl rfl fun a S => leafL ⟨rfl, S⟩
  ·refine fJ [(45, _), (40, _)] 19 [some 18, some 13] fun G a w S => ?_
   exact sSk S rfl rfl rfl a0 rfl rfl fun a S => leafL ⟨rfl, S⟩
  ·refine fJ [(3, _), (40, _)] 20 [none, some 13] fun G a w S => ?_
   exact sSk S rfl rfl rfl a0 rfl rfl fun a S => leafL ⟨rfl, S⟩
  ·refine fJ [(47, _), (40, _)] 21 [some 20, some 13] fun G a w S => ?_
   exact sSk S rfl rfl rfl a0 rfl rfl fun a S => leafL ⟨rfl, S⟩
  ·refine fJ [(5, _), (40, _)] 22 [none, some 13] fun G a w S => ?_
   exact sSk S rfl rfl rfl a0 rfl rfl fun a S => leafL ⟨rfl, S⟩
  ·refine fJ [(48, _), (49, _), (40, _)] 23 [some 21, some 22, some 13] fun G a w S => ?_
   exact sSk S rfl rfl rfl a0 rfl rfl fun a S => leafL ⟨rfl, S⟩
  ·refine fJ [(50, _), (40, _)] 24 [some 23, some 13] fun G a w S => ?_
   exact sSk S rfl rfl rfl a0 rfl rfl fun a S => leafL ⟨rfl, S⟩
  ·refine fJ [(51, _), (40, _)] 25 [some 24, some 13] fun G a w S => ?_
   exact sSk S rfl rfl rfl a0 rfl rfl fun a S => leafL ⟨rfl, S⟩
  ·refine fJ [(46, _), (52, _), (40, _)] 26 [some 19, some 25, some 13] fun G a w S => ?_
   exact sSk S rfl rfl rfl a0 rfl rfl fun a S => leafL ⟨rfl, S⟩
  ·refine fJ [(53, _), (40, _)] 27 [some 26, some 13] fun G a w S => ?_
   exact sSk S rfl rfl rfl a0 rfl rfl fun a S => leafL ⟨rfl, S⟩
  ·refine fJ [(40, _), (54, _)] 28 [some 13, some 27] fun G a w S => ?_
   exact sPickT (.bool true) S (wN rfl) rfl rfl a0 rfl rfl (lb rfl) fun a S => leafL ⟨rfl, S⟩
  exact leafT (⟨true, Option.some.inj h, S.fix [0, 1] [8, 9] (by decide) rfl rfl rfl⟩)
 obtain ⟨aa, aR, h⟩ := bS h
 obtain ⟨aS, aT, S⟩ := pIdx (P := Try.prog) (r := r_api_Row) (v := .slice ad3 p0.Rows.length cp4) (xs := p0.Rows) (j := a6) 40 87 0 S Try.underlying40 rfl rfl aj
 obtain ⟨aU, aV, S⟩ := pFld (P := Try.prog) (r := r_api_Row) (s2 := rB) (g := (·.Back)) (q := aS) (z := a4) 87 0 0 0 S rfl rfl comp_api_Row_Back
 obtain ⟨bl, S⟩ := pLoad (r := rB) (q := aU) (x := a4.Back) 0 S rfl
 obtain rfl : bl = .bool a4.Back := S.mem.know (i := 1) (e := fRep rB (bl) a4.Back) rfl
 obtain ⟨aW, aX, S⟩ := pIdx (P := Try.prog) (r := r_api_Row) (v := .slice ad7 p1.Rows.length cp8) (xs := p1.Rows) (j := a6) 40 87 5 S Try.underlying40 rfl rfl ak
 obtain ⟨aZ, ba, S⟩ := pFld (P := Try.prog) (r := r_api_Row) (s2 := rB) (g := (·.Back)) (q := aW) (z := a5) 87 0 0 0 S rfl rfl comp_api_Row_Back
 obtain ⟨bm, S⟩ := pLoad (r := rB) (q := aZ) (x := a5.Back) 0 S rfl
 obtain rfl : bm = .bool a5.Back := S.mem.know (i := 1) (e := fRep rB (bm) a5.Back) rfl
 obtain ⟨ap, bb, S⟩ := pIdx (P := Try.prog) (r := r_api_Row) (v := .slice ad3 p0.Rows.length cp4) (xs := p0.Rows) (j := a6) 40 87 8 S Try.underlying40 rfl rfl aj
 obtain ⟨aq, bc, S⟩ := pFld (P := Try.prog) (r := r_api_Row) (s2 := (rL r_api_Stitch)) (g := (·.Cells)) (q := ap) (z := a4) 87 1 0 1 S rfl rfl comp_api_Row_Cells
 obtain ⟨bv, S⟩ := pLoad (r := (rL r_api_Stitch)) (q := aq) (x := a4.Cells) 0 S rfl
 obtain ⟨ab, ac, _, rfl, _⟩ := S.mem.know (i := 1) (e := fRep (rL r_api_Stitch) (bv) a4.Cells) rfl
 obtain ⟨ar, bf, S⟩ := pIdx (P := Try.prog) (r := r_api_Row) (v := .slice ad7 p1.Rows.length cp8) (xs := p1.Rows) (j := a6) 40 87 13 S Try.underlying40 rfl rfl ak
 obtain ⟨au, bg, S⟩ := pFld (P := Try.prog) (r := r_api_Row) (s2 := (rL r_api_Stitch)) (g := (·.Cells)) (q := ar) (z := a5) 87 1 0 1 S rfl rfl comp_api_Row_Cells
 obtain ⟨bw, S⟩ := pLoad (r := (rL r_api_Stitch)) (q := au) (x := a5.Cells) 0 S rfl
 obtain ⟨ae, af, _, rfl, _⟩ := S.mem.know (i := 1) (e := fRep (rL r_api_Stitch) (bw) a5.Cells) rfl
 refine sDraw (nf := []) (W := [(0, 27, .pointer (some ⟨a8, 1, none⟩)), (1, 28, .slice ad3 p0.Rows.length cp4), (2, 29, iv a6), (3, 30, aS), (4, 31, aU), (5, 32, .bool a4.Back), (6, 33, .pointer (some ⟨a9, 1, none⟩)), (7, 34, .slice ad7 p1.Rows.length cp8), (8, 35, iv a6), (9, 36, aW), (10, 37, aZ), (11, 38, .bool a5.Back), (12, 39, .bool (a4.Back != a5.Back)), (13, 40, .bool (a4.Back != a5.Back)), (14, 41, .pointer (some ⟨a8, 1, none⟩)), (15, 42, .slice ad3 p0.Rows.length cp4), (16, 43, iv a6), (17, 44, ap), (18, 45, aq), (19, 46, .slice ab a4.Cells.length ac), (20, 47, .pointer (some ⟨a9, 1, none⟩)), (21, 48, .slice ad7 p1.Rows.length cp8), (22, 49, iv a6), (23, 50, ar), (24, 51, au), (25, 52, .slice ae a5.Cells.length af), (26, 53, .bool aa), (27, 54, .bool (!aa)), (28, 55, .bool (!aa))]) rfl S ?_
 refine node_by (A := anc_raddleref26_Same_0) 29 (by kernel_rfl) (by kernel_rfl) (by kernel_rfl) (by kernel_rfl) (by kernel_rfl) [0, 1, 2, 3, 4, 5, 6, 7, 8, 9, 10, 11, 12, 13, 14, 15, 16, 17, 18, 19, 20, 21, 22, 23, 24, 25, 26, 27, 28] (by kernel_rfl) (by decide) (by decide) (fF ?_ (fF ?_ (fF ?_ (fF ?_ (fF ?_ (fF ?_ (fF ?_ (fF ?_ (fF ?_ (fF ?_ (fF ?_ (fF ?_ (fF ?_ (fF ?_ (fF ?_ (fF ?_ (fF ?_ (fF ?_ (fF ?_ (fF ?_ (fF ?_ (fF ?_ (fF ?_ (fF ?_ (fF ?_ (fF ?_ (fF ?_ (fF ?_ (fF ?_ (trivial)))))))))))))))))))))))))))))) [(2, .pointer (some ⟨a8, 0, none⟩)), (3, .pointer (some ⟨a9, 0, none⟩)), (5, iv a6), (41, .pointer (some ⟨a8, 1, none⟩)), (42, .slice ad3 p0.Rows.length cp4), (43, iv a6), (44, ap), (45, aq), (46, .slice ab a4.Cells.length ac), (47, .pointer (some ⟨a9, 1, none⟩)), (48, .slice ad7 p1.Rows.length cp8), (49, iv a6), (50, ar), (51, au), (52, .slice ae a5.Cells.length af), (53, .bool aa), (54, .bool (!aa)), (55, .bool (!aa))] (fin_of [none, none, none, some 14, some 15, some 16, some 17, some 18, some 19, some 20, some 21, some 22, some 23, some 24, some 25, some 26, some 27, some 28] rfl (by kernel_rfl) (by kernel_rfl)) (fun _ a w S => ?_)
 ·refine fJ [(2, _)] 0 [none] fun G a w S => ?_
  exact sField (b := a8) (off := 0) 1 1 S (wN rfl) rfl rfl rfl rfl rfl (lb rfl) fun a S => leafL ⟨rfl, S⟩
 ·refine fJ [(27, _)] 1 [some 0] fun G a w S => ?_
  exact sLoad1 0 (.slice ad3 p0.Rows.length cp4) S (wN rfl) rfl rfl rfl rfl rfl rfl (lb rfl) fun a S => leafL ⟨rfl, S⟩
 ·exact fM 2 none rfl rfl rfl rfl (.inl rfl) rfl rfl rfl
 ·refine fJ [(28, _), (29, _)] 3 [some 1, some 2] fun G a w S => ?_
  exact sIdxV S (wN rfl) rfl rfl rfl aT rfl (lb rfl) fun a S => leafL ⟨rfl, S⟩
 ·refine fJ [(30, _)] 4 [some 3] fun G a w S => ?_
  exact sFldV (q := aS) S (wN rfl) rfl rfl aV rfl (lb rfl) fun a S => leafL ⟨rfl, S⟩
 ·refine fJ [(31, _)] 5 [some 4] fun G a w S => ?_
  exact sLoadV1 (vq := aU) 12 (.bool a4.Back) S (wN rfl) rfl rfl rfl rfl rfl (lb rfl) fun a S => leafL ⟨rfl, S⟩
 ·refine fJ [(3, _)] 6 [none] fun G a w S => ?_
  exact sField (b := a9) (off := 0) 1 1 S (wN rfl) rfl rfl rfl rfl rfl (lb rfl) fun a S => leafL ⟨rfl, S⟩
 ·refine fJ [(33, _)] 7 [some 6] fun G a w S => ?_
  exact sLoad1 1 (.slice ad7 p1.Rows.length cp8) S (wN rfl) rfl rfl rfl rfl rfl rfl (lb rfl) fun a S => leafL ⟨rfl, S⟩
 ·exact fM 8 none rfl rfl rfl rfl (.inl rfl) rfl rfl rfl
 ·refine fJ [(34, _), (35, _)] 9 [some 7, some 8] fun G a w S => ?_
  exact sIdxV S (wN rfl) rfl rfl rfl aX rfl (lb rfl) fun a S => leafL ⟨rfl, S⟩
 ·refine fJ [(36, _)] 10 [some 9] fun G a w S => ?_
  exact sFldV (q := aW) S (wN rfl) rfl rfl ba rfl (lb rfl) fun a S => leafL ⟨rfl, S⟩
 ·refine fJ [(37, _)] 11 [some 10] fun G a w S => ?_
  exact sLoadV1 (vq := aZ) 8 (.bool a5.Back) S (wN rfl) rfl rfl rfl rfl rfl (lb rfl) fun a S => leafL ⟨rfl, S⟩
 ·refine fJ [(32, _), (38, _)] 12 [some 5, some 11] fun G a w S => ?_
  exact sBin _ S (wN rfl) rfl rfl rfl (bNeB _ _ _ _ Try.underlying4 a4.Back a5.Back) rfl (lb rfl) fun a S => leafL ⟨rfl, S⟩
 ·exact fM 13 (some 12) rfl rfl rfl rfl (.inl rfl) rfl rfl rfl
 ·refine fJ [(2, _), (40, _)] 14 [none, some 13] fun G a w S => ?_
  exact sField (b := a8) (off := 0) 1 1 S (wG 13 false 40 rfl rfl rfl a0) rfl rfl rfl rfl rfl (lb rfl) fun a S => leafL ⟨rfl, S⟩
 ·refine fJ [(41, _), (40, _)] 15 [some 14, some 13] fun G a w S => ?_
  exact sLoad1 0 (.slice ad3 p0.Rows.length cp4) S (wG 13 false 40 rfl rfl rfl a0) rfl rfl rfl rfl rfl rfl (lb rfl) fun a S => leafL ⟨rfl, S⟩
 ·refine fJ [(5, _), (40, _)] 16 [none, some 13] fun G a w S => ?_
  exact sMove (iv a6) S (wG 13 false 40 rfl rfl rfl a0) (.inl rfl) rfl rfl (lb rfl) fun a S => leafL ⟨rfl, S⟩
 ·refine fJ [(42, _), (43, _), (40, _)] 17 [some 15, some 16, some 13] fun G a w S => ?_
  exact sIdxV S (wG 13 false 40 rfl rfl rfl a0) rfl rfl rfl bb rfl (lb rfl) fun a S => leafL ⟨rfl, S⟩
 ·refine fJ [(44, _), (40, _)] 18 [some 17, some 13] fun G a w S => ?_
  exact sFldV (q := ap) S (wG 13 false 40 rfl rfl rfl a0) rfl rfl bc rfl (lb rfl) fun a S => leafL ⟨rfl, S⟩
 ·refine fJ [(45, _), (40, _)] 19 [some 18, some 13] fun G a w S => ?_
  exact sLoadV1 (vq := aq) 4 (.slice ab a4.Cells.length ac) S (wG 13 false 40 rfl rfl rfl a0) rfl rfl rfl rfl rfl (lb rfl) fun a S => leafL ⟨rfl, S⟩
 ·refine fJ [(3, _), (40, _)] 20 [none, some 13] fun G a w S => ?_
  exact sField (b := a9) (off := 0) 1 1 S (wG 13 false 40 rfl rfl rfl a0) rfl rfl rfl rfl rfl (lb rfl) fun a S => leafL ⟨rfl, S⟩
 ·refine fJ [(47, _), (40, _)] 21 [some 20, some 13] fun G a w S => ?_
  exact sLoad1 1 (.slice ad7 p1.Rows.length cp8) S (wG 13 false 40 rfl rfl rfl a0) rfl rfl rfl rfl rfl rfl (lb rfl) fun a S => leafL ⟨rfl, S⟩
 ·refine fJ [(5, _), (40, _)] 22 [none, some 13] fun G a w S => ?_
  exact sMove (iv a6) S (wG 13 false 40 rfl rfl rfl a0) (.inl rfl) rfl rfl (lb rfl) fun a S => leafL ⟨rfl, S⟩
 ·refine fJ [(48, _), (49, _), (40, _)] 23 [some 21, some 22, some 13] fun G a w S => ?_
  exact sIdxV S (wG 13 false 40 rfl rfl rfl a0) rfl rfl rfl bf rfl (lb rfl) fun a S => leafL ⟨rfl, S⟩
 ·refine fJ [(50, _), (40, _)] 24 [some 23, some 13] fun G a w S => ?_
  exact sFldV (q := ar) S (wG 13 false 40 rfl rfl rfl a0) rfl rfl bg rfl (lb rfl) fun a S => leafL ⟨rfl, S⟩
 ·refine fJ [(51, _), (40, _)] 25 [some 24, some 13] fun G a w S => ?_
  exact sLoadV1 (vq := au) 0 (.slice ae a5.Cells.length af) S (wG 13 false 40 rfl rfl rfl a0) rfl rfl rfl rfl rfl (lb rfl) fun a S => leafL ⟨rfl, S⟩
 ·refine fJ [(46, _), (52, _), (40, _)] 26 [some 19, some 25, some 13] fun G a w S => ?_
  have S1 := S.mem
  refine sCallQ (X := Unit) (f := 30) (vs := [.slice ab a4.Cells.length ac, .slice ae a5.Cells.length af]) (val := fun _ => .bool aa) S (wG 13 false 40 rfl rfl rfl a0) rfl callee30 rfl (S1.quiet [5, 1] rfl) (fun E1 w1 S1 => c_raddleref25_Same E1 w1 a4.Cells (.slice ab a4.Cells.length ac) a5.Cells (.slice ae a5.Cells.length af) aa aR S1) rfl (lb rfl) fun _ a w S => ?_
  exact leafL ⟨rfl, S⟩
 ·refine fJ [(53, _), (40, _)] 27 [some 26, some 13] fun G a w S => ?_
  exact sNot (b := aa) S (wG 13 false 40 rfl rfl rfl a0) rfl rfl rfl (lb rfl) fun a S => leafL ⟨rfl, S⟩
 ·refine fJ [(40, _), (54, _)] 28 [some 13, some 27] fun G a w S => ?_
  exact sPickF (.bool (!aa)) S (wN rfl) rfl rfl a0 rfl rfl (lb rfl) fun a S => leafL ⟨rfl, S⟩
 exact leafT (⟨!aa, Option.some.inj h, S.fix [0, 1] [16, 17] (by decide) rfl rfl rfl⟩)
noncomputable def F_raddlelaw46_ComparePages (p0 : api_Chart) (p1 : api_Chart) (p2 : api_Chart) : Option Bool :=
 (F_raddlelaw46_alive).bind fun a4 =>
 Option.bind (α := Bool) (
  (F_raddleref46_GreatChart p0).bind fun a8 =>
  if a8 then
   some true
  else
   (F_raddleref46_GreatChart p1).bind fun a9 =>
   if a9 then
    some true
   else
    (F_raddleref46_GreatChart p2).bind fun aa =>
    if aa then
     some true
    else
     (F_raddleref26_Check p0).bind fun ab =>
     if ab != 0 then
      some true
     else
      (F_raddleref26_Check p1).bind fun ac =>
      if ac != 0 then
       some true
      else
       (F_raddleref26_Check p2).bind fun ae =>
       if ae != 0 then
        some true
       else
        some (!a4)) fun af =>
 if af then
  some a4
 else
  (F_compare_Charts p0 p1).bind fun a0 =>
  (F_compare_Charts p1 p2).bind fun a5 =>
  (F_compare_Charts p0 p2).bind fun a6 =>
  (F_compare_Charts p1 p0).bind fun a7 =>
  Option.bind (α := Bool) (
   if a4 then
    if a0.2 == 0 then
     if a5.2 == 0 then
      if a6.2 == 0 then
       if a7.2 == 0 then
        if a0.1 == a7.1 then
         if decide (a6.1 ≤ (w64 (a0.1 + a5.1))) then
          (F_raddleref26_Same p0 p1).bind fun ag =>
          some ((a0.1 == 0) == ag)
         else
          some false
        else
         some false
       else
        some false
      else
       some false
     else
      some false
    else
     some false
   else
    some false) fun ah =>
  some ah
theorem c_raddlelaw46_ComparePages (E : Nat → Prop) (w0 : World) (p0 : api_Chart) (v0 : Value) (p1 : api_Chart) (v1 : Value) (p2 : api_Chart) (v2 : Value) (r : Bool) (h : F_raddlelaw46_ComparePages p0 p1 p2 = some r) (S : St0 E [] w0 w0 [] [fRep r_api_Chart (v0) p0, fRep r_api_Chart (v1) p1, fRep r_api_Chart (v2) p2]) :
 Calls Try.prog 9 #[v0, v1, v2] w0 (Ret (X := Unit) E [] w0 (fun _ => .bool r) (fun _ => []) (fun _ => [])) := by
 unfold F_raddlelaw46_ComparePages at h
 obtain ⟨u1, rfl, hu2⟩ := S.know (i := 0) (e := fRep r_api_Chart (v0) p0) rfl
 have S := S.learn (fRep (rL r_api_Row) u1 p0.Rows) hu2
 obtain ⟨ad3, cp4, _, rfl, _⟩ := hu2
 obtain ⟨u5, rfl, hu6⟩ := S.know (i := 2) (e := fRep r_api_Chart (v1) p1) rfl
 have S := S.learn (fRep (rL r_api_Row) u5 p1.Rows) hu6
 obtain ⟨ad7, cp8, _, rfl, _⟩ := hu6
 obtain ⟨u9, rfl, aw⟩ := S.know (i := 4) (e := fRep r_api_Chart (v2) p2) rfl
 have S := S.learn (fRep (rL r_api_Row) u9 p2.Rows) aw
 obtain ⟨a0, a4, _, rfl, _⟩ := aw
 refine sEnter (args := [.agg #[iv p0.Start, .slice ad3 p0.Rows.length cp4], .agg #[iv p1.Start, .slice ad7 p1.Rows.length cp8], .agg #[iv p2.Start, .slice a0 p2.Rows.length a4]]) 108 Try.func9 rfl rfl (by simp) S (fun a S => ?_)
 refine sSeq (fun bm aG => sRegion (sBox (v := .agg #[iv p0.Start, .slice ad3 p0.Rows.length cp4]) S (wN rfl) rfl rfl [iv p0.Start, .slice ad3 p0.Rows.length cp4] rfl rfl (lb rfl) fun a aq w S => ?_))
 refine sBox (v := .agg #[iv p1.Start, .slice ad7 p1.Rows.length cp8]) S (wN rfl) rfl rfl [iv p1.Start, .slice ad7 p1.Rows.length cp8] rfl rfl (lb rfl) fun a ar w S => ?_
 refine sBox (v := .agg #[iv p2.Start, .slice a0 p2.Rows.length a4]) S (wN rfl) rfl rfl [iv p2.Start, .slice a0 p2.Rows.length a4] rfl rfl (lb rfl) fun a av w S => ?_
 refine sN S fun a S => ?_
 refine lT (aG _ _ (sSeq (fun bn aH => sRegion ?_)))
 obtain ⟨ap, aI, h⟩ := bS h
 have S1 := S.mem
 refine sCq [] (.bool ap) S callee31 (S1.quiet [] rfl) (fun E1 w1 S1 => c_raddlelaw46_alive E1 w1  ap aI S1) fun a w S => ?_
 refine sN S fun a S => ?_
 refine lT (aH _ _ (sSeq (fun bp aJ => ?_)))
 obtain ⟨bi, h, bj⟩ := bS h
 refine sCut (fun a w => ∃ aK, aK = bi ∧ St [] E [] w0 108 a w [(3, .pointer (some ⟨aq, 0, none⟩)), (4, .pointer (some ⟨ar, 0, none⟩)), (5, .pointer (some ⟨av, 0, none⟩)), (7, .bool ap), (45, .bool aK)] [eBox aq 42 [iv p0.Start, .slice ad3 p0.Rows.length cp4], eBox ar 42 [iv p1.Start, .slice ad7 p1.Rows.length cp8], eBox av 42 [iv p2.Start, .slice a0 p2.Rows.length a4]] [fRep (rL r_api_Row) (.slice ad3 p0.Rows.length cp4) p0.Rows, fRep (rL r_api_Row) (.slice ad7 p1.Rows.length cp8) p1.Rows, fRep (rL r_api_Row) (.slice a0 p2.Rows.length a4) p2.Rows]) ?_ (fun a w hI => ?_)
 ·refine sRegion (sLoadN (p := aq) (off := 0) (T := 42) (vs := [iv p0.Start, .slice ad3 p0.Rows.length cp4]) 2 [iv p0.Start, .slice ad3 p0.Rows.length cp4] S (wN rfl) rfl rfl rfl rfl rfl rfl rfl (lb rfl) fun a S => ?_)
  obtain ⟨bh, aL, h⟩ := bS h
  have S1 := S.mem
  refine sCq [.agg #[iv p0.Start, .slice ad3 p0.Rows.length cp4]] (.bool bh) S callee19 (S1.quiet [3] rfl) (fun E1 w1 S1 => c_raddleref46_GreatChart E1 w1 p0 (.agg #[iv p0.Start, .slice ad3 p0.Rows.length cp4]) bh aL S1) fun a w S => ?_
  refine sM S fun a S => ?_
  rcases iS h with ⟨ag, h⟩ | ⟨ag, h⟩
  ·refine sSkN 2 2 false 19 S rfl rfl ag rfl fun a S => ?_
   refine sPickT (.bool true) S (wN rfl) rfl rfl ag rfl rfl (lb rfl) fun a S => ?_
   refine sM S fun a S => ?_
   refine sSkN 2 6 false 23 S rfl rfl rfl rfl fun a S => ?_
   refine sPickT (.bool true) S (wN rfl) rfl rfl rfl rfl rfl (lb rfl) fun a S => ?_
   refine sM S fun a S => ?_
   refine sSkN 3 10 false 27 S rfl rfl rfl rfl fun a S => ?_
   refine sPickT (.bool true) S (wN rfl) rfl rfl rfl rfl rfl (lb rfl) fun a S => ?_
   refine sM S fun a S => ?_
   refine sSkN 3 15 false 32 S rfl rfl rfl rfl fun a S => ?_
   refine sPickT (.bool true) S (wN rfl) rfl rfl rfl rfl rfl (lb rfl) fun a S => ?_
   refine sM S fun a S => ?_
   refine sSkN 3 20 false 37 S rfl rfl rfl rfl fun a S => ?_
   refine sPickT (.bool true) S (wN rfl) rfl rfl rfl rfl rfl (lb rfl) fun a S => ?_
   refine sM S fun a S => ?_
   refine sSkN 2 25 false 42 S rfl rfl rfl rfl fun a S => ?_
   refine sPickT (.bool true) S (wN rfl) rfl rfl rfl rfl rfl (lb rfl) fun a S => ?_
   exact lT (⟨true, Option.some.inj h, S.fix [2, 1, 0] [2, 1, 0] (by decide) rfl rfl rfl⟩)
  refine sLoadN (p := ar) (off := 0) (T := 42) (vs := [iv p1.Start, .slice ad7 p1.Rows.length cp8]) 1 [iv p1.Start, .slice ad7 p1.Rows.length cp8] S (wG 2 false 19 rfl rfl rfl ag) rfl rfl rfl rfl rfl rfl rfl (lb rfl) fun a S => ?_
  obtain ⟨aM, aO, h⟩ := bS h
  have S1 := S.mem
  refine sCallQ (X := Unit) (f := 19) (vs := [.agg #[iv p1.Start, .slice ad7 p1.Rows.length cp8]]) (val := fun _ => .bool aM) S (wG 2 false 19 rfl rfl rfl ag) rfl callee19 rfl (S1.quiet [4] rfl) (fun E1 w1 S1 => c_raddleref46_GreatChart E1 w1 p1 (.agg #[iv p1.Start, .slice ad7 p1.Rows.length cp8]) aM aO S1) rfl (lb rfl) fun _ a w S => ?_
  refine sPickF (.bool aM) S (wN rfl) rfl rfl ag rfl rfl (lb rfl) fun a S => ?_
  refine sM S fun a S => ?_
  rcases iS h with ⟨ah, h⟩ | ⟨ah, h⟩
  ·refine sSkN 2 6 false 23 S rfl rfl ah rfl fun a S => ?_
   refine sPickT (.bool true) S (wN rfl) rfl rfl ah rfl rfl (lb rfl) fun a S => ?_
   refine sM S fun a S => ?_
   refine sSkN 3 10 false 27 S rfl rfl rfl rfl fun a S => ?_
   refine sPickT (.bool true) S (wN rfl) rfl rfl rfl rfl rfl (lb rfl) fun a S => ?_
   refine sM S fun a S => ?_
   refine sSkN 3 15 false 32 S rfl rfl rfl rfl fun a S => ?_
   refine sPickT (.bool true) S (wN rfl) rfl rfl rfl rfl rfl (lb rfl) fun a S => ?_
   refine sM S fun a S => ?_
   refine sSkN 3 20 false 37 S rfl rfl rfl rfl fun a S => ?_
   refine sPickT (.bool true) S (wN rfl) rfl rfl rfl rfl rfl (lb rfl) fun a S => ?_
   refine sM S fun a S => ?_
   refine sSkN 2 25 false 42 S rfl rfl rfl rfl fun a S => ?_
   refine sPickT (.bool true) S (wN rfl) rfl rfl rfl rfl rfl (lb rfl) fun a S => ?_
   exact lT (⟨true, Option.some.inj h, S.fix [2, 1, 0] [2, 1, 0] (by decide) rfl rfl rfl⟩)
  refine sLoadN (p := av) (off := 0) (T := 42) (vs := [iv p2.Start, .slice a0 p2.Rows.length a4]) 0 [iv p2.Start, .slice a0 p2.Rows.length a4] S (wG 6 false 23 rfl rfl rfl ah) rfl rfl rfl rfl rfl rfl rfl (lb rfl) fun a S => ?_
  obtain ⟨aP, aQ, h⟩ := bS h
  have S1 := S.mem
  refine sCallQ (X := Unit) (f := 19) (vs := [.agg #[iv p2.Start, .slice a0 p2.Rows.length a4]]) (val := fun _ => .bool aP) S (wG 6 false 23 rfl rfl rfl ah) rfl callee19 rfl (S1.quiet [5] rfl) (fun E1 w1 S1 => c_raddleref46_GreatChart E1 w1 p2 (.agg #[iv p2.Start, .slice a0 p2.Rows.length a4]) aP aQ S1) rfl (lb rfl) fun _ a w S => ?_
  refine sPickF (.bool aP) S (wN rfl) rfl rfl ah rfl rfl (lb rfl) fun a S => ?_
  refine sM S fun a S => ?_
  rcases iS h with ⟨a9, h⟩ | ⟨a9, h⟩
  ·refine sSkN 3 10 false 27 S rfl rfl a9 rfl fun a S => ?_
   refine sPickT (.bool true) S (wN rfl) rfl rfl a9 rfl rfl (lb rfl) fun a S => ?_
   refine sM S fun a S => ?_
   refine sSkN 3 15 false 32 S rfl rfl rfl rfl fun a S => ?_
   refine sPickT (.bool true) S (wN rfl) rfl rfl rfl rfl rfl (lb rfl) fun a S => ?_
   refine sM S fun a S => ?_
   refine sSkN 3 20 false 37 S rfl rfl rfl rfl fun a S => ?_
   refine sPickT (.bool true) S (wN rfl) rfl rfl rfl rfl rfl (lb rfl) fun a S => ?_
   refine sM S fun a S => ?_
   refine sSkN 2 25 false 42 S rfl rfl rfl rfl fun a S => ?_
   refine sPickT (.bool true) S (wN rfl) rfl rfl rfl rfl rfl (lb rfl) fun a S => ?_
   exact lT (⟨true, Option.some.inj h, S.fix [2, 1, 0] [2, 1, 0] (by decide) rfl rfl rfl⟩)
  refine sLoadN (p := aq) (off := 0) (T := 42) (vs := [iv p0.Start, .slice ad3 p0.Rows.length cp4]) 2 [iv p0.Start, .slice ad3 p0.Rows.length cp4] S (wG 10 false 27 rfl rfl rfl a9) rfl rfl rfl rfl rfl rfl rfl (lb rfl) fun a S => ?_
  obtain ⟨az, aR, h⟩ := bS h
  have S1 := S.mem
  refine sCallQ (X := Unit) (f := 39) (vs := [.agg #[iv p0.Start, .slice ad3 p0.Rows.length cp4]]) (val := fun _ => iv az) S (wG 10 false 27 rfl rfl rfl a9) rfl callee39 rfl (S1.quiet [3] rfl) (fun E1 w1 S1 => c_raddleref26_Check E1 w1 p0 (.agg #[iv p0.Start, .slice ad3 p0.Rows.length cp4]) az aR S1) rfl (lb rfl) fun _ a w S => ?_
  refine sBin _ S (wG 10 false 27 rfl rfl rfl a9) rfl rfl rfl (bNe _ _ _ _ .i64 az 0) rfl (lb rfl) fun a S => ?_
  refine sPickF (.bool (az != 0)) S (wN rfl) rfl rfl a9 rfl rfl (lb rfl) fun a S => ?_
  refine sM S fun a S => ?_
  rcases iS h with ⟨aa, h⟩ | ⟨aa, h⟩
  ·refine sSkN 3 15 false 32 S rfl rfl aa rfl fun a S => ?_
   refine sPickT (.bool true) S (wN rfl) rfl rfl aa rfl rfl (lb rfl) fun a S => ?_
   refine sM S fun a S => ?_
   refine sSkN 3 20 false 37 S rfl rfl rfl rfl fun a S => ?_
   refine sPickT (.bool true) S (wN rfl) rfl rfl rfl rfl rfl (lb rfl) fun a S => ?_
   refine sM S fun a S => ?_
   refine sSkN 2 25 false 42 S rfl rfl rfl rfl fun a S => ?_
   refine sPickT (.bool true) S (wN rfl) rfl rfl rfl rfl rfl (lb rfl) fun a S => ?_
   exact lT (⟨true, Option.some.inj h, S.fix [2, 1, 0] [2, 1, 0] (by decide) rfl rfl rfl⟩)
  refine sLoadN (p := ar) (off := 0) (T := 42) (vs := [iv p1.Start, .slice ad7 p1.Rows.length cp8]) 1 [iv p1.Start, .slice ad7 p1.Rows.length cp8] S (wG 15 false 32 rfl rfl rfl aa) rfl rfl rfl rfl rfl rfl rfl (lb rfl) fun a S => ?_
  obtain ⟨aA, aS, h⟩ := bS h
  have S1 := S.mem
  refine sCallQ (X := Unit) (f := 39) (vs := [.agg #[iv p1.Start, .slice ad7 p1.Rows.length cp8]]) (val := fun _ => iv aA) S (wG 15 false 32 rfl rfl rfl aa) rfl callee39 rfl (S1.quiet [4] rfl) (fun E1 w1 S1 => c_raddleref26_Check E1 w1 p1 (.agg #[iv p1.Start, .slice ad7 p1.Rows.length cp8]) aA aS S1) rfl (lb rfl) fun _ a w S => ?_
  refine sBin _ S (wG 15 false 32 rfl rfl rfl aa) rfl rfl rfl (bNe _ _ _ _ .i64 aA 0) rfl (lb rfl) fun a S => ?_
  refine sPickF (.bool (aA != 0)) S (wN rfl) rfl rfl aa rfl rfl (lb rfl) fun a S => ?_
  refine sM S fun a S => ?_
  rcases iS h with ⟨ab, h⟩ | ⟨ab, h⟩
  ·refine sSkN 3 20 false 37 S rfl rfl ab rfl fun a S => ?_
   refine sPickT (.bool true) S (wN rfl) rfl rfl ab rfl rfl (lb rfl) fun a S => ?_
   refine sM S fun a S => ?_
   refine sSkN 2 25 false 42 S rfl rfl rfl rfl fun a S => ?_
   refine sPickT (.bool true) S (wN rfl) rfl rfl rfl rfl rfl (lb rfl) fun a S => ?_
   exact lT (⟨true, Option.some.inj h, S.fix [2, 1, 0] [2, 1, 0] (by decide) rfl rfl rfl⟩)
  refine sLoadN (p := av) (off := 0) (T := 42) (vs := [iv p2.Start, .slice a0 p2.Rows.length a4]) 0 [iv p2.Start, .slice a0 p2.Rows.length a4] S (wG 20 false 37 rfl rfl rfl ab) rfl rfl rfl rfl rfl rfl rfl (lb rfl) fun a S => ?_
  obtain ⟨aC, aT, h⟩ := bS h
  have S1 := S.mem
  refine sCallQ (X := Unit) (f := 39) (vs := [.agg #[iv p2.Start, .slice a0 p2.Rows.length a4]]) (val := fun _ => iv aC) S (wG 20 false 37 rfl rfl rfl ab) rfl callee39 rfl (S1.quiet [5] rfl) (fun E1 w1 S1 => c_raddleref26_Check E1 w1 p2 (.agg #[iv p2.Start, .slice a0 p2.Rows.length a4]) aC aT S1) rfl (lb rfl) fun _ a w S => ?_
  refine sBin _ S (wG 20 false 37 rfl rfl rfl ab) rfl rfl rfl (bNe _ _ _ _ .i64 aC 0) rfl (lb rfl) fun a S => ?_
  refine sPickF (.bool (aC != 0)) S (wN rfl) rfl rfl ab rfl rfl (lb rfl) fun a S => ?_
  refine sM S fun a S => ?_
  rcases iS h with ⟨ai, h⟩ | ⟨ai, h⟩
  ·refine sSkN 2 25 false 42 S rfl rfl ai rfl fun a S => ?_
   refine sPickT (.bool true) S (wN rfl) rfl rfl ai rfl rfl (lb rfl) fun a S => ?_
   exact lT (⟨true, Option.some.inj h, S.fix [2, 1, 0] [2, 1, 0] (by decide) rfl rfl rfl⟩)
  refine sMove (.bool ap) S (wG 25 false 42 rfl rfl rfl ai) (.inl rfl) rfl rfl (lb rfl) fun a S => ?_
  refine sNot (b := ap) S (wG 25 false 42 rfl rfl rfl ai) rfl rfl rfl (lb rfl) fun a S => ?_
  refine sPickF (.bool (!ap)) S (wN rfl) rfl rfl ai rfl rfl (lb rfl) fun a S => ?_
  exact lT (⟨!ap, Option.some.inj h, S.fix [2, 1, 0] [2, 1, 0] (by decide) rfl rfl rfl⟩)
 obtain ⟨aK, rfl, S⟩ := hI
 have h := bj
 try dsimp only at h
 rcases iS h with ⟨au, h⟩ | ⟨au, h⟩
 ·refine sCondT S rfl au ?_
  refine sSeq (fun bq aU => sRegion (sM S fun a S => ?_))
  refine sN S fun a S => ?_
  refine lT (aU _ _ ?_)
  obtain rfl := tS h
  exact wp_ret (rThen (sRet (.bool ap) S (rsl1 rfl (rvT (t := 6) (v := .bool ap) S rfl)) ⟨(), rfl, S.mem.sel [] [] (by decide) rfl rfl⟩))
 refine sCondF S rfl au ?_
 refine wp_skip (leafT (aJ _ _ ?_))
 refine sSeq (fun br aV => sRegion (sLoadN (p := aq) (off := 0) (T := 42) (vs := [iv p0.Start, .slice ad3 p0.Rows.length cp4]) 0 [iv p0.Start, .slice ad3 p0.Rows.length cp4] S (wN rfl) rfl rfl rfl rfl rfl rfl rfl (lb rfl) fun a S => ?_))
 refine sLoadN (p := ar) (off := 0) (T := 42) (vs := [iv p1.Start, .slice ad7 p1.Rows.length cp8]) 1 [iv p1.Start, .slice ad7 p1.Rows.length cp8] S (wN rfl) rfl rfl rfl rfl rfl rfl rfl (lb rfl) fun a S => ?_
 obtain ⟨a5, aW, h⟩ := bS h
 have S1 := S.mem
 have S1 := S1.learn (fRep r_api_Chart (.agg #[iv p0.Start, .slice ad3 p0.Rows.length cp4]) p0) ⟨_, rfl, S1.know (i := 0) (e := fRep (rL r_api_Row) (.slice ad3 p0.Rows.length cp4) p0.Rows) rfl⟩
 have S1 := S1.learn (fRep r_api_Chart (.agg #[iv p1.Start, .slice ad7 p1.Rows.length cp8]) p1) ⟨_, rfl, S1.know (i := 2) (e := fRep (rL r_api_Row) (.slice ad7 p1.Rows.length cp8) p1.Rows) rfl⟩
 refine sCq [.agg #[iv p0.Start, .slice ad3 p0.Rows.length cp4], .agg #[iv p1.Start, .slice ad7 p1.Rows.length cp8]] (.tuple #[iv a5.1, iv a5.2]) S callee20 (S1.quiet [1, 0] rfl) (fun E1 w1 S1 => c_compare_Charts E1 w1 p0 (.agg #[iv p0.Start, .slice ad3 p0.Rows.length cp4]) p1 (.agg #[iv p1.Start, .slice ad7 p1.Rows.length cp8]) a5 aW S1) fun a w S => ?_
 refine sM S fun a S => ?_
 refine sExtract (vs := [iv a5.1, iv a5.2]) (iv a5.1) S (wN rfl) rfl rfl rfl rfl (lb rfl) fun a S => ?_
 refine sExtract (vs := [iv a5.1, iv a5.2]) (iv a5.2) S (wN rfl) rfl rfl rfl rfl (lb rfl) fun a S => ?_
 refine sN S fun a S => ?_
 refine sN S fun a S => ?_
 refine lT (aV _ _ (sSeq (fun bt aX => sRegion (sLoadN (p := ar) (off := 0) (T := 42) (vs := [iv p1.Start, .slice ad7 p1.Rows.length cp8]) 1 [iv p1.Start, .slice ad7 p1.Rows.length cp8] S (wN rfl) rfl rfl rfl rfl rfl rfl rfl (lb rfl) fun a S => ?_))))
 refine sLoadN (p := av) (off := 0) (T := 42) (vs := [iv p2.Start, .slice a0 p2.Rows.length a4]) 2 [iv p2.Start, .slice a0 p2.Rows.length a4] S (wN rfl) rfl rfl rfl rfl rfl rfl rfl (lb rfl) fun a S => ?_
 obtain ⟨a8, aZ, h⟩ := bS h
 have S1 := S.mem
 have S1 := S1.learn (fRep r_api_Chart (.agg #[iv p1.Start, .slice ad7 p1.Rows.length cp8]) p1) ⟨_, rfl, S1.know (i := 1) (e := fRep (rL r_api_Row) (.slice ad7 p1.Rows.length cp8) p1.Rows) rfl⟩
 have S1 := S1.learn (fRep r_api_Chart (.agg #[iv p2.Start, .slice a0 p2.Rows.length a4]) p2) ⟨_, rfl, S1.know (i := 3) (e := fRep (rL r_api_Row) (.slice a0 p2.Rows.length a4) p2.Rows) rfl⟩
 refine sCq [.agg #[iv p1.Start, .slice ad7 p1.Rows.length cp8], .agg #[iv p2.Start, .slice a0 p2.Rows.length a4]] (.tuple #[iv a8.1, iv a8.2]) S callee20 (S1.quiet [1, 0] rfl) (fun E1 w1 S1 => c_compare_Charts E1 w1 p1 (.agg #[iv p1.Start, .slice ad7 p1.Rows.length cp8]) p2 (.agg #[iv p2.Start, .slice a0 p2.Rows.length a4]) a8 aZ S1) fun a w S => ?_
 refine sM S fun a S => ?_
 refine sExtract (vs := [iv a8.1, iv a8.2]) (iv a8.1) S (wN rfl) rfl rfl rfl rfl (lb rfl) fun a S => ?_
 refine sExtract (vs := [iv a8.1, iv a8.2]) (iv a8.2) S (wN rfl) rfl rfl rfl rfl (lb rfl) fun a S => ?_
 refine sN S fun a S => ?_
 refine sN S fun a S => ?_
 refine lT (aX _ _ (sSeq (fun bu ba => sRegion (sLoadN (p := aq) (off := 0) (T := 42) (vs := [iv p0.Start, .slice ad3 p0.Rows.length cp4]) 0 [iv p0.Start, .slice ad3 p0.Rows.length cp4] S (wN rfl) rfl rfl rfl rfl rfl rfl rfl (lb rfl) fun a S => ?_))))
 refine sLoadN (p := av) (off := 0) (T := 42) (vs := [iv p2.Start, .slice a0 p2.Rows.length a4]) 2 [iv p2.Start, .slice a0 p2.Rows.length a4] S (wN rfl) rfl rfl rfl rfl rfl rfl rfl (lb rfl) fun a S => ?_
 obtain ⟨ac, bb, h⟩ := bS h
 have S1 := S.mem
 have S1 := S1.learn (fRep r_api_Chart (.agg #[iv p0.Start, .slice ad3 p0.Rows.length cp4]) p0) ⟨_, rfl, S1.know (i := 0) (e := fRep (rL r_api_Row) (.slice ad3 p0.Rows.length cp4) p0.Rows) rfl⟩
 have S1 := S1.learn (fRep r_api_Chart (.agg #[iv p2.Start, .slice a0 p2.Rows.length a4]) p2) ⟨_, rfl, S1.know (i := 3) (e := fRep (rL r_api_Row) (.slice a0 p2.Rows.length a4) p2.Rows) rfl⟩
 refine sCq [.agg #[iv p0.Start, .slice ad3 p0.Rows.length cp4], .agg #[iv p2.Start, .slice a0 p2.Rows.length a4]] (.tuple #[iv ac.1, iv ac.2]) S callee20 (S1.quiet [1, 0] rfl) (fun E1 w1 S1 => c_compare_Charts E1 w1 p0 (.agg #[iv p0.Start, .slice ad3 p0.Rows.length cp4]) p2 (.agg #[iv p2.Start, .slice a0 p2.Rows.length a4]) ac bb S1) fun a w S => ?_
 refine sM S fun a S => ?_
 refine sExtract (vs := [iv ac.1, iv ac.2]) (iv ac.1) S (wN rfl) rfl rfl rfl rfl (lb rfl) fun a S => ?_
 refine sExtract (vs := [iv ac.1, iv ac.2]) (iv ac.2) S (wN rfl) rfl rfl rfl rfl (lb rfl) fun a S => ?_
 refine sN S fun a S => ?_
 refine sN S fun a S => ?_
 refine lT (ba _ _ (sSeq (fun bv bc => sRegion (sLoadN (p := ar) (off := 0) (T := 42) (vs := [iv p1.Start, .slice ad7 p1.Rows.length cp8]) 1 [iv p1.Start, .slice ad7 p1.Rows.length cp8] S (wN rfl) rfl rfl rfl rfl rfl rfl rfl (lb rfl) fun a S => ?_))))
 refine sLoadN (p := aq) (off := 0) (T := 42) (vs := [iv p0.Start, .slice ad3 p0.Rows.length cp4]) 0 [iv p0.Start, .slice ad3 p0.Rows.length cp4] S (wN rfl) rfl rfl rfl rfl rfl rfl rfl (lb rfl) fun a S => ?_
 obtain ⟨ae, bf, h⟩ := bS h
 have S1 := S.mem
 have S1 := S1.learn (fRep r_api_Chart (.agg #[iv p1.Start, .slice ad7 p1.Rows.length cp8]) p1) ⟨_, rfl, S1.know (i := 1) (e := fRep (rL r_api_Row) (.slice ad7 p1.Rows.length cp8) p1.Rows) rfl⟩
 have S1 := S1.learn (fRep r_api_Chart (.agg #[iv p0.Start, .slice ad3 p0.Rows.length cp4]) p0) ⟨_, rfl, S1.know (i := 1) (e := fRep (rL r_api_Row) (.slice ad3 p0.Rows.length cp4) p0.Rows) rfl⟩
 refine sCq [.agg #[iv p1.Start, .slice ad7 p1.Rows.length cp8], .agg #[iv p0.Start, .slice ad3 p0.Rows.length cp4]] (.tuple #[iv ae.1, iv ae.2]) S callee20 (S1.quiet [1, 0] rfl) (fun E1 w1 S1 => c_compare_Charts E1 w1 p1 (.agg #[iv p1.Start, .slice ad7 p1.Rows.length cp8]) p0 (.agg #[iv p0.Start, .slice ad3 p0.Rows.length cp4]) ae bf S1) fun a w S => ?_
 refine sM S fun a S => ?_
 refine sExtract (vs := [iv ae.1, iv ae.2]) (iv ae.1) S (wN rfl) rfl rfl rfl rfl (lb rfl) fun a S => ?_
 refine sExtract (vs := [iv ae.1, iv ae.2]) (iv ae.2) S (wN rfl) rfl rfl rfl rfl (lb rfl) fun a S => ?_
 refine sN S fun a S => ?_
 refine sN S fun a S => ?_
 refine lT (bc _ _ ?_)
 obtain ⟨bk, h, bl⟩ := bS h
 refine sCut (fun a w => ∃ ax, ax = bk ∧ St [] E [] w0 108 a w [(6, .bool ax)] [] []) ?_ (fun a w hI => ?_)
 rotate_left
 ·obtain ⟨ax, rfl, S⟩ := hI
  have h := bl
  try dsimp only at h
  obtain rfl := tS h
  exact wp_ret (sRet (.bool ax) S (rsl1 rfl (rvT (t := 6) (v := .bool ax) S rfl)) ⟨(), rfl, S.mem.sel [] [] (by decide) rfl rfl⟩)
 refine sRegion (sM S fun a S => ?_)
 refine sM S fun a S => ?_
 rcases iS h with ⟨aj, h⟩ | ⟨aj, h⟩
 rotate_left
 ·refine sSkN 2 1 true 72 S rfl rfl aj rfl fun a S => ?_
  refine sPickF (.bool false) S (wN rfl) rfl rfl aj rfl rfl (lb rfl) fun a S => ?_
  refine sM S fun a S => ?_
  refine sSkN 2 5 true 76 S rfl rfl rfl rfl fun a S => ?_
  refine sPickF (.bool false) S (wN rfl) rfl rfl rfl rfl rfl (lb rfl) fun a S => ?_
  refine sM S fun a S => ?_
  refine sSkN 2 9 true 80 S rfl rfl rfl rfl fun a S => ?_
  refine sPickF (.bool false) S (wN rfl) rfl rfl rfl rfl rfl (lb rfl) fun a S => ?_
  refine sM S fun a S => ?_
  refine sSkN 2 13 true 84 S rfl rfl rfl rfl fun a S => ?_
  refine sPickF (.bool false) S (wN rfl) rfl rfl rfl rfl rfl (lb rfl) fun a S => ?_
  refine sM S fun a S => ?_
  refine sSkN 3 17 true 88 S rfl rfl rfl rfl fun a S => ?_
  refine sPickF (.bool false) S (wN rfl) rfl rfl rfl rfl rfl (lb rfl) fun a S => ?_
  refine sM S fun a S => ?_
  refine sSkN 5 22 true 93 S rfl rfl rfl rfl fun a S => ?_
  refine sPickF (.bool false) S (wN rfl) rfl rfl rfl rfl rfl (lb rfl) fun a S => ?_
  refine sM S fun a S => ?_
  refine sSkN 6 29 true 100 S rfl rfl rfl rfl fun a S => ?_
  refine sPickF (.bool false) S (wN rfl) rfl rfl rfl rfl rfl (lb rfl) fun a S => ?_
  refine sN S fun a S => ?_
  exact lT (⟨false, Option.some.inj h, S.fix [] [] (by decide) rfl rfl rfl⟩)
 refine sMove (iv a5.2) S (wG 1 true 72 rfl rfl rfl aj) (.inl rfl) rfl rfl (lb rfl) fun a S => ?_
 refine sBin _ S (wG 1 true 72 rfl rfl rfl aj) rfl rfl rfl (bEq _ _ _ _ .i64 a5.2 0) rfl (lb rfl) fun a S => ?_
 refine sPickT (.bool (a5.2 == 0)) S (wN rfl) rfl rfl aj rfl rfl (lb rfl) fun a S => ?_
 refine sM S fun a S => ?_
 rcases iS h with ⟨ak, h⟩ | ⟨ak, h⟩
 rotate_left
 ·refine sSkN 2 5 true 76 S rfl rfl ak rfl fun a S => ?_
  refine sPickF (.bool false) S (wN rfl) rfl rfl ak rfl rfl (lb rfl) fun a S => ?_
  refine sM S fun a S => ?_
  refine sSkN 2 9 true 80 S rfl rfl rfl rfl fun a S => ?_
  refine sPickF (.bool false) S (wN rfl) rfl rfl rfl rfl rfl (lb rfl) fun a S => ?_
  refine sM S fun a S => ?_
  refine sSkN 2 13 true 84 S rfl rfl rfl rfl fun a S => ?_
  refine sPickF (.bool false) S (wN rfl) rfl rfl rfl rfl rfl (lb rfl) fun a S => ?_
  refine sM S fun a S => ?_
  refine sSkN 3 17 true 88 S rfl rfl rfl rfl fun a S => ?_
  refine sPickF (.bool false) S (wN rfl) rfl rfl rfl rfl rfl (lb rfl) fun a S => ?_
  refine sM S fun a S => ?_
  refine sSkN 5 22 true 93 S rfl rfl rfl rfl fun a S => ?_
  refine sPickF (.bool false) S (wN rfl) rfl rfl rfl rfl rfl (lb rfl) fun a S => ?_
  refine sM S fun a S => ?_
  refine sSkN 6 29 true 100 S rfl rfl rfl rfl fun a S => ?_
  refine sPickF (.bool false) S (wN rfl) rfl rfl rfl rfl rfl (lb rfl) fun a S => ?_
  refine sN S fun a S => ?_
  exact lT (⟨false, Option.some.inj h, S.fix [] [] (by decide) rfl rfl rfl⟩)
 refine sMove (iv a8.2) S (wG 5 true 76 rfl rfl rfl ak) (.inl rfl) rfl rfl (lb rfl) fun a S => ?_
 refine sBin _ S (wG 5 true 76 rfl rfl rfl ak) rfl rfl rfl (bEq _ _ _ _ .i64 a8.2 0) rfl (lb rfl) fun a S => ?_
 refine sPickT (.bool (a8.2 == 0)) S (wN rfl) rfl rfl ak rfl rfl (lb rfl) fun a S => ?_
 refine sM S fun a S => ?_
 rcases iS h with ⟨am, h⟩ | ⟨am, h⟩
 rotate_left
 ·refine sSkN 2 9 true 80 S rfl rfl am rfl fun a S => ?_
  refine sPickF (.bool false) S (wN rfl) rfl rfl am rfl rfl (lb rfl) fun a S => ?_
  refine sM S fun a S => ?_
  refine sSkN 2 13 true 84 S rfl rfl rfl rfl fun a S => ?_
  refine sPickF (.bool false) S (wN rfl) rfl rfl rfl rfl rfl (lb rfl) fun a S => ?_
  refine sM S fun a S => ?_
  refine sSkN 3 17 true 88 S rfl rfl rfl rfl fun a S => ?_
  refine sPickF (.bool false) S (wN rfl) rfl rfl rfl rfl rfl (lb rfl) fun a S => ?_
  refine sM S fun a S => ?_
  refine sSkN 5 22 true 93 S rfl rfl rfl rfl fun a S => ?_
  refine sPickF (.bool false) S (wN rfl) rfl rfl rfl rfl rfl (lb rfl) fun a S => ?_
  refine sM S fun a S => ?_
  refine sSkN 6 29 true 100 S rfl rfl rfl rfl fun a S => ?_
  refine sPickF (.bool false) S (wN rfl) rfl rfl rfl rfl rfl (lb rfl) fun a S => ?_
  refine sN S fun a S => ?_
  exact lT (⟨false, Option.some.inj h, S.fix [] [] (by decide) rfl rfl rfl⟩)
 refine sMove (iv ac.2) S (wG 9 true 80 rfl rfl rfl am) (.inl rfl) rfl rfl (lb rfl) fun a S => ?_
 refine sBin _ S (wG 9 true 80 rfl rfl rfl am) rfl rfl rfl (bEq _ _ _ _ .i64 ac.2 0) rfl (lb rfl) fun a S => ?_
 refine sPickT (.bool (ac.2 == 0)) S (wN rfl) rfl rfl am rfl rfl (lb rfl) fun a S => ?_
 refine sM S fun a S => ?_
 rcases iS h with ⟨ao, h⟩ | ⟨ao, h⟩
 rotate_left
 ·refine sSkN 2 13 true 84 S rfl rfl ao rfl fun a S => ?_
  refine sPickF (.bool false) S (wN rfl) rfl rfl ao rfl rfl (lb rfl) fun a S => ?_
  refine sM S fun a S => ?_
  refine sSkN 3 17 true 88 S rfl rfl rfl rfl fun a S => ?_
  refine sPickF (.bool false) S (wN rfl) rfl rfl rfl rfl rfl (lb rfl) fun a S => ?_
  refine sM S fun a S => ?_
  refine sSkN 5 22 true 93 S rfl rfl rfl rfl fun a S => ?_
  refine sPickF (.bool false) S (wN rfl) rfl rfl rfl rfl rfl (lb rfl) fun a S => ?_
  refine sM S fun a S => ?_
  refine sSkN 6 29 true 100 S rfl rfl rfl rfl fun a S => ?_
  refine sPickF (.bool false) S (wN rfl) rfl rfl rfl rfl rfl (lb rfl) fun a S => ?_
  refine sN S fun a S => ?_
  exact lT (⟨false, Option.some.inj h, S.fix [] [] (by decide) rfl rfl rfl⟩)
 refine sMove (iv ae.2) S (wG 13 true 84 rfl rfl rfl ao) (.inl rfl) rfl rfl (lb rfl) fun a S => ?_
 refine sBin _ S (wG 13 true 84 rfl rfl rfl ao) rfl rfl rfl (bEq _ _ _ _ .i64 ae.2 0) rfl (lb rfl) fun a S => ?_
 refine sPickT (.bool (ae.2 == 0)) S (wN rfl) rfl rfl ao rfl rfl (lb rfl) fun a S => ?_
 refine sM S fun a S => ?_
 rcases iS h with ⟨af, h⟩ | ⟨af, h⟩
 rotate_left
 ·refine sSkN 3 17 true 88 S rfl rfl af rfl fun a S => ?_
  refine sPickF (.bool false) S (wN rfl) rfl rfl af rfl rfl (lb rfl) fun a S => ?_
  refine sM S fun a S => ?_
  refine sSkN 5 22 true 93 S rfl rfl rfl rfl fun a S => ?_
  refine sPickF (.bool false) S (wN rfl) rfl rfl rfl rfl rfl (lb rfl) fun a S => ?_
  refine sM S fun a S => ?_
  refine sSkN 6 29 true 100 S rfl rfl rfl rfl fun a S => ?_
  refine sPickF (.bool false) S (wN rfl) rfl rfl rfl rfl rfl (lb rfl) fun a S => ?_
  refine sN S fun a S => ?_
  exact lT (⟨false, Option.some.inj h, S.fix [] [] (by decide) rfl rfl rfl⟩)
 refine sMove (iv a5.1) S (wG 17 true 88 rfl rfl rfl af) (.inl rfl) rfl rfl (lb rfl) fun a S => ?_
 refine sMove (iv ae.1) S (wG 17 true 88 rfl rfl rfl af) (.inl rfl) rfl rfl (lb rfl) fun a S => ?_
 refine sBin _ S (wG 17 true 88 rfl rfl rfl af) rfl rfl rfl (bEq _ _ _ _ .i64 a5.1 ae.1) rfl (lb rfl) fun a S => ?_
 refine sPickT (.bool (a5.1 == ae.1)) S (wN rfl) rfl rfl af rfl rfl (lb rfl) fun a S => ?_
 refine sM S fun a S => ?_
 rcases iS h with ⟨a7, h⟩ | ⟨a7, h⟩
 rotate_left
 ·refine sSkN 5 22 true 93 S rfl rfl a7 rfl fun a S => ?_
  refine sPickF (.bool false) S (wN rfl) rfl rfl a7 rfl rfl (lb rfl) fun a S => ?_
  refine sM S fun a S => ?_
  refine sSkN 6 29 true 100 S rfl rfl rfl rfl fun a S => ?_
  refine sPickF (.bool false) S (wN rfl) rfl rfl rfl rfl rfl (lb rfl) fun a S => ?_
  refine sN S fun a S => ?_
  exact lT (⟨false, Option.some.inj h, S.fix [] [] (by decide) rfl rfl rfl⟩)
 refine sMove (iv ac.1) S (wG 22 true 93 rfl rfl rfl a7) (.inl rfl) rfl rfl (lb rfl) fun a S => ?_
 refine sMove (iv a5.1) S (wG 22 true 93 rfl rfl rfl a7) (.inl rfl) rfl rfl (lb rfl) fun a S => ?_
 refine sMove (iv a8.1) S (wG 22 true 93 rfl rfl rfl a7) (.inl rfl) rfl rfl (lb rfl) fun a S => ?_
 refine sBin _ S (wG 22 true 93 rfl rfl rfl a7) rfl rfl rfl (bAdd _ _ _ _ a5.1 a8.1) rfl (lb rfl) fun a S => ?_
 refine sBin _ S (wG 22 true 93 rfl rfl rfl a7) rfl rfl rfl (bLe _ _ _ _ .i64 ac.1 (w64 (a5.1 + a8.1))) rfl (lb rfl) fun a S => ?_
 refine sPickT (.bool (decide (ac.1 ≤ (w64 (a5.1 + a8.1))))) S (wN rfl) rfl rfl a7 rfl rfl (lb rfl) fun a S => ?_
 refine sM S fun a S => ?_
 rcases iS h with ⟨a6, h⟩ | ⟨a6, h⟩
 rotate_left
 ·refine sSkN 6 29 true 100 S rfl rfl a6 rfl fun a S => ?_
  refine sPickF (.bool false) S (wN rfl) rfl rfl a6 rfl rfl (lb rfl) fun a S => ?_
  refine sN S fun a S => ?_
  exact lT (⟨false, Option.some.inj h, S.fix [] [] (by decide) rfl rfl rfl⟩)
 refine sMove (iv a5.1) S (wG 29 true 100 rfl rfl rfl a6) (.inl rfl) rfl rfl (lb rfl) fun a S => ?_
 refine sBin _ S (wG 29 true 100 rfl rfl rfl a6) rfl rfl rfl (bEq _ _ _ _ .i64 a5.1 0) rfl (lb rfl) fun a S => ?_
 refine sLoadN (p := aq) (off := 0) (T := 42) (vs := [iv p0.Start, .slice ad3 p0.Rows.length cp4]) 0 [iv p0.Start, .slice ad3 p0.Rows.length cp4] S (wG 29 true 100 rfl rfl rfl a6) rfl rfl rfl rfl rfl rfl rfl (lb rfl) fun a S => ?_
 refine sLoadN (p := ar) (off := 0) (T := 42) (vs := [iv p1.Start, .slice ad7 p1.Rows.length cp8]) 1 [iv p1.Start, .slice ad7 p1.Rows.length cp8] S (wG 29 true 100 rfl rfl rfl a6) rfl rfl rfl rfl rfl rfl rfl (lb rfl) fun a S => ?_
 obtain ⟨ay, bg, h⟩ := bS h
 have S1 := S.mem
 have S1 := S1.learn (fRep r_api_Chart (.agg #[iv p0.Start, .slice ad3 p0.Rows.length cp4]) p0) ⟨_, rfl, S1.know (i := 0) (e := fRep (rL r_api_Row) (.slice ad3 p0.Rows.length cp4) p0.Rows) rfl⟩
 have S1 := S1.learn (fRep r_api_Chart (.agg #[iv p1.Start, .slice ad7 p1.Rows.length cp8]) p1) ⟨_, rfl, S1.know (i := 2) (e := fRep (rL r_api_Row) (.slice ad7 p1.Rows.length cp8) p1.Rows) rfl⟩
 refine sCallQ (X := Unit) (f := 40) (vs := [.agg #[iv p0.Start, .slice ad3 p0.Rows.length cp4], .agg #[iv p1.Start, .slice ad7 p1.Rows.length cp8]]) (val := fun _ => .bool ay) S (wG 29 true 100 rfl rfl rfl a6) rfl callee40 rfl (S1.quiet [1, 0] rfl) (fun E1 w1 S1 => c_raddleref26_Same E1 w1 p0 (.agg #[iv p0.Start, .slice ad3 p0.Rows.length cp4]) p1 (.agg #[iv p1.Start, .slice ad7 p1.Rows.length cp8]) ay bg S1) rfl (lb rfl) fun _ a w S => ?_
 refine sBin _ S (wG 29 true 100 rfl rfl rfl a6) rfl rfl rfl (bEqB _ _ _ _ Try.underlying4 (a5.1 == 0) ay) rfl (lb rfl) fun a S => ?_
 refine sPickT (.bool ((a5.1 == 0) == ay)) S (wN rfl) rfl rfl a6 rfl rfl (lb rfl) fun a S => ?_
 refine sN S fun a S => ?_
 exact lT (⟨(a5.1 == 0) == ay, Option.some.inj h, S.fix [] [] (by decide) rfl rfl rfl⟩)
instance decRow : DecidableEq api_Row := fun a b => decidable_of_iff (a.Back = b.Back ∧ a.Cells = b.Cells) (by cases a; cases b; simp)
instance decCht : DecidableEq api_Chart := fun a b => decidable_of_iff (a.Start = b.Start ∧ a.Rows = b.Rows) (by cases a; cases b; simp)
theorem rsame26_eq (a b : api_Chart) (hl : a.Rows.length ≤ 9223372036854775807) (hc : ∀ r, r ∈ a.Rows → r.Cells.length ≤ 9223372036854775807) : F_raddleref26_Same a b = some (decide (a = b)) := by
 unfold F_raddleref26_Same
 by_cases h1 : a.Start = b.Start
 case neg => simp only [nT h1, if_true, Option.bind_some]; rw [decide_eq_false]; rintro rfl; exact h1 rfl
 by_cases h3 : (a.Rows.length : Int) = (b.Rows.length : Int)
 case neg => simp only [nF h1, nT h3, Bool.false_eq_true, if_false, if_true, Option.bind_some]; rw [decide_eq_false]; rintro rfl; exact h3 rfl
 have hw : whileO (raddleref26_Same_l1 a b) 0 = some (if a.Rows = b.Rows then .inr () else .inl false) := by
  refine loop_eql a.Rows b.Rows (by omega) _ _ (fun k hk => ?_) ?_
  ·have hk2 : k < b.Rows.length := by omega
   unfold raddleref26_Same_l1
   simp only [dT (show (k : Int) < (a.Rows.length : Int) by omega), if_true, idxO_nat hk, idxO_nat hk2, Option.bind_some, rsame25_eq _ _ (hc _ (List.getElem_mem hk)), w64_succ (show k < 9223372036854775807 by omega)]
   by_cases e : a.Rows[k] = b.Rows[k]
   ·rw [if_pos e, e]; simp
   ·rw [if_neg e]
    by_cases e2 : a.Rows[k].Back = b.Rows[k].Back
    ·have e3 : ¬ a.Rows[k].Cells = b.Rows[k].Cells := by
      intro q
      apply e
      generalize a.Rows[k] = p at *
      generalize b.Rows[k] = r at *
      cases p; cases r
      simp only at e2 q
      rw [e2, q]
     rw [e2, dF e3]; simp
    ·have e4 : (a.Rows[k].Back != b.Rows[k].Back) = true := by simpa using e2
     rw [e4]; rfl
  ·unfold raddleref26_Same_l1; simp
 simp only [nF h1, nF h3, Bool.false_eq_true, if_false, Option.bind_some, hw]
 by_cases e : a.Rows = b.Rows
 ·have : a = b := by cases a; cases b; simp only at h1 e; rw [h1, e]
  rw [if_pos e, dT this]; rfl
 ·rw [if_neg e, dF (fun q => e (by rw [q]))]; rfl
theorem chartsS_ok {a b : api_Chart} (ha : chk a = 0) (hb : chk b = 0) : chartsS a b = (((DC a b : Nat) : Int), 0) := by
 unfold chartsS
 rw [if_pos ha, if_pos hb]
theorem law_ComparePages' (hal : F_raddlelaw46_alive = some true) (a b c : api_Chart) (wa : wf_api_Chart a) (wb : wf_api_Chart b) (wc : wf_api_Chart c) : F_raddlelaw46_ComparePages a b c = some true := by
 unfold F_raddlelaw46_ComparePages
 obtain ⟨b1, h1⟩ := rgreatC_eq a wa.2.1
 obtain ⟨b2, h2⟩ := rgreatC_eq b wb.2.1
 obtain ⟨b3, h3⟩ := rgreatC_eq c wc.2.1
 rw [hal, h1, h2, h3]
 cases b1 with
 | true => rfl
 | false =>
 cases b2 with
 | true => rfl
 | false =>
 cases b3 with
 | true => rfl
 | false =>
 simp only [Bool.false_eq_true, if_false, Option.bind_some, rchart_check_eq]
 by_cases e1 : chk a = 0
 case neg => simp only [nT e1, if_true, Option.bind_some]
 by_cases e2 : chk b = 0
 case neg => simp only [nF e1, nT e2, Bool.false_eq_true, if_false, if_true, Option.bind_some]
 by_cases e3 : chk c = 0
 case neg => simp only [nF e1, nF e2, nT e3, Bool.false_eq_true, if_false, if_true, Option.bind_some]
 obtain ⟨la, ca⟩ := chk_cells e1
 obtain ⟨lb, cb⟩ := chk_cells e2
 obtain ⟨lc, cc⟩ := chk_cells e3
 have d1 : DC a b ≤ 60000 := by have : DR a.Rows b.Rows ≤ 50000 := DR_bd la lb ca cb 0 0; unfold DC; split <;> omega
 have d2 : DC b c ≤ 60000 := by have : DR b.Rows c.Rows ≤ 50000 := DR_bd lb lc cb cc 0 0; unfold DC; split <;> omega
 have t1 := DC_tri a b c
 have s1 := DC_sym a b
 have z1 := DC_zero a b
 have r1 := rsame26_eq a b (by omega) (fun r hr => by have := ca r hr; omega)
 simp only [nF e1, nF e2, nF e3, Bool.false_eq_true, if_false, Bool.not_true, Option.bind_some, charts_eq (wfR_of wa) (wfR_of wb), charts_eq (wfR_of wb) (wfR_of wc), charts_eq (wfR_of wa) (wfR_of wc), charts_eq (wfR_of wb) (wfR_of wa), chartsS_ok e1 e2, chartsS_ok e2 e3, chartsS_ok e1 e3, chartsS_ok e2 e1, if_true, beq_self_eq_true, r1]
 rw [← s1]
 generalize DC a b = x at *
 generalize DC b c = y at *
 generalize DC a c = z at *
 have hz : (((x : Nat) : Int) == 0) = decide (a = b) := by
  by_cases e : a = b
  ·rw [dT e, bT (by have := z1.2 e; omega)]
  ·rw [dF e, bF (fun q => e (z1.1 (by omega)))]
 rw [hz, wadd (by omega)]
 simp only [beq_self_eq_true, if_true, dT (show (z : Int) ≤ ((x + y : Nat) : Int) by omega), Option.bind_some]
theorem law_ComparePages (a b c : api_Chart) (wa : wf_api_Chart a) (wb : wf_api_Chart b) (wc : wf_api_Chart c) : F_raddlelaw46_ComparePages a b c = some true := law_ComparePages' k_raddlelaw46_alive a b c wa wb wc
namespace frameComparePages
open Go.ChangeShapes Go.WideShapes Go.ChangeAt Go.Joins
theorem own : ownKnob Try.prog.godebug = none := by kernel_rfl
theorem laidOut : laidOutB Try.prog = true := by kernel_rfl
theorem lifted (os : Os) (started : os.Started) (H : Type) (enc : TypeId × Value → H) :
 ReturnsInHanded {} Try.checked os 9 .any (Rows.comparePagesSpec.pre6 enc Try.prog Try.f9 Rows.comparePagesRow.domain false) (Rows.comparePagesSpec.post enc Try.prog Try.f9 false true false false) := by
 refine returnsInHanded_of_change (C := Try.checked) own started (by kernel_rfl) Try.func9
  (ChangeSpec.witness6 (enc := enc) (C := Try.checked) false ⟨#[], #[.agg #[iv 0, .slice none 0 0], .agg #[iv 0, .slice none 0 0], .agg #[iv 0, .slice none 0 0]], []⟩ 8 (by kernel_rfl) (by kernel_rfl) (by kernel_rfl) (by kernel_rfl)) ?_
 intro W base args ds gs before hval0 hW hcnd _
 have hval : ∀ (j : Nat) t v, Try.f9.params[j]? = some t → args[j]? = some v → Value.okWide Try.prog W .any base t v := hval0
 have hW' := hW
 obtain ⟨p, q, hA0, hV, rfl, hfz, hnd⟩ := hW
 have hA : DataW.TrodAll enc Try.prog W 0 (fun _ => true) true Try.f9.params.toList args.toList ds p := hA0
 rw [Try.params9] at hA hval
 obtain ⟨v0, vs0, d0, ds0, p0, q0, hargs, rfl, rfl, h0, r0⟩ := trodAll_cons hA
 obtain ⟨v1, vs1, d1, ds1, p1, q1, rfl, rfl, rfl, h1, r1⟩ := trodAll_cons r0
 obtain ⟨v2, vs2, d2, ds2, p2, q2, rfl, rfl, rfl, h2, r2⟩ := trodAll_cons r1
 obtain ⟨rfl, rfl, rfl⟩ := trodAll_nil r2
 obtain rfl : args = #[v0, v1, v2] := by cases args; simp_all
 obtain ⟨rfl, rfl⟩ := trodVars_none hV
 have k0 := h0
 have lt0 : ∀ x ∈ p0, x.block < W.heap.size := by obtain ⟨m, hm⟩ := k0; exact DataW.trod_lt m _ _ _ hm
 have k1 := h1
 have lt1 : ∀ x ∈ p1, x.block < W.heap.size := by obtain ⟨m, hm⟩ := k1; exact DataW.trod_lt m _ _ _ hm
 have k2 := h2
 have lt2 : ∀ x ∈ p2, x.block < W.heap.size := by obtain ⟨m, hm⟩ := k2; exact DataW.trod_lt m _ _ _ hm
 obtain ⟨x0, rep0, wf0⟩ := top_agg Try.underlying42 aggr_api_Chart op_api_Chart (hval 0 _ v0 rfl rfl) h0
 obtain ⟨x1, rep1, wf1⟩ := top_agg Try.underlying42 aggr_api_Chart op_api_Chart (hval 1 _ v1 rfl rfl) h1
 obtain ⟨x2, rep2, wf2⟩ := top_agg Try.underlying42 aggr_api_Chart op_api_Chart (hval 2 _ v2 rfl rfl) h2
 clear hA0 hval0
 refine (c_raddlelaw46_ComparePages (fun _ => False) W x0 v0 x1 v1 x2 v2 true (law_ComparePages x0 x1 x2 wf0 wf1 wf2) (St0.start (by intro d hd; simp only [List.mem_cons, List.not_mem_nil, or_false] at hd; rcases hd with rfl | rfl | rfl; exact rep0; exact rep1; exact rep2))).mono fun e W' hr => ?_
 obtain ⟨_, he, hS⟩ := hr
 have bel := hS.chg.below
 subst he
 exact ⟨_, rfl, _, _, _, [], _, [], hW', trodAll_mk1 (shut_bool Try.underlying4 _), (trodAll_cons_mk (Below.trod laidOut (by kernel_rfl) (of_decide_eq_true (by kernel_rfl)) k0 bel lt0) (trodAll_cons_mk (Below.trod laidOut (by kernel_rfl) (of_decide_eq_true (by kernel_rfl)) k1 bel lt1) (trodAll_cons_mk (Below.trod laidOut (by kernel_rfl) (of_decide_eq_true (by kernel_rfl)) k2 bel lt2) trodAll_mk0))), rfl, bel.frame _, fun h => by cases h⟩
theorem over : Rows.comparePagesRow.holds Try.pinned (OpenSpec.ofChange Rows.comparePagesSpec) :=
 OpenClaim.holds_of_wide 9 Try.f9 rfl rfl rfl rfl rfl rfl rfl ⟨rfl, rfl, rfl, rfl, rfl⟩ rfl rfl rfl rfl rfl (by kernel_rfl) Try.func9 (by kernel_rfl)
  (of_decide_eq_true (by kernel_rfl)) (by unfold Func.isWrapper; first | (rw [if_pos (by decide +kernel)]; kernel_rfl) | (rw [if_neg (by decide +kernel)]; exact ⟨rfl, rfl⟩))
  (fun os started H enc _ => lifted os started H enc)
end frameComparePages
theorem comparePages_holds : Rows.ComparePagesSaid := frameComparePages.over
end Go.Proofs.Ytffikfajljbmnaa
