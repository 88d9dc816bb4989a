/- Several texts in one: PlCk G103 G104 G88 G87 G102s0 G86s0 G105 G89 G56 G73 G92 G93 G74 G38 PlS G22 SpTn G84 G85 -/
import Derived.WalkKit
import Derived.Maps.AppendAt
import Derived.Deep.AppendLies
import Derived.KernelRfl
import Derived.Laws.OwnMore
import Derived.Great.BuildSlice
import Derived.Orders
import Derived.Laws.StructEq
import Derived.ChangeKeysEq
import Derived.Defers
import Derived.Laws.BytesString
import Derived.RangeFuncNested
import Derived.RangeFuncBound
import Derived.RangeFuncCalls
import Derived.RangeFuncLeaves
import Derived.OrdersIn
import Derived.LoopNIn
import Derived.ArgAppend
import Derived.Test.YtffikfajljbmnaaProg
import Derived.ProofKit
import Derived.OpenShut
import Derived.ChangeOld
import Derived.Deep.Slices
import Derived.Lib.SmallJoins
import Derived.JoinedOf
import Derived.JoinedAt
import Derived.Below
import Derived.Test.YtffikfajljbmnaaRows
import Derived.Test.YtffikfajljbmnaaMCompareSteps1
namespace Go.Proofs.Ytffikfajljbmnaa
open Go.RowKit
set_option linter.unusedVariables false

instance decSt : DecidableEq api_Stitch := fun a b => decidable_of_iff (a.Kind = b.Kind ∧ a.Purl = b.Purl ∧ a.A = b.A ∧ a.B = b.B) (by cases a; cases b; simp)
def al1 (_ : api_Stitch) : Nat := 1
def bo1 (x y : api_Stitch) : Nat := if x = y then 0 else 1
abbrev D1 : List api_Stitch → List api_Stitch → Nat := wed al1 bo1
theorem bo1_eq {x y : api_Stitch} (h : x = y) : bo1 x y = 0 := if_pos h
theorem bo1_ne {x y : api_Stitch} (h : ¬ x = y) : bo1 x y = 1 := if_neg h
theorem bo1_le (x y : api_Stitch) : bo1 x y ≤ 1 := by unfold bo1; split <;> omega
theorem D1_max (a b : List api_Stitch) : D1 a b ≤ max a.length b.length := wed_max (fun _ => rfl) bo1_le a b
def z0 : api_Stitch := ⟨0, false, 0, 0⟩
/-- the cells that steps lead to, and the steps back -/
def wk : List api_CellStep → List api_Stitch → Option (List api_Stitch × List api_CellStep)
  | [], [] => some ([], [])
  | [], _ :: _ => none
  | s :: l, rest =>
    if s.Kind = 3 then (wk l rest).map fun r => (s.S :: r.1, ⟨4, z0⟩ :: r.2)
    else match rest with
      | [] => none
      | c :: rest =>
        if s.Kind = 1 then (wk l rest).map fun r => (c :: r.1, s :: r.2)
        else if s.Kind = 2 then (if s.S = c then none else (wk l rest).map fun r => (s.S :: r.1, ⟨2, c⟩ :: r.2))
        else (wk l rest).map fun r => (r.1, ⟨3, c⟩ :: r.2)
theorem wk_add {s : api_CellStep} (h : s.Kind = 3) (l : List api_CellStep) (rest : List api_Stitch) : wk (s :: l) rest = (wk l rest).map fun r => (s.S :: r.1, ⟨4, z0⟩ :: r.2) := by
  cases rest <;> simp only [wk, h, if_true]
theorem wk_none {s : api_CellStep} (h : ¬ s.Kind = 3) (l : List api_CellStep) : wk (s :: l) [] = none := by
  simp only [wk, h, if_false]
theorem wk_keep {s : api_CellStep} (h : s.Kind = 1) (l : List api_CellStep) (c : api_Stitch) (rest : List api_Stitch) : wk (s :: l) (c :: rest) = (wk l rest).map fun r => (c :: r.1, s :: r.2) := by
  have h3 : ¬ s.Kind = 3 := by omega
  simp only [wk, if_neg h3, if_pos h]
theorem wk_change {s : api_CellStep} (h : s.Kind = 2) (l : List api_CellStep) (c : api_Stitch) (rest : List api_Stitch) : wk (s :: l) (c :: rest) = if s.S = c then none else (wk l rest).map fun r => (s.S :: r.1, ⟨2, c⟩ :: r.2) := by
  have h3 : ¬ s.Kind = 3 := by omega
  have h1 : ¬ s.Kind = 1 := by omega
  simp only [wk, if_neg h3, if_neg h1, if_pos h]
theorem wk_drop {s : api_CellStep} (h : s.Kind = 4) (l : List api_CellStep) (c : api_Stitch) (rest : List api_Stitch) : wk (s :: l) (c :: rest) = (wk l rest).map fun r => (r.1, ⟨3, c⟩ :: r.2) := by
  have h3 : ¬ s.Kind = 3 := by omega
  have h1 : ¬ s.Kind = 1 := by omega
  have h2 : ¬ s.Kind = 2 := by omega
  simp only [wk, if_neg h3, if_neg h1, if_neg h2]
def costS : List api_CellStep → Nat
  | [] => 0
  | s :: l => costS l + if s.Kind = 1 then 0 else 1
def kindOk (s : api_CellStep) : Prop := s.Kind = 1 ∨ s.Kind = 2 ∨ s.Kind = 3 ∨ s.Kind = 4
/-- the steps of least cost that are taken first -/
def eds : Nat → List api_Stitch → List api_Stitch → List api_CellStep
  | 0, _, _ => []
  | _ + 1, [], [] => []
  | n + 1, [], y :: b => ⟨3, y⟩ :: eds n [] b
  | n + 1, x :: a, [] => ⟨4, z0⟩ :: eds n a []
  | n + 1, x :: a, y :: b =>
    if x = y ∧ D1 (x :: a) (y :: b) = D1 a b then ⟨1, z0⟩ :: eds n a b
    else if ¬ x = y ∧ D1 (x :: a) (y :: b) = 1 + D1 a b then ⟨2, y⟩ :: eds n a b
    else if D1 (x :: a) (y :: b) = 1 + D1 a (y :: b) then ⟨4, z0⟩ :: eds n a (y :: b)
    else ⟨3, y⟩ :: eds n (x :: a) b
theorem eds_ok : ∀ (n : Nat) (a b : List api_Stitch), a.length + b.length ≤ n → (∃ u, wk (eds n a b) a = some (b, u)) ∧ costS (eds n a b) = D1 a b ∧ (eds n a b).length ≤ a.length + b.length ∧ ∀ s, s ∈ eds n a b → s = ⟨1, z0⟩ ∨ s = ⟨4, z0⟩ ∨ ∃ y, y ∈ b ∧ (s = ⟨2, y⟩ ∨ s = ⟨3, y⟩) := by
  intro n
  induction n with
  | zero =>
    intro a b h
    obtain rfl : a = [] := List.length_eq_zero_iff.1 (by omega)
    obtain rfl : b = [] := List.length_eq_zero_iff.1 (by omega)
    exact ⟨⟨[], rfl⟩, rfl, Nat.le_refl _, fun s hs => by cases hs⟩
  | succ n ih =>
    intro a b h
    have keep : ∀ {l : List api_CellStep} {y : api_Stitch} {b : List api_Stitch}, (∀ s, s ∈ l → s = ⟨1, z0⟩ ∨ s = ⟨4, z0⟩ ∨ ∃ y, y ∈ b ∧ (s = ⟨2, y⟩ ∨ s = ⟨3, y⟩)) → ∀ s, s ∈ l → s = ⟨1, z0⟩ ∨ s = ⟨4, z0⟩ ∨ ∃ y', y' ∈ y :: b ∧ (s = ⟨2, y'⟩ ∨ s = ⟨3, y'⟩) := by
      intro l y b h4 s hs
      rcases h4 s hs with h1 | h1 | ⟨y', h1, h2⟩
      · exact .inl h1
      · exact .inr (.inl h1)
      · exact .inr (.inr ⟨y', List.mem_cons_of_mem _ h1, h2⟩)
    cases a with
    | nil =>
      cases b with
      | nil => exact ⟨⟨[], rfl⟩, rfl, Nat.le_refl _, fun s hs => by cases hs⟩
      | cons y b =>
        obtain ⟨⟨u, h1⟩, h2, h3, h4⟩ := ih [] b (by simp only [List.length_cons] at h; omega)
        refine ⟨⟨⟨4, z0⟩ :: u, ?_⟩, ?_, ?_, ?_⟩
        · rw [show eds (n + 1) [] (y :: b) = ⟨3, y⟩ :: eds n [] b from rfl, wk_add rfl, h1]; rfl
        · rw [show eds (n + 1) [] (y :: b) = ⟨3, y⟩ :: eds n [] b from rfl]
          simp only [costS, h2]
          rfl
        · rw [show eds (n + 1) [] (y :: b) = ⟨3, y⟩ :: eds n [] b from rfl]
          simp only [List.length_cons, List.length_nil] at h3 ⊢
          omega
        · intro s hs
          rw [show eds (n + 1) [] (y :: b) = ⟨3, y⟩ :: eds n [] b from rfl] at hs
          rcases List.mem_cons.1 hs with rfl | hs
          · exact .inr (.inr ⟨y, List.mem_cons_self .., .inr rfl⟩)
          · exact keep h4 s hs
    | cons x a =>
      cases b with
      | nil =>
        obtain ⟨⟨u, h1⟩, h2, h3, h4⟩ := ih a [] (by simp only [List.length_cons] at h; omega)
        refine ⟨⟨⟨3, x⟩ :: u, ?_⟩, ?_, ?_, ?_⟩
        · rw [show eds (n + 1) (x :: a) [] = ⟨4, z0⟩ :: eds n a [] from rfl, wk_drop rfl, h1]; rfl
        · rw [show eds (n + 1) (x :: a) [] = ⟨4, z0⟩ :: eds n a [] from rfl]
          simp only [costS, h2]
          rfl
        · rw [show eds (n + 1) (x :: a) [] = ⟨4, z0⟩ :: eds n a [] from rfl]
          simp only [List.length_cons, List.length_nil] at h3 ⊢
          omega
        · intro s hs
          rw [show eds (n + 1) (x :: a) [] = ⟨4, z0⟩ :: eds n a [] from rfl] at hs
          rcases List.mem_cons.1 hs with rfl | hs
          · exact .inr (.inl rfl)
          · exact h4 s hs
      | cons y b =>
        have hstep : D1 (x :: a) (y :: b) = D1 a (y :: b) + 1 ∨ D1 (x :: a) (y :: b) = D1 (x :: a) b + 1 ∨ D1 (x :: a) (y :: b) = D1 a b + bo1 x y := by
          have hc := wed_cc (al := al1) (bo := bo1) x a y b
          simp only [al1] at hc
          unfold D1
          omega
        simp only [List.length_cons] at h
        simp only [eds]
        by_cases c1 : x = y ∧ D1 (x :: a) (y :: b) = D1 a b
        · obtain ⟨⟨u, h1⟩, h2, h3, h4⟩ := ih a b (by omega)
          rw [if_pos c1]
          refine ⟨⟨⟨1, z0⟩ :: u, ?_⟩, ?_, ?_, ?_⟩
          · rw [wk_keep rfl, h1, c1.1]; rfl
          · simp only [costS, h2, if_true, c1.2, Nat.add_zero]
          · simp only [List.length_cons]; omega
          · intro s hs
            rcases List.mem_cons.1 hs with rfl | hs
            · exact .inl rfl
            · exact keep h4 s hs
        rw [if_neg c1]
        by_cases c2 : ¬ x = y ∧ D1 (x :: a) (y :: b) = 1 + D1 a b
        · obtain ⟨⟨u, h1⟩, h2, h3, h4⟩ := ih a b (by omega)
          rw [if_pos c2]
          refine ⟨⟨⟨2, x⟩ :: u, ?_⟩, ?_, ?_, ?_⟩
          · rw [wk_change rfl, if_neg (fun q => c2.1 q.symm), h1]; rfl
          · simp only [costS, h2]
            rw [if_neg (show ¬ (2 : Int) = 1 by decide), c2.2]
            omega
          · simp only [List.length_cons]; omega
          · intro s hs
            rcases List.mem_cons.1 hs with rfl | hs
            · exact .inr (.inr ⟨y, List.mem_cons_self .., .inl rfl⟩)
            · exact keep h4 s hs
        rw [if_neg c2]
        by_cases c3 : D1 (x :: a) (y :: b) = 1 + D1 a (y :: b)
        · obtain ⟨⟨u, h1⟩, h2, h3, h4⟩ := ih a (y :: b) (by simp only [List.length_cons]; omega)
          rw [if_pos c3]
          refine ⟨⟨⟨3, x⟩ :: u, ?_⟩, ?_, ?_, ?_⟩
          · rw [wk_drop rfl, h1]; rfl
          · simp only [costS, h2]
            rw [if_neg (show ¬ (4 : Int) = 1 by decide), c3]
            omega
          · simp only [List.length_cons] at h3 ⊢; omega
          · intro s hs
            rcases List.mem_cons.1 hs with rfl | hs
            · exact .inr (.inl rfl)
            · exact h4 s hs
        rw [if_neg c3]
        have c4 : D1 (x :: a) (y :: b) = D1 (x :: a) b + 1 := by
          rcases hstep with e | e | e
          · omega
          · exact e
          · by_cases q : x = y
            · rw [bo1_eq q] at e; exact absurd ⟨q, e⟩ c1
            · rw [bo1_ne q] at e; exact absurd ⟨q, by omega⟩ c2
        obtain ⟨⟨u, h1⟩, h2, h3, h4⟩ := ih (x :: a) b (by simp only [List.length_cons]; omega)
        refine ⟨⟨⟨4, z0⟩ :: u, ?_⟩, ?_, ?_, ?_⟩
        · rw [wk_add rfl, h1]; rfl
        · simp only [costS, h2]
          rw [if_neg (show ¬ (3 : Int) = 1 by decide), c4]
        · simp only [List.length_cons] at h3 ⊢; omega
        · intro s hs
          rcases List.mem_cons.1 hs with rfl | hs
          · exact .inr (.inr ⟨y, List.mem_cons_self .., .inr rfl⟩)
          · exact keep h4 s hs

end Go.Proofs.Ytffikfajljbmnaa
namespace Go.Proofs.Ytffikfajljbmnaa
open Go.RowKit
set_option linter.unusedVariables false

noncomputable def F_stitch_forms (p0 : Int) : Option (stitch_form × Bool) :=
  Option.bind (α := Bool) (
    if decide (p0 < 1) then
      some true
    else
      some (decide (([(stitch_form.mk (⟨#[]⟩ : ByteArray) (0, 0) (0, 0) true 1 1), (stitch_form.mk (⟨#[]⟩ : ByteArray) (0, 0) (0, 0) false 0 1), (stitch_form.mk (⟨#[102]⟩ : ByteArray) (2, 4) (0, 0) true 2 1), (stitch_form.mk (⟨#[108]⟩ : ByteArray) (2, 4) (0, 0) true 2 1), (stitch_form.mk (⟨#[109]⟩ : ByteArray) (2, 4) (0, 0) true 1 2), (stitch_form.mk (⟨#[120]⟩ : ByteArray) (1, 6) (1, 6) true 3 3), (stitch_form.mk (⟨#[121]⟩ : ByteArray) (1, 6) (1, 6) true 3 3), (stitch_form.mk (⟨#[115]⟩ : ByteArray) (0, 0) (0, 0) true 1 1), (stitch_form.mk (⟨#[]⟩ : ByteArray) (1, 200) (0, 0) false 0 2), (stitch_form.mk (⟨#[111]⟩ : ByteArray) (1, 200) (0, 0) true 2 0)].length : Int) < (IntKind.i64.wrap p0)))) fun o12 =>
  if o12 then
    some ((stitch_form.mk (⟨#[]⟩ : ByteArray) (0, 0) (0, 0) false 0 0), false)
  else
    Option.bind (idxO [(stitch_form.mk (⟨#[]⟩ : ByteArray) (0, 0) (0, 0) true 1 1), (stitch_form.mk (⟨#[]⟩ : ByteArray) (0, 0) (0, 0) false 0 1), (stitch_form.mk (⟨#[102]⟩ : ByteArray) (2, 4) (0, 0) true 2 1), (stitch_form.mk (⟨#[108]⟩ : ByteArray) (2, 4) (0, 0) true 2 1), (stitch_form.mk (⟨#[109]⟩ : ByteArray) (2, 4) (0, 0) true 1 2), (stitch_form.mk (⟨#[120]⟩ : ByteArray) (1, 6) (1, 6) true 3 3), (stitch_form.mk (⟨#[121]⟩ : ByteArray) (1, 6) (1, 6) true 3 3), (stitch_form.mk (⟨#[115]⟩ : ByteArray) (0, 0) (0, 0) true 1 1), (stitch_form.mk (⟨#[]⟩ : ByteArray) (1, 200) (0, 0) false 0 2), (stitch_form.mk (⟨#[111]⟩ : ByteArray) (1, 200) (0, 0) true 2 0)] (IntKind.u8.wrap (p0 - 1))) fun x19 =>
    some (x19, true)
def c_stitch_forms_val (r : (stitch_form × Bool)) (x : Value) : Value := .tuple #[x, .bool r.2]
def c_stitch_forms_D (r : (stitch_form × Bool)) (x : Value) : List Fact := [fRep r_stitch_form x r.1]
set_option maxHeartbeats 4000000 in
set_option maxRecDepth 100000 in
theorem c_stitch_forms (E : Nat → Prop) (w0 : World) (p0 : Int) (r : (stitch_form × Bool)) (h : F_stitch_forms p0 = some r) (S : St0 E [] w0 w0 [] []) :
    Calls Try.prog 103 #[.int .u8 p0] w0 (Ret (X := Value) E [] w0 (c_stitch_forms_val r) (fun _ => []) (c_stitch_forms_D r)) := by
  unfold F_stitch_forms at h
  refine sEnter (args := [.int .u8 p0]) 57 Try.func103 rfl rfl (by simp) S (fun a S => ?_)
  refine sSeq (fun K1 hK1 => ?_)
  refine sRegion ?_
  refine sAlloc (gv_stitch_form (stitch_form.mk (⟨#[]⟩ : ByteArray) (0, 0) (0, 0) false 0 0)) S (wN rfl) rfl rfl (gl_stitch_form (stitch_form.mk (⟨#[]⟩ : ByteArray) (0, 0) (0, 0) false 0 0)) rfl rfl (lb rfl) fun a b2 w S => ?_
  refine sMove (.bool false) S (wN rfl) (.inr rfl) rfl rfl (lb rfl) fun a S => ?_
  refine leafL (leafT (hK1 _ _ ?_))
  refine sSeq (fun K3 hK3 => ?_)
  refine sRegion ?_
  refine sBuild [(0, iv 2), (1, iv 4)] [iv 2, iv 4] S (wN rfl) rfl rfl rfl rfl (lb rfl) fun a S => ?_
  refine sBuild [(0, iv 1), (1, iv 6)] [iv 1, iv 6] S (wN rfl) rfl rfl rfl rfl (lb rfl) fun a S => ?_
  refine sAlloc (.agg #[iv 0, iv 0]) S (wN rfl) rfl rfl [iv 0, iv 0] rfl rfl (lb rfl) fun a b4 w S => ?_
  refine sAlloc (.agg #[iv 0, iv 0]) S (wN rfl) rfl rfl [iv 0, iv 0] rfl rfl (lb rfl) fun a b5 w S => ?_
  refine sStore (p := b4) (off := 0) (T := 154) (vs := [iv 0, iv 0]) (v := .agg #[iv 2, iv 4]) 1 [iv 2, iv 4] S (wN rfl) rfl rfl rfl rfl rfl rfl rfl (by simp) rfl fun a w S => ?_
  refine sStore (p := b5) (off := 0) (T := 154) (vs := [iv 0, iv 0]) (v := .agg #[iv 1, iv 6]) 1 [iv 1, iv 6] S (wN rfl) rfl rfl rfl rfl rfl rfl rfl (by simp) rfl fun a w S => ?_
  refine leafL (leafT (hK3 _ _ ?_))
  refine sSeq (fun K6 hK6 => ?_)
  refine sRegion ?_
  refine sBuild [(0, iv 1), (1, iv 200)] [iv 1, iv 200] S (wN rfl) rfl rfl rfl rfl (lb rfl) fun a S => ?_
  refine sAlloc (.agg #[iv 0, iv 0]) S (wN rfl) rfl rfl [iv 0, iv 0] rfl rfl (lb rfl) fun a b7 w S => ?_
  refine sStore (p := b7) (off := 0) (T := 154) (vs := [iv 0, iv 0]) (v := .agg #[iv 1, iv 200]) 0 [iv 1, iv 200] S (wN rfl) rfl rfl rfl rfl rfl rfl rfl (by simp) rfl fun a w S => ?_
  refine leafL (leafT (hK6 _ _ ?_))
  refine sSeq (fun K8 hK8 => ?_)
  refine sRegion ?_
  refine sBuild [] [iv 0, iv 0] S (wN rfl) rfl rfl rfl rfl (lb rfl) fun a S => ?_
  refine sBuild [] [iv 0, iv 0] S (wN rfl) rfl rfl rfl rfl (lb rfl) fun a S => ?_
  refine sBuild [(0, .string (⟨#[]⟩ : ByteArray)), (1, .agg #[iv 0, iv 0]), (2, .agg #[iv 0, iv 0]), (3, .bool true), (4, iv 1), (5, iv 1)] (gl_stitch_form (stitch_form.mk (⟨#[]⟩ : ByteArray) (0, 0) (0, 0) true 1 1)) S (wN rfl) rfl rfl rfl rfl (lb rfl) fun a S => ?_
  refine sBuild [] [iv 0, iv 0] S (wN rfl) rfl rfl rfl rfl (lb rfl) fun a S => ?_
  refine sBuild [] [iv 0, iv 0] S (wN rfl) rfl rfl rfl rfl (lb rfl) fun a S => ?_
  refine sBuild [(0, .string (⟨#[]⟩ : ByteArray)), (1, .agg #[iv 0, iv 0]), (2, .agg #[iv 0, iv 0]), (3, .bool false), (4, iv 0), (5, iv 1)] (gl_stitch_form (stitch_form.mk (⟨#[]⟩ : ByteArray) (0, 0) (0, 0) false 0 1)) S (wN rfl) rfl rfl rfl rfl (lb rfl) fun a S => ?_
  refine sLoadN (p := b4) (off := 0) (T := 154) (vs := [iv 2, iv 4]) 2 [iv 2, iv 4] S (wN rfl) rfl rfl rfl rfl rfl rfl rfl (lb rfl) fun a S => ?_
  refine sBuild [] [iv 0, iv 0] S (wN rfl) rfl rfl rfl rfl (lb rfl) fun a S => ?_
  refine sBuild [(0, .string (⟨#[102]⟩ : ByteArray)), (1, .agg #[iv 2, iv 4]), (2, .agg #[iv 0, iv 0]), (3, .bool true), (4, iv 2), (5, iv 1)] (gl_stitch_form (stitch_form.mk (⟨#[102]⟩ : ByteArray) (2, 4) (0, 0) true 2 1)) S (wN rfl) rfl rfl rfl rfl (lb rfl) fun a S => ?_
  refine sLoadN (p := b4) (off := 0) (T := 154) (vs := [iv 2, iv 4]) 2 [iv 2, iv 4] S (wN rfl) rfl rfl rfl rfl rfl rfl rfl (lb rfl) fun a S => ?_
  refine sBuild [] [iv 0, iv 0] S (wN rfl) rfl rfl rfl rfl (lb rfl) fun a S => ?_
  refine sBuild [(0, .string (⟨#[108]⟩ : ByteArray)), (1, .agg #[iv 2, iv 4]), (2, .agg #[iv 0, iv 0]), (3, .bool true), (4, iv 2), (5, iv 1)] (gl_stitch_form (stitch_form.mk (⟨#[108]⟩ : ByteArray) (2, 4) (0, 0) true 2 1)) S (wN rfl) rfl rfl rfl rfl (lb rfl) fun a S => ?_
  refine sLoadN (p := b4) (off := 0) (T := 154) (vs := [iv 2, iv 4]) 2 [iv 2, iv 4] S (wN rfl) rfl rfl rfl rfl rfl rfl rfl (lb rfl) fun a S => ?_
  refine sBuild [] [iv 0, iv 0] S (wN rfl) rfl rfl rfl rfl (lb rfl) fun a S => ?_
  refine sBuild [(0, .string (⟨#[109]⟩ : ByteArray)), (1, .agg #[iv 2, iv 4]), (2, .agg #[iv 0, iv 0]), (3, .bool true), (4, iv 1), (5, iv 2)] (gl_stitch_form (stitch_form.mk (⟨#[109]⟩ : ByteArray) (2, 4) (0, 0) true 1 2)) S (wN rfl) rfl rfl rfl rfl (lb rfl) fun a S => ?_
  refine sLoadN (p := b5) (off := 0) (T := 154) (vs := [iv 1, iv 6]) 1 [iv 1, iv 6] S (wN rfl) rfl rfl rfl rfl rfl rfl rfl (lb rfl) fun a S => ?_
  refine sLoadN (p := b5) (off := 0) (T := 154) (vs := [iv 1, iv 6]) 1 [iv 1, iv 6] S (wN rfl) rfl rfl rfl rfl rfl rfl rfl (lb rfl) fun a S => ?_
  refine sBuild [(0, .string (⟨#[120]⟩ : ByteArray)), (1, .agg #[iv 1, iv 6]), (2, .agg #[iv 1, iv 6]), (3, .bool true), (4, iv 3), (5, iv 3)] (gl_stitch_form (stitch_form.mk (⟨#[120]⟩ : ByteArray) (1, 6) (1, 6) true 3 3)) S (wN rfl) rfl rfl rfl rfl (lb rfl) fun a S => ?_
  refine sLoadN (p := b5) (off := 0) (T := 154) (vs := [iv 1, iv 6]) 1 [iv 1, iv 6] S (wN rfl) rfl rfl rfl rfl rfl rfl rfl (lb rfl) fun a S => ?_
  refine sLoadN (p := b5) (off := 0) (T := 154) (vs := [iv 1, iv 6]) 1 [iv 1, iv 6] S (wN rfl) rfl rfl rfl rfl rfl rfl rfl (lb rfl) fun a S => ?_
  refine sBuild [(0, .string (⟨#[121]⟩ : ByteArray)), (1, .agg #[iv 1, iv 6]), (2, .agg #[iv 1, iv 6]), (3, .bool true), (4, iv 3), (5, iv 3)] (gl_stitch_form (stitch_form.mk (⟨#[121]⟩ : ByteArray) (1, 6) (1, 6) true 3 3)) S (wN rfl) rfl rfl rfl rfl (lb rfl) fun a S => ?_
  refine sBuild [] [iv 0, iv 0] S (wN rfl) rfl rfl rfl rfl (lb rfl) fun a S => ?_
  refine sBuild [] [iv 0, iv 0] S (wN rfl) rfl rfl rfl rfl (lb rfl) fun a S => ?_
  refine sBuild [(0, .string (⟨#[115]⟩ : ByteArray)), (1, .agg #[iv 0, iv 0]), (2, .agg #[iv 0, iv 0]), (3, .bool true), (4, iv 1), (5, iv 1)] (gl_stitch_form (stitch_form.mk (⟨#[115]⟩ : ByteArray) (0, 0) (0, 0) true 1 1)) S (wN rfl) rfl rfl rfl rfl (lb rfl) fun a S => ?_
  refine sLoadN (p := b7) (off := 0) (T := 154) (vs := [iv 1, iv 200]) 0 [iv 1, iv 200] S (wN rfl) rfl rfl rfl rfl rfl rfl rfl (lb rfl) fun a S => ?_
  refine sBuild [] [iv 0, iv 0] S (wN rfl) rfl rfl rfl rfl (lb rfl) fun a S => ?_
  refine sBuild [(0, .string (⟨#[]⟩ : ByteArray)), (1, .agg #[iv 1, iv 200]), (2, .agg #[iv 0, iv 0]), (3, .bool false), (4, iv 0), (5, iv 2)] (gl_stitch_form (stitch_form.mk (⟨#[]⟩ : ByteArray) (1, 200) (0, 0) false 0 2)) S (wN rfl) rfl rfl rfl rfl (lb rfl) fun a S => ?_
  refine sLoadN (p := b7) (off := 0) (T := 154) (vs := [iv 1, iv 200]) 0 [iv 1, iv 200] S (wN rfl) rfl rfl rfl rfl rfl rfl rfl (lb rfl) fun a S => ?_
  refine sBuild [] [iv 0, iv 0] S (wN rfl) rfl rfl rfl rfl (lb rfl) fun a S => ?_
  refine sBuild [(0, .string (⟨#[111]⟩ : ByteArray)), (1, .agg #[iv 1, iv 200]), (2, .agg #[iv 0, iv 0]), (3, .bool true), (4, iv 2), (5, iv 0)] (gl_stitch_form (stitch_form.mk (⟨#[111]⟩ : ByteArray) (1, 200) (0, 0) true 2 0)) S (wN rfl) rfl rfl rfl rfl (lb rfl) fun a S => ?_
  have S := S.learn (fRep r_stitch_form (gv_stitch_form (stitch_form.mk (⟨#[]⟩ : ByteArray) (0, 0) (0, 0) true 1 1)) (stitch_form.mk (⟨#[]⟩ : ByteArray) (0, 0) (0, 0) true 1 1)) rfl
  have S := S.learn (fRep r_stitch_form (gv_stitch_form (stitch_form.mk (⟨#[]⟩ : ByteArray) (0, 0) (0, 0) false 0 1)) (stitch_form.mk (⟨#[]⟩ : ByteArray) (0, 0) (0, 0) false 0 1)) rfl
  have S := S.learn (fRep r_stitch_form (gv_stitch_form (stitch_form.mk (⟨#[102]⟩ : ByteArray) (2, 4) (0, 0) true 2 1)) (stitch_form.mk (⟨#[102]⟩ : ByteArray) (2, 4) (0, 0) true 2 1)) rfl
  have S := S.learn (fRep r_stitch_form (gv_stitch_form (stitch_form.mk (⟨#[108]⟩ : ByteArray) (2, 4) (0, 0) true 2 1)) (stitch_form.mk (⟨#[108]⟩ : ByteArray) (2, 4) (0, 0) true 2 1)) rfl
  have S := S.learn (fRep r_stitch_form (gv_stitch_form (stitch_form.mk (⟨#[109]⟩ : ByteArray) (2, 4) (0, 0) true 1 2)) (stitch_form.mk (⟨#[109]⟩ : ByteArray) (2, 4) (0, 0) true 1 2)) rfl
  have S := S.learn (fRep r_stitch_form (gv_stitch_form (stitch_form.mk (⟨#[120]⟩ : ByteArray) (1, 6) (1, 6) true 3 3)) (stitch_form.mk (⟨#[120]⟩ : ByteArray) (1, 6) (1, 6) true 3 3)) rfl
  have S := S.learn (fRep r_stitch_form (gv_stitch_form (stitch_form.mk (⟨#[121]⟩ : ByteArray) (1, 6) (1, 6) true 3 3)) (stitch_form.mk (⟨#[121]⟩ : ByteArray) (1, 6) (1, 6) true 3 3)) rfl
  have S := S.learn (fRep r_stitch_form (gv_stitch_form (stitch_form.mk (⟨#[115]⟩ : ByteArray) (0, 0) (0, 0) true 1 1)) (stitch_form.mk (⟨#[115]⟩ : ByteArray) (0, 0) (0, 0) true 1 1)) rfl
  have S := S.learn (fRep r_stitch_form (gv_stitch_form (stitch_form.mk (⟨#[]⟩ : ByteArray) (1, 200) (0, 0) false 0 2)) (stitch_form.mk (⟨#[]⟩ : ByteArray) (1, 200) (0, 0) false 0 2)) rfl
  have S := S.learn (fRep r_stitch_form (gv_stitch_form (stitch_form.mk (⟨#[111]⟩ : ByteArray) (1, 200) (0, 0) true 2 0)) (stitch_form.mk (⟨#[111]⟩ : ByteArray) (1, 200) (0, 0) true 2 0)) rfl
  refine sLit (r := r_stitch_form) (T := 156) (xs := [(stitch_form.mk (⟨#[]⟩ : ByteArray) (0, 0) (0, 0) true 1 1), (stitch_form.mk (⟨#[]⟩ : ByteArray) (0, 0) (0, 0) false 0 1), (stitch_form.mk (⟨#[102]⟩ : ByteArray) (2, 4) (0, 0) true 2 1), (stitch_form.mk (⟨#[108]⟩ : ByteArray) (2, 4) (0, 0) true 2 1), (stitch_form.mk (⟨#[109]⟩ : ByteArray) (2, 4) (0, 0) true 1 2), (stitch_form.mk (⟨#[120]⟩ : ByteArray) (1, 6) (1, 6) true 3 3), (stitch_form.mk (⟨#[121]⟩ : ByteArray) (1, 6) (1, 6) true 3 3), (stitch_form.mk (⟨#[115]⟩ : ByteArray) (0, 0) (0, 0) true 1 1), (stitch_form.mk (⟨#[]⟩ : ByteArray) (1, 200) (0, 0) false 0 2), (stitch_form.mk (⟨#[111]⟩ : ByteArray) (1, 200) (0, 0) true 2 0)]) [(0, gv_stitch_form (stitch_form.mk (⟨#[]⟩ : ByteArray) (0, 0) (0, 0) true 1 1)), (1, gv_stitch_form (stitch_form.mk (⟨#[]⟩ : ByteArray) (0, 0) (0, 0) false 0 1)), (2, gv_stitch_form (stitch_form.mk (⟨#[102]⟩ : ByteArray) (2, 4) (0, 0) true 2 1)), (3, gv_stitch_form (stitch_form.mk (⟨#[108]⟩ : ByteArray) (2, 4) (0, 0) true 2 1)), (4, gv_stitch_form (stitch_form.mk (⟨#[109]⟩ : ByteArray) (2, 4) (0, 0) true 1 2)), (5, gv_stitch_form (stitch_form.mk (⟨#[120]⟩ : ByteArray) (1, 6) (1, 6) true 3 3)), (6, gv_stitch_form (stitch_form.mk (⟨#[121]⟩ : ByteArray) (1, 6) (1, 6) true 3 3)), (7, gv_stitch_form (stitch_form.mk (⟨#[115]⟩ : ByteArray) (0, 0) (0, 0) true 1 1)), (8, gv_stitch_form (stitch_form.mk (⟨#[]⟩ : ByteArray) (1, 200) (0, 0) false 0 2)), (9, gv_stitch_form (stitch_form.mk (⟨#[111]⟩ : ByteArray) (1, 200) (0, 0) true 2 0))] 10 [gv_stitch_form (stitch_form.mk (⟨#[]⟩ : ByteArray) (0, 0) (0, 0) true 1 1), gv_stitch_form (stitch_form.mk (⟨#[]⟩ : ByteArray) (0, 0) (0, 0) false 0 1), gv_stitch_form (stitch_form.mk (⟨#[102]⟩ : ByteArray) (2, 4) (0, 0) true 2 1), gv_stitch_form (stitch_form.mk (⟨#[108]⟩ : ByteArray) (2, 4) (0, 0) true 2 1), gv_stitch_form (stitch_form.mk (⟨#[109]⟩ : ByteArray) (2, 4) (0, 0) true 1 2), gv_stitch_form (stitch_form.mk (⟨#[120]⟩ : ByteArray) (1, 6) (1, 6) true 3 3), gv_stitch_form (stitch_form.mk (⟨#[121]⟩ : ByteArray) (1, 6) (1, 6) true 3 3), gv_stitch_form (stitch_form.mk (⟨#[115]⟩ : ByteArray) (0, 0) (0, 0) true 1 1), gv_stitch_form (stitch_form.mk (⟨#[]⟩ : ByteArray) (1, 200) (0, 0) false 0 2), gv_stitch_form (stitch_form.mk (⟨#[111]⟩ : ByteArray) (1, 200) (0, 0) true 2 0)] [.string (⟨#[]⟩ : ByteArray), iv 0, iv 0, iv 0, iv 0, .bool true, iv 1, iv 1, .string (⟨#[]⟩ : ByteArray), iv 0, iv 0, iv 0, iv 0, .bool false, iv 0, iv 1, .string (⟨#[102]⟩ : ByteArray), iv 2, iv 4, iv 0, iv 0, .bool true, iv 2, iv 1, .string (⟨#[108]⟩ : ByteArray), iv 2, iv 4, iv 0, iv 0, .bool true, iv 2, iv 1, .string (⟨#[109]⟩ : ByteArray), iv 2, iv 4, iv 0, iv 0, .bool true, iv 1, iv 2, .string (⟨#[120]⟩ : ByteArray), iv 1, iv 6, iv 1, iv 6, .bool true, iv 3, iv 3, .string (⟨#[121]⟩ : ByteArray), iv 1, iv 6, iv 1, iv 6, .bool true, iv 3, iv 3, .string (⟨#[115]⟩ : ByteArray), iv 0, iv 0, iv 0, iv 0, .bool true, iv 1, iv 1, .string (⟨#[]⟩ : ByteArray), iv 1, iv 200, iv 0, iv 0, .bool false, iv 0, iv 2, .string (⟨#[111]⟩ : ByteArray), iv 1, iv 200, iv 0, iv 0, .bool true, iv 2, iv 0] (gv_stitch_form (stitch_form.mk (⟨#[]⟩ : ByteArray) (0, 0) (0, 0) false 0 0)) 72 S (wN rfl) rfl rfl Try.underlying165 rfl (by decide) (by decide) (by kernel_rfl) rfl (fun E1 w1 hE => All.cons (r_stitch_form.mono hE (S.mem.know (i := 9) (e := fRep r_stitch_form (gv_stitch_form (stitch_form.mk (⟨#[]⟩ : ByteArray) (0, 0) (0, 0) true 1 1)) (stitch_form.mk (⟨#[]⟩ : ByteArray) (0, 0) (0, 0) true 1 1)) rfl)) (All.cons (r_stitch_form.mono hE (S.mem.know (i := 8) (e := fRep r_stitch_form (gv_stitch_form (stitch_form.mk (⟨#[]⟩ : ByteArray) (0, 0) (0, 0) false 0 1)) (stitch_form.mk (⟨#[]⟩ : ByteArray) (0, 0) (0, 0) false 0 1)) rfl)) (All.cons (r_stitch_form.mono hE (S.mem.know (i := 7) (e := fRep r_stitch_form (gv_stitch_form (stitch_form.mk (⟨#[102]⟩ : ByteArray) (2, 4) (0, 0) true 2 1)) (stitch_form.mk (⟨#[102]⟩ : ByteArray) (2, 4) (0, 0) true 2 1)) rfl)) (All.cons (r_stitch_form.mono hE (S.mem.know (i := 6) (e := fRep r_stitch_form (gv_stitch_form (stitch_form.mk (⟨#[108]⟩ : ByteArray) (2, 4) (0, 0) true 2 1)) (stitch_form.mk (⟨#[108]⟩ : ByteArray) (2, 4) (0, 0) true 2 1)) rfl)) (All.cons (r_stitch_form.mono hE (S.mem.know (i := 5) (e := fRep r_stitch_form (gv_stitch_form (stitch_form.mk (⟨#[109]⟩ : ByteArray) (2, 4) (0, 0) true 1 2)) (stitch_form.mk (⟨#[109]⟩ : ByteArray) (2, 4) (0, 0) true 1 2)) rfl)) (All.cons (r_stitch_form.mono hE (S.mem.know (i := 4) (e := fRep r_stitch_form (gv_stitch_form (stitch_form.mk (⟨#[120]⟩ : ByteArray) (1, 6) (1, 6) true 3 3)) (stitch_form.mk (⟨#[120]⟩ : ByteArray) (1, 6) (1, 6) true 3 3)) rfl)) (All.cons (r_stitch_form.mono hE (S.mem.know (i := 3) (e := fRep r_stitch_form (gv_stitch_form (stitch_form.mk (⟨#[121]⟩ : ByteArray) (1, 6) (1, 6) true 3 3)) (stitch_form.mk (⟨#[121]⟩ : ByteArray) (1, 6) (1, 6) true 3 3)) rfl)) (All.cons (r_stitch_form.mono hE (S.mem.know (i := 2) (e := fRep r_stitch_form (gv_stitch_form (stitch_form.mk (⟨#[115]⟩ : ByteArray) (0, 0) (0, 0) true 1 1)) (stitch_form.mk (⟨#[115]⟩ : ByteArray) (0, 0) (0, 0) true 1 1)) rfl)) (All.cons (r_stitch_form.mono hE (S.mem.know (i := 1) (e := fRep r_stitch_form (gv_stitch_form (stitch_form.mk (⟨#[]⟩ : ByteArray) (1, 200) (0, 0) false 0 2)) (stitch_form.mk (⟨#[]⟩ : ByteArray) (1, 200) (0, 0) false 0 2)) rfl)) (All.cons (r_stitch_form.mono hE (S.mem.know (i := 0) (e := fRep r_stitch_form (gv_stitch_form (stitch_form.mk (⟨#[111]⟩ : ByteArray) (1, 200) (0, 0) true 2 0)) (stitch_form.mk (⟨#[111]⟩ : ByteArray) (1, 200) (0, 0) true 2 0)) rfl)) (All.nil _ _ _))))))))))) rfl rfl (lb rfl) fun a w ad9 cp10 S => ?_
  refine sMove (.slice ad9 [(stitch_form.mk (⟨#[]⟩ : ByteArray) (0, 0) (0, 0) true 1 1), (stitch_form.mk (⟨#[]⟩ : ByteArray) (0, 0) (0, 0) false 0 1), (stitch_form.mk (⟨#[102]⟩ : ByteArray) (2, 4) (0, 0) true 2 1), (stitch_form.mk (⟨#[108]⟩ : ByteArray) (2, 4) (0, 0) true 2 1), (stitch_form.mk (⟨#[109]⟩ : ByteArray) (2, 4) (0, 0) true 1 2), (stitch_form.mk (⟨#[120]⟩ : ByteArray) (1, 6) (1, 6) true 3 3), (stitch_form.mk (⟨#[121]⟩ : ByteArray) (1, 6) (1, 6) true 3 3), (stitch_form.mk (⟨#[115]⟩ : ByteArray) (0, 0) (0, 0) true 1 1), (stitch_form.mk (⟨#[]⟩ : ByteArray) (1, 200) (0, 0) false 0 2), (stitch_form.mk (⟨#[111]⟩ : ByteArray) (1, 200) (0, 0) true 2 0)].length cp10) S (wN rfl) (.inr rfl) rfl rfl (lb rfl) fun a S => ?_
  refine leafL (leafT (hK8 _ _ ?_))
  refine sSeq (fun K11 hK11 => ?_)
  obtain ⟨t13, h, g14⟩ := bindSome h
  refine sCut (fun a w => ∃ o12, o12 = t13 ∧ St [] E [] w0 57 a w [(0, .int .u8 p0), (2, .pointer (some ⟨b2, 0, none⟩)), (7, .slice ad9 [(stitch_form.mk (⟨#[]⟩ : ByteArray) (0, 0) (0, 0) true 1 1), (stitch_form.mk (⟨#[]⟩ : ByteArray) (0, 0) (0, 0) false 0 1), (stitch_form.mk (⟨#[102]⟩ : ByteArray) (2, 4) (0, 0) true 2 1), (stitch_form.mk (⟨#[108]⟩ : ByteArray) (2, 4) (0, 0) true 2 1), (stitch_form.mk (⟨#[109]⟩ : ByteArray) (2, 4) (0, 0) true 1 2), (stitch_form.mk (⟨#[120]⟩ : ByteArray) (1, 6) (1, 6) true 3 3), (stitch_form.mk (⟨#[121]⟩ : ByteArray) (1, 6) (1, 6) true 3 3), (stitch_form.mk (⟨#[115]⟩ : ByteArray) (0, 0) (0, 0) true 1 1), (stitch_form.mk (⟨#[]⟩ : ByteArray) (1, 200) (0, 0) false 0 2), (stitch_form.mk (⟨#[111]⟩ : ByteArray) (1, 200) (0, 0) true 2 0)].length cp10), (50, .bool o12)] [eBox b2 156 (gl_stitch_form (stitch_form.mk (⟨#[]⟩ : ByteArray) (0, 0) (0, 0) false 0 0)), eRow r_stitch_form 156 (.slice ad9 [(stitch_form.mk (⟨#[]⟩ : ByteArray) (0, 0) (0, 0) true 1 1), (stitch_form.mk (⟨#[]⟩ : ByteArray) (0, 0) (0, 0) false 0 1), (stitch_form.mk (⟨#[102]⟩ : ByteArray) (2, 4) (0, 0) true 2 1), (stitch_form.mk (⟨#[108]⟩ : ByteArray) (2, 4) (0, 0) true 2 1), (stitch_form.mk (⟨#[109]⟩ : ByteArray) (2, 4) (0, 0) true 1 2), (stitch_form.mk (⟨#[120]⟩ : ByteArray) (1, 6) (1, 6) true 3 3), (stitch_form.mk (⟨#[121]⟩ : ByteArray) (1, 6) (1, 6) true 3 3), (stitch_form.mk (⟨#[115]⟩ : ByteArray) (0, 0) (0, 0) true 1 1), (stitch_form.mk (⟨#[]⟩ : ByteArray) (1, 200) (0, 0) false 0 2), (stitch_form.mk (⟨#[111]⟩ : ByteArray) (1, 200) (0, 0) true 2 0)].length cp10) [(stitch_form.mk (⟨#[]⟩ : ByteArray) (0, 0) (0, 0) true 1 1), (stitch_form.mk (⟨#[]⟩ : ByteArray) (0, 0) (0, 0) false 0 1), (stitch_form.mk (⟨#[102]⟩ : ByteArray) (2, 4) (0, 0) true 2 1), (stitch_form.mk (⟨#[108]⟩ : ByteArray) (2, 4) (0, 0) true 2 1), (stitch_form.mk (⟨#[109]⟩ : ByteArray) (2, 4) (0, 0) true 1 2), (stitch_form.mk (⟨#[120]⟩ : ByteArray) (1, 6) (1, 6) true 3 3), (stitch_form.mk (⟨#[121]⟩ : ByteArray) (1, 6) (1, 6) true 3 3), (stitch_form.mk (⟨#[115]⟩ : ByteArray) (0, 0) (0, 0) true 1 1), (stitch_form.mk (⟨#[]⟩ : ByteArray) (1, 200) (0, 0) false 0 2), (stitch_form.mk (⟨#[111]⟩ : ByteArray) (1, 200) (0, 0) true 2 0)]] []) ?_ (fun a w hI => ?_)
  · refine sRegion ?_
    refine sMove (.int .u8 p0) S (wN rfl) (.inl rfl) rfl rfl (lb rfl) fun a S => ?_
    refine sBin (.bool (decide (p0 < 1))) S (wN rfl) rfl rfl rfl (bLt _ _ _ _ .u8 p0 1) rfl (lb rfl) fun a S => ?_
    refine sMove (.bool (decide (p0 < 1))) S (wN rfl) (.inl rfl) rfl rfl (lb rfl) fun a S => ?_
    rcases iteSome h with ⟨hc15, h⟩ | ⟨hc15, h⟩
    · refine sSkip 2 false 44 45 S rfl rfl rfl hc15 rfl (lb rfl) fun a S => ?_
      refine sSkip 2 false 44 46 S rfl rfl rfl hc15 rfl (lb rfl) fun a S => ?_
      refine sSkip 2 false 44 47 S rfl rfl rfl hc15 rfl (lb rfl) fun a S => ?_
      refine sSkip 2 false 44 48 S rfl rfl rfl hc15 rfl (lb rfl) fun a S => ?_
      refine sSkip 2 false 44 49 S rfl rfl rfl hc15 rfl (lb rfl) fun a S => ?_
      refine sPickT (.bool true) S (wN rfl) rfl rfl hc15 rfl rfl (lb rfl) fun a S => ?_
      exact leafL (leafT (⟨true, Option.some.inj h, S.fix [4, 0] [] (by decide) rfl rfl rfl⟩))
    refine sMove (.int .u8 p0) S (wG 2 false 44 rfl rfl rfl hc15) (.inl rfl) rfl rfl (lb rfl) fun a S => ?_
    refine sConv (k := .u8) (k2 := .i64) (b := p0) S (wG 2 false 44 rfl rfl rfl hc15) rfl Try.underlying5 Try.underlying3 rfl rfl (lb rfl) fun a S => ?_
    refine sMove (.slice ad9 [(stitch_form.mk (⟨#[]⟩ : ByteArray) (0, 0) (0, 0) true 1 1), (stitch_form.mk (⟨#[]⟩ : ByteArray) (0, 0) (0, 0) false 0 1), (stitch_form.mk (⟨#[102]⟩ : ByteArray) (2, 4) (0, 0) true 2 1), (stitch_form.mk (⟨#[108]⟩ : ByteArray) (2, 4) (0, 0) true 2 1), (stitch_form.mk (⟨#[109]⟩ : ByteArray) (2, 4) (0, 0) true 1 2), (stitch_form.mk (⟨#[120]⟩ : ByteArray) (1, 6) (1, 6) true 3 3), (stitch_form.mk (⟨#[121]⟩ : ByteArray) (1, 6) (1, 6) true 3 3), (stitch_form.mk (⟨#[115]⟩ : ByteArray) (0, 0) (0, 0) true 1 1), (stitch_form.mk (⟨#[]⟩ : ByteArray) (1, 200) (0, 0) false 0 2), (stitch_form.mk (⟨#[111]⟩ : ByteArray) (1, 200) (0, 0) true 2 0)].length cp10) S (wG 2 false 44 rfl rfl rfl hc15) (.inl rfl) rfl rfl (lb rfl) fun a S => ?_
    refine sLen (ad := ad9) (m := [(stitch_form.mk (⟨#[]⟩ : ByteArray) (0, 0) (0, 0) true 1 1), (stitch_form.mk (⟨#[]⟩ : ByteArray) (0, 0) (0, 0) false 0 1), (stitch_form.mk (⟨#[102]⟩ : ByteArray) (2, 4) (0, 0) true 2 1), (stitch_form.mk (⟨#[108]⟩ : ByteArray) (2, 4) (0, 0) true 2 1), (stitch_form.mk (⟨#[109]⟩ : ByteArray) (2, 4) (0, 0) true 1 2), (stitch_form.mk (⟨#[120]⟩ : ByteArray) (1, 6) (1, 6) true 3 3), (stitch_form.mk (⟨#[121]⟩ : ByteArray) (1, 6) (1, 6) true 3 3), (stitch_form.mk (⟨#[115]⟩ : ByteArray) (0, 0) (0, 0) true 1 1), (stitch_form.mk (⟨#[]⟩ : ByteArray) (1, 200) (0, 0) false 0 2), (stitch_form.mk (⟨#[111]⟩ : ByteArray) (1, 200) (0, 0) true 2 0)].length) (c := cp10) S (wG 2 false 44 rfl rfl rfl hc15) rfl Try.underlying165 rfl rfl (lb rfl) fun a S => ?_
    refine sBin (.bool (decide (([(stitch_form.mk (⟨#[]⟩ : ByteArray) (0, 0) (0, 0) true 1 1), (stitch_form.mk (⟨#[]⟩ : ByteArray) (0, 0) (0, 0) false 0 1), (stitch_form.mk (⟨#[102]⟩ : ByteArray) (2, 4) (0, 0) true 2 1), (stitch_form.mk (⟨#[108]⟩ : ByteArray) (2, 4) (0, 0) true 2 1), (stitch_form.mk (⟨#[109]⟩ : ByteArray) (2, 4) (0, 0) true 1 2), (stitch_form.mk (⟨#[120]⟩ : ByteArray) (1, 6) (1, 6) true 3 3), (stitch_form.mk (⟨#[121]⟩ : ByteArray) (1, 6) (1, 6) true 3 3), (stitch_form.mk (⟨#[115]⟩ : ByteArray) (0, 0) (0, 0) true 1 1), (stitch_form.mk (⟨#[]⟩ : ByteArray) (1, 200) (0, 0) false 0 2), (stitch_form.mk (⟨#[111]⟩ : ByteArray) (1, 200) (0, 0) true 2 0)].length : Int) < (IntKind.i64.wrap p0)))) S (wG 2 false 44 rfl rfl rfl hc15) rfl rfl rfl (bGt _ _ _ _ .i64 (IntKind.i64.wrap p0) ([(stitch_form.mk (⟨#[]⟩ : ByteArray) (0, 0) (0, 0) true 1 1), (stitch_form.mk (⟨#[]⟩ : ByteArray) (0, 0) (0, 0) false 0 1), (stitch_form.mk (⟨#[102]⟩ : ByteArray) (2, 4) (0, 0) true 2 1), (stitch_form.mk (⟨#[108]⟩ : ByteArray) (2, 4) (0, 0) true 2 1), (stitch_form.mk (⟨#[109]⟩ : ByteArray) (2, 4) (0, 0) true 1 2), (stitch_form.mk (⟨#[120]⟩ : ByteArray) (1, 6) (1, 6) true 3 3), (stitch_form.mk (⟨#[121]⟩ : ByteArray) (1, 6) (1, 6) true 3 3), (stitch_form.mk (⟨#[115]⟩ : ByteArray) (0, 0) (0, 0) true 1 1), (stitch_form.mk (⟨#[]⟩ : ByteArray) (1, 200) (0, 0) false 0 2), (stitch_form.mk (⟨#[111]⟩ : ByteArray) (1, 200) (0, 0) true 2 0)].length : Int)) rfl (lb rfl) fun a S => ?_
    refine sPickF (.bool (decide (([(stitch_form.mk (⟨#[]⟩ : ByteArray) (0, 0) (0, 0) true 1 1), (stitch_form.mk (⟨#[]⟩ : ByteArray) (0, 0) (0, 0) false 0 1), (stitch_form.mk (⟨#[102]⟩ : ByteArray) (2, 4) (0, 0) true 2 1), (stitch_form.mk (⟨#[108]⟩ : ByteArray) (2, 4) (0, 0) true 2 1), (stitch_form.mk (⟨#[109]⟩ : ByteArray) (2, 4) (0, 0) true 1 2), (stitch_form.mk (⟨#[120]⟩ : ByteArray) (1, 6) (1, 6) true 3 3), (stitch_form.mk (⟨#[121]⟩ : ByteArray) (1, 6) (1, 6) true 3 3), (stitch_form.mk (⟨#[115]⟩ : ByteArray) (0, 0) (0, 0) true 1 1), (stitch_form.mk (⟨#[]⟩ : ByteArray) (1, 200) (0, 0) false 0 2), (stitch_form.mk (⟨#[111]⟩ : ByteArray) (1, 200) (0, 0) true 2 0)].length : Int) < (IntKind.i64.wrap p0)))) S (wN rfl) rfl rfl hc15 rfl rfl (lb rfl) fun a S => ?_
    exact leafL (leafT (⟨decide (([(stitch_form.mk (⟨#[]⟩ : ByteArray) (0, 0) (0, 0) true 1 1), (stitch_form.mk (⟨#[]⟩ : ByteArray) (0, 0) (0, 0) false 0 1), (stitch_form.mk (⟨#[102]⟩ : ByteArray) (2, 4) (0, 0) true 2 1), (stitch_form.mk (⟨#[108]⟩ : ByteArray) (2, 4) (0, 0) true 2 1), (stitch_form.mk (⟨#[109]⟩ : ByteArray) (2, 4) (0, 0) true 1 2), (stitch_form.mk (⟨#[120]⟩ : ByteArray) (1, 6) (1, 6) true 3 3), (stitch_form.mk (⟨#[121]⟩ : ByteArray) (1, 6) (1, 6) true 3 3), (stitch_form.mk (⟨#[115]⟩ : ByteArray) (0, 0) (0, 0) true 1 1), (stitch_form.mk (⟨#[]⟩ : ByteArray) (1, 200) (0, 0) false 0 2), (stitch_form.mk (⟨#[111]⟩ : ByteArray) (1, 200) (0, 0) true 2 0)].length : Int) < (IntKind.i64.wrap p0)), Option.some.inj h, S.fix [4, 0] [] (by decide) rfl rfl rfl⟩))
  obtain ⟨o12, rfl, S⟩ := hI
  have h := g14
  clear g14
  try dsimp only at h
  rcases iteSome h with ⟨hc16, h⟩ | ⟨hc16, h⟩
  · refine sCondT S rfl hc16 ?_
    refine sSeq (fun K17 hK17 => ?_)
    refine sRegion ?_
    refine sBuild [] (gl_stitch_form (stitch_form.mk (⟨#[]⟩ : ByteArray) (0, 0) (0, 0) false 0 0)) S (wN rfl) rfl rfl rfl rfl (lb rfl) fun a S => ?_
    refine sStore (p := b2) (off := 0) (T := 156) (vs := [.string (⟨#[]⟩ : ByteArray), iv 0, iv 0, iv 0, iv 0, .bool false, iv 0, iv 0]) (v := gv_stitch_form (stitch_form.mk (⟨#[]⟩ : ByteArray) (0, 0) (0, 0) false 0 0)) 0 [.string (⟨#[]⟩ : ByteArray), iv 0, iv 0, iv 0, iv 0, .bool false, iv 0, iv 0] S (wN rfl) rfl rfl rfl rfl rfl rfl rfl (by simp) rfl fun a w S => ?_
    refine sMove (.bool false) S (wN rfl) (.inr rfl) rfl rfl (lb rfl) fun a S => ?_
    refine leafL (leafT (hK17 _ _ ?_))
    obtain rfl := Option.some.inj h
    have S := S.learn (fRep r_stitch_form (gv_stitch_form (stitch_form.mk (⟨#[]⟩ : ByteArray) (0, 0) (0, 0) false 0 0)) (stitch_form.mk (⟨#[]⟩ : ByteArray) (0, 0) (0, 0) false 0 0)) rfl
    exact wp_ret (rThen (sRet (.tuple #[gv_stitch_form (stitch_form.mk (⟨#[]⟩ : ByteArray) (0, 0) (0, 0) false 0 0), .bool false]) S (rsl2 rfl (rvN (c := 2) (t := 156) (T := 156) (p := b2) 0 [.string (⟨#[]⟩ : ByteArray), iv 0, iv 0, iv 0, iv 0, .bool false, iv 0, iv 0] S rfl rfl rfl rfl) (rvT (t := 3) (v := .bool false) S rfl)) ⟨(gv_stitch_form (stitch_form.mk (⟨#[]⟩ : ByteArray) (0, 0) (0, 0) false 0 0)), rfl, S.mem.sel [] [0] (by decide) rfl rfl⟩))
  refine sCondF S rfl hc16 ?_
  refine wp_skip (leafT (hK11 _ _ ?_))
  refine sSeq (fun K18 hK18 => ?_)
  refine sRegion ?_
  refine sMove (.slice ad9 [(stitch_form.mk (⟨#[]⟩ : ByteArray) (0, 0) (0, 0) true 1 1), (stitch_form.mk (⟨#[]⟩ : ByteArray) (0, 0) (0, 0) false 0 1), (stitch_form.mk (⟨#[102]⟩ : ByteArray) (2, 4) (0, 0) true 2 1), (stitch_form.mk (⟨#[108]⟩ : ByteArray) (2, 4) (0, 0) true 2 1), (stitch_form.mk (⟨#[109]⟩ : ByteArray) (2, 4) (0, 0) true 1 2), (stitch_form.mk (⟨#[120]⟩ : ByteArray) (1, 6) (1, 6) true 3 3), (stitch_form.mk (⟨#[121]⟩ : ByteArray) (1, 6) (1, 6) true 3 3), (stitch_form.mk (⟨#[115]⟩ : ByteArray) (0, 0) (0, 0) true 1 1), (stitch_form.mk (⟨#[]⟩ : ByteArray) (1, 200) (0, 0) false 0 2), (stitch_form.mk (⟨#[111]⟩ : ByteArray) (1, 200) (0, 0) true 2 0)].length cp10) S (wN rfl) (.inl rfl) rfl rfl (lb rfl) fun a S => ?_
  refine sMove (.int .u8 p0) S (wN rfl) (.inl rfl) rfl rfl (lb rfl) fun a S => ?_
  refine sBin (.int .u8 (IntKind.u8.wrap (p0 - 1))) S (wN rfl) rfl rfl rfl (bSubK _ _ _ _ .u8 p0 1) rfl (lb rfl) fun a S => ?_
  obtain ⟨x19, hx20, h⟩ := bindSome h
  have S := S.shutR (r := r_stitch_form) (T := 156) (v := .slice ad9 [(stitch_form.mk (⟨#[]⟩ : ByteArray) (0, 0) (0, 0) true 1 1), (stitch_form.mk (⟨#[]⟩ : ByteArray) (0, 0) (0, 0) false 0 1), (stitch_form.mk (⟨#[102]⟩ : ByteArray) (2, 4) (0, 0) true 2 1), (stitch_form.mk (⟨#[108]⟩ : ByteArray) (2, 4) (0, 0) true 2 1), (stitch_form.mk (⟨#[109]⟩ : ByteArray) (2, 4) (0, 0) true 1 2), (stitch_form.mk (⟨#[120]⟩ : ByteArray) (1, 6) (1, 6) true 3 3), (stitch_form.mk (⟨#[121]⟩ : ByteArray) (1, 6) (1, 6) true 3 3), (stitch_form.mk (⟨#[115]⟩ : ByteArray) (0, 0) (0, 0) true 1 1), (stitch_form.mk (⟨#[]⟩ : ByteArray) (1, 200) (0, 0) false 0 2), (stitch_form.mk (⟨#[111]⟩ : ByteArray) (1, 200) (0, 0) true 2 0)].length cp10) (xs := [(stitch_form.mk (⟨#[]⟩ : ByteArray) (0, 0) (0, 0) true 1 1), (stitch_form.mk (⟨#[]⟩ : ByteArray) (0, 0) (0, 0) false 0 1), (stitch_form.mk (⟨#[102]⟩ : ByteArray) (2, 4) (0, 0) true 2 1), (stitch_form.mk (⟨#[108]⟩ : ByteArray) (2, 4) (0, 0) true 2 1), (stitch_form.mk (⟨#[109]⟩ : ByteArray) (2, 4) (0, 0) true 1 2), (stitch_form.mk (⟨#[120]⟩ : ByteArray) (1, 6) (1, 6) true 3 3), (stitch_form.mk (⟨#[121]⟩ : ByteArray) (1, 6) (1, 6) true 3 3), (stitch_form.mk (⟨#[115]⟩ : ByteArray) (0, 0) (0, 0) true 1 1), (stitch_form.mk (⟨#[]⟩ : ByteArray) (1, 200) (0, 0) false 0 2), (stitch_form.mk (⟨#[111]⟩ : ByteArray) (1, 200) (0, 0) true 2 0)]) 1 rfl
  obtain ⟨q21, hq22, S⟩ := pIdx (P := Try.prog) (r := r_stitch_form) (v := .slice ad9 [(stitch_form.mk (⟨#[]⟩ : ByteArray) (0, 0) (0, 0) true 1 1), (stitch_form.mk (⟨#[]⟩ : ByteArray) (0, 0) (0, 0) false 0 1), (stitch_form.mk (⟨#[102]⟩ : ByteArray) (2, 4) (0, 0) true 2 1), (stitch_form.mk (⟨#[108]⟩ : ByteArray) (2, 4) (0, 0) true 2 1), (stitch_form.mk (⟨#[109]⟩ : ByteArray) (2, 4) (0, 0) true 1 2), (stitch_form.mk (⟨#[120]⟩ : ByteArray) (1, 6) (1, 6) true 3 3), (stitch_form.mk (⟨#[121]⟩ : ByteArray) (1, 6) (1, 6) true 3 3), (stitch_form.mk (⟨#[115]⟩ : ByteArray) (0, 0) (0, 0) true 1 1), (stitch_form.mk (⟨#[]⟩ : ByteArray) (1, 200) (0, 0) false 0 2), (stitch_form.mk (⟨#[111]⟩ : ByteArray) (1, 200) (0, 0) true 2 0)].length cp10) (xs := [(stitch_form.mk (⟨#[]⟩ : ByteArray) (0, 0) (0, 0) true 1 1), (stitch_form.mk (⟨#[]⟩ : ByteArray) (0, 0) (0, 0) false 0 1), (stitch_form.mk (⟨#[102]⟩ : ByteArray) (2, 4) (0, 0) true 2 1), (stitch_form.mk (⟨#[108]⟩ : ByteArray) (2, 4) (0, 0) true 2 1), (stitch_form.mk (⟨#[109]⟩ : ByteArray) (2, 4) (0, 0) true 1 2), (stitch_form.mk (⟨#[120]⟩ : ByteArray) (1, 6) (1, 6) true 3 3), (stitch_form.mk (⟨#[121]⟩ : ByteArray) (1, 6) (1, 6) true 3 3), (stitch_form.mk (⟨#[115]⟩ : ByteArray) (0, 0) (0, 0) true 1 1), (stitch_form.mk (⟨#[]⟩ : ByteArray) (1, 200) (0, 0) false 0 2), (stitch_form.mk (⟨#[111]⟩ : ByteArray) (1, 200) (0, 0) true 2 0)]) (j := IntKind.u8.wrap (p0 - 1)) 165 156 0 S Try.underlying165 rfl rfl hx20
  refine sIdxV (v := .slice ad9 [(stitch_form.mk (⟨#[]⟩ : ByteArray) (0, 0) (0, 0) true 1 1), (stitch_form.mk (⟨#[]⟩ : ByteArray) (0, 0) (0, 0) false 0 1), (stitch_form.mk (⟨#[102]⟩ : ByteArray) (2, 4) (0, 0) true 2 1), (stitch_form.mk (⟨#[108]⟩ : ByteArray) (2, 4) (0, 0) true 2 1), (stitch_form.mk (⟨#[109]⟩ : ByteArray) (2, 4) (0, 0) true 1 2), (stitch_form.mk (⟨#[120]⟩ : ByteArray) (1, 6) (1, 6) true 3 3), (stitch_form.mk (⟨#[121]⟩ : ByteArray) (1, 6) (1, 6) true 3 3), (stitch_form.mk (⟨#[115]⟩ : ByteArray) (0, 0) (0, 0) true 1 1), (stitch_form.mk (⟨#[]⟩ : ByteArray) (1, 200) (0, 0) false 0 2), (stitch_form.mk (⟨#[111]⟩ : ByteArray) (1, 200) (0, 0) true 2 0)].length cp10) (k := .u8) (j := IntKind.u8.wrap (p0 - 1)) S (wN rfl) rfl rfl rfl hq22 rfl (lb rfl) fun a S => ?_
  obtain ⟨u23, S⟩ := pLoad (r := r_stitch_form) (q := q21) (x := x19) 0 S rfl
  obtain rfl : u23 = gv_stitch_form x19 := S.mem.know (i := 1) (e := fRep r_stitch_form (u23) x19) rfl
  refine sLoadVN (vq := q21) 0 [.string x19.letter, iv x19.a.1, iv x19.a.2, iv x19.b.1, iv x19.b.2, .bool x19.sided, iv x19.uses, iv x19.made] S (wN rfl) rfl rfl rfl rfl rfl rfl (lb rfl) fun a S => ?_
  refine sStore (p := b2) (off := 0) (T := 156) (vs := [.string (⟨#[]⟩ : ByteArray), iv 0, iv 0, iv 0, iv 0, .bool false, iv 0, iv 0]) (v := gv_stitch_form x19) 0 [.string x19.letter, iv x19.a.1, iv x19.a.2, iv x19.b.1, iv x19.b.2, .bool x19.sided, iv x19.uses, iv x19.made] S (wN rfl) rfl rfl rfl rfl rfl rfl rfl (by simp) rfl fun a w S => ?_
  refine sMove (.bool true) S (wN rfl) (.inr rfl) rfl rfl (lb rfl) fun a S => ?_
  refine leafL (leafT (hK18 _ _ ?_))
  obtain rfl := Option.some.inj h
  exact wp_ret (sRet (.tuple #[gv_stitch_form x19, .bool true]) S (rsl2 rfl (rvN (c := 2) (t := 156) (T := 156) (p := b2) 0 [.string x19.letter, iv x19.a.1, iv x19.a.2, iv x19.b.1, iv x19.b.2, .bool x19.sided, iv x19.uses, iv x19.made] S rfl rfl rfl rfl) (rvT (t := 3) (v := .bool true) S rfl)) ⟨(gv_stitch_form x19), rfl, S.mem.sel [] [1] (by decide) rfl rfl⟩)

end Go.Proofs.Ytffikfajljbmnaa
namespace Go.Proofs.Ytffikfajljbmnaa
open Go.RowKit
set_option linter.unusedVariables false

noncomputable def F_stitch_within (p0 : Int) (p1 : (Int × Int)) : Option Bool :=
  Option.bind (α := Bool) (
    if decide (p1.1 ≤ p0) then
      some (decide (p0 ≤ p1.2))
    else
      some false) fun o3 =>
  some o3
set_option maxHeartbeats 4000000 in
set_option maxRecDepth 100000 in
theorem c_stitch_within (E : Nat → Prop) (w0 : World) (p0 : Int) (p1 : (Int × Int)) (v1 : Value) (r : Bool) (h : F_stitch_within p0 p1 = some r) (S : St0 E [] w0 w0 [] [fRep r_A2_Int (v1) p1]) :
    Calls Try.prog 104 #[iv p0, v1] w0 (Ret (X := Unit) E [] w0 (fun _ => .bool r) (fun _ => []) (fun _ => [])) := by
  unfold F_stitch_within at h
  obtain rfl : v1 = .agg #[iv p1.1, iv p1.2] := S.know (i := 0) (e := fRep r_A2_Int (v1) p1) rfl
  refine sEnter (args := [iv p0, .agg #[iv p1.1, iv p1.2]]) 15 Try.func104 rfl rfl (by simp) S (fun a S => ?_)
  refine sSeq (fun K1 hK1 => ?_)
  refine sRegion ?_
  refine sBox (v := .agg #[iv p1.1, iv p1.2]) S (wN rfl) rfl rfl [iv p1.1, iv p1.2] rfl rfl (lb rfl) fun a b2 w S => ?_
  refine sMove (.bool false) S (wN rfl) (.inr rfl) rfl rfl (lb rfl) fun a S => ?_
  refine leafL (leafT (hK1 _ _ ?_))
  obtain ⟨t4, h, g5⟩ := bindSome h
  refine sCut (fun a w => ∃ o3, o3 = t4 ∧ St [] E [] w0 15 a w [(4, .bool o3)] [] []) ?_ (fun a w hI => ?_)
  rotate_left
  · obtain ⟨o3, rfl, S⟩ := hI
    have h := g5
    clear g5
    try dsimp only at h
    obtain rfl := Option.some.inj h
    exact wp_ret (sRet (.bool o3) S (rsl1 rfl (rvT (t := 4) (v := .bool o3) S rfl)) ⟨(), rfl, S.mem.sel [] [] (by decide) rfl rfl⟩)
  refine sRegion ?_
  refine sMove (iv p0) S (wN rfl) (.inl rfl) rfl rfl (lb rfl) fun a S => ?_
  refine sIdxV (v := .pointer (some ⟨b2, 0, none⟩)) (k := .i64) (j := 0) (q := .pointer (some ⟨b2, 0, none⟩)) S (wN rfl) rfl rfl rfl (idxV_arr (m := 2) (sz := 1) Try.underlying154 rfl (by decide) (by decide) 0) rfl (lb rfl) fun a S => ?_
  refine sLoad1 (p := b2) (off := 0) (T := 154) (vs := [iv p1.1, iv p1.2]) 0 (iv p1.1) S (wN rfl) rfl rfl rfl rfl rfl rfl (lb rfl) fun a S => ?_
  refine sBin (.bool (decide (p1.1 ≤ p0))) S (wN rfl) rfl rfl rfl (bGe _ _ _ _ .i64 p0 p1.1) rfl (lb rfl) fun a S => ?_
  refine sMove (.bool (decide (p1.1 ≤ p0))) S (wN rfl) (.inl rfl) rfl rfl (lb rfl) fun a S => ?_
  rcases iteSome h with ⟨hc6, h⟩ | ⟨hc6, h⟩
  rotate_left
  · refine sSkip 4 true 9 10 S rfl rfl rfl hc6 rfl (lb rfl) fun a S => ?_
    refine sSkip 4 true 9 11 S rfl rfl rfl hc6 rfl (lb rfl) fun a S => ?_
    refine sSkip 4 true 9 12 S rfl rfl rfl hc6 rfl (lb rfl) fun a S => ?_
    refine sSkip 4 true 9 13 S rfl rfl rfl hc6 rfl (lb rfl) fun a S => ?_
    refine sPickF (.bool false) S (wN rfl) rfl rfl hc6 rfl rfl (lb rfl) fun a S => ?_
    refine sMove (.bool false) S (wN rfl) (.inr rfl) rfl rfl (lb rfl) fun a S => ?_
    exact leafL (leafT (⟨false, Option.some.inj h, S.fix [] [] (by decide) rfl rfl rfl⟩))
  refine sMove (iv p0) S (wG 4 true 9 rfl rfl rfl hc6) (.inl rfl) rfl rfl (lb rfl) fun a S => ?_
  refine sIdxV (v := .pointer (some ⟨b2, 0, none⟩)) (k := .i64) (j := 1) (q := .pointer (some ⟨b2, 1, none⟩)) S (wG 4 true 9 rfl rfl rfl hc6) rfl rfl rfl (idxV_arr (m := 2) (sz := 1) Try.underlying154 rfl (by decide) (by decide) 0) rfl (lb rfl) fun a S => ?_
  refine sLoad1 (p := b2) (off := 1) (T := 154) (vs := [iv p1.1, iv p1.2]) 0 (iv p1.2) S (wG 4 true 9 rfl rfl rfl hc6) rfl rfl rfl rfl rfl rfl (lb rfl) fun a S => ?_
  refine sBin (.bool (decide (p0 ≤ p1.2))) S (wG 4 true 9 rfl rfl rfl hc6) rfl rfl rfl (bLe _ _ _ _ .i64 p0 p1.2) rfl (lb rfl) fun a S => ?_
  refine sPickT (.bool (decide (p0 ≤ p1.2))) S (wN rfl) rfl rfl hc6 rfl rfl (lb rfl) fun a S => ?_
  refine sMove (.bool (decide (p0 ≤ p1.2))) S (wN rfl) (.inr rfl) rfl rfl (lb rfl) fun a S => ?_
  exact leafL (leafT (⟨decide (p0 ≤ p1.2), Option.some.inj h, S.fix [] [] (by decide) rfl rfl rfl⟩))

end Go.Proofs.Ytffikfajljbmnaa
namespace Go.Proofs.Ytffikfajljbmnaa
open Go.RowKit
set_option linter.unusedVariables false

noncomputable def F_stitch_Check (p0 : api_Stitch) : Option Int :=
  Option.bind (F_stitch_forms p0.Kind) fun r4 =>
  Option.bind (α := Bool) (
    if !r4.2 then
      some true
    else
      Option.bind (F_stitch_within p0.A r4.1.a) fun r13 =>
      if !r13 then
        some true
      else
        Option.bind (F_stitch_within p0.B r4.1.b) fun r16 =>
        if !r16 then
          some true
        else
          if p0.Purl then
            some (!r4.1.sided)
          else
            some false) fun o9 =>
  if o9 then
    some 8
  else
    some 0
set_option maxHeartbeats 4000000 in
set_option maxRecDepth 100000 in
theorem c_stitch_Check (E : Nat → Prop) (w0 : World) (p0 : api_Stitch) (v0 : Value) (r : Int) (h : F_stitch_Check p0 = some r) (S : St0 E [] w0 w0 [] [fRep r_api_Stitch (v0) p0]) :
    Calls Try.prog 88 #[v0] w0 (Ret (X := Unit) E [] w0 (fun _ => .int .i64 r) (fun _ => []) (fun _ => [])) := by
  unfold F_stitch_Check at h
  obtain rfl : v0 = .agg #[.int .u8 p0.Kind, .bool p0.Purl, iv p0.A, iv p0.B] := S.know (i := 0) (e := fRep r_api_Stitch (v0) p0) rfl
  refine sEnter (args := [.agg #[.int .u8 p0.Kind, .bool p0.Purl, iv p0.A, iv p0.B]]) 38 Try.func88 rfl rfl (by simp) S (fun a S => ?_)
  refine sSeq (fun K1 hK1 => ?_)
  refine sRegion ?_
  refine sBox (v := .agg #[.int .u8 p0.Kind, .bool p0.Purl, iv p0.A, iv p0.B]) S (wN rfl) rfl rfl [.int .u8 p0.Kind, .bool p0.Purl, iv p0.A, iv p0.B] rfl rfl (lb rfl) fun a b2 w S => ?_
  refine sMove (iv 0) S (wN rfl) (.inr rfl) rfl rfl (lb rfl) fun a S => ?_
  refine leafL (leafT (hK1 _ _ ?_))
  refine sSeq (fun K3 hK3 => ?_)
  refine sRegion ?_
  refine sField (b := b2) (off := 0) 0 0 S (wN rfl) rfl rfl rfl rfl rfl (lb rfl) fun a S => ?_
  refine sLoad1 (p := b2) (off := 0) (T := 81) (vs := [.int .u8 p0.Kind, .bool p0.Purl, iv p0.A, iv p0.B]) 0 (.int .u8 p0.Kind) S (wN rfl) rfl rfl rfl rfl rfl rfl (lb rfl) fun a S => ?_
  obtain ⟨r4, hx5, h⟩ := bindSome h
  refine sCall (X := Value) (f := 103) (vs := [.int .u8 p0.Kind]) (val := c_stitch_forms_val r4) (B' := fun _ => []) (D' := c_stitch_forms_D r4) [] [eBox b2 81 [.int .u8 p0.Kind, .bool p0.Purl, iv p0.A, iv p0.B]] [] [0] [] S (wN rfl) rfl callee103 rfl (by decide) rfl rfl (fun E1 w1 S1 => c_stitch_forms E1 w1 p0.Kind r4 hx5 S1) rfl (lb rfl) fun u6 a w S => ?_
  obtain rfl : u6 = gv_stitch_form r4.1 := S.mem.know (i := 0) (e := fRep r_stitch_form (u6) r4.1) rfl
  refine sMove (.tuple #[gv_stitch_form r4.1, .bool r4.2]) S (wN rfl) (.inl rfl) rfl rfl (lb rfl) fun a S => ?_
  refine sExtract (vs := [gv_stitch_form r4.1, .bool r4.2]) (gv_stitch_form r4.1) S (wN rfl) rfl rfl rfl rfl (lb rfl) fun a S => ?_
  refine sExtract (vs := [gv_stitch_form r4.1, .bool r4.2]) (.bool r4.2) S (wN rfl) rfl rfl rfl rfl (lb rfl) fun a S => ?_
  refine sAlloc (gv_stitch_form (stitch_form.mk (⟨#[]⟩ : ByteArray) (0, 0) (0, 0) false 0 0)) S (wN rfl) rfl rfl (gl_stitch_form (stitch_form.mk (⟨#[]⟩ : ByteArray) (0, 0) (0, 0) false 0 0)) rfl rfl (lb rfl) fun a b7 w S => ?_
  refine sStore (p := b7) (off := 0) (T := 156) (vs := [.string (⟨#[]⟩ : ByteArray), iv 0, iv 0, iv 0, iv 0, .bool false, iv 0, iv 0]) (v := gv_stitch_form r4.1) 0 [.string r4.1.letter, iv r4.1.a.1, iv r4.1.a.2, iv r4.1.b.1, iv r4.1.b.2, .bool r4.1.sided, iv r4.1.uses, iv r4.1.made] S (wN rfl) rfl rfl rfl rfl rfl rfl rfl (by simp) rfl fun a w S => ?_
  refine sMove (.bool r4.2) S (wN rfl) (.inr rfl) rfl rfl (lb rfl) fun a S => ?_
  refine leafL (leafT (hK3 _ _ ?_))
  refine sSeq (fun K8 hK8 => ?_)
  obtain ⟨t10, h, g11⟩ := bindSome h
  refine sCut (fun a w => ∃ o9, o9 = t10 ∧ St [] E [] w0 38 a w [(37, .bool o9)] [] []) ?_ (fun a w hI => ?_)
  rotate_left
  · obtain ⟨o9, rfl, S⟩ := hI
    have h := g11
    clear g11
    try dsimp only at h
    rcases iteSome h with ⟨hc20, h⟩ | ⟨hc20, h⟩
    · refine sCondT S rfl hc20 ?_
      refine sSeq (fun K21 hK21 => ?_)
      refine sRegion ?_
      refine sMove (iv 8) S (wN rfl) (.inr rfl) rfl rfl (lb rfl) fun a S => ?_
      refine leafL (leafT (hK21 _ _ ?_))
      obtain rfl := Option.some.inj h
      exact wp_ret (rThen (sRet (iv 8) S (rsl1 rfl (rvT (t := 2) (v := iv 8) S rfl)) ⟨(), rfl, S.mem.sel [] [] (by decide) rfl rfl⟩))
    refine sCondF S rfl hc20 ?_
    refine wp_skip (leafT (hK8 _ _ ?_))
    refine sSeq (fun K22 hK22 => ?_)
    refine sRegion ?_
    refine sMove (iv 0) S (wN rfl) (.inr rfl) rfl rfl (lb rfl) fun a S => ?_
    refine leafL (leafT (hK22 _ _ ?_))
    obtain rfl := Option.some.inj h
    exact wp_ret (sRet (iv 0) S (rsl1 rfl (rvT (t := 2) (v := iv 0) S rfl)) ⟨(), rfl, S.mem.sel [] [] (by decide) rfl rfl⟩)
  refine sRegion ?_
  refine sMove (.bool r4.2) S (wN rfl) (.inl rfl) rfl rfl (lb rfl) fun a S => ?_
  refine sNot (b := r4.2) S (wN rfl) rfl rfl rfl (lb rfl) fun a S => ?_
  refine sMove (.bool (!r4.2)) S (wN rfl) (.inl rfl) rfl rfl (lb rfl) fun a S => ?_
  rcases iteSome h with ⟨hc12, h⟩ | ⟨hc12, h⟩
  · refine sSkip 2 false 13 14 S rfl rfl rfl hc12 rfl (lb rfl) fun a S => ?_
    refine sSkip 2 false 13 15 S rfl rfl rfl hc12 rfl (lb rfl) fun a S => ?_
    refine sSkip 2 false 13 16 S rfl rfl rfl hc12 rfl (lb rfl) fun a S => ?_
    refine sSkip 2 false 13 17 S rfl rfl rfl hc12 rfl (lb rfl) fun a S => ?_
    refine sSkip 2 false 13 18 S rfl rfl rfl hc12 rfl (lb rfl) fun a S => ?_
    refine sSkip 2 false 13 19 S rfl rfl rfl hc12 rfl (lb rfl) fun a S => ?_
    refine sPickT (.bool true) S (wN rfl) rfl rfl hc12 rfl rfl (lb rfl) fun a S => ?_
    refine sMove (.bool true) S (wN rfl) (.inl rfl) rfl rfl (lb rfl) fun a S => ?_
    refine sSkip 10 false 21 22 S rfl rfl rfl rfl rfl (lb rfl) fun a S => ?_
    refine sSkip 10 false 21 23 S rfl rfl rfl rfl rfl (lb rfl) fun a S => ?_
    refine sSkip 10 false 21 24 S rfl rfl rfl rfl rfl (lb rfl) fun a S => ?_
    refine sSkip 10 false 21 25 S rfl rfl rfl rfl rfl (lb rfl) fun a S => ?_
    refine sSkip 10 false 21 26 S rfl rfl rfl rfl rfl (lb rfl) fun a S => ?_
    refine sSkip 10 false 21 27 S rfl rfl rfl rfl rfl (lb rfl) fun a S => ?_
    refine sPickT (.bool true) S (wN rfl) rfl rfl rfl rfl rfl (lb rfl) fun a S => ?_
    refine sMove (.bool true) S (wN rfl) (.inl rfl) rfl rfl (lb rfl) fun a S => ?_
    refine sSkip 18 false 29 30 S rfl rfl rfl rfl rfl (lb rfl) fun a S => ?_
    refine sSkip 18 false 29 31 S rfl rfl rfl rfl rfl (lb rfl) fun a S => ?_
    refine sSkip 18 false 29 32 S rfl rfl rfl rfl rfl (lb rfl) fun a S => ?_
    refine sSkipU 21 true 32 33 S rfl rfl rfl rfl (lb rfl) fun a S => ?_
    refine sSkipU 21 true 32 34 S rfl rfl rfl rfl (lb rfl) fun a S => ?_
    refine sSkipU 21 true 32 35 S rfl rfl rfl rfl (lb rfl) fun a S => ?_
    refine sSkip 18 false 29 36 S rfl rfl rfl rfl rfl (lb rfl) fun a S => ?_
    refine sPickT (.bool true) S (wN rfl) rfl rfl rfl rfl rfl (lb rfl) fun a S => ?_
    exact leafL (leafT (⟨true, Option.some.inj h, S.fix [] [] (by decide) rfl rfl rfl⟩))
  refine sField (b := b2) (off := 0) 2 2 S (wG 2 false 13 rfl rfl rfl hc12) rfl rfl rfl rfl rfl (lb rfl) fun a S => ?_
  refine sLoad1 (p := b2) (off := 2) (T := 81) (vs := [.int .u8 p0.Kind, .bool p0.Purl, iv p0.A, iv p0.B]) 1 (iv p0.A) S (wG 2 false 13 rfl rfl rfl hc12) rfl rfl rfl rfl rfl rfl (lb rfl) fun a S => ?_
  refine sField (b := b7) (off := 0) 1 1 S (wG 2 false 13 rfl rfl rfl hc12) rfl rfl rfl rfl rfl (lb rfl) fun a S => ?_
  refine sLoadN (p := b7) (off := 1) (T := 156) (vs := (gl_stitch_form r4.1)) 0 [iv r4.1.a.1, iv r4.1.a.2] S (wG 2 false 13 rfl rfl rfl hc12) rfl rfl rfl rfl rfl rfl rfl (lb rfl) fun a S => ?_
  obtain ⟨r13, hx14, h⟩ := bindSome h
  have S1 := S.mem
  have S1 := S1.learn (fRep r_A2_Int (.agg #[iv r4.1.a.1, iv r4.1.a.2]) r4.1.a) rfl
  refine sCallQ (X := Unit) (f := 104) (vs := [iv p0.A, .agg #[iv r4.1.a.1, iv r4.1.a.2]]) (val := fun _ => .bool r13) S (wG 2 false 13 rfl rfl rfl hc12) rfl callee104 rfl (S1.quiet [0] rfl) (fun E1 w1 S1 => c_stitch_within E1 w1 p0.A r4.1.a (.agg #[iv r4.1.a.1, iv r4.1.a.2]) r13 hx14 S1) rfl (lb rfl) fun _ a w S => ?_
  refine sNot (b := r13) S (wG 2 false 13 rfl rfl rfl hc12) rfl rfl rfl (lb rfl) fun a S => ?_
  refine sPickF (.bool (!r13)) S (wN rfl) rfl rfl hc12 rfl rfl (lb rfl) fun a S => ?_
  refine sMove (.bool (!r13)) S (wN rfl) (.inl rfl) rfl rfl (lb rfl) fun a S => ?_
  rcases iteSome h with ⟨hc15, h⟩ | ⟨hc15, h⟩
  · refine sSkip 10 false 21 22 S rfl rfl rfl hc15 rfl (lb rfl) fun a S => ?_
    refine sSkip 10 false 21 23 S rfl rfl rfl hc15 rfl (lb rfl) fun a S => ?_
    refine sSkip 10 false 21 24 S rfl rfl rfl hc15 rfl (lb rfl) fun a S => ?_
    refine sSkip 10 false 21 25 S rfl rfl rfl hc15 rfl (lb rfl) fun a S => ?_
    refine sSkip 10 false 21 26 S rfl rfl rfl hc15 rfl (lb rfl) fun a S => ?_
    refine sSkip 10 false 21 27 S rfl rfl rfl hc15 rfl (lb rfl) fun a S => ?_
    refine sPickT (.bool true) S (wN rfl) rfl rfl hc15 rfl rfl (lb rfl) fun a S => ?_
    refine sMove (.bool true) S (wN rfl) (.inl rfl) rfl rfl (lb rfl) fun a S => ?_
    refine sSkip 18 false 29 30 S rfl rfl rfl rfl rfl (lb rfl) fun a S => ?_
    refine sSkip 18 false 29 31 S rfl rfl rfl rfl rfl (lb rfl) fun a S => ?_
    refine sSkip 18 false 29 32 S rfl rfl rfl rfl rfl (lb rfl) fun a S => ?_
    refine sSkipU 21 true 32 33 S rfl rfl rfl rfl (lb rfl) fun a S => ?_
    refine sSkipU 21 true 32 34 S rfl rfl rfl rfl (lb rfl) fun a S => ?_
    refine sSkipU 21 true 32 35 S rfl rfl rfl rfl (lb rfl) fun a S => ?_
    refine sSkip 18 false 29 36 S rfl rfl rfl rfl rfl (lb rfl) fun a S => ?_
    refine sPickT (.bool true) S (wN rfl) rfl rfl rfl rfl rfl (lb rfl) fun a S => ?_
    exact leafL (leafT (⟨true, Option.some.inj h, S.fix [] [] (by decide) rfl rfl rfl⟩))
  refine sField (b := b2) (off := 0) 3 3 S (wG 10 false 21 rfl rfl rfl hc15) rfl rfl rfl rfl rfl (lb rfl) fun a S => ?_
  refine sLoad1 (p := b2) (off := 3) (T := 81) (vs := [.int .u8 p0.Kind, .bool p0.Purl, iv p0.A, iv p0.B]) 1 (iv p0.B) S (wG 10 false 21 rfl rfl rfl hc15) rfl rfl rfl rfl rfl rfl (lb rfl) fun a S => ?_
  refine sField (b := b7) (off := 0) 3 3 S (wG 10 false 21 rfl rfl rfl hc15) rfl rfl rfl rfl rfl (lb rfl) fun a S => ?_
  refine sLoadN (p := b7) (off := 3) (T := 156) (vs := (gl_stitch_form r4.1)) 0 [iv r4.1.b.1, iv r4.1.b.2] S (wG 10 false 21 rfl rfl rfl hc15) rfl rfl rfl rfl rfl rfl rfl (lb rfl) fun a S => ?_
  obtain ⟨r16, hx17, h⟩ := bindSome h
  have S1 := S.mem
  have S1 := S1.learn (fRep r_A2_Int (.agg #[iv r4.1.b.1, iv r4.1.b.2]) r4.1.b) rfl
  refine sCallQ (X := Unit) (f := 104) (vs := [iv p0.B, .agg #[iv r4.1.b.1, iv r4.1.b.2]]) (val := fun _ => .bool r16) S (wG 10 false 21 rfl rfl rfl hc15) rfl callee104 rfl (S1.quiet [0] rfl) (fun E1 w1 S1 => c_stitch_within E1 w1 p0.B r4.1.b (.agg #[iv r4.1.b.1, iv r4.1.b.2]) r16 hx17 S1) rfl (lb rfl) fun _ a w S => ?_
  refine sNot (b := r16) S (wG 10 false 21 rfl rfl rfl hc15) rfl rfl rfl (lb rfl) fun a S => ?_
  refine sPickF (.bool (!r16)) S (wN rfl) rfl rfl hc15 rfl rfl (lb rfl) fun a S => ?_
  refine sMove (.bool (!r16)) S (wN rfl) (.inl rfl) rfl rfl (lb rfl) fun a S => ?_
  rcases iteSome h with ⟨hc18, h⟩ | ⟨hc18, h⟩
  · refine sSkip 18 false 29 30 S rfl rfl rfl hc18 rfl (lb rfl) fun a S => ?_
    refine sSkip 18 false 29 31 S rfl rfl rfl hc18 rfl (lb rfl) fun a S => ?_
    refine sSkip 18 false 29 32 S rfl rfl rfl hc18 rfl (lb rfl) fun a S => ?_
    refine sSkipU 21 true 32 33 S rfl rfl rfl rfl (lb rfl) fun a S => ?_
    refine sSkipU 21 true 32 34 S rfl rfl rfl rfl (lb rfl) fun a S => ?_
    refine sSkipU 21 true 32 35 S rfl rfl rfl rfl (lb rfl) fun a S => ?_
    refine sSkip 18 false 29 36 S rfl rfl rfl hc18 rfl (lb rfl) fun a S => ?_
    refine sPickT (.bool true) S (wN rfl) rfl rfl hc18 rfl rfl (lb rfl) fun a S => ?_
    exact leafL (leafT (⟨true, Option.some.inj h, S.fix [] [] (by decide) rfl rfl rfl⟩))
  refine sField (b := b2) (off := 0) 1 1 S (wG 18 false 29 rfl rfl rfl hc18) rfl rfl rfl rfl rfl (lb rfl) fun a S => ?_
  refine sLoad1 (p := b2) (off := 1) (T := 81) (vs := [.int .u8 p0.Kind, .bool p0.Purl, iv p0.A, iv p0.B]) 1 (.bool p0.Purl) S (wG 18 false 29 rfl rfl rfl hc18) rfl rfl rfl rfl rfl rfl (lb rfl) fun a S => ?_
  refine sMove (.bool p0.Purl) S (wG 18 false 29 rfl rfl rfl hc18) (.inl rfl) rfl rfl (lb rfl) fun a S => ?_
  rcases iteSome h with ⟨hc19, h⟩ | ⟨hc19, h⟩
  rotate_left
  · refine sSkip 21 true 32 33 S rfl rfl rfl hc19 rfl (lb rfl) fun a S => ?_
    refine sSkip 21 true 32 34 S rfl rfl rfl hc19 rfl (lb rfl) fun a S => ?_
    refine sSkip 21 true 32 35 S rfl rfl rfl hc19 rfl (lb rfl) fun a S => ?_
    refine sPickF (.bool false) S (wG 18 false 29 rfl rfl rfl hc18) rfl rfl hc19 rfl rfl (lb rfl) fun a S => ?_
    refine sPickF (.bool false) S (wN rfl) rfl rfl hc18 rfl rfl (lb rfl) fun a S => ?_
    exact leafL (leafT (⟨false, Option.some.inj h, S.fix [] [] (by decide) rfl rfl rfl⟩))
  refine sField (b := b7) (off := 0) 5 5 S (wG 21 true 32 rfl rfl rfl hc19) rfl rfl rfl rfl rfl (lb rfl) fun a S => ?_
  refine sLoad1 (p := b7) (off := 5) (T := 156) (vs := (gl_stitch_form r4.1)) 0 (.bool r4.1.sided) S (wG 21 true 32 rfl rfl rfl hc19) rfl rfl rfl rfl rfl rfl (lb rfl) fun a S => ?_
  refine sNot (b := r4.1.sided) S (wG 21 true 32 rfl rfl rfl hc19) rfl rfl rfl (lb rfl) fun a S => ?_
  refine sPickT (.bool (!r4.1.sided)) S (wG 18 false 29 rfl rfl rfl hc18) rfl rfl hc19 rfl rfl (lb rfl) fun a S => ?_
  refine sPickF (.bool (!r4.1.sided)) S (wN rfl) rfl rfl hc18 rfl rfl (lb rfl) fun a S => ?_
  exact leafL (leafT (⟨!r4.1.sided, Option.some.inj h, S.fix [] [] (by decide) rfl rfl rfl⟩))

end Go.Proofs.Ytffikfajljbmnaa
namespace Go.Proofs.Ytffikfajljbmnaa
open Go.RowKit
set_option linter.unusedVariables false

noncomputable def F_stitch_All_1 (p0 : api_Stitch) : Option Bool :=
  Option.bind (F_stitch_Check p0) fun r4 =>
  some (r4 != 0)
set_option maxHeartbeats 4000000 in
set_option maxRecDepth 100000 in
theorem c_stitch_All_1 (E : Nat → Prop) (w0 : World) (p0 : api_Stitch) (v0 : Value) (r : Bool) (h : F_stitch_All_1 p0 = some r) (S : St0 E [] w0 w0 [] [fRep r_api_Stitch (v0) p0]) :
    Calls Try.prog 87 #[v0] w0 (Ret (X := Unit) E [] w0 (fun _ => .bool r) (fun _ => []) (fun _ => [])) := by
  unfold F_stitch_All_1 at h
  obtain rfl : v0 = .agg #[.int .u8 p0.Kind, .bool p0.Purl, iv p0.A, iv p0.B] := S.know (i := 0) (e := fRep r_api_Stitch (v0) p0) rfl
  refine sEnter (args := [.agg #[.int .u8 p0.Kind, .bool p0.Purl, iv p0.A, iv p0.B]]) 6 Try.func87 rfl rfl (by simp) S (fun a S => ?_)
  refine sSeq (fun K1 hK1 => ?_)
  refine sRegion ?_
  refine sBox (v := .agg #[.int .u8 p0.Kind, .bool p0.Purl, iv p0.A, iv p0.B]) S (wN rfl) rfl rfl [.int .u8 p0.Kind, .bool p0.Purl, iv p0.A, iv p0.B] rfl rfl (lb rfl) fun a b2 w S => ?_
  refine sMove (.bool false) S (wN rfl) (.inr rfl) rfl rfl (lb rfl) fun a S => ?_
  refine leafL (leafT (hK1 _ _ ?_))
  refine sSeq (fun K3 hK3 => ?_)
  refine sRegion ?_
  refine sLoadN (p := b2) (off := 0) (T := 81) (vs := [.int .u8 p0.Kind, .bool p0.Purl, iv p0.A, iv p0.B]) 0 [.int .u8 p0.Kind, .bool p0.Purl, iv p0.A, iv p0.B] S (wN rfl) rfl rfl rfl rfl rfl rfl rfl (lb rfl) fun a S => ?_
  obtain ⟨r4, hx5, h⟩ := bindSome h
  have S1 := S.mem
  refine sCallQ (X := Unit) (f := 88) (vs := [.agg #[.int .u8 p0.Kind, .bool p0.Purl, iv p0.A, iv p0.B]]) (val := fun _ => iv r4) S (wN rfl) rfl callee88 rfl (S1.quiet [0] rfl) (fun E1 w1 S1 => c_stitch_Check E1 w1 p0 (.agg #[.int .u8 p0.Kind, .bool p0.Purl, iv p0.A, iv p0.B]) r4 hx5 S1) rfl (lb rfl) fun _ a w S => ?_
  refine sBin (.bool (r4 != 0)) S (wN rfl) rfl rfl rfl (bNe _ _ _ _ .i64 r4 0) rfl (lb rfl) fun a S => ?_
  refine sMove (.bool (r4 != 0)) S (wN rfl) (.inr rfl) rfl rfl (lb rfl) fun a S => ?_
  refine leafL (leafT (hK3 _ _ ?_))
  obtain rfl := Option.some.inj h
  exact wp_ret (sRet (.bool (r4 != 0)) S (rsl1 rfl (rvT (t := 2) (v := .bool (r4 != 0)) S rfl)) ⟨(), rfl, S.mem.sel [] [] (by decide) rfl rfl⟩)

end Go.Proofs.Ytffikfajljbmnaa
namespace Go.Proofs.Ytffikfajljbmnaa
open Go.RowKit
set_option linter.unusedVariables false

noncomputable def slices_IndexFunc___api_Stitch_api_Stitch__s0_l1 (p0 : (List api_Stitch)) : Int → Option (Int ⊕ (Int ⊕ Unit)) := fun s0 => match s0 with
  | s7 =>
    if decide (s7 < (p0.length : Int)) then
      Option.bind (idxO p0 s7) fun x17 =>
      Option.bind (F_stitch_All_1 x17) fun r22 =>
      if r22 then
        some (.inr (.inl s7))
      else
        some (.inl (w64 (s7 + 1)))
    else
      some (.inr (.inr ()))
noncomputable def F_slices_IndexFunc___api_Stitch_api_Stitch__s0 (p0 : (List api_Stitch)) : Option Int :=
  Option.bind (α := Unit ⊕ Int) (
    Option.bind (whileO (slices_IndexFunc___api_Stitch_api_Stitch__s0_l1 p0) 0) fun z0 => match z0 with
      | .inl z =>
        some (.inr z)
      | .inr _ =>
        some (.inl ())) fun z0 => match z0 with
    | .inl _ =>
      some (-1)
    | .inr z =>
      some z
set_option maxHeartbeats 4000000 in
set_option maxRecDepth 100000 in
theorem c_slices_IndexFunc___api_Stitch_api_Stitch__s0 (E : Nat → Prop) (w0 : World) (p0 : (List api_Stitch)) (v0 : Value) (r : Int) (h : F_slices_IndexFunc___api_Stitch_api_Stitch__s0 p0 = some r) (S : St0 E [] w0 w0 [] [fRep (rL r_api_Stitch) (v0) p0]) :
    Calls Try.prog 102 #[v0, .func (.func 87) #[] #[]] w0 (Ret (X := Unit) E [] w0 (fun _ => .int .i64 r) (fun _ => []) (fun _ => [])) := by
  unfold F_slices_IndexFunc___api_Stitch_api_Stitch__s0 at h
  obtain ⟨ad1, cp2, _, rfl, _⟩ := S.know (i := 0) (e := fRep (rL r_api_Stitch) (v0) p0) rfl
  refine sEnter (args := [.slice ad1 p0.length cp2, .func (.func 87) #[] #[]]) 19 Try.func102 rfl rfl (by simp) S (fun a S => ?_)
  refine sSeq (fun K3 hK3 => ?_)
  refine sRegion ?_
  refine sMove (iv 0) S (wN rfl) (.inr rfl) rfl rfl (lb rfl) fun a S => ?_
  refine leafL (leafT (hK3 _ _ ?_))
  obtain ⟨t4, h, g5⟩ := bindSome h
  refine sCut (fun a w => .inl () = t4 ∧ St [] E [] w0 19 a w [] [] []) ?_ (fun a w hI => ?_)
  rotate_left
  · obtain ⟨rfl, S⟩ := hI
    have h := g5
    clear g5
    try dsimp only at h
    refine sSeq (fun K26 hK26 => ?_)
    refine sRegion ?_
    refine sMove (iv (-1)) S (wN rfl) (.inr rfl) rfl rfl (lb rfl) fun a S => ?_
    refine leafL (leafT (hK26 _ _ ?_))
    obtain rfl := Option.some.inj h
    exact wp_ret (sRet (iv (-1)) S (rsl1 rfl (rvT (t := 4) (v := iv (-1)) S rfl)) ⟨(), rfl, S.mem.sel [] [] (by decide) rfl rfl⟩)
  refine sSeq (fun K6 hK6 => ?_)
  refine sRegion ?_
  refine sMove (.slice ad1 p0.length cp2) S (wN rfl) (.inl rfl) rfl rfl (lb rfl) fun a S => ?_
  refine sLen (ad := ad1) (m := p0.length) (c := cp2) S (wN rfl) rfl Try.underlying47 rfl rfl (lb rfl) fun a S => ?_
  refine sMove (iv 0) S (wN rfl) (.inl rfl) rfl rfl (lb rfl) fun a S => ?_
  refine leafL (leafT (hK6 _ _ ?_))
  refine wp_block ?_
  obtain ⟨t10, hl, g9⟩ := bindSome h
  refine sLoop hl (fun s0 a w => match s0 with | s7 => St [] E [] w0 19 a w [(0, .slice ad1 p0.length cp2), (1, .func (.func 87) #[] #[]), (7, iv (p0.length : Int)), (8, iv s7)] [] [fRep (rL r_api_Stitch) (.slice ad1 p0.length cp2) p0]) (S.fix [] [0] (by decide) rfl rfl rfl) ?_
  clear hl h
  intro s7 a w c0 hI h hu8
  unfold slices_IndexFunc___api_Stitch_api_Stitch__s0_l1 at h
  dsimp only at h hI
  have S := hI
  refine sSeq (fun K11 hK11 => ?_)
  refine sRegion ?_
  refine sBin (.bool (decide (s7 < (p0.length : Int)))) S (wN rfl) rfl rfl rfl (bLt _ _ _ _ .i64 s7 (p0.length : Int)) rfl (lb rfl) fun a S => ?_
  refine leafL (leafT (hK11 _ _ ?_))
  refine sSeq (fun K12 hK12 => ?_)
  rcases iteSome h with ⟨hc13, h⟩ | ⟨hc13, h⟩
  rotate_left
  · refine sCondF S rfl hc13 ?_
    obtain rfl := Option.some.inj h
    obtain rfl := hu8 _ rfl
    have h := g9
    clear g9
    try dsimp only at h
    exact wp_exit (xThen (xThen (xHit (leafT (⟨Option.some.inj h, S.fix [] [] (by decide) rfl rfl rfl⟩)))))
  refine sCondT S rfl hc13 ?_
  refine wp_skip (leafT (hK12 _ _ ?_))
  refine sSeq (fun K14 hK14 => ?_)
  refine wp_block ?_
  refine sSeq (fun K15 hK15 => ?_)
  refine sRegion ?_
  refine sMove (iv s7) S (wN rfl) (.inl rfl) rfl rfl (lb rfl) fun a S => ?_
  refine sMove (iv s7) S (wN rfl) (.inr rfl) rfl rfl (lb rfl) fun a S => ?_
  refine leafL (leafT (hK15 _ _ ?_))
  refine sSeq (fun K16 hK16 => ?_)
  refine sRegion ?_
  refine sMove (.func (.func 87) #[] #[]) S (wN rfl) (.inl rfl) rfl rfl (lb rfl) fun a S => ?_
  refine sMove (.slice ad1 p0.length cp2) S (wN rfl) (.inl rfl) rfl rfl (lb rfl) fun a S => ?_
  refine sMove (iv s7) S (wN rfl) (.inl rfl) rfl rfl (lb rfl) fun a S => ?_
  obtain ⟨x17, hx18, h⟩ := bindSome h
  obtain ⟨q19, hq20, S⟩ := pIdx (P := Try.prog) (r := r_api_Stitch) (v := .slice ad1 p0.length cp2) (xs := p0) (j := s7) 47 81 0 S Try.underlying47 rfl rfl hx18
  refine sIdxV (v := .slice ad1 p0.length cp2) (k := .i64) (j := s7) S (wN rfl) rfl rfl rfl hq20 rfl (lb rfl) fun a S => ?_
  obtain ⟨u21, S⟩ := pLoad (r := r_api_Stitch) (q := q19) (x := x17) 0 S rfl
  obtain rfl : u21 = .agg #[.int .u8 x17.Kind, .bool x17.Purl, iv x17.A, iv x17.B] := S.mem.know (i := 1) (e := fRep r_api_Stitch (u21) x17) rfl
  refine sLoadVN (vq := q19) 0 [.int .u8 x17.Kind, .bool x17.Purl, iv x17.A, iv x17.B] S (wN rfl) rfl rfl rfl rfl rfl rfl (lb rfl) fun a S => ?_
  obtain ⟨r22, hx23, h⟩ := bindSome h
  have S1 := S.mem
  refine sCallVQ (X := Unit) (g := 87) (vs := [.agg #[.int .u8 x17.Kind, .bool x17.Purl, iv x17.A, iv x17.B]]) (caps := []) (val := fun _ => .bool r22) S (wN rfl) rfl rfl callee87 rfl (S1.quiet [1] rfl) (fun E1 w1 S1 => c_stitch_All_1 E1 w1 x17 (.agg #[.int .u8 x17.Kind, .bool x17.Purl, iv x17.A, iv x17.B]) r22 hx23 S1) rfl (lb rfl) fun _ a w S => ?_
  refine leafL (leafT (hK16 _ _ ?_))
  rcases iteSome h with ⟨hc24, h⟩ | ⟨hc24, h⟩
  rotate_left
  · refine sCondF S rfl hc24 ?_
    refine wp_skip (leafB (leafT (hK14 _ _ ?_)))
    refine sRegion ?_
    refine sBin (iv (w64 (s7 + 1))) S (wN rfl) rfl rfl rfl (bAdd _ _ _ _ s7 1) rfl (lb rfl) fun a S => ?_
    refine sMove (iv (w64 (s7 + 1))) S (wN rfl) (.inl rfl) rfl rfl (lb rfl) fun a S => ?_
    exact leafL (leafT (⟨w64 (s7 + 1), (Option.some.inj h).symm, (S.fix [] [3] (by decide) rfl rfl rfl)⟩))
  refine sCondT S rfl hc24 ?_
  refine sSeq (fun K25 hK25 => ?_)
  refine sRegion ?_
  refine sMove (iv s7) S (wN rfl) (.inl rfl) rfl rfl (lb rfl) fun a S => ?_
  refine sMove (iv s7) S (wN rfl) (.inr rfl) rfl rfl (lb rfl) fun a S => ?_
  refine leafL (leafT (hK25 _ _ ?_))
  obtain rfl := Option.some.inj h
  obtain rfl := hu8 _ rfl
  have h := g9
  clear g9
  try dsimp only at h
  obtain rfl := Option.some.inj h
  have h := g5
  clear g5
  try dsimp only at h
  obtain rfl := Option.some.inj h
  exact wp_ret (rBlock (rThen (rThen (rBlock (rThen (sRet (iv s7) S (rsl1 rfl (rvT (t := 4) (v := iv s7) S rfl)) ⟨(), rfl, S.mem.sel [] [] (by decide) rfl rfl⟩))))))

end Go.Proofs.Ytffikfajljbmnaa
namespace Go.Proofs.Ytffikfajljbmnaa
open Go.RowKit
set_option linter.unusedVariables false

noncomputable def F_slices_ContainsFunc___api_Stitch_api_Stitch__s0 (p0 : (List api_Stitch)) : Option Bool :=
  Option.bind (F_slices_IndexFunc___api_Stitch_api_Stitch__s0 p0) fun r5 =>
  some (decide (0 ≤ r5))
set_option maxHeartbeats 4000000 in
set_option maxRecDepth 100000 in
theorem c_slices_ContainsFunc___api_Stitch_api_Stitch__s0 (E : Nat → Prop) (w0 : World) (p0 : (List api_Stitch)) (v0 : Value) (r : Bool) (h : F_slices_ContainsFunc___api_Stitch_api_Stitch__s0 p0 = some r) (S : St0 E [] w0 w0 [] [fRep (rL r_api_Stitch) (v0) p0]) :
    Calls Try.prog 86 #[v0, .func (.func 87) #[] #[]] w0 (Ret (X := Unit) E [] w0 (fun _ => .bool r) (fun _ => []) (fun _ => [])) := by
  unfold F_slices_ContainsFunc___api_Stitch_api_Stitch__s0 at h
  obtain ⟨ad1, cp2, _, rfl, _⟩ := S.know (i := 0) (e := fRep (rL r_api_Stitch) (v0) p0) rfl
  refine sEnter (args := [.slice ad1 p0.length cp2, .func (.func 87) #[] #[]]) 9 Try.func86 rfl rfl (by simp) S (fun a S => ?_)
  refine sSeq (fun K3 hK3 => ?_)
  refine sRegion ?_
  refine sMove (.bool false) S (wN rfl) (.inr rfl) rfl rfl (lb rfl) fun a S => ?_
  refine leafL (leafT (hK3 _ _ ?_))
  refine sSeq (fun K4 hK4 => ?_)
  refine sRegion ?_
  refine sMove (.slice ad1 p0.length cp2) S (wN rfl) (.inl rfl) rfl rfl (lb rfl) fun a S => ?_
  refine sMove (.func (.func 87) #[] #[]) S (wN rfl) (.inl rfl) rfl rfl (lb rfl) fun a S => ?_
  obtain ⟨r5, hx6, h⟩ := bindSome h
  have S1 := S.mem
  refine sCallQ (X := Unit) (f := 102) (vs := [.slice ad1 p0.length cp2, .func (.func 87) #[] #[]]) (val := fun _ => iv r5) S (wN rfl) rfl callee102 rfl (S1.quiet [0] rfl) (fun E1 w1 S1 => c_slices_IndexFunc___api_Stitch_api_Stitch__s0 E1 w1 p0 (.slice ad1 p0.length cp2) r5 hx6 S1) rfl (lb rfl) fun _ a w S => ?_
  refine sBin (.bool (decide (0 ≤ r5))) S (wN rfl) rfl rfl rfl (bGe _ _ _ _ .i64 r5 0) rfl (lb rfl) fun a S => ?_
  refine sMove (.bool (decide (0 ≤ r5))) S (wN rfl) (.inr rfl) rfl rfl (lb rfl) fun a S => ?_
  refine leafL (leafT (hK4 _ _ ?_))
  obtain rfl := Option.some.inj h
  exact wp_ret (sRet (.bool (decide (0 ≤ r5))) S (rsl1 rfl (rvT (t := 4) (v := .bool (decide (0 ≤ r5))) S rfl)) ⟨(), rfl, S.mem.sel [] [] (by decide) rfl rfl⟩)

end Go.Proofs.Ytffikfajljbmnaa
namespace Go.Proofs.Ytffikfajljbmnaa
open Go.RowKit
set_option linter.unusedVariables false

noncomputable def F_stitch_loops (p0 : api_Stitch) (p1 : Int) : Option Int :=
  Option.bind (idxO ([0, 1, p0.A, w64 (p0.A + p0.B)] : List Int) p1) fun x4 =>
  some x4
set_option maxHeartbeats 4000000 in
set_option maxRecDepth 100000 in
theorem c_stitch_loops (E : Nat → Prop) (w0 : World) (p0 : api_Stitch) (v0 : Value) (p1 : Int) (r : Int) (h : F_stitch_loops p0 p1 = some r) (S : St0 E [] w0 w0 [] [fRep r_api_Stitch (v0) p0]) :
    Calls Try.prog 105 #[v0, iv p1] w0 (Ret (X := Unit) E [] w0 (fun _ => .int .i64 r) (fun _ => []) (fun _ => [])) := by
  unfold F_stitch_loops at h
  obtain rfl : v0 = .agg #[.int .u8 p0.Kind, .bool p0.Purl, iv p0.A, iv p0.B] := S.know (i := 0) (e := fRep r_api_Stitch (v0) p0) rfl
  refine sEnter (args := [.agg #[.int .u8 p0.Kind, .bool p0.Purl, iv p0.A, iv p0.B], iv p1]) 15 Try.func105 rfl rfl (by simp) S (fun a S => ?_)
  refine sSeq (fun K1 hK1 => ?_)
  refine sRegion ?_
  refine sBox (v := .agg #[.int .u8 p0.Kind, .bool p0.Purl, iv p0.A, iv p0.B]) S (wN rfl) rfl rfl [.int .u8 p0.Kind, .bool p0.Purl, iv p0.A, iv p0.B] rfl rfl (lb rfl) fun a b2 w S => ?_
  refine sMove (iv 0) S (wN rfl) (.inr rfl) rfl rfl (lb rfl) fun a S => ?_
  refine leafL (leafT (hK1 _ _ ?_))
  refine sSeq (fun K3 hK3 => ?_)
  refine sRegion ?_
  refine sField (b := b2) (off := 0) 2 2 S (wN rfl) rfl rfl rfl rfl rfl (lb rfl) fun a S => ?_
  refine sLoad1 (p := b2) (off := 2) (T := 81) (vs := [.int .u8 p0.Kind, .bool p0.Purl, iv p0.A, iv p0.B]) 0 (iv p0.A) S (wN rfl) rfl rfl rfl rfl rfl rfl (lb rfl) fun a S => ?_
  refine sField (b := b2) (off := 0) 2 2 S (wN rfl) rfl rfl rfl rfl rfl (lb rfl) fun a S => ?_
  refine sLoad1 (p := b2) (off := 2) (T := 81) (vs := [.int .u8 p0.Kind, .bool p0.Purl, iv p0.A, iv p0.B]) 0 (iv p0.A) S (wN rfl) rfl rfl rfl rfl rfl rfl (lb rfl) fun a S => ?_
  refine sField (b := b2) (off := 0) 3 3 S (wN rfl) rfl rfl rfl rfl rfl (lb rfl) fun a S => ?_
  refine sLoad1 (p := b2) (off := 3) (T := 81) (vs := [.int .u8 p0.Kind, .bool p0.Purl, iv p0.A, iv p0.B]) 0 (iv p0.B) S (wN rfl) rfl rfl rfl rfl rfl rfl (lb rfl) fun a S => ?_
  refine sBin (iv (w64 (p0.A + p0.B))) S (wN rfl) rfl rfl rfl (bAdd _ _ _ _ p0.A p0.B) rfl (lb rfl) fun a S => ?_
  refine sBuild [(0, iv 0), (1, iv 1), (2, iv p0.A), (3, iv (w64 (p0.A + p0.B)))] [iv 0, iv 1, iv p0.A, iv (w64 (p0.A + p0.B))] S (wN rfl) rfl rfl rfl rfl (lb rfl) fun a S => ?_
  refine sMove (iv p1) S (wN rfl) (.inl rfl) rfl rfl (lb rfl) fun a S => ?_
  obtain ⟨x4, hx5, h⟩ := bindSome h
  refine sIndexA (g := fun z => .int .i64 z) (xs := ([0, 1, p0.A, w64 (p0.A + p0.B)] : List Int)) (j := p1) (k := .i64) 4 [iv 0, iv 1, iv p0.A, iv (w64 (p0.A + p0.B))] S (wN rfl) rfl Try.underlying129 rfl rfl rfl rfl rfl rfl hx5 rfl (lb rfl) fun a S => ?_
  refine sMove (iv x4) S (wN rfl) (.inr rfl) rfl rfl (lb rfl) fun a S => ?_
  refine leafL (leafT (hK3 _ _ ?_))
  obtain rfl := Option.some.inj h
  exact wp_ret (sRet (iv x4) S (rsl1 rfl (rvT (t := 4) (v := iv x4) S rfl)) ⟨(), rfl, S.mem.sel [] [] (by decide) rfl rfl⟩)

end Go.Proofs.Ytffikfajljbmnaa
namespace Go.Proofs.Ytffikfajljbmnaa
open Go.RowKit
set_option linter.unusedVariables false

noncomputable def stitch_sum_l1 (p0 : (List api_Stitch)) : (Int × Int × Int) → Option ((Int × Int × Int) ⊕ (Int × Int)) := fun s0 => match s0 with
  | (s9, s10, s11) =>
    if decide (s11 < (p0.length : Int)) then
      Option.bind (idxO p0 s11) fun x22 =>
      Option.bind (F_stitch_forms x22.Kind) fun r29 =>
      Option.bind (F_stitch_loops x22 r29.1.uses) fun r34 =>
      Option.bind (F_stitch_loops x22 r29.1.made) fun r36 =>
      some (.inl (w64 (s9 + r34), w64 (s10 + r36), w64 (s11 + 1)))
    else
      some (.inr (s9, s10))
noncomputable def F_stitch_sum (p0 : (List api_Stitch)) : Option (Int × Int) :=
  Option.bind (α := (Int × Int)) (
    Option.bind (whileO (stitch_sum_l1 p0) (0, 0, 0)) fun (e15, e16) =>
      some (e15, e16)) fun (o4, o5) =>
  some (o4, o5)
set_option maxHeartbeats 4000000 in
set_option maxRecDepth 100000 in
theorem c_stitch_sum (E : Nat → Prop) (w0 : World) (p0 : (List api_Stitch)) (v0 : Value) (r : (Int × Int)) (h : F_stitch_sum p0 = some r) (S : St0 E [] w0 w0 [] [fRep (rL r_api_Stitch) (v0) p0]) :
    Calls Try.prog 89 #[v0] w0 (Ret (X := Unit) E [] w0 (fun _ => .tuple #[.int .i64 r.1, .int .i64 r.2]) (fun _ => []) (fun _ => [])) := by
  unfold F_stitch_sum at h
  obtain ⟨ad1, cp2, _, rfl, _⟩ := S.know (i := 0) (e := fRep (rL r_api_Stitch) (v0) p0) rfl
  refine sEnter (args := [.slice ad1 p0.length cp2]) 35 Try.func89 rfl rfl (by simp) S (fun a S => ?_)
  refine sSeq (fun K3 hK3 => ?_)
  refine sRegion ?_
  refine sMove (iv 0) S (wN rfl) (.inr rfl) rfl rfl (lb rfl) fun a S => ?_
  refine sMove (iv 0) S (wN rfl) (.inr rfl) rfl rfl (lb rfl) fun a S => ?_
  refine leafL (leafT (hK3 _ _ ?_))
  obtain ⟨t6, h, g7⟩ := bindSome h
  refine sCut (fun a w => ∃ o4, ∃ o5, (o4, o5) = t6 ∧ St [] E [] w0 35 a w [(2, iv o4), (3, iv o5)] [] []) ?_ (fun a w hI => ?_)
  rotate_left
  · obtain ⟨o4, o5, rfl, S⟩ := hI
    have h := g7
    clear g7
    try dsimp only at h
    refine sSeq (fun K38 hK38 => ?_)
    refine sRegion ?_
    refine sMove (iv o4) S (wN rfl) (.inl rfl) rfl rfl (lb rfl) fun a S => ?_
    refine sMove (iv o5) S (wN rfl) (.inl rfl) rfl rfl (lb rfl) fun a S => ?_
    refine sMove (iv o4) S (wN rfl) (.inr rfl) rfl rfl (lb rfl) fun a S => ?_
    refine sMove (iv o5) S (wN rfl) (.inr rfl) rfl rfl (lb rfl) fun a S => ?_
    refine leafL (leafT (hK38 _ _ ?_))
    obtain rfl := Option.some.inj h
    exact wp_ret (sRet (.tuple #[iv o4, iv o5]) S (rsl2 rfl (rvT (t := 2) (v := iv o4) S rfl) (rvT (t := 3) (v := iv o5) S rfl)) ⟨(), rfl, S.mem.sel [] [] (by decide) rfl rfl⟩)
  refine sSeq (fun K8 hK8 => ?_)
  refine sRegion ?_
  refine sMove (.slice ad1 p0.length cp2) S (wN rfl) (.inl rfl) rfl rfl (lb rfl) fun a S => ?_
  refine sLen (ad := ad1) (m := p0.length) (c := cp2) S (wN rfl) rfl Try.underlying47 rfl rfl (lb rfl) fun a S => ?_
  refine sMove (iv 0) S (wN rfl) (.inl rfl) rfl rfl (lb rfl) fun a S => ?_
  refine leafL (leafT (hK8 _ _ ?_))
  refine wp_block ?_
  obtain ⟨t14, hl, g13⟩ := bindSome h
  refine sLoop hl (fun s0 a w => match s0 with | (s9, s10, s11) => St [] E [] w0 35 a w [(2, iv s9), (3, iv s10), (8, .slice ad1 p0.length cp2), (9, iv (p0.length : Int)), (10, iv s11)] [] [fRep (rL r_api_Stitch) (.slice ad1 p0.length cp2) p0]) (S.fix [] [0] (by decide) rfl rfl rfl) ?_
  clear hl h
  intro s0 a w c0 hI h hu12
  obtain ⟨s9, s10, s11⟩ := s0
  unfold stitch_sum_l1 at h
  dsimp only at h hI
  have S := hI
  refine sSeq (fun K17 hK17 => ?_)
  refine sRegion ?_
  refine sBin (.bool (decide (s11 < (p0.length : Int)))) S (wN rfl) rfl rfl rfl (bLt _ _ _ _ .i64 s11 (p0.length : Int)) rfl (lb rfl) fun a S => ?_
  refine leafL (leafT (hK17 _ _ ?_))
  refine sSeq (fun K18 hK18 => ?_)
  rcases iteSome h with ⟨hc19, h⟩ | ⟨hc19, h⟩
  rotate_left
  · refine sCondF S rfl hc19 ?_
    obtain rfl := Option.some.inj h
    obtain rfl := hu12 _ rfl
    have h := g13
    clear g13
    try dsimp only at h
    exact wp_exit (xThen (xThen (xHit (leafT (⟨s9, s10, Option.some.inj h, S.fix [] [] (by decide) rfl rfl rfl⟩)))))
  refine sCondT S rfl hc19 ?_
  refine wp_skip (leafT (hK18 _ _ ?_))
  refine sSeq (fun K20 hK20 => ?_)
  refine wp_block ?_
  refine sSeq (fun K21 hK21 => ?_)
  refine sRegion ?_
  obtain ⟨x22, hx23, h⟩ := bindSome h
  obtain ⟨q24, hq25, S⟩ := pIdx (P := Try.prog) (r := r_api_Stitch) (v := .slice ad1 p0.length cp2) (xs := p0) (j := s11) 47 81 0 S Try.underlying47 rfl rfl hx23
  refine sIdxV (v := .slice ad1 p0.length cp2) (k := .i64) (j := s11) S (wN rfl) rfl rfl rfl hq25 rfl (lb rfl) fun a S => ?_
  obtain ⟨u26, S⟩ := pLoad (r := r_api_Stitch) (q := q24) (x := x22) 0 S rfl
  obtain rfl : u26 = .agg #[.int .u8 x22.Kind, .bool x22.Purl, iv x22.A, iv x22.B] := S.mem.know (i := 1) (e := fRep r_api_Stitch (u26) x22) rfl
  refine sLoadVN (vq := q24) 0 [.int .u8 x22.Kind, .bool x22.Purl, iv x22.A, iv x22.B] S (wN rfl) rfl rfl rfl rfl rfl rfl (lb rfl) fun a S => ?_
  refine sAlloc (.agg #[.int .u8 0, .bool false, iv 0, iv 0]) S (wN rfl) rfl rfl [.int .u8 0, .bool false, iv 0, iv 0] rfl rfl (lb rfl) fun a b27 w S => ?_
  refine sStore (p := b27) (off := 0) (T := 81) (vs := [.int .u8 0, .bool false, iv 0, iv 0]) (v := .agg #[.int .u8 x22.Kind, .bool x22.Purl, iv x22.A, iv x22.B]) 0 [.int .u8 x22.Kind, .bool x22.Purl, iv x22.A, iv x22.B] S (wN rfl) rfl rfl rfl rfl rfl rfl rfl (by simp) rfl fun a w S => ?_
  refine leafL (leafT (hK21 _ _ ?_))
  refine sSeq (fun K28 hK28 => ?_)
  refine sRegion ?_
  refine sField (b := b27) (off := 0) 0 0 S (wN rfl) rfl rfl rfl rfl rfl (lb rfl) fun a S => ?_
  refine sLoad1 (p := b27) (off := 0) (T := 81) (vs := [.int .u8 x22.Kind, .bool x22.Purl, iv x22.A, iv x22.B]) 0 (.int .u8 x22.Kind) S (wN rfl) rfl rfl rfl rfl rfl rfl (lb rfl) fun a S => ?_
  obtain ⟨r29, hx30, h⟩ := bindSome h
  refine sCall (X := Value) (f := 103) (vs := [.int .u8 x22.Kind]) (val := c_stitch_forms_val r29) (B' := fun _ => []) (D' := c_stitch_forms_D r29) [] [eBox b27 81 [.int .u8 x22.Kind, .bool x22.Purl, iv x22.A, iv x22.B]] [] [0] [] S (wN rfl) rfl callee103 rfl (by decide) rfl rfl (fun E1 w1 S1 => c_stitch_forms E1 w1 x22.Kind r29 hx30 S1) rfl (lb rfl) fun u31 a w S => ?_
  obtain rfl : u31 = gv_stitch_form r29.1 := S.mem.know (i := 0) (e := fRep r_stitch_form (u31) r29.1) rfl
  refine sMove (.tuple #[gv_stitch_form r29.1, .bool r29.2]) S (wN rfl) (.inl rfl) rfl rfl (lb rfl) fun a S => ?_
  refine sExtract (vs := [gv_stitch_form r29.1, .bool r29.2]) (gv_stitch_form r29.1) S (wN rfl) rfl rfl rfl rfl (lb rfl) fun a S => ?_
  refine sExtract (vs := [gv_stitch_form r29.1, .bool r29.2]) (.bool r29.2) S (wN rfl) rfl rfl rfl rfl (lb rfl) fun a S => ?_
  refine sAlloc (gv_stitch_form (stitch_form.mk (⟨#[]⟩ : ByteArray) (0, 0) (0, 0) false 0 0)) S (wN rfl) rfl rfl (gl_stitch_form (stitch_form.mk (⟨#[]⟩ : ByteArray) (0, 0) (0, 0) false 0 0)) rfl rfl (lb rfl) fun a b32 w S => ?_
  refine sStore (p := b32) (off := 0) (T := 156) (vs := [.string (⟨#[]⟩ : ByteArray), iv 0, iv 0, iv 0, iv 0, .bool false, iv 0, iv 0]) (v := gv_stitch_form r29.1) 0 [.string r29.1.letter, iv r29.1.a.1, iv r29.1.a.2, iv r29.1.b.1, iv r29.1.b.2, .bool r29.1.sided, iv r29.1.uses, iv r29.1.made] S (wN rfl) rfl rfl rfl rfl rfl rfl rfl (by simp) rfl fun a w S => ?_
  refine sMove (.bool r29.2) S (wN rfl) (.inr rfl) rfl rfl (lb rfl) fun a S => ?_
  refine leafL (leafT (hK28 _ _ ?_))
  refine sSeq (fun K33 hK33 => ?_)
  refine sRegion ?_
  refine sMove (iv s9) S (wN rfl) (.inl rfl) rfl rfl (lb rfl) fun a S => ?_
  refine sLoadN (p := b27) (off := 0) (T := 81) (vs := [.int .u8 x22.Kind, .bool x22.Purl, iv x22.A, iv x22.B]) 1 [.int .u8 x22.Kind, .bool x22.Purl, iv x22.A, iv x22.B] S (wN rfl) rfl rfl rfl rfl rfl rfl rfl (lb rfl) fun a S => ?_
  refine sField (b := b32) (off := 0) 6 6 S (wN rfl) rfl rfl rfl rfl rfl (lb rfl) fun a S => ?_
  refine sLoad1 (p := b32) (off := 6) (T := 156) (vs := (gl_stitch_form r29.1)) 0 (iv r29.1.uses) S (wN rfl) rfl rfl rfl rfl rfl rfl (lb rfl) fun a S => ?_
  obtain ⟨r34, hx35, h⟩ := bindSome h
  have S1 := S.mem
  refine sCallQ (X := Unit) (f := 105) (vs := [.agg #[.int .u8 x22.Kind, .bool x22.Purl, iv x22.A, iv x22.B], iv r29.1.uses]) (val := fun _ => iv r34) S (wN rfl) rfl callee105 rfl (S1.quiet [2] rfl) (fun E1 w1 S1 => c_stitch_loops E1 w1 x22 (.agg #[.int .u8 x22.Kind, .bool x22.Purl, iv x22.A, iv x22.B]) r29.1.uses r34 hx35 S1) rfl (lb rfl) fun _ a w S => ?_
  refine sBin (iv (w64 (s9 + r34))) S (wN rfl) rfl rfl rfl (bAdd _ _ _ _ s9 r34) rfl (lb rfl) fun a S => ?_
  refine sMove (iv (w64 (s9 + r34))) S (wN rfl) (.inr rfl) rfl rfl (lb rfl) fun a S => ?_
  refine leafL (leafT (hK33 _ _ ?_))
  refine sRegion ?_
  refine sMove (iv s10) S (wN rfl) (.inl rfl) rfl rfl (lb rfl) fun a S => ?_
  refine sLoadN (p := b27) (off := 0) (T := 81) (vs := [.int .u8 x22.Kind, .bool x22.Purl, iv x22.A, iv x22.B]) 1 [.int .u8 x22.Kind, .bool x22.Purl, iv x22.A, iv x22.B] S (wN rfl) rfl rfl rfl rfl rfl rfl rfl (lb rfl) fun a S => ?_
  refine sField (b := b32) (off := 0) 7 7 S (wN rfl) rfl rfl rfl rfl rfl (lb rfl) fun a S => ?_
  refine sLoad1 (p := b32) (off := 7) (T := 156) (vs := (gl_stitch_form r29.1)) 0 (iv r29.1.made) S (wN rfl) rfl rfl rfl rfl rfl rfl (lb rfl) fun a S => ?_
  obtain ⟨r36, hx37, h⟩ := bindSome h
  have S1 := S.mem
  refine sCallQ (X := Unit) (f := 105) (vs := [.agg #[.int .u8 x22.Kind, .bool x22.Purl, iv x22.A, iv x22.B], iv r29.1.made]) (val := fun _ => iv r36) S (wN rfl) rfl callee105 rfl (S1.quiet [2] rfl) (fun E1 w1 S1 => c_stitch_loops E1 w1 x22 (.agg #[.int .u8 x22.Kind, .bool x22.Purl, iv x22.A, iv x22.B]) r29.1.made r36 hx37 S1) rfl (lb rfl) fun _ a w S => ?_
  refine sBin (iv (w64 (s10 + r36))) S (wN rfl) rfl rfl rfl (bAdd _ _ _ _ s10 r36) rfl (lb rfl) fun a S => ?_
  refine sMove (iv (w64 (s10 + r36))) S (wN rfl) (.inr rfl) rfl rfl (lb rfl) fun a S => ?_
  refine leafL (leafB (leafT (hK20 _ _ ?_)))
  refine sRegion ?_
  refine sBin (iv (w64 (s11 + 1))) S (wN rfl) rfl rfl rfl (bAdd _ _ _ _ s11 1) rfl (lb rfl) fun a S => ?_
  refine sMove (iv (w64 (s11 + 1))) S (wN rfl) (.inl rfl) rfl rfl (lb rfl) fun a S => ?_
  exact leafL (leafT (⟨(w64 (s9 + r34), w64 (s10 + r36), w64 (s11 + 1)), (Option.some.inj h).symm, (S.fix [] [4] (by decide) rfl rfl rfl)⟩))

end Go.Proofs.Ytffikfajljbmnaa
namespace Go.Proofs.Ytffikfajljbmnaa
open Go.RowKit
set_option linter.unusedVariables false

noncomputable def F_stitch_All (p0 : (List api_Stitch)) : Option Int :=
  if decide (200 < (p0.length : Int)) then
    some 4
  else
    Option.bind (F_slices_ContainsFunc___api_Stitch_api_Stitch__s0 p0) fun r10 =>
    if r10 then
      some 8
    else
      Option.bind (F_stitch_sum p0) fun r16 =>
      if decide (200 < (if r16.1 < r16.2 then r16.2 else r16.1)) then
        some 4
      else
        some 0
set_option maxHeartbeats 4000000 in
set_option maxRecDepth 100000 in
theorem c_stitch_All (E : Nat → Prop) (w0 : World) (p0 : (List api_Stitch)) (v0 : Value) (r : Int) (h : F_stitch_All p0 = some r) (S : St0 E [] w0 w0 [] [fRep (rL r_api_Stitch) (v0) p0]) :
    Calls Try.prog 56 #[v0] w0 (Ret (X := Unit) E [] w0 (fun _ => .int .i64 r) (fun _ => []) (fun _ => [])) := by
  unfold F_stitch_All at h
  obtain ⟨ad1, cp2, _, rfl, _⟩ := S.know (i := 0) (e := fRep (rL r_api_Stitch) (v0) p0) rfl
  refine sEnter (args := [.slice ad1 p0.length cp2]) 19 Try.func56 rfl rfl (by simp) S (fun a S => ?_)
  refine sSeq (fun K3 hK3 => ?_)
  refine sRegion ?_
  refine sMove (iv 0) S (wN rfl) (.inr rfl) rfl rfl (lb rfl) fun a S => ?_
  refine leafL (leafT (hK3 _ _ ?_))
  refine sSeq (fun K4 hK4 => ?_)
  refine sSeq (fun K5 hK5 => ?_)
  refine sRegion ?_
  refine sMove (.slice ad1 p0.length cp2) S (wN rfl) (.inl rfl) rfl rfl (lb rfl) fun a S => ?_
  refine sLen (ad := ad1) (m := p0.length) (c := cp2) S (wN rfl) rfl Try.underlying47 rfl rfl (lb rfl) fun a S => ?_
  refine sBin (.bool (decide (200 < (p0.length : Int)))) S (wN rfl) rfl rfl rfl (bGt _ _ _ _ .i64 (p0.length : Int) 200) rfl (lb rfl) fun a S => ?_
  refine leafL (leafT (hK5 _ _ ?_))
  rcases iteSome h with ⟨hc6, h⟩ | ⟨hc6, h⟩
  · refine sCondT S rfl hc6 ?_
    refine sSeq (fun K7 hK7 => ?_)
    refine sRegion ?_
    refine sMove (iv 4) S (wN rfl) (.inr rfl) rfl rfl (lb rfl) fun a S => ?_
    refine leafL (leafT (hK7 _ _ ?_))
    obtain rfl := Option.some.inj h
    exact wp_ret (rThen (sRet (iv 4) S (rsl1 rfl (rvT (t := 2) (v := iv 4) S rfl)) ⟨(), rfl, S.mem.sel [] [] (by decide) rfl rfl⟩))
  refine sCondF S rfl hc6 ?_
  refine wp_skip (leafT (hK4 _ _ ?_))
  refine sSeq (fun K8 hK8 => ?_)
  refine sSeq (fun K9 hK9 => ?_)
  refine sRegion ?_
  refine sMove (.slice ad1 p0.length cp2) S (wN rfl) (.inl rfl) rfl rfl (lb rfl) fun a S => ?_
  obtain ⟨r10, hx11, h⟩ := bindSome h
  have S1 := S.mem
  refine sCallQ (X := Unit) (f := 86) (vs := [.slice ad1 p0.length cp2, .func (.func 87) #[] #[]]) (val := fun _ => .bool r10) S (wN rfl) rfl callee86 rfl (S1.quiet [0] rfl) (fun E1 w1 S1 => c_slices_ContainsFunc___api_Stitch_api_Stitch__s0 E1 w1 p0 (.slice ad1 p0.length cp2) r10 hx11 S1) rfl (lb rfl) fun _ a w S => ?_
  refine leafL (leafT (hK9 _ _ ?_))
  rcases iteSome h with ⟨hc12, h⟩ | ⟨hc12, h⟩
  · refine sCondT S rfl hc12 ?_
    refine sSeq (fun K13 hK13 => ?_)
    refine sRegion ?_
    refine sMove (iv 8) S (wN rfl) (.inr rfl) rfl rfl (lb rfl) fun a S => ?_
    refine leafL (leafT (hK13 _ _ ?_))
    obtain rfl := Option.some.inj h
    exact wp_ret (rThen (sRet (iv 8) S (rsl1 rfl (rvT (t := 2) (v := iv 8) S rfl)) ⟨(), rfl, S.mem.sel [] [] (by decide) rfl rfl⟩))
  refine sCondF S rfl hc12 ?_
  refine wp_skip (leafT (hK8 _ _ ?_))
  refine sSeq (fun K14 hK14 => ?_)
  refine sSeq (fun K15 hK15 => ?_)
  refine sRegion ?_
  refine sMove (.slice ad1 p0.length cp2) S (wN rfl) (.inl rfl) rfl rfl (lb rfl) fun a S => ?_
  obtain ⟨r16, hx17, h⟩ := bindSome h
  have S1 := S.mem
  refine sCallQ (X := Unit) (f := 89) (vs := [.slice ad1 p0.length cp2]) (val := fun _ => .tuple #[iv r16.1, iv r16.2]) S (wN rfl) rfl callee89 rfl (S1.quiet [0] rfl) (fun E1 w1 S1 => c_stitch_sum E1 w1 p0 (.slice ad1 p0.length cp2) r16 hx17 S1) rfl (lb rfl) fun _ a w S => ?_
  refine sMove (.tuple #[iv r16.1, iv r16.2]) S (wN rfl) (.inl rfl) rfl rfl (lb rfl) fun a S => ?_
  refine sExtract (vs := [iv r16.1, iv r16.2]) (iv r16.1) S (wN rfl) rfl rfl rfl rfl (lb rfl) fun a S => ?_
  refine sExtract (vs := [iv r16.1, iv r16.2]) (iv r16.2) S (wN rfl) rfl rfl rfl rfl (lb rfl) fun a S => ?_
  refine sMove (iv r16.1) S (wN rfl) (.inr rfl) rfl rfl (lb rfl) fun a S => ?_
  refine sMove (iv r16.2) S (wN rfl) (.inr rfl) rfl rfl (lb rfl) fun a S => ?_
  refine leafL (leafT (hK15 _ _ ?_))
  refine sSeq (fun K18 hK18 => ?_)
  refine sRegion ?_
  refine sMove (iv r16.1) S (wN rfl) (.inl rfl) rfl rfl (lb rfl) fun a S => ?_
  refine sMove (iv r16.2) S (wN rfl) (.inl rfl) rfl rfl (lb rfl) fun a S => ?_
  refine sMax2 (p := r16.1) (q := r16.2) S (wN rfl) rfl rfl rfl rfl (lb rfl) fun a S => ?_
  refine sBin (.bool (decide (200 < (if r16.1 < r16.2 then r16.2 else r16.1)))) S (wN rfl) rfl rfl rfl (bGt _ _ _ _ .i64 (if r16.1 < r16.2 then r16.2 else r16.1) 200) rfl (lb rfl) fun a S => ?_
  refine leafL (leafT (hK18 _ _ ?_))
  rcases iteSome h with ⟨hc19, h⟩ | ⟨hc19, h⟩
  · refine sCondT S rfl hc19 ?_
    refine sSeq (fun K20 hK20 => ?_)
    refine sRegion ?_
    refine sMove (iv 4) S (wN rfl) (.inr rfl) rfl rfl (lb rfl) fun a S => ?_
    refine leafL (leafT (hK20 _ _ ?_))
    obtain rfl := Option.some.inj h
    exact wp_ret (rThen (sRet (iv 4) S (rsl1 rfl (rvT (t := 2) (v := iv 4) S rfl)) ⟨(), rfl, S.mem.sel [] [] (by decide) rfl rfl⟩))
  refine sCondF S rfl hc19 ?_
  refine wp_skip (leafT (hK14 _ _ ?_))
  refine sSeq (fun K21 hK21 => ?_)
  refine sRegion ?_
  refine sMove (iv 0) S (wN rfl) (.inr rfl) rfl rfl (lb rfl) fun a S => ?_
  refine leafL (leafT (hK21 _ _ ?_))
  obtain rfl := Option.some.inj h
  exact wp_ret (sRet (iv 0) S (rsl1 rfl (rvT (t := 2) (v := iv 0) S rfl)) ⟨(), rfl, S.mem.sel [] [] (by decide) rfl rfl⟩)

end Go.Proofs.Ytffikfajljbmnaa
namespace Go.Proofs.Ytffikfajljbmnaa
open Go.RowKit
set_option linter.unusedVariables false

noncomputable def F_raddleref25_Check (p0 : api_Stitch) : Option Int :=
  Option.bind (α := Bool) (
    if p0.A == 0 then
      some (p0.B == 0)
    else
      some false) fun o3 =>
  Option.bind (α := Bool) (
    Option.bind (α := Bool) (
      if p0.Kind == 1 then
        some (p0.Kind == 1)
      else
        some (p0.Kind == 8)) fun o12 =>
    if o12 then
      some o3
    else
      if p0.Kind == 2 then
        if o3 then
          some (!p0.Purl)
        else
          some false
      else
        Option.bind (α := Bool) (
          if p0.Kind == 3 then
            some (p0.Kind == 3)
          else
            if p0.Kind == 4 then
              some (p0.Kind == 4)
            else
              some (p0.Kind == 5)) fun o21 =>
        if o21 then
          if p0.B == 0 then
            if decide (2 ≤ p0.A) then
              some (decide (p0.A ≤ 4))
            else
              some false
          else
            some false
        else
          Option.bind (α := Bool) (
            if p0.Kind == 6 then
              some (p0.Kind == 6)
            else
              some (p0.Kind == 7)) fun o31 =>
          if o31 then
            if decide (1 ≤ p0.A) then
              if decide (p0.A ≤ 6) then
                if decide (1 ≤ p0.B) then
                  some (decide (p0.B ≤ 6))
                else
                  some false
              else
                some false
            else
              some false
          else
            if p0.Kind == 9 then
              if p0.B == 0 then
                if !p0.Purl then
                  if decide (1 ≤ p0.A) then
                    some (decide (p0.A ≤ 200))
                  else
                    some false
                else
                  some false
              else
                some false
            else
              if p0.Kind == 10 then
                if p0.B == 0 then
                  if decide (1 ≤ p0.A) then
                    some (decide (p0.A ≤ 200))
                  else
                    some false
                else
                  some false
              else
                some false) fun o8 =>
  if !o8 then
    some 8
  else
    some 0
set_option maxHeartbeats 4000000 in
set_option maxRecDepth 100000 in
theorem c_raddleref25_Check (E : Nat → Prop) (w0 : World) (p0 : api_Stitch) (v0 : Value) (r : Int) (h : F_raddleref25_Check p0 = some r) (S : St0 E [] w0 w0 [] [fRep r_api_Stitch (v0) p0]) :
    Calls Try.prog 73 #[v0] w0 (Ret (X := Unit) E [] w0 (fun _ => .int .i64 r) (fun _ => []) (fun _ => [])) := by
  unfold F_raddleref25_Check at h
  obtain rfl : v0 = .agg #[.int .u8 p0.Kind, .bool p0.Purl, iv p0.A, iv p0.B] := S.know (i := 0) (e := fRep r_api_Stitch (v0) p0) rfl
  refine sEnter (args := [.agg #[.int .u8 p0.Kind, .bool p0.Purl, iv p0.A, iv p0.B]]) 102 Try.func73 rfl rfl (by simp) S (fun a S => ?_)
  refine sSeq (fun K1 hK1 => ?_)
  refine sRegion ?_
  refine sBox (v := .agg #[.int .u8 p0.Kind, .bool p0.Purl, iv p0.A, iv p0.B]) S (wN rfl) rfl rfl [.int .u8 p0.Kind, .bool p0.Purl, iv p0.A, iv p0.B] rfl rfl (lb rfl) fun a b2 w S => ?_
  refine sMove (iv 0) S (wN rfl) (.inr rfl) rfl rfl (lb rfl) fun a S => ?_
  refine leafL (leafT (hK1 _ _ ?_))
  obtain ⟨t4, h, g5⟩ := bindSome h
  refine sCut (fun a w => ∃ o3, o3 = t4 ∧ St [] E [] w0 102 a w [(1, .pointer (some ⟨b2, 0, none⟩)), (3, .bool o3)] [eBox b2 81 [.int .u8 p0.Kind, .bool p0.Purl, iv p0.A, iv p0.B]] []) ?_ (fun a w hI => ?_)
  · refine sRegion ?_
    refine sField (b := b2) (off := 0) 2 2 S (wN rfl) rfl rfl rfl rfl rfl (lb rfl) fun a S => ?_
    refine sLoad1 (p := b2) (off := 2) (T := 81) (vs := [.int .u8 p0.Kind, .bool p0.Purl, iv p0.A, iv p0.B]) 0 (iv p0.A) S (wN rfl) rfl rfl rfl rfl rfl rfl (lb rfl) fun a S => ?_
    refine sBin (.bool (p0.A == 0)) S (wN rfl) rfl rfl rfl (bEq _ _ _ _ .i64 p0.A 0) rfl (lb rfl) fun a S => ?_
    refine sMove (.bool (p0.A == 0)) S (wN rfl) (.inl rfl) rfl rfl (lb rfl) fun a S => ?_
    rcases iteSome h with ⟨hc6, h⟩ | ⟨hc6, h⟩
    rotate_left
    · refine sSkip 3 true 8 9 S rfl rfl rfl hc6 rfl (lb rfl) fun a S => ?_
      refine sSkip 3 true 8 10 S rfl rfl rfl hc6 rfl (lb rfl) fun a S => ?_
      refine sSkip 3 true 8 11 S rfl rfl rfl hc6 rfl (lb rfl) fun a S => ?_
      refine sPickF (.bool false) S (wN rfl) rfl rfl hc6 rfl rfl (lb rfl) fun a S => ?_
      refine sMove (.bool false) S (wN rfl) (.inr rfl) rfl rfl (lb rfl) fun a S => ?_
      exact leafL (leafT (⟨false, Option.some.inj h, S.fix [0] [] (by decide) rfl rfl rfl⟩))
    refine sField (b := b2) (off := 0) 3 3 S (wG 3 true 8 rfl rfl rfl hc6) rfl rfl rfl rfl rfl (lb rfl) fun a S => ?_
    refine sLoad1 (p := b2) (off := 3) (T := 81) (vs := [.int .u8 p0.Kind, .bool p0.Purl, iv p0.A, iv p0.B]) 0 (iv p0.B) S (wG 3 true 8 rfl rfl rfl hc6) rfl rfl rfl rfl rfl rfl (lb rfl) fun a S => ?_
    refine sBin (.bool (p0.B == 0)) S (wG 3 true 8 rfl rfl rfl hc6) rfl rfl rfl (bEq _ _ _ _ .i64 p0.B 0) rfl (lb rfl) fun a S => ?_
    refine sPickT (.bool (p0.B == 0)) S (wN rfl) rfl rfl hc6 rfl rfl (lb rfl) fun a S => ?_
    refine sMove (.bool (p0.B == 0)) S (wN rfl) (.inr rfl) rfl rfl (lb rfl) fun a S => ?_
    exact leafL (leafT (⟨p0.B == 0, Option.some.inj h, S.fix [0] [] (by decide) rfl rfl rfl⟩))
  obtain ⟨o3, rfl, S⟩ := hI
  have h := g5
  clear g5
  try dsimp only at h
  refine sSeq (fun K7 hK7 => ?_)
  refine sRegion ?_
  refine sMove (.bool false) S (wN rfl) (.inr rfl) rfl rfl (lb rfl) fun a S => ?_
  refine leafL (leafT (hK7 _ _ ?_))
  obtain ⟨t9, h, g10⟩ := bindSome h
  refine sCut (fun a w => ∃ o8, o8 = t9 ∧ St [] E [] w0 102 a w [(4, .bool o8)] [] []) ?_ (fun a w hI => ?_)
  rotate_left
  · obtain ⟨o8, rfl, S⟩ := hI
    have h := g10
    clear g10
    try dsimp only at h
    refine sSeq (fun K49 hK49 => ?_)
    refine sSeq (fun K50 hK50 => ?_)
    refine sRegion ?_
    refine sMove (.bool o8) S (wN rfl) (.inl rfl) rfl rfl (lb rfl) fun a S => ?_
    refine sNot (b := o8) S (wN rfl) rfl rfl rfl (lb rfl) fun a S => ?_
    refine leafL (leafT (hK50 _ _ ?_))
    rcases iteSome h with ⟨hc51, h⟩ | ⟨hc51, h⟩
    · refine sCondT S rfl hc51 ?_
      refine sSeq (fun K52 hK52 => ?_)
      refine sRegion ?_
      refine sMove (iv 8) S (wN rfl) (.inr rfl) rfl rfl (lb rfl) fun a S => ?_
      refine leafL (leafT (hK52 _ _ ?_))
      obtain rfl := Option.some.inj h
      exact wp_ret (rThen (sRet (iv 8) S (rsl1 rfl (rvT (t := 2) (v := iv 8) S rfl)) ⟨(), rfl, S.mem.sel [] [] (by decide) rfl rfl⟩))
    refine sCondF S rfl hc51 ?_
    refine wp_skip (leafT (hK49 _ _ ?_))
    refine sSeq (fun K53 hK53 => ?_)
    refine sRegion ?_
    refine sMove (iv 0) S (wN rfl) (.inr rfl) rfl rfl (lb rfl) fun a S => ?_
    refine leafL (leafT (hK53 _ _ ?_))
    obtain rfl := Option.some.inj h
    exact wp_ret (sRet (iv 0) S (rsl1 rfl (rvT (t := 2) (v := iv 0) S rfl)) ⟨(), rfl, S.mem.sel [] [] (by decide) rfl rfl⟩)
  refine sSeq (fun K11 hK11 => ?_)
  refine sRegion ?_
  refine sField (b := b2) (off := 0) 0 0 S (wN rfl) rfl rfl rfl rfl rfl (lb rfl) fun a S => ?_
  refine sLoad1 (p := b2) (off := 0) (T := 81) (vs := [.int .u8 p0.Kind, .bool p0.Purl, iv p0.A, iv p0.B]) 0 (.int .u8 p0.Kind) S (wN rfl) rfl rfl rfl rfl rfl rfl (lb rfl) fun a S => ?_
  refine leafL (leafT (hK11 _ _ ?_))
  refine wp_block ?_
  obtain ⟨t13, h, g14⟩ := bindSome h
  refine sCut (fun a w => ∃ o12, o12 = t13 ∧ St [] E [] w0 102 a w [(1, .pointer (some ⟨b2, 0, none⟩)), (3, .bool o3), (4, .bool false), (14, .int .u8 p0.Kind), (15, .bool o12)] [eBox b2 81 [.int .u8 p0.Kind, .bool p0.Purl, iv p0.A, iv p0.B]] []) ?_ (fun a w hI => ?_)
  · refine sSeq (fun K15 hK15 => ?_)
    refine sRegion ?_
    refine sBin (.bool (p0.Kind == 1)) S (wN rfl) rfl rfl rfl (bEq _ _ _ _ .u8 p0.Kind 1) rfl (lb rfl) fun a S => ?_
    refine sMove (.bool (p0.Kind == 1)) S (wN rfl) (.inr rfl) rfl rfl (lb rfl) fun a S => ?_
    refine leafL (leafT (hK15 _ _ ?_))
    rcases iteSome h with ⟨hc16, h⟩ | ⟨hc16, h⟩
    · refine sCondT S rfl hc16 ?_
      exact wp_skip (leafT (⟨p0.Kind == 1, Option.some.inj h, S.fix [0] [] (by decide) rfl rfl rfl⟩))
    refine sCondF S rfl hc16 ?_
    refine sRegion ?_
    refine sBin (.bool (p0.Kind == 8)) S (wN rfl) rfl rfl rfl (bEq _ _ _ _ .u8 p0.Kind 8) rfl (lb rfl) fun a S => ?_
    refine sMove (.bool (p0.Kind == 8)) S (wN rfl) (.inr rfl) rfl rfl (lb rfl) fun a S => ?_
    exact leafL (leafT (⟨p0.Kind == 8, Option.some.inj h, S.fix [0] [] (by decide) rfl rfl rfl⟩))
  obtain ⟨o12, rfl, S⟩ := hI
  have h := g14
  clear g14
  try dsimp only at h
  rcases iteSome h with ⟨hc17, h⟩ | ⟨hc17, h⟩
  · refine sCondT S rfl hc17 ?_
    refine sRegion ?_
    refine sMove (.bool o3) S (wN rfl) (.inl rfl) rfl rfl (lb rfl) fun a S => ?_
    refine sMove (.bool o3) S (wN rfl) (.inr rfl) rfl rfl (lb rfl) fun a S => ?_
    exact leafL (leafB (leafT (⟨o3, Option.some.inj h, S.fix [] [] (by decide) rfl rfl rfl⟩)))
  refine sCondF S rfl hc17 ?_
  refine sSeq (fun K18 hK18 => ?_)
  refine sRegion ?_
  refine sBin (.bool (p0.Kind == 2)) S (wN rfl) rfl rfl rfl (bEq _ _ _ _ .u8 p0.Kind 2) rfl (lb rfl) fun a S => ?_
  refine sMove (.bool (p0.Kind == 2)) S (wN rfl) (.inr rfl) rfl rfl (lb rfl) fun a S => ?_
  refine leafL (leafT (hK18 _ _ ?_))
  rcases iteSome h with ⟨hc19, h⟩ | ⟨hc19, h⟩
  · refine sCondT S rfl hc19 ?_
    refine sRegion ?_
    refine sMove (.bool o3) S (wN rfl) (.inl rfl) rfl rfl (lb rfl) fun a S => ?_
    refine sMove (.bool o3) S (wN rfl) (.inl rfl) rfl rfl (lb rfl) fun a S => ?_
    rcases iteSome h with ⟨hc20, h⟩ | ⟨hc20, h⟩
    rotate_left
    · refine sSkip 1 true 22 23 S rfl rfl rfl hc20 rfl (lb rfl) fun a S => ?_
      refine sSkip 1 true 22 24 S rfl rfl rfl hc20 rfl (lb rfl) fun a S => ?_
      refine sSkip 1 true 22 25 S rfl rfl rfl hc20 rfl (lb rfl) fun a S => ?_
      refine sPickF (.bool false) S (wN rfl) rfl rfl hc20 rfl rfl (lb rfl) fun a S => ?_
      refine sMove (.bool false) S (wN rfl) (.inr rfl) rfl rfl (lb rfl) fun a S => ?_
      exact leafL (leafB (leafT (⟨false, Option.some.inj h, S.fix [] [] (by decide) rfl rfl rfl⟩)))
    refine sField (b := b2) (off := 0) 1 1 S (wG 1 true 22 rfl rfl rfl hc20) rfl rfl rfl rfl rfl (lb rfl) fun a S => ?_
    refine sLoad1 (p := b2) (off := 1) (T := 81) (vs := [.int .u8 p0.Kind, .bool p0.Purl, iv p0.A, iv p0.B]) 0 (.bool p0.Purl) S (wG 1 true 22 rfl rfl rfl hc20) rfl rfl rfl rfl rfl rfl (lb rfl) fun a S => ?_
    refine sNot (b := p0.Purl) S (wG 1 true 22 rfl rfl rfl hc20) rfl rfl rfl (lb rfl) fun a S => ?_
    refine sPickT (.bool (!p0.Purl)) S (wN rfl) rfl rfl hc20 rfl rfl (lb rfl) fun a S => ?_
    refine sMove (.bool (!p0.Purl)) S (wN rfl) (.inr rfl) rfl rfl (lb rfl) fun a S => ?_
    exact leafL (leafB (leafT (⟨!p0.Purl, Option.some.inj h, S.fix [] [] (by decide) rfl rfl rfl⟩)))
  refine sCondF S rfl hc19 ?_
  obtain ⟨t22, h, g23⟩ := bindSome h
  refine sCut (fun a w => ∃ o21, o21 = t22 ∧ St [] E [] w0 102 a w [(1, .pointer (some ⟨b2, 0, none⟩)), (4, .bool false), (14, .int .u8 p0.Kind), (27, .bool o21)] [eBox b2 81 [.int .u8 p0.Kind, .bool p0.Purl, iv p0.A, iv p0.B]] []) ?_ (fun a w hI => ?_)
  · refine sSeq (fun K24 hK24 => ?_)
    refine sRegion ?_
    refine sBin (.bool (p0.Kind == 3)) S (wN rfl) rfl rfl rfl (bEq _ _ _ _ .u8 p0.Kind 3) rfl (lb rfl) fun a S => ?_
    refine sMove (.bool (p0.Kind == 3)) S (wN rfl) (.inr rfl) rfl rfl (lb rfl) fun a S => ?_
    refine leafL (leafT (hK24 _ _ ?_))
    rcases iteSome h with ⟨hc25, h⟩ | ⟨hc25, h⟩
    · refine sCondT S rfl hc25 ?_
      exact wp_skip (leafT (⟨p0.Kind == 3, Option.some.inj h, S.fix [0] [] (by decide) rfl rfl rfl⟩))
    refine sCondF S rfl hc25 ?_
    refine sSeq (fun K26 hK26 => ?_)
    refine sRegion ?_
    refine sBin (.bool (p0.Kind == 4)) S (wN rfl) rfl rfl rfl (bEq _ _ _ _ .u8 p0.Kind 4) rfl (lb rfl) fun a S => ?_
    refine sMove (.bool (p0.Kind == 4)) S (wN rfl) (.inr rfl) rfl rfl (lb rfl) fun a S => ?_
    refine leafL (leafT (hK26 _ _ ?_))
    rcases iteSome h with ⟨hc27, h⟩ | ⟨hc27, h⟩
    · refine sCondT S rfl hc27 ?_
      exact wp_skip (leafT (⟨p0.Kind == 4, Option.some.inj h, S.fix [0] [] (by decide) rfl rfl rfl⟩))
    refine sCondF S rfl hc27 ?_
    refine sRegion ?_
    refine sBin (.bool (p0.Kind == 5)) S (wN rfl) rfl rfl rfl (bEq _ _ _ _ .u8 p0.Kind 5) rfl (lb rfl) fun a S => ?_
    refine sMove (.bool (p0.Kind == 5)) S (wN rfl) (.inr rfl) rfl rfl (lb rfl) fun a S => ?_
    exact leafL (leafT (⟨p0.Kind == 5, Option.some.inj h, S.fix [0] [] (by decide) rfl rfl rfl⟩))
  obtain ⟨o21, rfl, S⟩ := hI
  have h := g23
  clear g23
  try dsimp only at h
  rcases iteSome h with ⟨hc28, h⟩ | ⟨hc28, h⟩
  · refine sCondT S rfl hc28 ?_
    refine sRegion ?_
    refine sField (b := b2) (off := 0) 3 3 S (wN rfl) rfl rfl rfl rfl rfl (lb rfl) fun a S => ?_
    refine sLoad1 (p := b2) (off := 3) (T := 81) (vs := [.int .u8 p0.Kind, .bool p0.Purl, iv p0.A, iv p0.B]) 0 (iv p0.B) S (wN rfl) rfl rfl rfl rfl rfl rfl (lb rfl) fun a S => ?_
    refine sBin (.bool (p0.B == 0)) S (wN rfl) rfl rfl rfl (bEq _ _ _ _ .i64 p0.B 0) rfl (lb rfl) fun a S => ?_
    refine sMove (.bool (p0.B == 0)) S (wN rfl) (.inl rfl) rfl rfl (lb rfl) fun a S => ?_
    rcases iteSome h with ⟨hc29, h⟩ | ⟨hc29, h⟩
    rotate_left
    · refine sSkip 3 true 34 35 S rfl rfl rfl hc29 rfl (lb rfl) fun a S => ?_
      refine sSkip 3 true 34 36 S rfl rfl rfl hc29 rfl (lb rfl) fun a S => ?_
      refine sSkip 3 true 34 37 S rfl rfl rfl hc29 rfl (lb rfl) fun a S => ?_
      refine sPickF (.bool false) S (wN rfl) rfl rfl hc29 rfl rfl (lb rfl) fun a S => ?_
      refine sMove (.bool false) S (wN rfl) (.inl rfl) rfl rfl (lb rfl) fun a S => ?_
      refine sSkip 8 true 39 40 S rfl rfl rfl rfl rfl (lb rfl) fun a S => ?_
      refine sSkip 8 true 39 41 S rfl rfl rfl rfl rfl (lb rfl) fun a S => ?_
      refine sSkip 8 true 39 42 S rfl rfl rfl rfl rfl (lb rfl) fun a S => ?_
      refine sPickF (.bool false) S (wN rfl) rfl rfl rfl rfl rfl (lb rfl) fun a S => ?_
      refine sMove (.bool false) S (wN rfl) (.inr rfl) rfl rfl (lb rfl) fun a S => ?_
      exact leafL (leafB (leafT (⟨false, Option.some.inj h, S.fix [] [] (by decide) rfl rfl rfl⟩)))
    refine sField (b := b2) (off := 0) 2 2 S (wG 3 true 34 rfl rfl rfl hc29) rfl rfl rfl rfl rfl (lb rfl) fun a S => ?_
    refine sLoad1 (p := b2) (off := 2) (T := 81) (vs := [.int .u8 p0.Kind, .bool p0.Purl, iv p0.A, iv p0.B]) 0 (iv p0.A) S (wG 3 true 34 rfl rfl rfl hc29) rfl rfl rfl rfl rfl rfl (lb rfl) fun a S => ?_
    refine sBin (.bool (decide (2 ≤ p0.A))) S (wG 3 true 34 rfl rfl rfl hc29) rfl rfl rfl (bGe _ _ _ _ .i64 p0.A 2) rfl (lb rfl) fun a S => ?_
    refine sPickT (.bool (decide (2 ≤ p0.A))) S (wN rfl) rfl rfl hc29 rfl rfl (lb rfl) fun a S => ?_
    refine sMove (.bool (decide (2 ≤ p0.A))) S (wN rfl) (.inl rfl) rfl rfl (lb rfl) fun a S => ?_
    rcases iteSome h with ⟨hc30, h⟩ | ⟨hc30, h⟩
    rotate_left
    · refine sSkip 8 true 39 40 S rfl rfl rfl hc30 rfl (lb rfl) fun a S => ?_
      refine sSkip 8 true 39 41 S rfl rfl rfl hc30 rfl (lb rfl) fun a S => ?_
      refine sSkip 8 true 39 42 S rfl rfl rfl hc30 rfl (lb rfl) fun a S => ?_
      refine sPickF (.bool false) S (wN rfl) rfl rfl hc30 rfl rfl (lb rfl) fun a S => ?_
      refine sMove (.bool false) S (wN rfl) (.inr rfl) rfl rfl (lb rfl) fun a S => ?_
      exact leafL (leafB (leafT (⟨false, Option.some.inj h, S.fix [] [] (by decide) rfl rfl rfl⟩)))
    refine sField (b := b2) (off := 0) 2 2 S (wG 8 true 39 rfl rfl rfl hc30) rfl rfl rfl rfl rfl (lb rfl) fun a S => ?_
    refine sLoad1 (p := b2) (off := 2) (T := 81) (vs := [.int .u8 p0.Kind, .bool p0.Purl, iv p0.A, iv p0.B]) 0 (iv p0.A) S (wG 8 true 39 rfl rfl rfl hc30) rfl rfl rfl rfl rfl rfl (lb rfl) fun a S => ?_
    refine sBin (.bool (decide (p0.A ≤ 4))) S (wG 8 true 39 rfl rfl rfl hc30) rfl rfl rfl (bLe _ _ _ _ .i64 p0.A 4) rfl (lb rfl) fun a S => ?_
    refine sPickT (.bool (decide (p0.A ≤ 4))) S (wN rfl) rfl rfl hc30 rfl rfl (lb rfl) fun a S => ?_
    refine sMove (.bool (decide (p0.A ≤ 4))) S (wN rfl) (.inr rfl) rfl rfl (lb rfl) fun a S => ?_
    exact leafL (leafB (leafT (⟨decide (p0.A ≤ 4), Option.some.inj h, S.fix [] [] (by decide) rfl rfl rfl⟩)))
  refine sCondF S rfl hc28 ?_
  obtain ⟨t32, h, g33⟩ := bindSome h
  refine sCut (fun a w => ∃ o31, o31 = t32 ∧ St [] E [] w0 102 a w [(1, .pointer (some ⟨b2, 0, none⟩)), (4, .bool false), (14, .int .u8 p0.Kind), (44, .bool o31)] [eBox b2 81 [.int .u8 p0.Kind, .bool p0.Purl, iv p0.A, iv p0.B]] []) ?_ (fun a w hI => ?_)
  · refine sSeq (fun K34 hK34 => ?_)
    refine sRegion ?_
    refine sBin (.bool (p0.Kind == 6)) S (wN rfl) rfl rfl rfl (bEq _ _ _ _ .u8 p0.Kind 6) rfl (lb rfl) fun a S => ?_
    refine sMove (.bool (p0.Kind == 6)) S (wN rfl) (.inr rfl) rfl rfl (lb rfl) fun a S => ?_
    refine leafL (leafT (hK34 _ _ ?_))
    rcases iteSome h with ⟨hc35, h⟩ | ⟨hc35, h⟩
    · refine sCondT S rfl hc35 ?_
      exact wp_skip (leafT (⟨p0.Kind == 6, Option.some.inj h, S.fix [0] [] (by decide) rfl rfl rfl⟩))
    refine sCondF S rfl hc35 ?_
    refine sRegion ?_
    refine sBin (.bool (p0.Kind == 7)) S (wN rfl) rfl rfl rfl (bEq _ _ _ _ .u8 p0.Kind 7) rfl (lb rfl) fun a S => ?_
    refine sMove (.bool (p0.Kind == 7)) S (wN rfl) (.inr rfl) rfl rfl (lb rfl) fun a S => ?_
    exact leafL (leafT (⟨p0.Kind == 7, Option.some.inj h, S.fix [0] [] (by decide) rfl rfl rfl⟩))
  obtain ⟨o31, rfl, S⟩ := hI
  have h := g33
  clear g33
  try dsimp only at h
  rcases iteSome h with ⟨hc36, h⟩ | ⟨hc36, h⟩
  · refine sCondT S rfl hc36 ?_
    refine sRegion ?_
    refine sField (b := b2) (off := 0) 2 2 S (wN rfl) rfl rfl rfl rfl rfl (lb rfl) fun a S => ?_
    refine sLoad1 (p := b2) (off := 2) (T := 81) (vs := [.int .u8 p0.Kind, .bool p0.Purl, iv p0.A, iv p0.B]) 0 (iv p0.A) S (wN rfl) rfl rfl rfl rfl rfl rfl (lb rfl) fun a S => ?_
    refine sBin (.bool (decide (1 ≤ p0.A))) S (wN rfl) rfl rfl rfl (bGe _ _ _ _ .i64 p0.A 1) rfl (lb rfl) fun a S => ?_
    refine sMove (.bool (decide (1 ≤ p0.A))) S (wN rfl) (.inl rfl) rfl rfl (lb rfl) fun a S => ?_
    rcases iteSome h with ⟨hc37, h⟩ | ⟨hc37, h⟩
    rotate_left
    · refine sSkip 3 true 50 51 S rfl rfl rfl hc37 rfl (lb rfl) fun a S => ?_
      refine sSkip 3 true 50 52 S rfl rfl rfl hc37 rfl (lb rfl) fun a S => ?_
      refine sSkip 3 true 50 53 S rfl rfl rfl hc37 rfl (lb rfl) fun a S => ?_
      refine sPickF (.bool false) S (wN rfl) rfl rfl hc37 rfl rfl (lb rfl) fun a S => ?_
      refine sMove (.bool false) S (wN rfl) (.inl rfl) rfl rfl (lb rfl) fun a S => ?_
      refine sSkip 8 true 55 56 S rfl rfl rfl rfl rfl (lb rfl) fun a S => ?_
      refine sSkip 8 true 55 57 S rfl rfl rfl rfl rfl (lb rfl) fun a S => ?_
      refine sSkip 8 true 55 58 S rfl rfl rfl rfl rfl (lb rfl) fun a S => ?_
      refine sPickF (.bool false) S (wN rfl) rfl rfl rfl rfl rfl (lb rfl) fun a S => ?_
      refine sMove (.bool false) S (wN rfl) (.inl rfl) rfl rfl (lb rfl) fun a S => ?_
      refine sSkip 13 true 60 61 S rfl rfl rfl rfl rfl (lb rfl) fun a S => ?_
      refine sSkip 13 true 60 62 S rfl rfl rfl rfl rfl (lb rfl) fun a S => ?_
      refine sSkip 13 true 60 63 S rfl rfl rfl rfl rfl (lb rfl) fun a S => ?_
      refine sPickF (.bool false) S (wN rfl) rfl rfl rfl rfl rfl (lb rfl) fun a S => ?_
      refine sMove (.bool false) S (wN rfl) (.inr rfl) rfl rfl (lb rfl) fun a S => ?_
      exact leafL (leafB (leafT (⟨false, Option.some.inj h, S.fix [] [] (by decide) rfl rfl rfl⟩)))
    refine sField (b := b2) (off := 0) 2 2 S (wG 3 true 50 rfl rfl rfl hc37) rfl rfl rfl rfl rfl (lb rfl) fun a S => ?_
    refine sLoad1 (p := b2) (off := 2) (T := 81) (vs := [.int .u8 p0.Kind, .bool p0.Purl, iv p0.A, iv p0.B]) 0 (iv p0.A) S (wG 3 true 50 rfl rfl rfl hc37) rfl rfl rfl rfl rfl rfl (lb rfl) fun a S => ?_
    refine sBin (.bool (decide (p0.A ≤ 6))) S (wG 3 true 50 rfl rfl rfl hc37) rfl rfl rfl (bLe _ _ _ _ .i64 p0.A 6) rfl (lb rfl) fun a S => ?_
    refine sPickT (.bool (decide (p0.A ≤ 6))) S (wN rfl) rfl rfl hc37 rfl rfl (lb rfl) fun a S => ?_
    refine sMove (.bool (decide (p0.A ≤ 6))) S (wN rfl) (.inl rfl) rfl rfl (lb rfl) fun a S => ?_
    rcases iteSome h with ⟨hc38, h⟩ | ⟨hc38, h⟩
    rotate_left
    · refine sSkip 8 true 55 56 S rfl rfl rfl hc38 rfl (lb rfl) fun a S => ?_
      refine sSkip 8 true 55 57 S rfl rfl rfl hc38 rfl (lb rfl) fun a S => ?_
      refine sSkip 8 true 55 58 S rfl rfl rfl hc38 rfl (lb rfl) fun a S => ?_
      refine sPickF (.bool false) S (wN rfl) rfl rfl hc38 rfl rfl (lb rfl) fun a S => ?_
      refine sMove (.bool false) S (wN rfl) (.inl rfl) rfl rfl (lb rfl) fun a S => ?_
      refine sSkip 13 true 60 61 S rfl rfl rfl rfl rfl (lb rfl) fun a S => ?_
      refine sSkip 13 true 60 62 S rfl rfl rfl rfl rfl (lb rfl) fun a S => ?_
      refine sSkip 13 true 60 63 S rfl rfl rfl rfl rfl (lb rfl) fun a S => ?_
      refine sPickF (.bool false) S (wN rfl) rfl rfl rfl rfl rfl (lb rfl) fun a S => ?_
      refine sMove (.bool false) S (wN rfl) (.inr rfl) rfl rfl (lb rfl) fun a S => ?_
      exact leafL (leafB (leafT (⟨false, Option.some.inj h, S.fix [] [] (by decide) rfl rfl rfl⟩)))
    refine sField (b := b2) (off := 0) 3 3 S (wG 8 true 55 rfl rfl rfl hc38) rfl rfl rfl rfl rfl (lb rfl) fun a S => ?_
    refine sLoad1 (p := b2) (off := 3) (T := 81) (vs := [.int .u8 p0.Kind, .bool p0.Purl, iv p0.A, iv p0.B]) 0 (iv p0.B) S (wG 8 true 55 rfl rfl rfl hc38) rfl rfl rfl rfl rfl rfl (lb rfl) fun a S => ?_
    refine sBin (.bool (decide (1 ≤ p0.B))) S (wG 8 true 55 rfl rfl rfl hc38) rfl rfl rfl (bGe _ _ _ _ .i64 p0.B 1) rfl (lb rfl) fun a S => ?_
    refine sPickT (.bool (decide (1 ≤ p0.B))) S (wN rfl) rfl rfl hc38 rfl rfl (lb rfl) fun a S => ?_
    refine sMove (.bool (decide (1 ≤ p0.B))) S (wN rfl) (.inl rfl) rfl rfl (lb rfl) fun a S => ?_
    rcases iteSome h with ⟨hc39, h⟩ | ⟨hc39, h⟩
    rotate_left
    · refine sSkip 13 true 60 61 S rfl rfl rfl hc39 rfl (lb rfl) fun a S => ?_
      refine sSkip 13 true 60 62 S rfl rfl rfl hc39 rfl (lb rfl) fun a S => ?_
      refine sSkip 13 true 60 63 S rfl rfl rfl hc39 rfl (lb rfl) fun a S => ?_
      refine sPickF (.bool false) S (wN rfl) rfl rfl hc39 rfl rfl (lb rfl) fun a S => ?_
      refine sMove (.bool false) S (wN rfl) (.inr rfl) rfl rfl (lb rfl) fun a S => ?_
      exact leafL (leafB (leafT (⟨false, Option.some.inj h, S.fix [] [] (by decide) rfl rfl rfl⟩)))
    refine sField (b := b2) (off := 0) 3 3 S (wG 13 true 60 rfl rfl rfl hc39) rfl rfl rfl rfl rfl (lb rfl) fun a S => ?_
    refine sLoad1 (p := b2) (off := 3) (T := 81) (vs := [.int .u8 p0.Kind, .bool p0.Purl, iv p0.A, iv p0.B]) 0 (iv p0.B) S (wG 13 true 60 rfl rfl rfl hc39) rfl rfl rfl rfl rfl rfl (lb rfl) fun a S => ?_
    refine sBin (.bool (decide (p0.B ≤ 6))) S (wG 13 true 60 rfl rfl rfl hc39) rfl rfl rfl (bLe _ _ _ _ .i64 p0.B 6) rfl (lb rfl) fun a S => ?_
    refine sPickT (.bool (decide (p0.B ≤ 6))) S (wN rfl) rfl rfl hc39 rfl rfl (lb rfl) fun a S => ?_
    refine sMove (.bool (decide (p0.B ≤ 6))) S (wN rfl) (.inr rfl) rfl rfl (lb rfl) fun a S => ?_
    exact leafL (leafB (leafT (⟨decide (p0.B ≤ 6), Option.some.inj h, S.fix [] [] (by decide) rfl rfl rfl⟩)))
  refine sCondF S rfl hc36 ?_
  refine sSeq (fun K40 hK40 => ?_)
  refine sRegion ?_
  refine sBin (.bool (p0.Kind == 9)) S (wN rfl) rfl rfl rfl (bEq _ _ _ _ .u8 p0.Kind 9) rfl (lb rfl) fun a S => ?_
  refine sMove (.bool (p0.Kind == 9)) S (wN rfl) (.inr rfl) rfl rfl (lb rfl) fun a S => ?_
  refine leafL (leafT (hK40 _ _ ?_))
  rcases iteSome h with ⟨hc41, h⟩ | ⟨hc41, h⟩
  rotate_left
  · refine sCondF S rfl hc41 ?_
    refine sSeq (fun K45 hK45 => ?_)
    refine sRegion ?_
    refine sBin (.bool (p0.Kind == 10)) S (wN rfl) rfl rfl rfl (bEq _ _ _ _ .u8 p0.Kind 10) rfl (lb rfl) fun a S => ?_
    refine sMove (.bool (p0.Kind == 10)) S (wN rfl) (.inr rfl) rfl rfl (lb rfl) fun a S => ?_
    refine leafL (leafT (hK45 _ _ ?_))
    rcases iteSome h with ⟨hc46, h⟩ | ⟨hc46, h⟩
    rotate_left
    · refine sCondF S rfl hc46 ?_
      exact wp_skip (leafB (leafT (⟨false, Option.some.inj h, S.fix [] [] (by decide) rfl rfl rfl⟩)))
    refine sCondT S rfl hc46 ?_
    refine sRegion ?_
    refine sField (b := b2) (off := 0) 3 3 S (wN rfl) rfl rfl rfl rfl rfl (lb rfl) fun a S => ?_
    refine sLoad1 (p := b2) (off := 3) (T := 81) (vs := [.int .u8 p0.Kind, .bool p0.Purl, iv p0.A, iv p0.B]) 0 (iv p0.B) S (wN rfl) rfl rfl rfl rfl rfl rfl (lb rfl) fun a S => ?_
    refine sBin (.bool (p0.B == 0)) S (wN rfl) rfl rfl rfl (bEq _ _ _ _ .i64 p0.B 0) rfl (lb rfl) fun a S => ?_
    refine sMove (.bool (p0.B == 0)) S (wN rfl) (.inl rfl) rfl rfl (lb rfl) fun a S => ?_
    rcases iteSome h with ⟨hc47, h⟩ | ⟨hc47, h⟩
    rotate_left
    · refine sSkip 3 true 90 91 S rfl rfl rfl hc47 rfl (lb rfl) fun a S => ?_
      refine sSkip 3 true 90 92 S rfl rfl rfl hc47 rfl (lb rfl) fun a S => ?_
      refine sSkip 3 true 90 93 S rfl rfl rfl hc47 rfl (lb rfl) fun a S => ?_
      refine sPickF (.bool false) S (wN rfl) rfl rfl hc47 rfl rfl (lb rfl) fun a S => ?_
      refine sMove (.bool false) S (wN rfl) (.inl rfl) rfl rfl (lb rfl) fun a S => ?_
      refine sSkip 8 true 95 96 S rfl rfl rfl rfl rfl (lb rfl) fun a S => ?_
      refine sSkip 8 true 95 97 S rfl rfl rfl rfl rfl (lb rfl) fun a S => ?_
      refine sSkip 8 true 95 98 S rfl rfl rfl rfl rfl (lb rfl) fun a S => ?_
      refine sPickF (.bool false) S (wN rfl) rfl rfl rfl rfl rfl (lb rfl) fun a S => ?_
      refine sMove (.bool false) S (wN rfl) (.inr rfl) rfl rfl (lb rfl) fun a S => ?_
      exact leafL (leafB (leafT (⟨false, Option.some.inj h, S.fix [] [] (by decide) rfl rfl rfl⟩)))
    refine sField (b := b2) (off := 0) 2 2 S (wG 3 true 90 rfl rfl rfl hc47) rfl rfl rfl rfl rfl (lb rfl) fun a S => ?_
    refine sLoad1 (p := b2) (off := 2) (T := 81) (vs := [.int .u8 p0.Kind, .bool p0.Purl, iv p0.A, iv p0.B]) 0 (iv p0.A) S (wG 3 true 90 rfl rfl rfl hc47) rfl rfl rfl rfl rfl rfl (lb rfl) fun a S => ?_
    refine sBin (.bool (decide (1 ≤ p0.A))) S (wG 3 true 90 rfl rfl rfl hc47) rfl rfl rfl (bGe _ _ _ _ .i64 p0.A 1) rfl (lb rfl) fun a S => ?_
    refine sPickT (.bool (decide (1 ≤ p0.A))) S (wN rfl) rfl rfl hc47 rfl rfl (lb rfl) fun a S => ?_
    refine sMove (.bool (decide (1 ≤ p0.A))) S (wN rfl) (.inl rfl) rfl rfl (lb rfl) fun a S => ?_
    rcases iteSome h with ⟨hc48, h⟩ | ⟨hc48, h⟩
    rotate_left
    · refine sSkip 8 true 95 96 S rfl rfl rfl hc48 rfl (lb rfl) fun a S => ?_
      refine sSkip 8 true 95 97 S rfl rfl rfl hc48 rfl (lb rfl) fun a S => ?_
      refine sSkip 8 true 95 98 S rfl rfl rfl hc48 rfl (lb rfl) fun a S => ?_
      refine sPickF (.bool false) S (wN rfl) rfl rfl hc48 rfl rfl (lb rfl) fun a S => ?_
      refine sMove (.bool false) S (wN rfl) (.inr rfl) rfl rfl (lb rfl) fun a S => ?_
      exact leafL (leafB (leafT (⟨false, Option.some.inj h, S.fix [] [] (by decide) rfl rfl rfl⟩)))
    refine sField (b := b2) (off := 0) 2 2 S (wG 8 true 95 rfl rfl rfl hc48) rfl rfl rfl rfl rfl (lb rfl) fun a S => ?_
    refine sLoad1 (p := b2) (off := 2) (T := 81) (vs := [.int .u8 p0.Kind, .bool p0.Purl, iv p0.A, iv p0.B]) 0 (iv p0.A) S (wG 8 true 95 rfl rfl rfl hc48) rfl rfl rfl rfl rfl rfl (lb rfl) fun a S => ?_
    refine sBin (.bool (decide (p0.A ≤ 200))) S (wG 8 true 95 rfl rfl rfl hc48) rfl rfl rfl (bLe _ _ _ _ .i64 p0.A 200) rfl (lb rfl) fun a S => ?_
    refine sPickT (.bool (decide (p0.A ≤ 200))) S (wN rfl) rfl rfl hc48 rfl rfl (lb rfl) fun a S => ?_
    refine sMove (.bool (decide (p0.A ≤ 200))) S (wN rfl) (.inr rfl) rfl rfl (lb rfl) fun a S => ?_
    exact leafL (leafB (leafT (⟨decide (p0.A ≤ 200), Option.some.inj h, S.fix [] [] (by decide) rfl rfl rfl⟩)))
  refine sCondT S rfl hc41 ?_
  refine sRegion ?_
  refine sField (b := b2) (off := 0) 3 3 S (wN rfl) rfl rfl rfl rfl rfl (lb rfl) fun a S => ?_
  refine sLoad1 (p := b2) (off := 3) (T := 81) (vs := [.int .u8 p0.Kind, .bool p0.Purl, iv p0.A, iv p0.B]) 0 (iv p0.B) S (wN rfl) rfl rfl rfl rfl rfl rfl (lb rfl) fun a S => ?_
  refine sBin (.bool (p0.B == 0)) S (wN rfl) rfl rfl rfl (bEq _ _ _ _ .i64 p0.B 0) rfl (lb rfl) fun a S => ?_
  refine sMove (.bool (p0.B == 0)) S (wN rfl) (.inl rfl) rfl rfl (lb rfl) fun a S => ?_
  rcases iteSome h with ⟨hc42, h⟩ | ⟨hc42, h⟩
  rotate_left
  · refine sSkip 3 true 70 71 S rfl rfl rfl hc42 rfl (lb rfl) fun a S => ?_
    refine sSkip 3 true 70 72 S rfl rfl rfl hc42 rfl (lb rfl) fun a S => ?_
    refine sSkip 3 true 70 73 S rfl rfl rfl hc42 rfl (lb rfl) fun a S => ?_
    refine sPickF (.bool false) S (wN rfl) rfl rfl hc42 rfl rfl (lb rfl) fun a S => ?_
    refine sMove (.bool false) S (wN rfl) (.inl rfl) rfl rfl (lb rfl) fun a S => ?_
    refine sSkip 8 true 75 76 S rfl rfl rfl rfl rfl (lb rfl) fun a S => ?_
    refine sSkip 8 true 75 77 S rfl rfl rfl rfl rfl (lb rfl) fun a S => ?_
    refine sSkip 8 true 75 78 S rfl rfl rfl rfl rfl (lb rfl) fun a S => ?_
    refine sPickF (.bool false) S (wN rfl) rfl rfl rfl rfl rfl (lb rfl) fun a S => ?_
    refine sMove (.bool false) S (wN rfl) (.inl rfl) rfl rfl (lb rfl) fun a S => ?_
    refine sSkip 13 true 80 81 S rfl rfl rfl rfl rfl (lb rfl) fun a S => ?_
    refine sSkip 13 true 80 82 S rfl rfl rfl rfl rfl (lb rfl) fun a S => ?_
    refine sSkip 13 true 80 83 S rfl rfl rfl rfl rfl (lb rfl) fun a S => ?_
    refine sPickF (.bool false) S (wN rfl) rfl rfl rfl rfl rfl (lb rfl) fun a S => ?_
    refine sMove (.bool false) S (wN rfl) (.inr rfl) rfl rfl (lb rfl) fun a S => ?_
    exact leafL (leafB (leafT (⟨false, Option.some.inj h, S.fix [] [] (by decide) rfl rfl rfl⟩)))
  refine sField (b := b2) (off := 0) 1 1 S (wG 3 true 70 rfl rfl rfl hc42) rfl rfl rfl rfl rfl (lb rfl) fun a S => ?_
  refine sLoad1 (p := b2) (off := 1) (T := 81) (vs := [.int .u8 p0.Kind, .bool p0.Purl, iv p0.A, iv p0.B]) 0 (.bool p0.Purl) S (wG 3 true 70 rfl rfl rfl hc42) rfl rfl rfl rfl rfl rfl (lb rfl) fun a S => ?_
  refine sNot (b := p0.Purl) S (wG 3 true 70 rfl rfl rfl hc42) rfl rfl rfl (lb rfl) fun a S => ?_
  refine sPickT (.bool (!p0.Purl)) S (wN rfl) rfl rfl hc42 rfl rfl (lb rfl) fun a S => ?_
  refine sMove (.bool (!p0.Purl)) S (wN rfl) (.inl rfl) rfl rfl (lb rfl) fun a S => ?_
  rcases iteSome h with ⟨hc43, h⟩ | ⟨hc43, h⟩
  rotate_left
  · refine sSkip 8 true 75 76 S rfl rfl rfl hc43 rfl (lb rfl) fun a S => ?_
    refine sSkip 8 true 75 77 S rfl rfl rfl hc43 rfl (lb rfl) fun a S => ?_
    refine sSkip 8 true 75 78 S rfl rfl rfl hc43 rfl (lb rfl) fun a S => ?_
    refine sPickF (.bool false) S (wN rfl) rfl rfl hc43 rfl rfl (lb rfl) fun a S => ?_
    refine sMove (.bool false) S (wN rfl) (.inl rfl) rfl rfl (lb rfl) fun a S => ?_
    refine sSkip 13 true 80 81 S rfl rfl rfl rfl rfl (lb rfl) fun a S => ?_
    refine sSkip 13 true 80 82 S rfl rfl rfl rfl rfl (lb rfl) fun a S => ?_
    refine sSkip 13 true 80 83 S rfl rfl rfl rfl rfl (lb rfl) fun a S => ?_
    refine sPickF (.bool false) S (wN rfl) rfl rfl rfl rfl rfl (lb rfl) fun a S => ?_
    refine sMove (.bool false) S (wN rfl) (.inr rfl) rfl rfl (lb rfl) fun a S => ?_
    exact leafL (leafB (leafT (⟨false, Option.some.inj h, S.fix [] [] (by decide) rfl rfl rfl⟩)))
  refine sField (b := b2) (off := 0) 2 2 S (wG 8 true 75 rfl rfl rfl hc43) rfl rfl rfl rfl rfl (lb rfl) fun a S => ?_
  refine sLoad1 (p := b2) (off := 2) (T := 81) (vs := [.int .u8 p0.Kind, .bool p0.Purl, iv p0.A, iv p0.B]) 0 (iv p0.A) S (wG 8 true 75 rfl rfl rfl hc43) rfl rfl rfl rfl rfl rfl (lb rfl) fun a S => ?_
  refine sBin (.bool (decide (1 ≤ p0.A))) S (wG 8 true 75 rfl rfl rfl hc43) rfl rfl rfl (bGe _ _ _ _ .i64 p0.A 1) rfl (lb rfl) fun a S => ?_
  refine sPickT (.bool (decide (1 ≤ p0.A))) S (wN rfl) rfl rfl hc43 rfl rfl (lb rfl) fun a S => ?_
  refine sMove (.bool (decide (1 ≤ p0.A))) S (wN rfl) (.inl rfl) rfl rfl (lb rfl) fun a S => ?_
  rcases iteSome h with ⟨hc44, h⟩ | ⟨hc44, h⟩
  rotate_left
  · refine sSkip 13 true 80 81 S rfl rfl rfl hc44 rfl (lb rfl) fun a S => ?_
    refine sSkip 13 true 80 82 S rfl rfl rfl hc44 rfl (lb rfl) fun a S => ?_
    refine sSkip 13 true 80 83 S rfl rfl rfl hc44 rfl (lb rfl) fun a S => ?_
    refine sPickF (.bool false) S (wN rfl) rfl rfl hc44 rfl rfl (lb rfl) fun a S => ?_
    refine sMove (.bool false) S (wN rfl) (.inr rfl) rfl rfl (lb rfl) fun a S => ?_
    exact leafL (leafB (leafT (⟨false, Option.some.inj h, S.fix [] [] (by decide) rfl rfl rfl⟩)))
  refine sField (b := b2) (off := 0) 2 2 S (wG 13 true 80 rfl rfl rfl hc44) rfl rfl rfl rfl rfl (lb rfl) fun a S => ?_
  refine sLoad1 (p := b2) (off := 2) (T := 81) (vs := [.int .u8 p0.Kind, .bool p0.Purl, iv p0.A, iv p0.B]) 0 (iv p0.A) S (wG 13 true 80 rfl rfl rfl hc44) rfl rfl rfl rfl rfl rfl (lb rfl) fun a S => ?_
  refine sBin (.bool (decide (p0.A ≤ 200))) S (wG 13 true 80 rfl rfl rfl hc44) rfl rfl rfl (bLe _ _ _ _ .i64 p0.A 200) rfl (lb rfl) fun a S => ?_
  refine sPickT (.bool (decide (p0.A ≤ 200))) S (wN rfl) rfl rfl hc44 rfl rfl (lb rfl) fun a S => ?_
  refine sMove (.bool (decide (p0.A ≤ 200))) S (wN rfl) (.inr rfl) rfl rfl (lb rfl) fun a S => ?_
  exact leafL (leafB (leafT (⟨decide (p0.A ≤ 200), Option.some.inj h, S.fix [] [] (by decide) rfl rfl rfl⟩)))

end Go.Proofs.Ytffikfajljbmnaa
namespace Go.Proofs.Ytffikfajljbmnaa
open Go.RowKit
set_option linter.unusedVariables false

noncomputable def F_raddleref25_Used (p0 : api_Stitch) : Option Int :=
  Option.bind (α := Bool) (
    if p0.Kind == 2 then
      some (p0.Kind == 2)
    else
      some (p0.Kind == 9)) fun o5 =>
  if o5 then
    some 0
  else
    Option.bind (α := Bool) (
      if p0.Kind == 3 then
        some (p0.Kind == 3)
      else
        if p0.Kind == 4 then
          some (p0.Kind == 4)
        else
          some (p0.Kind == 10)) fun o12 =>
    if o12 then
      some p0.A
    else
      Option.bind (α := Bool) (
        if p0.Kind == 6 then
          some (p0.Kind == 6)
        else
          some (p0.Kind == 7)) fun o21 =>
      if o21 then
        some (w64 (p0.A + p0.B))
      else
        some 1
set_option maxHeartbeats 4000000 in
set_option maxRecDepth 100000 in
theorem c_raddleref25_Used (E : Nat → Prop) (w0 : World) (p0 : api_Stitch) (v0 : Value) (r : Int) (h : F_raddleref25_Used p0 = some r) (S : St0 E [] w0 w0 [] [fRep r_api_Stitch (v0) p0]) :
    Calls Try.prog 92 #[v0] w0 (Ret (X := Unit) E [] w0 (fun _ => .int .i64 r) (fun _ => []) (fun _ => [])) := by
  unfold F_raddleref25_Used at h
  obtain rfl : v0 = .agg #[.int .u8 p0.Kind, .bool p0.Purl, iv p0.A, iv p0.B] := S.know (i := 0) (e := fRep r_api_Stitch (v0) p0) rfl
  refine sEnter (args := [.agg #[.int .u8 p0.Kind, .bool p0.Purl, iv p0.A, iv p0.B]]) 22 Try.func92 rfl rfl (by simp) S (fun a S => ?_)
  refine sSeq (fun K1 hK1 => ?_)
  refine sRegion ?_
  refine sBox (v := .agg #[.int .u8 p0.Kind, .bool p0.Purl, iv p0.A, iv p0.B]) S (wN rfl) rfl rfl [.int .u8 p0.Kind, .bool p0.Purl, iv p0.A, iv p0.B] rfl rfl (lb rfl) fun a b2 w S => ?_
  refine sMove (iv 0) S (wN rfl) (.inr rfl) rfl rfl (lb rfl) fun a S => ?_
  refine leafL (leafT (hK1 _ _ ?_))
  refine sSeq (fun K3 hK3 => ?_)
  refine sSeq (fun K4 hK4 => ?_)
  refine sRegion ?_
  refine sField (b := b2) (off := 0) 0 0 S (wN rfl) rfl rfl rfl rfl rfl (lb rfl) fun a S => ?_
  refine sLoad1 (p := b2) (off := 0) (T := 81) (vs := [.int .u8 p0.Kind, .bool p0.Purl, iv p0.A, iv p0.B]) 0 (.int .u8 p0.Kind) S (wN rfl) rfl rfl rfl rfl rfl rfl (lb rfl) fun a S => ?_
  refine leafL (leafT (hK4 _ _ ?_))
  refine wp_block ?_
  obtain ⟨t6, h, g7⟩ := bindSome h
  refine sCut (fun a w => ∃ o5, o5 = t6 ∧ St [] E [] w0 22 a w [(1, .pointer (some ⟨b2, 0, none⟩)), (4, .int .u8 p0.Kind), (5, .bool o5)] [eBox b2 81 [.int .u8 p0.Kind, .bool p0.Purl, iv p0.A, iv p0.B]] []) ?_ (fun a w hI => ?_)
  · refine sSeq (fun K8 hK8 => ?_)
    refine sRegion ?_
    refine sBin (.bool (p0.Kind == 2)) S (wN rfl) rfl rfl rfl (bEq _ _ _ _ .u8 p0.Kind 2) rfl (lb rfl) fun a S => ?_
    refine sMove (.bool (p0.Kind == 2)) S (wN rfl) (.inr rfl) rfl rfl (lb rfl) fun a S => ?_
    refine leafL (leafT (hK8 _ _ ?_))
    rcases iteSome h with ⟨hc9, h⟩ | ⟨hc9, h⟩
    · refine sCondT S rfl hc9 ?_
      exact wp_skip (leafT (⟨p0.Kind == 2, Option.some.inj h, S.fix [0] [] (by decide) rfl rfl rfl⟩))
    refine sCondF S rfl hc9 ?_
    refine sRegion ?_
    refine sBin (.bool (p0.Kind == 9)) S (wN rfl) rfl rfl rfl (bEq _ _ _ _ .u8 p0.Kind 9) rfl (lb rfl) fun a S => ?_
    refine sMove (.bool (p0.Kind == 9)) S (wN rfl) (.inr rfl) rfl rfl (lb rfl) fun a S => ?_
    exact leafL (leafT (⟨p0.Kind == 9, Option.some.inj h, S.fix [0] [] (by decide) rfl rfl rfl⟩))
  obtain ⟨o5, rfl, S⟩ := hI
  have h := g7
  clear g7
  try dsimp only at h
  rcases iteSome h with ⟨hc10, h⟩ | ⟨hc10, h⟩
  · refine sCondT S rfl hc10 ?_
    refine sSeq (fun K11 hK11 => ?_)
    refine sRegion ?_
    refine sMove (iv 0) S (wN rfl) (.inr rfl) rfl rfl (lb rfl) fun a S => ?_
    refine leafL (leafT (hK11 _ _ ?_))
    obtain rfl := Option.some.inj h
    exact wp_ret (rBlock (rThen (sRet (iv 0) S (rsl1 rfl (rvT (t := 2) (v := iv 0) S rfl)) ⟨(), rfl, S.mem.sel [] [] (by decide) rfl rfl⟩)))
  refine sCondF S rfl hc10 ?_
  obtain ⟨t13, h, g14⟩ := bindSome h
  refine sCut (fun a w => ∃ o12, o12 = t13 ∧ St [] E [] w0 22 a w [(1, .pointer (some ⟨b2, 0, none⟩)), (4, .int .u8 p0.Kind), (8, .bool o12)] [eBox b2 81 [.int .u8 p0.Kind, .bool p0.Purl, iv p0.A, iv p0.B]] []) ?_ (fun a w hI => ?_)
  · refine sSeq (fun K15 hK15 => ?_)
    refine sRegion ?_
    refine sBin (.bool (p0.Kind == 3)) S (wN rfl) rfl rfl rfl (bEq _ _ _ _ .u8 p0.Kind 3) rfl (lb rfl) fun a S => ?_
    refine sMove (.bool (p0.Kind == 3)) S (wN rfl) (.inr rfl) rfl rfl (lb rfl) fun a S => ?_
    refine leafL (leafT (hK15 _ _ ?_))
    rcases iteSome h with ⟨hc16, h⟩ | ⟨hc16, h⟩
    · refine sCondT S rfl hc16 ?_
      exact wp_skip (leafT (⟨p0.Kind == 3, Option.some.inj h, S.fix [0] [] (by decide) rfl rfl rfl⟩))
    refine sCondF S rfl hc16 ?_
    refine sSeq (fun K17 hK17 => ?_)
    refine sRegion ?_
    refine sBin (.bool (p0.Kind == 4)) S (wN rfl) rfl rfl rfl (bEq _ _ _ _ .u8 p0.Kind 4) rfl (lb rfl) fun a S => ?_
    refine sMove (.bool (p0.Kind == 4)) S (wN rfl) (.inr rfl) rfl rfl (lb rfl) fun a S => ?_
    refine leafL (leafT (hK17 _ _ ?_))
    rcases iteSome h with ⟨hc18, h⟩ | ⟨hc18, h⟩
    · refine sCondT S rfl hc18 ?_
      exact wp_skip (leafT (⟨p0.Kind == 4, Option.some.inj h, S.fix [0] [] (by decide) rfl rfl rfl⟩))
    refine sCondF S rfl hc18 ?_
    refine sRegion ?_
    refine sBin (.bool (p0.Kind == 10)) S (wN rfl) rfl rfl rfl (bEq _ _ _ _ .u8 p0.Kind 10) rfl (lb rfl) fun a S => ?_
    refine sMove (.bool (p0.Kind == 10)) S (wN rfl) (.inr rfl) rfl rfl (lb rfl) fun a S => ?_
    exact leafL (leafT (⟨p0.Kind == 10, Option.some.inj h, S.fix [0] [] (by decide) rfl rfl rfl⟩))
  obtain ⟨o12, rfl, S⟩ := hI
  have h := g14
  clear g14
  try dsimp only at h
  rcases iteSome h with ⟨hc19, h⟩ | ⟨hc19, h⟩
  · refine sCondT S rfl hc19 ?_
    refine sSeq (fun K20 hK20 => ?_)
    refine sRegion ?_
    refine sField (b := b2) (off := 0) 2 2 S (wN rfl) rfl rfl rfl rfl rfl (lb rfl) fun a S => ?_
    refine sLoad1 (p := b2) (off := 2) (T := 81) (vs := [.int .u8 p0.Kind, .bool p0.Purl, iv p0.A, iv p0.B]) 0 (iv p0.A) S (wN rfl) rfl rfl rfl rfl rfl rfl (lb rfl) fun a S => ?_
    refine sMove (iv p0.A) S (wN rfl) (.inr rfl) rfl rfl (lb rfl) fun a S => ?_
    refine leafL (leafT (hK20 _ _ ?_))
    obtain rfl := Option.some.inj h
    exact wp_ret (rBlock (rThen (sRet (iv p0.A) S (rsl1 rfl (rvT (t := 2) (v := iv p0.A) S rfl)) ⟨(), rfl, S.mem.sel [] [] (by decide) rfl rfl⟩)))
  refine sCondF S rfl hc19 ?_
  obtain ⟨t22, h, g23⟩ := bindSome h
  refine sCut (fun a w => ∃ o21, o21 = t22 ∧ St [] E [] w0 22 a w [(1, .pointer (some ⟨b2, 0, none⟩)), (14, .bool o21)] [eBox b2 81 [.int .u8 p0.Kind, .bool p0.Purl, iv p0.A, iv p0.B]] []) ?_ (fun a w hI => ?_)
  · refine sSeq (fun K24 hK24 => ?_)
    refine sRegion ?_
    refine sBin (.bool (p0.Kind == 6)) S (wN rfl) rfl rfl rfl (bEq _ _ _ _ .u8 p0.Kind 6) rfl (lb rfl) fun a S => ?_
    refine sMove (.bool (p0.Kind == 6)) S (wN rfl) (.inr rfl) rfl rfl (lb rfl) fun a S => ?_
    refine leafL (leafT (hK24 _ _ ?_))
    rcases iteSome h with ⟨hc25, h⟩ | ⟨hc25, h⟩
    · refine sCondT S rfl hc25 ?_
      exact wp_skip (leafT (⟨p0.Kind == 6, Option.some.inj h, S.fix [0] [] (by decide) rfl rfl rfl⟩))
    refine sCondF S rfl hc25 ?_
    refine sRegion ?_
    refine sBin (.bool (p0.Kind == 7)) S (wN rfl) rfl rfl rfl (bEq _ _ _ _ .u8 p0.Kind 7) rfl (lb rfl) fun a S => ?_
    refine sMove (.bool (p0.Kind == 7)) S (wN rfl) (.inr rfl) rfl rfl (lb rfl) fun a S => ?_
    exact leafL (leafT (⟨p0.Kind == 7, Option.some.inj h, S.fix [0] [] (by decide) rfl rfl rfl⟩))
  obtain ⟨o21, rfl, S⟩ := hI
  have h := g23
  clear g23
  try dsimp only at h
  rcases iteSome h with ⟨hc26, h⟩ | ⟨hc26, h⟩
  rotate_left
  · refine sCondF S rfl hc26 ?_
    refine wp_skip (leafB (leafT (hK3 _ _ ?_)))
    refine sSeq (fun K28 hK28 => ?_)
    refine sRegion ?_
    refine sMove (iv 1) S (wN rfl) (.inr rfl) rfl rfl (lb rfl) fun a S => ?_
    refine leafL (leafT (hK28 _ _ ?_))
    obtain rfl := Option.some.inj h
    exact wp_ret (sRet (iv 1) S (rsl1 rfl (rvT (t := 2) (v := iv 1) S rfl)) ⟨(), rfl, S.mem.sel [] [] (by decide) rfl rfl⟩)
  refine sCondT S rfl hc26 ?_
  refine sSeq (fun K27 hK27 => ?_)
  refine sRegion ?_
  refine sField (b := b2) (off := 0) 2 2 S (wN rfl) rfl rfl rfl rfl rfl (lb rfl) fun a S => ?_
  refine sLoad1 (p := b2) (off := 2) (T := 81) (vs := [.int .u8 p0.Kind, .bool p0.Purl, iv p0.A, iv p0.B]) 0 (iv p0.A) S (wN rfl) rfl rfl rfl rfl rfl rfl (lb rfl) fun a S => ?_
  refine sField (b := b2) (off := 0) 3 3 S (wN rfl) rfl rfl rfl rfl rfl (lb rfl) fun a S => ?_
  refine sLoad1 (p := b2) (off := 3) (T := 81) (vs := [.int .u8 p0.Kind, .bool p0.Purl, iv p0.A, iv p0.B]) 0 (iv p0.B) S (wN rfl) rfl rfl rfl rfl rfl rfl (lb rfl) fun a S => ?_
  refine sBin (iv (w64 (p0.A + p0.B))) S (wN rfl) rfl rfl rfl (bAdd _ _ _ _ p0.A p0.B) rfl (lb rfl) fun a S => ?_
  refine sMove (iv (w64 (p0.A + p0.B))) S (wN rfl) (.inr rfl) rfl rfl (lb rfl) fun a S => ?_
  refine leafL (leafT (hK27 _ _ ?_))
  obtain rfl := Option.some.inj h
  exact wp_ret (rBlock (rThen (sRet (iv (w64 (p0.A + p0.B))) S (rsl1 rfl (rvT (t := 2) (v := iv (w64 (p0.A + p0.B))) S rfl)) ⟨(), rfl, S.mem.sel [] [] (by decide) rfl rfl⟩)))

end Go.Proofs.Ytffikfajljbmnaa
namespace Go.Proofs.Ytffikfajljbmnaa
open Go.RowKit
set_option linter.unusedVariables false

noncomputable def F_raddleref25_Gives (p0 : api_Stitch) : Option Int :=
  if p0.Kind == 10 then
    some 0
  else
    Option.bind (α := Bool) (
      if p0.Kind == 5 then
        some (p0.Kind == 5)
      else
        some (p0.Kind == 9)) fun o8 =>
    if o8 then
      some p0.A
    else
      Option.bind (α := Bool) (
        if p0.Kind == 6 then
          some (p0.Kind == 6)
        else
          some (p0.Kind == 7)) fun o15 =>
      if o15 then
        some (w64 (p0.A + p0.B))
      else
        some 1
set_option maxHeartbeats 4000000 in
set_option maxRecDepth 100000 in
theorem c_raddleref25_Gives (E : Nat → Prop) (w0 : World) (p0 : api_Stitch) (v0 : Value) (r : Int) (h : F_raddleref25_Gives p0 = some r) (S : St0 E [] w0 w0 [] [fRep r_api_Stitch (v0) p0]) :
    Calls Try.prog 93 #[v0] w0 (Ret (X := Unit) E [] w0 (fun _ => .int .i64 r) (fun _ => []) (fun _ => [])) := by
  unfold F_raddleref25_Gives at h
  obtain rfl : v0 = .agg #[.int .u8 p0.Kind, .bool p0.Purl, iv p0.A, iv p0.B] := S.know (i := 0) (e := fRep r_api_Stitch (v0) p0) rfl
  refine sEnter (args := [.agg #[.int .u8 p0.Kind, .bool p0.Purl, iv p0.A, iv p0.B]]) 20 Try.func93 rfl rfl (by simp) S (fun a S => ?_)
  refine sSeq (fun K1 hK1 => ?_)
  refine sRegion ?_
  refine sBox (v := .agg #[.int .u8 p0.Kind, .bool p0.Purl, iv p0.A, iv p0.B]) S (wN rfl) rfl rfl [.int .u8 p0.Kind, .bool p0.Purl, iv p0.A, iv p0.B] rfl rfl (lb rfl) fun a b2 w S => ?_
  refine sMove (iv 0) S (wN rfl) (.inr rfl) rfl rfl (lb rfl) fun a S => ?_
  refine leafL (leafT (hK1 _ _ ?_))
  refine sSeq (fun K3 hK3 => ?_)
  refine sSeq (fun K4 hK4 => ?_)
  refine sRegion ?_
  refine sField (b := b2) (off := 0) 0 0 S (wN rfl) rfl rfl rfl rfl rfl (lb rfl) fun a S => ?_
  refine sLoad1 (p := b2) (off := 0) (T := 81) (vs := [.int .u8 p0.Kind, .bool p0.Purl, iv p0.A, iv p0.B]) 0 (.int .u8 p0.Kind) S (wN rfl) rfl rfl rfl rfl rfl rfl (lb rfl) fun a S => ?_
  refine leafL (leafT (hK4 _ _ ?_))
  refine wp_block ?_
  refine sSeq (fun K5 hK5 => ?_)
  refine sRegion ?_
  refine sBin (.bool (p0.Kind == 10)) S (wN rfl) rfl rfl rfl (bEq _ _ _ _ .u8 p0.Kind 10) rfl (lb rfl) fun a S => ?_
  refine sMove (.bool (p0.Kind == 10)) S (wN rfl) (.inr rfl) rfl rfl (lb rfl) fun a S => ?_
  refine leafL (leafT (hK5 _ _ ?_))
  rcases iteSome h with ⟨hc6, h⟩ | ⟨hc6, h⟩
  · refine sCondT S rfl hc6 ?_
    refine sSeq (fun K7 hK7 => ?_)
    refine sRegion ?_
    refine sMove (iv 0) S (wN rfl) (.inr rfl) rfl rfl (lb rfl) fun a S => ?_
    refine leafL (leafT (hK7 _ _ ?_))
    obtain rfl := Option.some.inj h
    exact wp_ret (rBlock (rThen (sRet (iv 0) S (rsl1 rfl (rvT (t := 2) (v := iv 0) S rfl)) ⟨(), rfl, S.mem.sel [] [] (by decide) rfl rfl⟩)))
  refine sCondF S rfl hc6 ?_
  obtain ⟨t9, h, g10⟩ := bindSome h
  refine sCut (fun a w => ∃ o8, o8 = t9 ∧ St [] E [] w0 20 a w [(1, .pointer (some ⟨b2, 0, none⟩)), (4, .int .u8 p0.Kind), (7, .bool o8)] [eBox b2 81 [.int .u8 p0.Kind, .bool p0.Purl, iv p0.A, iv p0.B]] []) ?_ (fun a w hI => ?_)
  · refine sSeq (fun K11 hK11 => ?_)
    refine sRegion ?_
    refine sBin (.bool (p0.Kind == 5)) S (wN rfl) rfl rfl rfl (bEq _ _ _ _ .u8 p0.Kind 5) rfl (lb rfl) fun a S => ?_
    refine sMove (.bool (p0.Kind == 5)) S (wN rfl) (.inr rfl) rfl rfl (lb rfl) fun a S => ?_
    refine leafL (leafT (hK11 _ _ ?_))
    rcases iteSome h with ⟨hc12, h⟩ | ⟨hc12, h⟩
    · refine sCondT S rfl hc12 ?_
      exact wp_skip (leafT (⟨p0.Kind == 5, Option.some.inj h, S.fix [0] [] (by decide) rfl rfl rfl⟩))
    refine sCondF S rfl hc12 ?_
    refine sRegion ?_
    refine sBin (.bool (p0.Kind == 9)) S (wN rfl) rfl rfl rfl (bEq _ _ _ _ .u8 p0.Kind 9) rfl (lb rfl) fun a S => ?_
    refine sMove (.bool (p0.Kind == 9)) S (wN rfl) (.inr rfl) rfl rfl (lb rfl) fun a S => ?_
    exact leafL (leafT (⟨p0.Kind == 9, Option.some.inj h, S.fix [0] [] (by decide) rfl rfl rfl⟩))
  obtain ⟨o8, rfl, S⟩ := hI
  have h := g10
  clear g10
  try dsimp only at h
  rcases iteSome h with ⟨hc13, h⟩ | ⟨hc13, h⟩
  · refine sCondT S rfl hc13 ?_
    refine sSeq (fun K14 hK14 => ?_)
    refine sRegion ?_
    refine sField (b := b2) (off := 0) 2 2 S (wN rfl) rfl rfl rfl rfl rfl (lb rfl) fun a S => ?_
    refine sLoad1 (p := b2) (off := 2) (T := 81) (vs := [.int .u8 p0.Kind, .bool p0.Purl, iv p0.A, iv p0.B]) 0 (iv p0.A) S (wN rfl) rfl rfl rfl rfl rfl rfl (lb rfl) fun a S => ?_
    refine sMove (iv p0.A) S (wN rfl) (.inr rfl) rfl rfl (lb rfl) fun a S => ?_
    refine leafL (leafT (hK14 _ _ ?_))
    obtain rfl := Option.some.inj h
    exact wp_ret (rBlock (rThen (sRet (iv p0.A) S (rsl1 rfl (rvT (t := 2) (v := iv p0.A) S rfl)) ⟨(), rfl, S.mem.sel [] [] (by decide) rfl rfl⟩)))
  refine sCondF S rfl hc13 ?_
  obtain ⟨t16, h, g17⟩ := bindSome h
  refine sCut (fun a w => ∃ o15, o15 = t16 ∧ St [] E [] w0 20 a w [(1, .pointer (some ⟨b2, 0, none⟩)), (12, .bool o15)] [eBox b2 81 [.int .u8 p0.Kind, .bool p0.Purl, iv p0.A, iv p0.B]] []) ?_ (fun a w hI => ?_)
  · refine sSeq (fun K18 hK18 => ?_)
    refine sRegion ?_
    refine sBin (.bool (p0.Kind == 6)) S (wN rfl) rfl rfl rfl (bEq _ _ _ _ .u8 p0.Kind 6) rfl (lb rfl) fun a S => ?_
    refine sMove (.bool (p0.Kind == 6)) S (wN rfl) (.inr rfl) rfl rfl (lb rfl) fun a S => ?_
    refine leafL (leafT (hK18 _ _ ?_))
    rcases iteSome h with ⟨hc19, h⟩ | ⟨hc19, h⟩
    · refine sCondT S rfl hc19 ?_
      exact wp_skip (leafT (⟨p0.Kind == 6, Option.some.inj h, S.fix [0] [] (by decide) rfl rfl rfl⟩))
    refine sCondF S rfl hc19 ?_
    refine sRegion ?_
    refine sBin (.bool (p0.Kind == 7)) S (wN rfl) rfl rfl rfl (bEq _ _ _ _ .u8 p0.Kind 7) rfl (lb rfl) fun a S => ?_
    refine sMove (.bool (p0.Kind == 7)) S (wN rfl) (.inr rfl) rfl rfl (lb rfl) fun a S => ?_
    exact leafL (leafT (⟨p0.Kind == 7, Option.some.inj h, S.fix [0] [] (by decide) rfl rfl rfl⟩))
  obtain ⟨o15, rfl, S⟩ := hI
  have h := g17
  clear g17
  try dsimp only at h
  rcases iteSome h with ⟨hc20, h⟩ | ⟨hc20, h⟩
  rotate_left
  · refine sCondF S rfl hc20 ?_
    refine wp_skip (leafB (leafT (hK3 _ _ ?_)))
    refine sSeq (fun K22 hK22 => ?_)
    refine sRegion ?_
    refine sMove (iv 1) S (wN rfl) (.inr rfl) rfl rfl (lb rfl) fun a S => ?_
    refine leafL (leafT (hK22 _ _ ?_))
    obtain rfl := Option.some.inj h
    exact wp_ret (sRet (iv 1) S (rsl1 rfl (rvT (t := 2) (v := iv 1) S rfl)) ⟨(), rfl, S.mem.sel [] [] (by decide) rfl rfl⟩)
  refine sCondT S rfl hc20 ?_
  refine sSeq (fun K21 hK21 => ?_)
  refine sRegion ?_
  refine sField (b := b2) (off := 0) 2 2 S (wN rfl) rfl rfl rfl rfl rfl (lb rfl) fun a S => ?_
  refine sLoad1 (p := b2) (off := 2) (T := 81) (vs := [.int .u8 p0.Kind, .bool p0.Purl, iv p0.A, iv p0.B]) 0 (iv p0.A) S (wN rfl) rfl rfl rfl rfl rfl rfl (lb rfl) fun a S => ?_
  refine sField (b := b2) (off := 0) 3 3 S (wN rfl) rfl rfl rfl rfl rfl (lb rfl) fun a S => ?_
  refine sLoad1 (p := b2) (off := 3) (T := 81) (vs := [.int .u8 p0.Kind, .bool p0.Purl, iv p0.A, iv p0.B]) 0 (iv p0.B) S (wN rfl) rfl rfl rfl rfl rfl rfl (lb rfl) fun a S => ?_
  refine sBin (iv (w64 (p0.A + p0.B))) S (wN rfl) rfl rfl rfl (bAdd _ _ _ _ p0.A p0.B) rfl (lb rfl) fun a S => ?_
  refine sMove (iv (w64 (p0.A + p0.B))) S (wN rfl) (.inr rfl) rfl rfl (lb rfl) fun a S => ?_
  refine leafL (leafT (hK21 _ _ ?_))
  obtain rfl := Option.some.inj h
  exact wp_ret (rBlock (rThen (sRet (iv (w64 (p0.A + p0.B))) S (rsl1 rfl (rvT (t := 2) (v := iv (w64 (p0.A + p0.B))) S rfl)) ⟨(), rfl, S.mem.sel [] [] (by decide) rfl rfl⟩)))

end Go.Proofs.Ytffikfajljbmnaa
namespace Go.Proofs.Ytffikfajljbmnaa
open Go.RowKit
set_option linter.unusedVariables false

noncomputable def raddleref25_sums_l1 (p0 : (List api_Stitch)) : (Int × Int × Int) → Option ((Int × Int × Int) ⊕ (Int × Int)) := fun s0 => match s0 with
  | (s10, s11, s12) =>
    if decide (s12 < (p0.length : Int)) then
      Option.bind (idxO p0 s12) fun x23 =>
      Option.bind (F_raddleref25_Used x23) fun r28 =>
      Option.bind (F_raddleref25_Gives x23) fun r33 =>
      some (.inl (w64 (s10 + r28), w64 (s11 + r33), w64 (s12 + 1)))
    else
      some (.inr (s10, s11))
noncomputable def F_raddleref25_sums (p0 : (List api_Stitch)) : Option (Int × Int) :=
  Option.bind (α := (Int × Int)) (
    Option.bind (whileO (raddleref25_sums_l1 p0) (0, 0, 0)) fun (e16, e17) =>
      some (e16, e17)) fun (o5, o6) =>
  some (o5, o6)
set_option maxHeartbeats 4000000 in
set_option maxRecDepth 100000 in
theorem c_raddleref25_sums (E : Nat → Prop) (w0 : World) (p0 : (List api_Stitch)) (v0 : Value) (r : (Int × Int)) (h : F_raddleref25_sums p0 = some r) (S : St0 E [] w0 w0 [] [fRep (rL r_api_Stitch) (v0) p0]) :
    Calls Try.prog 74 #[v0] w0 (Ret (X := Unit) E [] w0 (fun _ => .tuple #[.int .i64 r.1, .int .i64 r.2]) (fun _ => []) (fun _ => [])) := by
  unfold F_raddleref25_sums at h
  obtain ⟨ad1, cp2, _, rfl, _⟩ := S.know (i := 0) (e := fRep (rL r_api_Stitch) (v0) p0) rfl
  refine sEnter (args := [.slice ad1 p0.length cp2]) 29 Try.func74 rfl rfl (by simp) S (fun a S => ?_)
  refine sSeq (fun K3 hK3 => ?_)
  refine sRegion ?_
  refine sMove (iv 0) S (wN rfl) (.inr rfl) rfl rfl (lb rfl) fun a S => ?_
  refine sMove (iv 0) S (wN rfl) (.inr rfl) rfl rfl (lb rfl) fun a S => ?_
  refine leafL (leafT (hK3 _ _ ?_))
  refine sSeq (fun K4 hK4 => ?_)
  refine sRegion ?_
  refine sMove (iv 0) S (wN rfl) (.inr rfl) rfl rfl (lb rfl) fun a S => ?_
  refine sMove (iv 0) S (wN rfl) (.inr rfl) rfl rfl (lb rfl) fun a S => ?_
  refine leafL (leafT (hK4 _ _ ?_))
  obtain ⟨t7, h, g8⟩ := bindSome h
  refine sCut (fun a w => ∃ o5, ∃ o6, (o5, o6) = t7 ∧ St [] E [] w0 29 a w [(4, iv o5), (5, iv o6)] [] []) ?_ (fun a w hI => ?_)
  rotate_left
  · obtain ⟨o5, o6, rfl, S⟩ := hI
    have h := g8
    clear g8
    try dsimp only at h
    refine sSeq (fun K35 hK35 => ?_)
    refine sRegion ?_
    refine sMove (iv o5) S (wN rfl) (.inl rfl) rfl rfl (lb rfl) fun a S => ?_
    refine sMove (iv o6) S (wN rfl) (.inl rfl) rfl rfl (lb rfl) fun a S => ?_
    refine sMove (iv o5) S (wN rfl) (.inr rfl) rfl rfl (lb rfl) fun a S => ?_
    refine sMove (iv o6) S (wN rfl) (.inr rfl) rfl rfl (lb rfl) fun a S => ?_
    refine leafL (leafT (hK35 _ _ ?_))
    obtain rfl := Option.some.inj h
    exact wp_ret (sRet (.tuple #[iv o5, iv o6]) S (rsl2 rfl (rvT (t := 2) (v := iv o5) S rfl) (rvT (t := 3) (v := iv o6) S rfl)) ⟨(), rfl, S.mem.sel [] [] (by decide) rfl rfl⟩)
  refine sSeq (fun K9 hK9 => ?_)
  refine sRegion ?_
  refine sMove (iv 0) S (wN rfl) (.inr rfl) rfl rfl (lb rfl) fun a S => ?_
  refine leafL (leafT (hK9 _ _ ?_))
  refine wp_block ?_
  obtain ⟨t15, hl, g14⟩ := bindSome h
  refine sLoop hl (fun s0 a w => match s0 with | (s10, s11, s12) => St [] E [] w0 29 a w [(0, .slice ad1 p0.length cp2), (4, iv s10), (5, iv s11), (6, iv s12)] [] [fRep (rL r_api_Stitch) (.slice ad1 p0.length cp2) p0]) (S.fix [] [0] (by decide) rfl rfl rfl) ?_
  clear hl h
  intro s0 a w c0 hI h hu13
  obtain ⟨s10, s11, s12⟩ := s0
  unfold raddleref25_sums_l1 at h
  dsimp only at h hI
  have S := hI
  refine sSeq (fun K18 hK18 => ?_)
  refine sSeq (fun K19 hK19 => ?_)
  refine sRegion ?_
  refine sMove (iv s12) S (wN rfl) (.inl rfl) rfl rfl (lb rfl) fun a S => ?_
  refine sMove (.slice ad1 p0.length cp2) S (wN rfl) (.inl rfl) rfl rfl (lb rfl) fun a S => ?_
  refine sLen (ad := ad1) (m := p0.length) (c := cp2) S (wN rfl) rfl Try.underlying47 rfl rfl (lb rfl) fun a S => ?_
  refine sBin (.bool (decide (s12 < (p0.length : Int)))) S (wN rfl) rfl rfl rfl (bLt _ _ _ _ .i64 s12 (p0.length : Int)) rfl (lb rfl) fun a S => ?_
  refine leafL (leafT (hK19 _ _ ?_))
  rcases iteSome h with ⟨hc20, h⟩ | ⟨hc20, h⟩
  rotate_left
  · refine sCondF S rfl hc20 ?_
    obtain rfl := Option.some.inj h
    obtain rfl := hu13 _ rfl
    have h := g14
    clear g14
    try dsimp only at h
    exact wp_exit (xThen (xThen (xHit (leafT (⟨s10, s11, Option.some.inj h, S.fix [] [] (by decide) rfl rfl rfl⟩)))))
  refine sCondT S rfl hc20 ?_
  refine wp_skip (leafT (hK18 _ _ ?_))
  refine sSeq (fun K21 hK21 => ?_)
  refine wp_block ?_
  refine sSeq (fun K22 hK22 => ?_)
  refine sRegion ?_
  refine sMove (iv s10) S (wN rfl) (.inl rfl) rfl rfl (lb rfl) fun a S => ?_
  refine sMove (.slice ad1 p0.length cp2) S (wN rfl) (.inl rfl) rfl rfl (lb rfl) fun a S => ?_
  refine sMove (iv s12) S (wN rfl) (.inl rfl) rfl rfl (lb rfl) fun a S => ?_
  obtain ⟨x23, hx24, h⟩ := bindSome h
  obtain ⟨q25, hq26, S⟩ := pIdx (P := Try.prog) (r := r_api_Stitch) (v := .slice ad1 p0.length cp2) (xs := p0) (j := s12) 47 81 0 S Try.underlying47 rfl rfl hx24
  refine sIdxV (v := .slice ad1 p0.length cp2) (k := .i64) (j := s12) S (wN rfl) rfl rfl rfl hq26 rfl (lb rfl) fun a S => ?_
  obtain ⟨u27, S⟩ := pLoad (r := r_api_Stitch) (q := q25) (x := x23) 0 S rfl
  obtain rfl : u27 = .agg #[.int .u8 x23.Kind, .bool x23.Purl, iv x23.A, iv x23.B] := S.mem.know (i := 1) (e := fRep r_api_Stitch (u27) x23) rfl
  refine sLoadVN (vq := q25) 0 [.int .u8 x23.Kind, .bool x23.Purl, iv x23.A, iv x23.B] S (wN rfl) rfl rfl rfl rfl rfl rfl (lb rfl) fun a S => ?_
  obtain ⟨r28, hx29, h⟩ := bindSome h
  have S1 := S.mem
  refine sCallQ (X := Unit) (f := 92) (vs := [.agg #[.int .u8 x23.Kind, .bool x23.Purl, iv x23.A, iv x23.B]]) (val := fun _ => iv r28) S (wN rfl) rfl callee92 rfl (S1.quiet [1] rfl) (fun E1 w1 S1 => c_raddleref25_Used E1 w1 x23 (.agg #[.int .u8 x23.Kind, .bool x23.Purl, iv x23.A, iv x23.B]) r28 hx29 S1) rfl (lb rfl) fun _ a w S => ?_
  refine sBin (iv (w64 (s10 + r28))) S (wN rfl) rfl rfl rfl (bAdd _ _ _ _ s10 r28) rfl (lb rfl) fun a S => ?_
  refine sMove (iv (w64 (s10 + r28))) S (wN rfl) (.inr rfl) rfl rfl (lb rfl) fun a S => ?_
  refine leafL (leafT (hK22 _ _ ?_))
  refine sRegion ?_
  refine sMove (iv s11) S (wN rfl) (.inl rfl) rfl rfl (lb rfl) fun a S => ?_
  refine sMove (.slice ad1 p0.length cp2) S (wN rfl) (.inl rfl) rfl rfl (lb rfl) fun a S => ?_
  refine sMove (iv s12) S (wN rfl) (.inl rfl) rfl rfl (lb rfl) fun a S => ?_
  obtain ⟨q30, hq31, S⟩ := pIdx (P := Try.prog) (r := r_api_Stitch) (v := .slice ad1 p0.length cp2) (xs := p0) (j := s12) 47 81 3 S Try.underlying47 rfl rfl hx24
  refine sIdxV (v := .slice ad1 p0.length cp2) (k := .i64) (j := s12) S (wN rfl) rfl rfl rfl hq31 rfl (lb rfl) fun a S => ?_
  obtain ⟨u32, S⟩ := pLoad (r := r_api_Stitch) (q := q30) (x := x23) 0 S rfl
  obtain rfl : u32 = .agg #[.int .u8 x23.Kind, .bool x23.Purl, iv x23.A, iv x23.B] := S.mem.know (i := 1) (e := fRep r_api_Stitch (u32) x23) rfl
  refine sLoadVN (vq := q30) 0 [.int .u8 x23.Kind, .bool x23.Purl, iv x23.A, iv x23.B] S (wN rfl) rfl rfl rfl rfl rfl rfl (lb rfl) fun a S => ?_
  obtain ⟨r33, hx34, h⟩ := bindSome h
  have S1 := S.mem
  refine sCallQ (X := Unit) (f := 93) (vs := [.agg #[.int .u8 x23.Kind, .bool x23.Purl, iv x23.A, iv x23.B]]) (val := fun _ => iv r33) S (wN rfl) rfl callee93 rfl (S1.quiet [1] rfl) (fun E1 w1 S1 => c_raddleref25_Gives E1 w1 x23 (.agg #[.int .u8 x23.Kind, .bool x23.Purl, iv x23.A, iv x23.B]) r33 hx34 S1) rfl (lb rfl) fun _ a w S => ?_
  refine sBin (iv (w64 (s11 + r33))) S (wN rfl) rfl rfl rfl (bAdd _ _ _ _ s11 r33) rfl (lb rfl) fun a S => ?_
  refine sMove (iv (w64 (s11 + r33))) S (wN rfl) (.inr rfl) rfl rfl (lb rfl) fun a S => ?_
  refine leafL (leafB (leafT (hK21 _ _ ?_)))
  refine sRegion ?_
  refine sMove (iv s12) S (wN rfl) (.inl rfl) rfl rfl (lb rfl) fun a S => ?_
  refine sBin (iv (w64 (s12 + 1))) S (wN rfl) rfl rfl rfl (bAdd _ _ _ _ s12 1) rfl (lb rfl) fun a S => ?_
  refine sMove (iv (w64 (s12 + 1))) S (wN rfl) (.inr rfl) rfl rfl (lb rfl) fun a S => ?_
  exact leafL (leafT (⟨(w64 (s10 + r28), w64 (s11 + r33), w64 (s12 + 1)), (Option.some.inj h).symm, (S.fix [] [6] (by decide) rfl rfl rfl)⟩))

end Go.Proofs.Ytffikfajljbmnaa
namespace Go.Proofs.Ytffikfajljbmnaa
open Go.RowKit
set_option linter.unusedVariables false

noncomputable def raddleref25_All_l1 (p0 : (List api_Stitch)) : Int → Option (Int ⊕ (Int ⊕ Unit)) := fun s0 => match s0 with
  | s11 =>
    if decide (s11 < (p0.length : Int)) then
      Option.bind (idxO p0 s11) fun x20 =>
      Option.bind (F_raddleref25_Check x20) fun r25 =>
      if r25 != 0 then
        some (.inr (.inl 8))
      else
        some (.inl (w64 (s11 + 1)))
    else
      some (.inr (.inr ()))
noncomputable def F_raddleref25_All (p0 : (List api_Stitch)) : Option Int :=
  if decide (200 < (p0.length : Int)) then
    some 4
  else
    Option.bind (α := Unit ⊕ Int) (
      Option.bind (whileO (raddleref25_All_l1 p0) 0) fun z0 => match z0 with
        | .inl z =>
          some (.inr z)
        | .inr _ =>
          some (.inl ())) fun z0 => match z0 with
      | .inl _ =>
        Option.bind (F_raddleref25_sums p0) fun r30 =>
        Option.bind (α := Bool) (
          if decide (200 < r30.1) then
            some true
          else
            some (decide (200 < r30.2))) fun o33 =>
        if o33 then
          some 4
        else
          some 0
      | .inr z =>
        some z
set_option maxHeartbeats 4000000 in
set_option maxRecDepth 100000 in
theorem c_raddleref25_All (E : Nat → Prop) (w0 : World) (p0 : (List api_Stitch)) (v0 : Value) (r : Int) (h : F_raddleref25_All p0 = some r) (S : St0 E [] w0 w0 [] [fRep (rL r_api_Stitch) (v0) p0]) :
    Calls Try.prog 38 #[v0] w0 (Ret (X := Unit) E [] w0 (fun _ => .int .i64 r) (fun _ => []) (fun _ => [])) := by
  unfold F_raddleref25_All at h
  obtain ⟨ad1, cp2, _, rfl, _⟩ := S.know (i := 0) (e := fRep (rL r_api_Stitch) (v0) p0) rfl
  refine sEnter (args := [.slice ad1 p0.length cp2]) 32 Try.func38 rfl rfl (by simp) S (fun a S => ?_)
  refine sSeq (fun K3 hK3 => ?_)
  refine sRegion ?_
  refine sMove (iv 0) S (wN rfl) (.inr rfl) rfl rfl (lb rfl) fun a S => ?_
  refine leafL (leafT (hK3 _ _ ?_))
  refine sSeq (fun K4 hK4 => ?_)
  refine sSeq (fun K5 hK5 => ?_)
  refine sRegion ?_
  refine sMove (.slice ad1 p0.length cp2) S (wN rfl) (.inl rfl) rfl rfl (lb rfl) fun a S => ?_
  refine sLen (ad := ad1) (m := p0.length) (c := cp2) S (wN rfl) rfl Try.underlying47 rfl rfl (lb rfl) fun a S => ?_
  refine sBin (.bool (decide (200 < (p0.length : Int)))) S (wN rfl) rfl rfl rfl (bGt _ _ _ _ .i64 (p0.length : Int) 200) rfl (lb rfl) fun a S => ?_
  refine leafL (leafT (hK5 _ _ ?_))
  rcases iteSome h with ⟨hc6, h⟩ | ⟨hc6, h⟩
  · refine sCondT S rfl hc6 ?_
    refine sSeq (fun K7 hK7 => ?_)
    refine sRegion ?_
    refine sMove (iv 4) S (wN rfl) (.inr rfl) rfl rfl (lb rfl) fun a S => ?_
    refine leafL (leafT (hK7 _ _ ?_))
    obtain rfl := Option.some.inj h
    exact wp_ret (rThen (sRet (iv 4) S (rsl1 rfl (rvT (t := 2) (v := iv 4) S rfl)) ⟨(), rfl, S.mem.sel [] [] (by decide) rfl rfl⟩))
  refine sCondF S rfl hc6 ?_
  refine wp_skip (leafT (hK4 _ _ ?_))
  obtain ⟨t8, h, g9⟩ := bindSome h
  refine sCut (fun a w => .inl () = t8 ∧ St [] E [] w0 32 a w [(0, .slice ad1 p0.length cp2)] [] [fRep (rL r_api_Stitch) (.slice ad1 p0.length cp2) p0]) ?_ (fun a w hI => ?_)
  rotate_left
  · obtain ⟨rfl, S⟩ := hI
    have h := g9
    clear g9
    try dsimp only at h
    refine sSeq (fun K29 hK29 => ?_)
    refine sRegion ?_
    refine sMove (.slice ad1 p0.length cp2) S (wN rfl) (.inl rfl) rfl rfl (lb rfl) fun a S => ?_
    obtain ⟨r30, hx31, h⟩ := bindSome h
    have S1 := S.mem
    refine sCallQ (X := Unit) (f := 74) (vs := [.slice ad1 p0.length cp2]) (val := fun _ => .tuple #[iv r30.1, iv r30.2]) S (wN rfl) rfl callee74 rfl (S1.quiet [0] rfl) (fun E1 w1 S1 => c_raddleref25_sums E1 w1 p0 (.slice ad1 p0.length cp2) r30 hx31 S1) rfl (lb rfl) fun _ a w S => ?_
    refine sMove (.tuple #[iv r30.1, iv r30.2]) S (wN rfl) (.inl rfl) rfl rfl (lb rfl) fun a S => ?_
    refine sExtract (vs := [iv r30.1, iv r30.2]) (iv r30.1) S (wN rfl) rfl rfl rfl rfl (lb rfl) fun a S => ?_
    refine sExtract (vs := [iv r30.1, iv r30.2]) (iv r30.2) S (wN rfl) rfl rfl rfl rfl (lb rfl) fun a S => ?_
    refine sMove (iv r30.1) S (wN rfl) (.inr rfl) rfl rfl (lb rfl) fun a S => ?_
    refine sMove (iv r30.2) S (wN rfl) (.inr rfl) rfl rfl (lb rfl) fun a S => ?_
    refine leafL (leafT (hK29 _ _ ?_))
    refine sSeq (fun K32 hK32 => ?_)
    obtain ⟨t34, h, g35⟩ := bindSome h
    refine sCut (fun a w => ∃ o33, o33 = t34 ∧ St [] E [] w0 32 a w [(31, .bool o33)] [] []) ?_ (fun a w hI => ?_)
    rotate_left
    · obtain ⟨o33, rfl, S⟩ := hI
      have h := g35
      clear g35
      try dsimp only at h
      rcases iteSome h with ⟨hc37, h⟩ | ⟨hc37, h⟩
      · refine sCondT S rfl hc37 ?_
        refine sSeq (fun K38 hK38 => ?_)
        refine sRegion ?_
        refine sMove (iv 4) S (wN rfl) (.inr rfl) rfl rfl (lb rfl) fun a S => ?_
        refine leafL (leafT (hK38 _ _ ?_))
        obtain rfl := Option.some.inj h
        exact wp_ret (rThen (sRet (iv 4) S (rsl1 rfl (rvT (t := 2) (v := iv 4) S rfl)) ⟨(), rfl, S.mem.sel [] [] (by decide) rfl rfl⟩))
      refine sCondF S rfl hc37 ?_
      refine wp_skip (leafT (hK32 _ _ ?_))
      refine sSeq (fun K39 hK39 => ?_)
      refine sRegion ?_
      refine sMove (iv 0) S (wN rfl) (.inr rfl) rfl rfl (lb rfl) fun a S => ?_
      refine leafL (leafT (hK39 _ _ ?_))
      obtain rfl := Option.some.inj h
      exact wp_ret (sRet (iv 0) S (rsl1 rfl (rvT (t := 2) (v := iv 0) S rfl)) ⟨(), rfl, S.mem.sel [] [] (by decide) rfl rfl⟩)
    refine sRegion ?_
    refine sMove (iv r30.1) S (wN rfl) (.inl rfl) rfl rfl (lb rfl) fun a S => ?_
    refine sBin (.bool (decide (200 < r30.1))) S (wN rfl) rfl rfl rfl (bGt _ _ _ _ .i64 r30.1 200) rfl (lb rfl) fun a S => ?_
    refine sMove (.bool (decide (200 < r30.1))) S (wN rfl) (.inl rfl) rfl rfl (lb rfl) fun a S => ?_
    rcases iteSome h with ⟨hc36, h⟩ | ⟨hc36, h⟩
    · refine sSkip 2 false 28 29 S rfl rfl rfl hc36 rfl (lb rfl) fun a S => ?_
      refine sSkip 2 false 28 30 S rfl rfl rfl hc36 rfl (lb rfl) fun a S => ?_
      refine sPickT (.bool true) S (wN rfl) rfl rfl hc36 rfl rfl (lb rfl) fun a S => ?_
      exact leafL (leafT (⟨true, Option.some.inj h, S.fix [] [] (by decide) rfl rfl rfl⟩))
    refine sMove (iv r30.2) S (wG 2 false 28 rfl rfl rfl hc36) (.inl rfl) rfl rfl (lb rfl) fun a S => ?_
    refine sBin (.bool (decide (200 < r30.2))) S (wG 2 false 28 rfl rfl rfl hc36) rfl rfl rfl (bGt _ _ _ _ .i64 r30.2 200) rfl (lb rfl) fun a S => ?_
    refine sPickF (.bool (decide (200 < r30.2))) S (wN rfl) rfl rfl hc36 rfl rfl (lb rfl) fun a S => ?_
    exact leafL (leafT (⟨decide (200 < r30.2), Option.some.inj h, S.fix [] [] (by decide) rfl rfl rfl⟩))
  refine sSeq (fun K10 hK10 => ?_)
  refine sRegion ?_
  refine sMove (iv 0) S (wN rfl) (.inr rfl) rfl rfl (lb rfl) fun a S => ?_
  refine leafL (leafT (hK10 _ _ ?_))
  refine wp_block ?_
  obtain ⟨t14, hl, g13⟩ := bindSome h
  refine sLoop hl (fun s0 a w => match s0 with | s11 => St [] E [] w0 32 a w [(0, .slice ad1 p0.length cp2), (3, iv s11)] [] [fRep (rL r_api_Stitch) (.slice ad1 p0.length cp2) p0]) (S.fix [] [0] (by decide) rfl rfl rfl) ?_
  clear hl h
  intro s11 a w c0 hI h hu12
  unfold raddleref25_All_l1 at h
  dsimp only at h hI
  have S := hI
  refine sSeq (fun K15 hK15 => ?_)
  refine sSeq (fun K16 hK16 => ?_)
  refine sRegion ?_
  refine sMove (iv s11) S (wN rfl) (.inl rfl) rfl rfl (lb rfl) fun a S => ?_
  refine sMove (.slice ad1 p0.length cp2) S (wN rfl) (.inl rfl) rfl rfl (lb rfl) fun a S => ?_
  refine sLen (ad := ad1) (m := p0.length) (c := cp2) S (wN rfl) rfl Try.underlying47 rfl rfl (lb rfl) fun a S => ?_
  refine sBin (.bool (decide (s11 < (p0.length : Int)))) S (wN rfl) rfl rfl rfl (bLt _ _ _ _ .i64 s11 (p0.length : Int)) rfl (lb rfl) fun a S => ?_
  refine leafL (leafT (hK16 _ _ ?_))
  rcases iteSome h with ⟨hc17, h⟩ | ⟨hc17, h⟩
  rotate_left
  · refine sCondF S rfl hc17 ?_
    obtain rfl := Option.some.inj h
    obtain rfl := hu12 _ rfl
    have h := g13
    clear g13
    try dsimp only at h
    exact wp_exit (xThen (xThen (xHit (leafT (⟨Option.some.inj h, S.fix [] [0] (by decide) rfl rfl rfl⟩)))))
  refine sCondT S rfl hc17 ?_
  refine wp_skip (leafT (hK15 _ _ ?_))
  refine sSeq (fun K18 hK18 => ?_)
  refine wp_block ?_
  refine sSeq (fun K19 hK19 => ?_)
  refine sRegion ?_
  refine sMove (.slice ad1 p0.length cp2) S (wN rfl) (.inl rfl) rfl rfl (lb rfl) fun a S => ?_
  refine sMove (iv s11) S (wN rfl) (.inl rfl) rfl rfl (lb rfl) fun a S => ?_
  obtain ⟨x20, hx21, h⟩ := bindSome h
  obtain ⟨q22, hq23, S⟩ := pIdx (P := Try.prog) (r := r_api_Stitch) (v := .slice ad1 p0.length cp2) (xs := p0) (j := s11) 47 81 0 S Try.underlying47 rfl rfl hx21
  refine sIdxV (v := .slice ad1 p0.length cp2) (k := .i64) (j := s11) S (wN rfl) rfl rfl rfl hq23 rfl (lb rfl) fun a S => ?_
  obtain ⟨u24, S⟩ := pLoad (r := r_api_Stitch) (q := q22) (x := x20) 0 S rfl
  obtain rfl : u24 = .agg #[.int .u8 x20.Kind, .bool x20.Purl, iv x20.A, iv x20.B] := S.mem.know (i := 1) (e := fRep r_api_Stitch (u24) x20) rfl
  refine sLoadVN (vq := q22) 0 [.int .u8 x20.Kind, .bool x20.Purl, iv x20.A, iv x20.B] S (wN rfl) rfl rfl rfl rfl rfl rfl (lb rfl) fun a S => ?_
  obtain ⟨r25, hx26, h⟩ := bindSome h
  have S1 := S.mem
  refine sCallQ (X := Unit) (f := 73) (vs := [.agg #[.int .u8 x20.Kind, .bool x20.Purl, iv x20.A, iv x20.B]]) (val := fun _ => iv r25) S (wN rfl) rfl callee73 rfl (S1.quiet [1] rfl) (fun E1 w1 S1 => c_raddleref25_Check E1 w1 x20 (.agg #[.int .u8 x20.Kind, .bool x20.Purl, iv x20.A, iv x20.B]) r25 hx26 S1) rfl (lb rfl) fun _ a w S => ?_
  refine sBin (.bool (r25 != 0)) S (wN rfl) rfl rfl rfl (bNe _ _ _ _ .i64 r25 0) rfl (lb rfl) fun a S => ?_
  refine leafL (leafT (hK19 _ _ ?_))
  rcases iteSome h with ⟨hc27, h⟩ | ⟨hc27, h⟩
  rotate_left
  · refine sCondF S rfl hc27 ?_
    refine wp_skip (leafB (leafT (hK18 _ _ ?_)))
    refine sRegion ?_
    refine sMove (iv s11) S (wN rfl) (.inl rfl) rfl rfl (lb rfl) fun a S => ?_
    refine sBin (iv (w64 (s11 + 1))) S (wN rfl) rfl rfl rfl (bAdd _ _ _ _ s11 1) rfl (lb rfl) fun a S => ?_
    refine sMove (iv (w64 (s11 + 1))) S (wN rfl) (.inr rfl) rfl rfl (lb rfl) fun a S => ?_
    exact leafL (leafT (⟨w64 (s11 + 1), (Option.some.inj h).symm, (S.fix [] [3] (by decide) rfl rfl rfl)⟩))
  refine sCondT S rfl hc27 ?_
  refine sSeq (fun K28 hK28 => ?_)
  refine sRegion ?_
  refine sMove (iv 8) S (wN rfl) (.inr rfl) rfl rfl (lb rfl) fun a S => ?_
  refine leafL (leafT (hK28 _ _ ?_))
  obtain rfl := Option.some.inj h
  obtain rfl := hu12 _ rfl
  have h := g13
  clear g13
  try dsimp only at h
  obtain rfl := Option.some.inj h
  have h := g9
  clear g9
  try dsimp only at h
  obtain rfl := Option.some.inj h
  exact wp_ret (rBlock (rThen (rThen (rBlock (rThen (sRet (iv 8) S (rsl1 rfl (rvT (t := 2) (v := iv 8) S rfl)) ⟨(), rfl, S.mem.sel [] [] (by decide) rfl rfl⟩))))))

end Go.Proofs.Ytffikfajljbmnaa
namespace Go.Proofs.Ytffikfajljbmnaa
open Go.RowKit
set_option linter.unusedVariables false

/-- a loop by a count, whatever its state looks like -/
theorem loop_at {S σ τ : Type} {B : S → Option (S ⊕ τ)} (n : Nat) (st : Nat → σ → S) (I : Nat → σ → Prop) (Pt : τ → Prop) {s0 : σ} (h0 : I 0 s0)
    (step : ∀ k s, k < n → I k s → (∃ s', B (st k s) = some (.inl (st (k + 1) s')) ∧ I (k + 1) s') ∨ (∃ t, B (st k s) = some (.inr t) ∧ Pt t))
    (last : ∀ s, I n s → ∃ t, B (st n s) = some (.inr t) ∧ Pt t) : ∃ t, whileO B (st 0 s0) = some t ∧ Pt t := by
  have key : ∀ j k s, j + k = n → I k s → ∃ t, whileO B (st k s) = some t ∧ Pt t := by
    intro j
    induction j with
    | zero =>
      intro k s hk hI
      obtain rfl : k = n := by omega
      obtain ⟨t, h1, h2⟩ := last s hI
      exact ⟨t, whileO_done h1, h2⟩
    | succ j ih =>
      intro k s hk hI
      rcases step k s (by omega) hI with ⟨s', h1, h2⟩ | ⟨t, h1, h2⟩
      · rw [whileO_step h1]; exact ih _ _ (by omega) h2
      · exact ⟨t, whileO_done h1, h2⟩
  exact key n 0 s0 (by omega) h0
/-- sums over a list -/
def sm {α : Type} (f : α → Int) : List α → Int
  | [] => 0
  | x :: l => f x + sm f l
theorem sm_append {α : Type} (f : α → Int) (l k : List α) : sm f (l ++ k) = sm f l + sm f k := by
  induction l with
  | nil => simp [sm]
  | cons x l ih => simp only [List.cons_append, sm, ih]; omega
theorem sm_take {α : Type} (f : α → Int) (l : List α) {k : Nat} (h : k < l.length) : sm f (l.take (k + 1)) = sm f (l.take k) + f l[k] := by
  rw [List.take_succ_eq_append_getElem h, sm_append]
  simp [sm]
theorem sm_bd {α : Type} {f : α → Int} {b : Int} {l : List α} (h : ∀ x, x ∈ l → 0 ≤ f x ∧ f x ≤ b) : 0 ≤ sm f l ∧ sm f l ≤ b * l.length := by
  induction l with
  | nil => simp [sm]
  | cons x l ih =>
    have h1 := h x (by simp)
    have h2 := ih fun y hy => h y (by simp [hy])
    simp only [sm, List.length_cons]
    have e : b * ((l.length + 1 : Nat) : Int) = b * l.length + b := by rw [Int.natCast_add, Int.mul_add]; simp
    rw [e]
    omega
def usedS (p : api_Stitch) : Int := if p.Kind = 2 ∨ p.Kind = 9 then 0 else if p.Kind = 3 ∨ p.Kind = 4 ∨ p.Kind = 10 then p.A else if p.Kind = 6 ∨ p.Kind = 7 then p.A + p.B else 1
def madeS (p : api_Stitch) : Int := if p.Kind = 10 then 0 else if p.Kind = 5 ∨ p.Kind = 9 then p.A else if p.Kind = 6 ∨ p.Kind = 7 then p.A + p.B else 1
def okS (p : api_Stitch) : Prop :=
  (p.Kind = 1 ∨ p.Kind = 8) ∧ p.A = 0 ∧ p.B = 0 ∨ p.Kind = 2 ∧ p.A = 0 ∧ p.B = 0 ∧ p.Purl = false ∨ (p.Kind = 3 ∨ p.Kind = 4 ∨ p.Kind = 5) ∧ 2 ≤ p.A ∧ p.A ≤ 4 ∧ p.B = 0 ∨
  (p.Kind = 6 ∨ p.Kind = 7) ∧ 1 ≤ p.A ∧ p.A ≤ 6 ∧ 1 ≤ p.B ∧ p.B ≤ 6 ∨ p.Kind = 9 ∧ 1 ≤ p.A ∧ p.A ≤ 200 ∧ p.B = 0 ∧ p.Purl = false ∨ p.Kind = 10 ∧ 1 ≤ p.A ∧ p.A ≤ 200 ∧ p.B = 0
instance (p : api_Stitch) : Decidable (okS p) := by unfold okS; infer_instance
theorem okS_bd {p : api_Stitch} (h : okS p) : 1 ≤ p.Kind ∧ p.Kind ≤ 10 ∧ 0 ≤ p.A ∧ p.A ≤ 200 ∧ 0 ≤ p.B ∧ p.B ≤ 6 := by
  unfold okS at h
  omega
theorem usedS_bd {p : api_Stitch} (h : okS p) : 0 ≤ usedS p ∧ usedS p ≤ 200 := by
  have hb := okS_bd h
  unfold okS at h
  unfold usedS
  split
  · omega
  · split
    · omega
    · split <;> omega
theorem madeS_bd {p : api_Stitch} (h : okS p) : 0 ≤ madeS p ∧ madeS p ≤ 200 := by
  have hb := okS_bd h
  unfold okS at h
  unfold madeS
  split
  · omega
  · split
    · omega
    · split <;> omega
theorem check_form (p : api_Stitch) (f : stitch_form) (h : F_stitch_forms p.Kind = some (f, true)) :
    F_stitch_Check p = some (if (f.a.1 ≤ p.A ∧ p.A ≤ f.a.2) ∧ (f.b.1 ≤ p.B ∧ p.B ≤ f.b.2) ∧ (p.Purl = true → f.sided = true) then 0 else 8) := by
  unfold F_stitch_Check F_stitch_within
  rw [h]
  by_cases a1 : f.a.1 ≤ p.A <;> by_cases a2 : p.A ≤ f.a.2 <;> by_cases b1 : f.b.1 ≤ p.B <;> by_cases b2 : p.B ≤ f.b.2 <;> cases hp : p.Purl <;> cases hs : f.sided <;> simp [a1, a2, b1, b2, hs]
theorem ifc {α : Type} {c d : Prop} [Decidable c] [Decidable d] {a b : α} (h : c ↔ d) : (if c then a else b) = if d then a else b := by
  by_cases hc : c
  · rw [if_pos hc, if_pos (h.1 hc)]
  · rw [if_neg hc, if_neg (fun hd => hc (h.2 hd))]
theorem kinds {x : Int} (h : 0 ≤ x ∧ x ≤ 255) : x = 0 ∨ x = 1 ∨ x = 2 ∨ x = 3 ∨ x = 4 ∨ x = 5 ∨ x = 6 ∨ x = 7 ∨ x = 8 ∨ x = 9 ∨ x = 10 ∨ 10 < x := by omega
theorem forms_none {x : Int} (h : 10 < x ∧ x ≤ 255) : ∃ f, F_stitch_forms x = some (f, false) := by
  unfold F_stitch_forms
  have hw : IntKind.i64.wrap x = x := w64_of (by omega) (by omega)
  simp only [dF (show ¬ x < 1 by omega), hw, Bool.false_eq_true, if_false, Option.bind_some, List.length_cons, List.length_nil]
  rw [dT (show ((0 + 1 + 1 + 1 + 1 + 1 + 1 + 1 + 1 + 1 + 1 : Nat) : Int) < x by omega)]
  exact ⟨_, rfl⟩
theorem check_none {p : api_Stitch} {f : stitch_form} (h : F_stitch_forms p.Kind = some (f, false)) : F_stitch_Check p = some 8 := by
  unfold F_stitch_Check
  rw [h]
  simp
theorem check_eq (p : api_Stitch) (hk : 0 ≤ p.Kind ∧ p.Kind ≤ 255) : F_stitch_Check p = some (if okS p then 0 else 8) := by
  rcases kinds hk with h | h | h | h | h | h | h | h | h | h | h | h
  · rw [check_none (f := ⟨⟨#[]⟩, (0, 0), (0, 0), false, 0, 0⟩) (by rw [h]; rfl), if_neg (by unfold okS; omega)]
  · rw [check_form p _ (by rw [h]; rfl)]; cases hp : p.Purl <;> exact congrArg some (ifc (by simp [okS, h]; omega))
  · rw [check_form p _ (by rw [h]; rfl)]; cases hp : p.Purl <;> exact congrArg some (ifc (by simp [okS, h, hp] <;> omega))
  · rw [check_form p _ (by rw [h]; rfl)]; cases hp : p.Purl <;> exact congrArg some (ifc (by simp [okS, h]; omega))
  · rw [check_form p _ (by rw [h]; rfl)]; cases hp : p.Purl <;> exact congrArg some (ifc (by simp [okS, h]; omega))
  · rw [check_form p _ (by rw [h]; rfl)]; cases hp : p.Purl <;> exact congrArg some (ifc (by simp [okS, h]; omega))
  · rw [check_form p _ (by rw [h]; rfl)]; cases hp : p.Purl <;> exact congrArg some (ifc (by simp [okS, h]; omega))
  · rw [check_form p _ (by rw [h]; rfl)]; cases hp : p.Purl <;> exact congrArg some (ifc (by simp [okS, h]; omega))
  · rw [check_form p _ (by rw [h]; rfl)]; cases hp : p.Purl <;> exact congrArg some (ifc (by simp [okS, h]; omega))
  · rw [check_form p _ (by rw [h]; rfl)]; cases hp : p.Purl <;> exact congrArg some (ifc (by simp [okS, h, hp] <;> omega))
  · rw [check_form p _ (by rw [h]; rfl)]; cases hp : p.Purl <;> exact congrArg some (ifc (by simp [okS, h]; omega))
  · obtain ⟨f, hf⟩ := forms_none ⟨h, hk.2⟩
    rw [check_none hf, if_neg (by unfold okS; omega)]
theorem rstitch_eq (p : api_Stitch) : F_raddleref25_Check p = some (if okS p then 0 else 8) := by
  have e3 : (if (p.A == 0) = true then some (p.B == 0) else some false) = some (p.A == 0 && p.B == 0) := by cases h : (p.A == 0) <;> simp
  unfold F_raddleref25_Check
  rw [e3, Option.bind_some]
  by_cases k1 : p.Kind = 1
  · by_cases hA : p.A = 0 <;> by_cases hB : p.B = 0 <;> simp [k1, hA, hB, okS]
  by_cases k8 : p.Kind = 8
  · by_cases hA : p.A = 0 <;> by_cases hB : p.B = 0 <;> simp [k8, hA, hB, okS]
  by_cases k2 : p.Kind = 2
  · by_cases hA : p.A = 0 <;> by_cases hB : p.B = 0 <;> cases hp : p.Purl <;> simp [k2, hA, hB, hp, okS]
  by_cases k3 : p.Kind = 3
  · by_cases h1 : 2 ≤ p.A <;> by_cases h2 : p.A ≤ 4 <;> by_cases hB : p.B = 0 <;> simp [k3, h1, h2, hB, okS]
  by_cases k4 : p.Kind = 4
  · by_cases h1 : 2 ≤ p.A <;> by_cases h2 : p.A ≤ 4 <;> by_cases hB : p.B = 0 <;> simp [k4, h1, h2, hB, okS]
  by_cases k5 : p.Kind = 5
  · by_cases h1 : 2 ≤ p.A <;> by_cases h2 : p.A ≤ 4 <;> by_cases hB : p.B = 0 <;> simp [k5, h1, h2, hB, okS]
  by_cases k6 : p.Kind = 6
  · by_cases h1 : 1 ≤ p.A <;> by_cases h2 : p.A ≤ 6 <;> by_cases h3 : 1 ≤ p.B <;> by_cases h4 : p.B ≤ 6 <;> simp [k6, h1, h2, h3, h4, okS]
  by_cases k7 : p.Kind = 7
  · by_cases h1 : 1 ≤ p.A <;> by_cases h2 : p.A ≤ 6 <;> by_cases h3 : 1 ≤ p.B <;> by_cases h4 : p.B ≤ 6 <;> simp [k7, h1, h2, h3, h4, okS]
  by_cases k9 : p.Kind = 9
  · by_cases h1 : 1 ≤ p.A <;> by_cases h2 : p.A ≤ 200 <;> by_cases hB : p.B = 0 <;> cases hp : p.Purl <;> simp [k9, h1, h2, hB, hp, okS]
  by_cases k10 : p.Kind = 10
  · by_cases h1 : 1 ≤ p.A <;> by_cases h2 : p.A ≤ 200 <;> by_cases hB : p.B = 0 <;> simp [k10, h1, h2, hB, okS]
  have hn : ¬ okS p := by unfold okS; omega
  simp [k1, k2, k3, k4, k5, k6, k7, k8, k9, k10, hn]
theorem form_ok {p : api_Stitch} (h : okS p) : ∃ f, F_stitch_forms p.Kind = some (f, true) ∧ F_stitch_loops p f.uses = some (usedS p) ∧ F_stitch_loops p f.made = some (madeS p) := by
  have hb := okS_bd h
  have hw : w64 (p.A + p.B) = p.A + p.B := w64_of (by omega) (by omega)
  have l0 : F_stitch_loops p 0 = some 0 := rfl
  have l1 : F_stitch_loops p 1 = some 1 := rfl
  have l2 : F_stitch_loops p 2 = some p.A := rfl
  have l3 : F_stitch_loops p 3 = some (p.A + p.B) := by rw [← hw]; rfl
  rcases kinds (x := p.Kind) (by omega) with k | k | k | k | k | k | k | k | k | k | k | k
  · omega
  · exact ⟨⟨⟨#[]⟩, (0, 0), (0, 0), true, 1, 1⟩, by rw [k]; rfl, by rw [l1]; simp [usedS, k], by rw [l1]; simp [madeS, k]⟩
  · exact ⟨⟨⟨#[]⟩, (0, 0), (0, 0), false, 0, 1⟩, by rw [k]; rfl, by rw [l0]; simp [usedS, k], by rw [l1]; simp [madeS, k]⟩
  · exact ⟨⟨⟨#[102]⟩, (2, 4), (0, 0), true, 2, 1⟩, by rw [k]; rfl, by rw [l2]; simp [usedS, k], by rw [l1]; simp [madeS, k]⟩
  · exact ⟨⟨⟨#[108]⟩, (2, 4), (0, 0), true, 2, 1⟩, by rw [k]; rfl, by rw [l2]; simp [usedS, k], by rw [l1]; simp [madeS, k]⟩
  · exact ⟨⟨⟨#[109]⟩, (2, 4), (0, 0), true, 1, 2⟩, by rw [k]; rfl, by rw [l1]; simp [usedS, k], by rw [l2]; simp [madeS, k]⟩
  · exact ⟨⟨⟨#[120]⟩, (1, 6), (1, 6), true, 3, 3⟩, by rw [k]; rfl, by rw [l3]; simp [usedS, k], by rw [l3]; simp [madeS, k]⟩
  · exact ⟨⟨⟨#[121]⟩, (1, 6), (1, 6), true, 3, 3⟩, by rw [k]; rfl, by rw [l3]; simp [usedS, k], by rw [l3]; simp [madeS, k]⟩
  · exact ⟨⟨⟨#[115]⟩, (0, 0), (0, 0), true, 1, 1⟩, by rw [k]; rfl, by rw [l1]; simp [usedS, k], by rw [l1]; simp [madeS, k]⟩
  · exact ⟨⟨⟨#[]⟩, (1, 200), (0, 0), false, 0, 2⟩, by rw [k]; rfl, by rw [l0]; simp [usedS, k], by rw [l2]; simp [madeS, k]⟩
  · exact ⟨⟨⟨#[111]⟩, (1, 200), (0, 0), true, 2, 0⟩, by rw [k]; rfl, by rw [l2]; simp [usedS, k], by rw [l0]; simp [madeS, k]⟩
  · omega
theorem rused_eq {p : api_Stitch} (h : okS p) : F_raddleref25_Used p = some (usedS p) := by
  have hb := okS_bd h
  have hw : w64 (p.A + p.B) = p.A + p.B := w64_of (by omega) (by omega)
  unfold F_raddleref25_Used usedS
  rcases kinds (x := p.Kind) (by omega) with k | k | k | k | k | k | k | k | k | k | k | k <;> first | omega | simp [k, hw]
theorem rgives_eq {p : api_Stitch} (h : okS p) : F_raddleref25_Gives p = some (madeS p) := by
  have hb := okS_bd h
  have hw : w64 (p.A + p.B) = p.A + p.B := w64_of (by omega) (by omega)
  unfold F_raddleref25_Gives madeS
  rcases kinds (x := p.Kind) (by omega) with k | k | k | k | k | k | k | k | k | k | k | k <;> first | omega | simp [k, hw]
/-- lists of stitches -/
def allOk (l : List api_Stitch) : Prop := ∀ p, p ∈ l → okS p
instance (l : List api_Stitch) : Decidable (allOk l) := by unfold allOk; infer_instance
def wfS (p : api_Stitch) : Prop := 0 ≤ p.Kind ∧ p.Kind ≤ 255
theorem used_bd {l : List api_Stitch} (h : allOk l) : 0 ≤ sm usedS l ∧ sm usedS l ≤ 200 * l.length := sm_bd fun _ hx => usedS_bd (h _ hx)
theorem made_bd {l : List api_Stitch} (h : allOk l) : 0 ≤ sm madeS l ∧ sm madeS l ≤ 200 * l.length := sm_bd fun _ hx => madeS_bd (h _ hx)
theorem take_ok {l : List api_Stitch} (h : allOk l) (k : Nat) : allOk (l.take k) := fun _ hx => h _ (List.mem_of_mem_take hx)
theorem sum_step {l : List api_Stitch} (h : allOk l) (hl : l.length ≤ 100000) {k : Nat} (hk : k < l.length) :
    w64 (sm usedS (l.take k) + usedS l[k]) = sm usedS (l.take (k + 1)) ∧ w64 (sm madeS (l.take k) + madeS l[k]) = sm madeS (l.take (k + 1)) := by
  have h1 := used_bd (take_ok h k)
  have h2 := made_bd (take_ok h k)
  have h3 := usedS_bd (h _ (List.getElem_mem hk))
  have h4 := madeS_bd (h _ (List.getElem_mem hk))
  have hlen : (l.take k).length ≤ 100000 := by rw [List.length_take]; omega
  rw [sm_take _ _ hk, sm_take _ _ hk]
  exact ⟨w64_of (by omega) (by omega), w64_of (by omega) (by omega)⟩
theorem sum_eq {l : List api_Stitch} (h : allOk l) (hl : l.length ≤ 100000) : F_stitch_sum l = some (sm usedS l, sm madeS l) := by
  have key : ∃ t, whileO (stitch_sum_l1 l) (0, 0, 0) = some t ∧ t = (sm usedS l, sm madeS l) := by
    refine loop_at (σ := Unit) l.length (fun k _ => (sm usedS (l.take k), sm madeS (l.take k), (k : Int))) (fun _ _ => True) _ (s0 := ()) trivial ?_ ?_
    · intro k _ hk _
      refine .inl ⟨(), ?_, trivial⟩
      obtain ⟨f, f1, f2, f3⟩ := form_ok (h _ (List.getElem_mem hk))
      have hs := sum_step h hl hk
      unfold stitch_sum_l1
      simp only [dT (show (k : Int) < (l.length : Int) by omega), if_true, idxO_nat hk, Option.bind_some, f1, f2, f3, hs.1, hs.2, w64_succ (show k < 9223372036854775807 by omega)]
    · intro _ _
      refine ⟨_, ?_, rfl⟩
      unfold stitch_sum_l1
      simp only [dF (show ¬ (l.length : Int) < (l.length : Int) by omega), Bool.false_eq_true, if_false, List.take_length]
  obtain ⟨t, h1, rfl⟩ := key
  unfold F_stitch_sum
  rw [h1]; rfl
theorem rsums_eq {l : List api_Stitch} (h : allOk l) (hl : l.length ≤ 100000) : F_raddleref25_sums l = some (sm usedS l, sm madeS l) := by
  have key : ∃ t, whileO (raddleref25_sums_l1 l) (0, 0, 0) = some t ∧ t = (sm usedS l, sm madeS l) := by
    refine loop_at (σ := Unit) l.length (fun k _ => (sm usedS (l.take k), sm madeS (l.take k), (k : Int))) (fun _ _ => True) _ (s0 := ()) trivial ?_ ?_
    · intro k _ hk _
      refine .inl ⟨(), ?_, trivial⟩
      have hs := sum_step h hl hk
      unfold raddleref25_sums_l1
      simp only [dT (show (k : Int) < (l.length : Int) by omega), if_true, idxO_nat hk, Option.bind_some, rused_eq (h _ (List.getElem_mem hk)), rgives_eq (h _ (List.getElem_mem hk)), hs.1, hs.2, w64_succ (show k < 9223372036854775807 by omega)]
    · intro _ _
      refine ⟨_, ?_, rfl⟩
      unfold raddleref25_sums_l1
      simp only [dF (show ¬ (l.length : Int) < (l.length : Int) by omega), Bool.false_eq_true, if_false, List.take_length]
  obtain ⟨t, h1, rfl⟩ := key
  unfold F_raddleref25_sums
  rw [h1]; rfl
/-- the error of a list -/
def allS (l : List api_Stitch) : Int := if 200 < l.length then 4 else if allOk l then (if 200 < sm usedS l ∨ 200 < sm madeS l then 4 else 0) else 8
theorem allOk_range {l : List api_Stitch} : (List.range l.length).all (fun k => decide (okS (l.getD k ⟨0, false, 0, 0⟩))) = true ↔ allOk l := by
  rw [List.all_eq_true]
  constructor
  · intro h p hp
    obtain ⟨k, hk, rfl⟩ := List.getElem_of_mem hp
    have := h k (List.mem_range.2 hk)
    simpa [hk] using this
  · intro h k hk
    have hk := List.mem_range.1 hk
    have := h _ (List.getElem_mem hk)
    simpa [hk] using this
theorem getD_of {α : Type} {l : List α} {k : Nat} (d : α) (h : k < l.length) : l.getD k d = l[k] := by simp [h]
theorem find_bad {l : List api_Stitch} (hw : ∀ p, p ∈ l → wfS p) (hl : l.length ≤ 100000) : ∃ j, F_slices_IndexFunc___api_Stitch_api_Stitch__s0 l = some j ∧ (0 ≤ j ↔ ¬ allOk l) := by
  have key : ∃ t, whileO (slices_IndexFunc___api_Stitch_api_Stitch__s0_l1 l) 0 = some t ∧ ((t = .inr () ∧ allOk l) ∨ (∃ k : Nat, t = .inl (k : Int) ∧ ¬ allOk l)) := by
    refine loop_ix l.length (fun k => allOk (l.take k)) _ (fun p hp => by simp at hp) ?_ ?_
    · intro k hk hI
      have hc := check_eq l[k] (hw _ (List.getElem_mem hk))
      unfold slices_IndexFunc___api_Stitch_api_Stitch__s0_l1 F_stitch_All_1
      simp only [dT (show (k : Int) < (l.length : Int) by omega), if_true, idxO_nat hk, Option.bind_some, hc, w64_succ (show k < 9223372036854775807 by omega)]
      by_cases ho : okS l[k]
      · refine .inl ⟨by simp [ho], fun p hp => ?_⟩
        rw [List.take_succ_eq_append_getElem hk, List.mem_append] at hp
        rcases hp with hp | hp
        · exact hI p hp
        · simp at hp; subst hp; exact ho
      · exact .inr ⟨.inl (k : Int), by simp [ho], .inr ⟨k, rfl, fun h => ho (h _ (List.getElem_mem hk))⟩⟩
    · intro hI
      refine ⟨.inr (), ?_, .inl ⟨rfl, by simpa using hI⟩⟩
      unfold slices_IndexFunc___api_Stitch_api_Stitch__s0_l1
      simp only [dF (show ¬ (l.length : Int) < (l.length : Int) by omega), Bool.false_eq_true, if_false]
  obtain ⟨t, h1, h2⟩ := key
  unfold F_slices_IndexFunc___api_Stitch_api_Stitch__s0
  rw [h1]
  rcases h2 with ⟨rfl, h⟩ | ⟨k, rfl, h⟩
  · exact ⟨-1, rfl, by simp [h]⟩
  · exact ⟨(k : Int), rfl, by simp [h]⟩
theorem all_eq {l : List api_Stitch} (hw : ∀ p, p ∈ l → wfS p) : F_stitch_All l = some (allS l) := by
  unfold F_stitch_All allS
  by_cases hl : 200 < l.length
  · simp only [dT (show (200 : Int) < (l.length : Int) by omega), if_true, if_pos hl]
  simp only [dF (show ¬ (200 : Int) < (l.length : Int) by omega), Bool.false_eq_true, if_false, if_neg hl]
  obtain ⟨j, h1, h2⟩ := find_bad hw (by omega)
  unfold F_slices_ContainsFunc___api_Stitch_api_Stitch__s0
  rw [h1]
  by_cases ho : allOk l
  · have : ¬ 0 ≤ j := fun h => h2.1 h ho
    simp only [Option.bind_some, dF this, Bool.false_eq_true, if_false, sum_eq ho (show l.length ≤ 100000 by omega), if_pos ho]
    by_cases hm : 200 < sm usedS l ∨ 200 < sm madeS l
    · rw [dT (show (200 : Int) < if sm usedS l < sm madeS l then sm madeS l else sm usedS l by split <;> omega)]
      simp [hm]
    · rw [dF (show ¬ (200 : Int) < if sm usedS l < sm madeS l then sm madeS l else sm usedS l by split <;> omega)]
      simp [hm]
  · have : 0 ≤ j := h2.2 ho
    simp only [Option.bind_some, dT this, if_true, if_neg ho]
theorem rall_eq (l : List api_Stitch) : F_raddleref25_All l = some (allS l) := by
  unfold F_raddleref25_All allS
  by_cases hl : 200 < l.length
  · simp only [dT (show (200 : Int) < (l.length : Int) by omega), if_true, if_pos hl]
  simp only [dF (show ¬ (200 : Int) < (l.length : Int) by omega), Bool.false_eq_true, if_false, if_neg hl]
  have hloop : whileO (raddleref25_All_l1 l) 0 = some (if (List.range l.length).all (fun k => decide (okS (l.getD k ⟨0, false, 0, 0⟩))) = true then .inr () else .inl 8) := by
    refine loop_all l.length _ _ _ ?_ ?_
    · intro k hk
      unfold raddleref25_All_l1
      simp only [dT (show (k : Int) < (l.length : Int) by omega), if_true, idxO_nat hk, Option.bind_some, rstitch_eq, w64_succ (show k < 9223372036854775807 by omega), getD_of _ hk]
      by_cases ho : okS l[k] <;> simp [ho]
    · unfold raddleref25_All_l1
      simp only [dF (show ¬ (l.length : Int) < (l.length : Int) by omega), Bool.false_eq_true, if_false]
  rw [hloop]
  by_cases ho : allOk l
  · rw [if_pos (allOk_range.2 ho), if_pos ho]
    simp only [Option.bind_some, rsums_eq ho (show l.length ≤ 100000 by omega)]
    by_cases hu : 200 < sm usedS l
    · simp [hu]
    · by_cases hm : 200 < sm madeS l <;> simp [hu, hm]
  · rw [if_neg (fun h => ho (allOk_range.1 h)), if_neg ho]
    rfl
theorem allS_ok {l : List api_Stitch} (h : allS l = 0) : l.length ≤ 200 ∧ allOk l ∧ sm usedS l ≤ 200 ∧ sm madeS l ≤ 200 := by
  unfold allS at h
  split at h
  · omega
  · split at h
    · rename_i h1 h2
      split at h
      · omega
      · rename_i h3
        exact ⟨by omega, h2, by omega, by omega⟩
    · omega
end Go.Proofs.Ytffikfajljbmnaa
namespace Go.Proofs.Ytffikfajljbmnaa
open Go.RowKit
set_option linter.unusedVariables false

noncomputable def F_raddleref25_Great (p0 : (List api_Stitch)) : Option Bool :=
  Option.bind (α := Bool) (
    if decide (60 < (p0.length : Int)) then
      if decide ((p0.length : Int) ≤ 200) then
        some true
      else
        some (decide (300 < (p0.length : Int)))
    else
      some (decide (300 < (p0.length : Int)))) fun o4 =>
  some o4
set_option maxHeartbeats 4000000 in
set_option maxRecDepth 100000 in
theorem c_raddleref25_Great (E : Nat → Prop) (w0 : World) (p0 : (List api_Stitch)) (v0 : Value) (r : Bool) (h : F_raddleref25_Great p0 = some r) (S : St0 E [] w0 w0 [] [fRep (rL r_api_Stitch) (v0) p0]) :
    Calls Try.prog 22 #[v0] w0 (Ret (X := Unit) E [] w0 (fun _ => .bool r) (fun _ => []) (fun _ => [])) := by
  unfold F_raddleref25_Great at h
  obtain ⟨ad1, cp2, _, rfl, _⟩ := S.know (i := 0) (e := fRep (rL r_api_Stitch) (v0) p0) rfl
  refine sEnter (args := [.slice ad1 p0.length cp2]) 16 Try.func22 rfl rfl (by simp) S (fun a S => ?_)
  refine sSeq (fun K3 hK3 => ?_)
  refine sRegion ?_
  refine sMove (.bool false) S (wN rfl) (.inr rfl) rfl rfl (lb rfl) fun a S => ?_
  refine leafL (leafT (hK3 _ _ ?_))
  obtain ⟨t5, h, g6⟩ := bindSome h
  refine sCut (fun a w => ∃ o4, o4 = t5 ∧ St [] E [] w0 16 a w [(2, .bool o4)] [] []) ?_ (fun a w hI => ?_)
  rotate_left
  · obtain ⟨o4, rfl, S⟩ := hI
    have h := g6
    clear g6
    try dsimp only at h
    obtain rfl := Option.some.inj h
    exact wp_ret (sRet (.bool o4) S (rsl1 rfl (rvT (t := 2) (v := .bool o4) S rfl)) ⟨(), rfl, S.mem.sel [] [] (by decide) rfl rfl⟩)
  refine sRegion ?_
  refine sMove (.slice ad1 p0.length cp2) S (wN rfl) (.inl rfl) rfl rfl (lb rfl) fun a S => ?_
  refine sLen (ad := ad1) (m := p0.length) (c := cp2) S (wN rfl) rfl Try.underlying47 rfl rfl (lb rfl) fun a S => ?_
  refine sBin (.bool (decide (60 < (p0.length : Int)))) S (wN rfl) rfl rfl rfl (bGt _ _ _ _ .i64 (p0.length : Int) 60) rfl (lb rfl) fun a S => ?_
  refine sMove (.bool (decide (60 < (p0.length : Int)))) S (wN rfl) (.inl rfl) rfl rfl (lb rfl) fun a S => ?_
  rcases iteSome h with ⟨hc7, h⟩ | ⟨hc7, h⟩
  rotate_left
  · refine sSkip 3 true 6 7 S rfl rfl rfl hc7 rfl (lb rfl) fun a S => ?_
    refine sSkip 3 true 6 8 S rfl rfl rfl hc7 rfl (lb rfl) fun a S => ?_
    refine sSkip 3 true 6 9 S rfl rfl rfl hc7 rfl (lb rfl) fun a S => ?_
    refine sPickF (.bool false) S (wN rfl) rfl rfl hc7 rfl rfl (lb rfl) fun a S => ?_
    refine sMove (.bool false) S (wN rfl) (.inl rfl) rfl rfl (lb rfl) fun a S => ?_
    refine sMove (.slice ad1 p0.length cp2) S (wG 8 false 11 rfl rfl rfl rfl) (.inl rfl) rfl rfl (lb rfl) fun a S => ?_
    refine sLen (ad := ad1) (m := p0.length) (c := cp2) S (wG 8 false 11 rfl rfl rfl rfl) rfl Try.underlying47 rfl rfl (lb rfl) fun a S => ?_
    refine sBin (.bool (decide (300 < (p0.length : Int)))) S (wG 8 false 11 rfl rfl rfl rfl) rfl rfl rfl (bGt _ _ _ _ .i64 (p0.length : Int) 300) rfl (lb rfl) fun a S => ?_
    refine sPickF (.bool (decide (300 < (p0.length : Int)))) S (wN rfl) rfl rfl rfl rfl rfl (lb rfl) fun a S => ?_
    refine sMove (.bool (decide (300 < (p0.length : Int)))) S (wN rfl) (.inr rfl) rfl rfl (lb rfl) fun a S => ?_
    exact leafL (leafT (⟨decide (300 < (p0.length : Int)), Option.some.inj h, S.fix [] [] (by decide) rfl rfl rfl⟩))
  refine sMove (.slice ad1 p0.length cp2) S (wG 3 true 6 rfl rfl rfl hc7) (.inl rfl) rfl rfl (lb rfl) fun a S => ?_
  refine sLen (ad := ad1) (m := p0.length) (c := cp2) S (wG 3 true 6 rfl rfl rfl hc7) rfl Try.underlying47 rfl rfl (lb rfl) fun a S => ?_
  refine sBin (.bool (decide ((p0.length : Int) ≤ 200))) S (wG 3 true 6 rfl rfl rfl hc7) rfl rfl rfl (bLe _ _ _ _ .i64 (p0.length : Int) 200) rfl (lb rfl) fun a S => ?_
  refine sPickT (.bool (decide ((p0.length : Int) ≤ 200))) S (wN rfl) rfl rfl hc7 rfl rfl (lb rfl) fun a S => ?_
  refine sMove (.bool (decide ((p0.length : Int) ≤ 200))) S (wN rfl) (.inl rfl) rfl rfl (lb rfl) fun a S => ?_
  rcases iteSome h with ⟨hc8, h⟩ | ⟨hc8, h⟩
  · refine sSkip 8 false 11 12 S rfl rfl rfl hc8 rfl (lb rfl) fun a S => ?_
    refine sSkip 8 false 11 13 S rfl rfl rfl hc8 rfl (lb rfl) fun a S => ?_
    refine sSkip 8 false 11 14 S rfl rfl rfl hc8 rfl (lb rfl) fun a S => ?_
    refine sPickT (.bool true) S (wN rfl) rfl rfl hc8 rfl rfl (lb rfl) fun a S => ?_
    refine sMove (.bool true) S (wN rfl) (.inr rfl) rfl rfl (lb rfl) fun a S => ?_
    exact leafL (leafT (⟨true, Option.some.inj h, S.fix [] [] (by decide) rfl rfl rfl⟩))
  refine sMove (.slice ad1 p0.length cp2) S (wG 8 false 11 rfl rfl rfl hc8) (.inl rfl) rfl rfl (lb rfl) fun a S => ?_
  refine sLen (ad := ad1) (m := p0.length) (c := cp2) S (wG 8 false 11 rfl rfl rfl hc8) rfl Try.underlying47 rfl rfl (lb rfl) fun a S => ?_
  refine sBin (.bool (decide (300 < (p0.length : Int)))) S (wG 8 false 11 rfl rfl rfl hc8) rfl rfl rfl (bGt _ _ _ _ .i64 (p0.length : Int) 300) rfl (lb rfl) fun a S => ?_
  refine sPickF (.bool (decide (300 < (p0.length : Int)))) S (wN rfl) rfl rfl hc8 rfl rfl (lb rfl) fun a S => ?_
  refine sMove (.bool (decide (300 < (p0.length : Int)))) S (wN rfl) (.inr rfl) rfl rfl (lb rfl) fun a S => ?_
  exact leafL (leafT (⟨decide (300 < (p0.length : Int)), Option.some.inj h, S.fix [] [] (by decide) rfl rfl rfl⟩))

end Go.Proofs.Ytffikfajljbmnaa
namespace Go.Proofs.Ytffikfajljbmnaa
open Go.RowKit
set_option linter.unusedVariables false

theorem set_v {α : Type} (xs : List α) (i : Nat) (y : α) (ad : Option Addr) (c : Nat) : Value.slice ad xs.length c = Value.slice ad (xs.set i y).length c := by rw [List.length_set]
theorem St.closeHN {dq : List Deferred} {E : Nat → Prop} {M : List Nat} {w0 : World} {n : Nat} {a : Act} {w : World} {F : List (Nat × Value)} {L : List Ent} {D : List Fact} {α : Type} {r : R α} {T : TypeId} {xs : List α} {y : α} {v u : Value} {j : Int} (i : Nat) (S : St dq E M w0 n a w F L D) (hL : L[i]? = some (eHole r T v xs (j.toNat * r.sz + 0) u)) (hu0 : (fRep r u y).p (tot E L) w) (hc : u.cells.toList = [u]) (hr : Scal r) :
    St dq E M w0 n a w F (eRow r T v (xs.set j.toNat y) :: L.eraseIdx i) D := by
  have hlt : j.toNat < xs.length := by
    obtain ⟨vs, ha, hm, hp, hl⟩ := S.mem.at hL
    exact Nat.lt_of_mul_lt_mul_right (a := r.sz) (by simpa using hp)
  have h1 : ∀ k : Nat, ∀ hk : k < xs.length, idxO xs (k : Int) = some xs[k] := fun k hk => by simp [idxO, hk]
  have h2 : ∀ k : Nat, k < xs.length → setO xs (k : Int) y = some (xs.set k y) := fun k hk => by simp [setO, hk]
  exact S.closeHE (j := (j.toNat : Int)) (x := xs[j.toNat]) i hL hu0 hc hr (h1 _ hlt) (h2 _ hlt)

end Go.Proofs.Ytffikfajljbmnaa
namespace Go.Proofs.Ytffikfajljbmnaa
open Go.RowKit
set_option linter.unusedVariables false

noncomputable def F_compare_cellTable_1 (p0 : api_Stitch) : Option Int :=
  some 1
set_option maxHeartbeats 4000000 in
set_option maxRecDepth 100000 in
theorem c_compare_cellTable_1 (E : Nat → Prop) (w0 : World) (p0 : api_Stitch) (v0 : Value) (r : Int) (h : F_compare_cellTable_1 p0 = some r) (S : St0 E [] w0 w0 [] [fRep r_api_Stitch (v0) p0]) :
    Calls Try.prog 84 #[v0] w0 (Ret (X := Unit) E [] w0 (fun _ => .int .i64 r) (fun _ => []) (fun _ => [])) := by
  unfold F_compare_cellTable_1 at h
  obtain rfl : v0 = .agg #[.int .u8 p0.Kind, .bool p0.Purl, iv p0.A, iv p0.B] := S.know (i := 0) (e := fRep r_api_Stitch (v0) p0) rfl
  refine sEnter (args := [.agg #[.int .u8 p0.Kind, .bool p0.Purl, iv p0.A, iv p0.B]]) 3 Try.func84 rfl rfl (by simp) S (fun a S => ?_)
  refine sSeq (fun K1 hK1 => ?_)
  refine sRegion ?_
  refine sBox (v := .agg #[.int .u8 p0.Kind, .bool p0.Purl, iv p0.A, iv p0.B]) S (wN rfl) rfl rfl [.int .u8 p0.Kind, .bool p0.Purl, iv p0.A, iv p0.B] rfl rfl (lb rfl) fun a b2 w S => ?_
  refine sMove (iv 0) S (wN rfl) (.inr rfl) rfl rfl (lb rfl) fun a S => ?_
  refine leafL (leafT (hK1 _ _ ?_))
  refine sSeq (fun K3 hK3 => ?_)
  refine sRegion ?_
  refine sMove (iv 1) S (wN rfl) (.inr rfl) rfl rfl (lb rfl) fun a S => ?_
  refine leafL (leafT (hK3 _ _ ?_))
  obtain rfl := Option.some.inj h
  exact wp_ret (sRet (iv 1) S (rsl1 rfl (rvT (t := 2) (v := iv 1) S rfl)) ⟨(), rfl, S.mem.sel [] [] (by decide) rfl rfl⟩)

end Go.Proofs.Ytffikfajljbmnaa
namespace Go.Proofs.Ytffikfajljbmnaa
open Go.RowKit
set_option linter.unusedVariables false

noncomputable def F_compare_cellTable_2 (p0 : api_Stitch) (p1 : api_Stitch) : Option Int :=
  if ((p0.Kind == p1.Kind) && ((p0.Purl == p1.Purl) && ((p0.A == p1.A) && ((p0.B == p1.B) && true)))) then
    some 0
  else
    some 1
set_option maxHeartbeats 4000000 in
set_option maxRecDepth 100000 in
theorem c_compare_cellTable_2 (E : Nat → Prop) (w0 : World) (p0 : api_Stitch) (v0 : Value) (p1 : api_Stitch) (v1 : Value) (r : Int) (h : F_compare_cellTable_2 p0 p1 = some r) (S : St0 E [] w0 w0 [] [fRep r_api_Stitch (v0) p0, fRep r_api_Stitch (v1) p1]) :
    Calls Try.prog 85 #[v0, v1] w0 (Ret (X := Unit) E [] w0 (fun _ => .int .i64 r) (fun _ => []) (fun _ => [])) := by
  unfold F_compare_cellTable_2 at h
  obtain rfl : v0 = .agg #[.int .u8 p0.Kind, .bool p0.Purl, iv p0.A, iv p0.B] := S.know (i := 0) (e := fRep r_api_Stitch (v0) p0) rfl
  obtain rfl : v1 = .agg #[.int .u8 p1.Kind, .bool p1.Purl, iv p1.A, iv p1.B] := S.know (i := 1) (e := fRep r_api_Stitch (v1) p1) rfl
  refine sEnter (args := [.agg #[.int .u8 p0.Kind, .bool p0.Purl, iv p0.A, iv p0.B], .agg #[.int .u8 p1.Kind, .bool p1.Purl, iv p1.A, iv p1.B]]) 8 Try.func85 rfl rfl (by simp) S (fun a S => ?_)
  refine sSeq (fun K1 hK1 => ?_)
  refine sRegion ?_
  refine sBox (v := .agg #[.int .u8 p0.Kind, .bool p0.Purl, iv p0.A, iv p0.B]) S (wN rfl) rfl rfl [.int .u8 p0.Kind, .bool p0.Purl, iv p0.A, iv p0.B] rfl rfl (lb rfl) fun a b2 w S => ?_
  refine sBox (v := .agg #[.int .u8 p1.Kind, .bool p1.Purl, iv p1.A, iv p1.B]) S (wN rfl) rfl rfl [.int .u8 p1.Kind, .bool p1.Purl, iv p1.A, iv p1.B] rfl rfl (lb rfl) fun a b3 w S => ?_
  refine sMove (iv 0) S (wN rfl) (.inr rfl) rfl rfl (lb rfl) fun a S => ?_
  refine leafL (leafT (hK1 _ _ ?_))
  refine sSeq (fun K4 hK4 => ?_)
  refine sSeq (fun K5 hK5 => ?_)
  refine sRegion ?_
  refine sLoadN (p := b2) (off := 0) (T := 81) (vs := [.int .u8 p0.Kind, .bool p0.Purl, iv p0.A, iv p0.B]) 1 [.int .u8 p0.Kind, .bool p0.Purl, iv p0.A, iv p0.B] S (wN rfl) rfl rfl rfl rfl rfl rfl rfl (lb rfl) fun a S => ?_
  refine sLoadN (p := b3) (off := 0) (T := 81) (vs := [.int .u8 p1.Kind, .bool p1.Purl, iv p1.A, iv p1.B]) 0 [.int .u8 p1.Kind, .bool p1.Purl, iv p1.A, iv p1.B] S (wN rfl) rfl rfl rfl rfl rfl rfl rfl (lb rfl) fun a S => ?_
  refine sBin (.bool ((p0.Kind == p1.Kind) && ((p0.Purl == p1.Purl) && ((p0.A == p1.A) && ((p0.B == p1.B) && true))))) S (wN rfl) rfl rfl rfl (bEqV _ _ _ _ #[.int .u8 p0.Kind, .bool p0.Purl, iv p0.A, iv p0.B] #[.int .u8 p1.Kind, .bool p1.Purl, iv p1.A, iv p1.B] ((p0.Kind == p1.Kind) && ((p0.Purl == p1.Purl) && ((p0.A == p1.A) && ((p0.B == p1.B) && true)))) (by kernel_rfl) (eqlV_of (by kernel_rfl))) rfl (lb rfl) fun a S => ?_
  refine leafL (leafT (hK5 _ _ ?_))
  rcases iteSome h with ⟨hc6, h⟩ | ⟨hc6, h⟩
  · refine sCondT S rfl hc6 ?_
    refine sSeq (fun K7 hK7 => ?_)
    refine sRegion ?_
    refine sMove (iv 0) S (wN rfl) (.inr rfl) rfl rfl (lb rfl) fun a S => ?_
    refine leafL (leafT (hK7 _ _ ?_))
    obtain rfl := Option.some.inj h
    exact wp_ret (rThen (sRet (iv 0) S (rsl1 rfl (rvT (t := 4) (v := iv 0) S rfl)) ⟨(), rfl, S.mem.sel [] [] (by decide) rfl rfl⟩))
  refine sCondF S rfl hc6 ?_
  refine wp_skip (leafT (hK4 _ _ ?_))
  refine sSeq (fun K8 hK8 => ?_)
  refine sRegion ?_
  refine sMove (iv 1) S (wN rfl) (.inr rfl) rfl rfl (lb rfl) fun a S => ?_
  refine leafL (leafT (hK8 _ _ ?_))
  obtain rfl := Option.some.inj h
  exact wp_ret (sRet (iv 1) S (rsl1 rfl (rvT (t := 4) (v := iv 1) S rfl)) ⟨(), rfl, S.mem.sel [] [] (by decide) rfl rfl⟩)

end Go.Proofs.Ytffikfajljbmnaa
