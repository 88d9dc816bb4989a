/- Several texts in one: PlV PlH PlG G6 LSM LSMv FrShortSums -/
import Derived.WalkKit
import Derived.Maps.AppendAt
import Derived.Deep.AppendLies
import Derived.KernelRfl
import Derived.Laws.OwnMore
import Derived.Great.BuildSlice
import Derived.Orders
import Derived.Laws.StructEq
import Derived.ChangeKeysEq
import Derived.Defers
import Derived.Laws.BytesString
import Derived.RangeFuncNested
import Derived.RangeFuncBound
import Derived.RangeFuncCalls
import Derived.RangeFuncLeaves
import Derived.OrdersIn
import Derived.LoopNIn
import Derived.Test.YtoiehdlcfehmlaaDoorProg
import Derived.ProofKit
import Derived.OpenShut
import Derived.ChangeOld
import Derived.Deep.Slices
import Derived.Lib.SmallJoins
import Derived.JoinedOf
import Derived.JoinedAt
import Derived.Below
import Derived.Shelf.Strings.Builder1
import Derived.Shelf.Strings.Builder2
import Derived.Shelf.Strings.OnBuilder
import Derived.Test.YtoiehdlcfehmlaaDoorRows
import Derived.LaidMore
import Derived.SevenTiedAt
import Derived.Test.YtoiehdlcfehmlaaDoorCards
import Derived.Test.YtoiehdlcfehmlaaDoorTie
import Derived.Test.YtoiehdlcfehmlaaDoorMShortSums4
namespace Go.Proofs.YtoiehdlcfehmlaaDoor
open Go.RowKit
set_option linter.unusedVariables false

/-- a loop that compares two lists -/
theorem loop_eq {α τ : Type} {B : Int → Option (Int ⊕ τ)} (a b : List α) (hl : a.length = b.length) (good bad : τ)
    (h : ∀ k (hk : k < a.length), ∃ t : Bool, (t = true ↔ a[k] = b[k]'(by omega)) ∧ B (k : Int) = some (if t = true then .inl ((k + 1 : Nat) : Int) else .inr bad)) (hn : B (a.length : Int) = some (.inr good)) :
    ∃ t : Bool, (t = true ↔ a = b) ∧ whileO B 0 = some (if t = true then good else bad) := by
  have key : ∃ u, whileO B 0 = some u ∧ ∃ t : Bool, (t = true ↔ a = b) ∧ u = (if t = true then good else bad) := by
    refine loop_ix a.length (fun k => ∀ j, j < k → a[j]? = b[j]?) _ (fun j hj => absurd hj (Nat.not_lt_zero j)) ?_ ?_
    · intro k hk hI
      obtain ⟨t, h1, h2⟩ := h k hk
      cases t with
      | true =>
        refine .inl ⟨by rw [h2, if_pos rfl], fun j hj => ?_⟩
        by_cases e : j = k
        · subst e
          rw [List.getElem?_eq_getElem hk, List.getElem?_eq_getElem (by omega), h1.1 rfl]
        · exact hI j (by omega)
      | false =>
        refine .inr ⟨bad, by rw [h2]; rfl, false, ⟨fun h => (by cases h), fun h => ?_⟩, rfl⟩
        subst h
        exact absurd (h1.2 rfl) (by simp)
    · intro hI
      refine ⟨good, hn, true, ⟨fun _ => ?_, fun _ => rfl⟩, rfl⟩
      apply List.ext_getElem?
      intro j
      by_cases hj : j < a.length
      · exact hI j hj
      · rw [List.getElem?_eq_none (by omega), List.getElem?_eq_none (by omega)]
  obtain ⟨u, h1, t, h2, rfl⟩ := key
  exact ⟨t, h2, h1⟩
theorem eqS_iff (x y : api_Stitch) : ((x.Kind == y.Kind) && ((x.Purl == y.Purl) && ((x.A == y.A) && ((x.B == y.B) && true)))) = true ↔ x = y := by
  cases x; cases y; simp
theorem same_eq (a b : List api_Stitch) (hl : a.length ≤ 9223372036854775807) : ∃ t : Bool, (t = true ↔ a = b) ∧ F_stitch_Same a b = some t := by
  unfold F_stitch_Same F_slices_Equal___api_Stitch_api_Stitch_
  by_cases h : a.length = b.length
  case neg =>
    exact ⟨false, ⟨fun h => (by cases h), fun e => absurd (congrArg List.length e) h⟩, by simp only [nT (show ¬ (a.length : Int) = (b.length : Int) by omega), if_true, Option.bind_some]⟩
  simp only [nF (show (a.length : Int) = (b.length : Int) by omega), Bool.false_eq_true, if_false]
  have key : ∃ t : Bool, (t = true ↔ a = b) ∧ whileO (slices_Equal___api_Stitch_api_Stitch__l1 a b) 0 = some (if t = true then .inr () else .inl false) := by
    refine loop_eq a b h _ _ (fun k hk => ?_) ?_
    · refine ⟨_, eqS_iff a[k] (b[k]'(by omega)), ?_⟩
      unfold slices_Equal___api_Stitch_api_Stitch__l1
      simp only [dT (show (k : Int) < (a.length : Int) by omega), if_true, idxO_nat hk, idxO_nat (show k < b.length by omega), Option.bind_some, w64_succ (show k < 9223372036854775807 by omega)]
      cases ((a[k].Kind == (b[k]'(by omega)).Kind) && ((a[k].Purl == (b[k]'(by omega)).Purl) && ((a[k].A == (b[k]'(by omega)).A) && ((a[k].B == (b[k]'(by omega)).B) && true)))) <;> rfl
    · unfold slices_Equal___api_Stitch_api_Stitch__l1
      simp only [dF (show ¬ (a.length : Int) < (a.length : Int) by omega), Bool.false_eq_true, if_false]
  obtain ⟨t, t1, t2⟩ := key
  refine ⟨t, t1, ?_⟩
  rw [t2]
  cases t <;> rfl
theorem row_ext {x y : api_Row} : x = y ↔ x.Back = y.Back ∧ x.Cells = y.Cells := by cases x; cases y; simp

end Go.Proofs.YtoiehdlcfehmlaaDoor
namespace Go.Proofs.YtoiehdlcfehmlaaDoor
open Go.RowKit
set_option linter.unusedVariables false

def kS : api_Stitch := ⟨1, false, 0, 0⟩
def sS : api_Stitch := ⟨8, false, 0, 0⟩
def kn (n p : Int) : List api_Stitch := List.replicate p.toNat kS ++ List.replicate (n - p).toNat sS
def tchk (n : Int) (l : List Int) : Int := if 1 ≤ n ∧ n ≤ 200 then (if 50 < l.length then 4 else if (∀ p, p ∈ l → 1 ≤ p ∧ p ≤ n) then 0 else 2) else 2
theorem tchk_ok {n : Int} {l : List Int} (h : tchk n l = 0) : 1 ≤ n ∧ n ≤ 200 ∧ l.length ≤ 50 ∧ ∀ p, p ∈ l → 1 ≤ p ∧ p ≤ n := by
  unfold tchk at h
  by_cases h1 : 1 ≤ n ∧ n ≤ 200
  case neg => rw [if_neg h1] at h; cases h
  rw [if_pos h1] at h
  by_cases h2 : 50 < l.length
  · rw [if_pos h2] at h; cases h
  rw [if_neg h2] at h
  by_cases h3 : ∀ p, p ∈ l → 1 ≤ p ∧ p ≤ n
  case neg => rw [if_neg h3] at h; cases h
  exact ⟨h1.1, h1.2, by omega, h3⟩
theorem within_eq (x a b : Int) : F_short_within x a b = some (decide (a ≤ x ∧ x ≤ b)) := by
  unfold F_short_within
  by_cases h : a ≤ x <;> simp [h]
theorem range_mem {l : List Int} {n : Int} : (List.range l.length).all (fun k => decide (1 ≤ l.getD k 0 ∧ l.getD k 0 ≤ n)) = true ↔ ∀ p, p ∈ l → 1 ≤ p ∧ p ≤ n := by
  rw [List.all_eq_true]
  constructor
  · intro h p hp
    obtain ⟨k, hk, rfl⟩ := List.getElem_of_mem hp
    have := h k (List.mem_range.2 hk)
    rw [getD_of _ hk] at this
    exact of_decide_eq_true this
  · intro h k hk
    have hk := List.mem_range.1 hk
    rw [getD_of _ hk]
    exact decide_eq_true (h _ (List.getElem_mem hk))
theorem tcheck_eq (n : Int) (l : List Int) : F_short_check n l = some (tchk n l) := by
  unfold F_short_check tchk
  rw [within_eq]
  by_cases h1 : 1 ≤ n ∧ n ≤ 200
  case neg => simp only [Option.bind_some, dF h1, Bool.not_false, if_true, if_neg h1]
  simp only [Option.bind_some, dT h1, Bool.not_true, Bool.false_eq_true, if_false, if_pos h1]
  by_cases h2 : 50 < l.length
  · simp only [dT (show (50 : Int) < (l.length : Int) by omega), if_true, if_pos h2]
  simp only [dF (show ¬ (50 : Int) < (l.length : Int) by omega), Bool.false_eq_true, if_false, if_neg h2]
  rw [loop_all (B := short_check_l1 l n) l.length (fun k => decide (1 ≤ l.getD k 0 ∧ l.getD k 0 ≤ n)) (.inr ()) (.inl 2) ?_ ?_]
  · by_cases h3 : ∀ p, p ∈ l → 1 ≤ p ∧ p ≤ n
    · rw [if_pos (range_mem.2 h3), if_pos h3]; rfl
    · rw [if_neg (fun h => h3 (range_mem.1 h)), if_neg h3]; rfl
  · intro k hk
    unfold short_check_l1
    simp only [dT (show (k : Int) < (l.length : Int) by omega), if_true, idxO_nat hk, Option.bind_some, within_eq, getD_of _ hk, w64_succ (show k < 9223372036854775807 by omega)]
    by_cases h : 1 ≤ l[k] ∧ l[k] ≤ n
    · simp only [dT h, Bool.not_true, Bool.false_eq_true, if_false, if_true]
    · simp only [dF h, Bool.not_false, Bool.false_eq_true, if_false, if_true]
  · unfold short_check_l1
    simp only [dF (show ¬ (l.length : Int) < (l.length : Int) by omega), Bool.false_eq_true, if_false]
theorem map_const {α : Type} (n : Nat) (c : α) : (List.range n).map (fun _ => c) = List.replicate n c := by
  rw [List.map_const', List.length_range]
theorem several_eq (kind x : Int) (h0 : 0 ≤ x) (h1 : x ≤ 1000000) : F_short_several kind x = some (List.replicate x.toNat ⟨kind, false, 0, 0⟩) := by
  obtain ⟨n, rfl⟩ : ∃ n : Nat, x = n := ⟨x.toNat, by omega⟩
  have hl : whileO (short_several_l1 (n : Int) kind) ([], 0) = some ((List.range n).map fun _ => (⟨kind, false, 0, 0⟩ : api_Stitch)) := by
    refine loop_map n (fun _ => (⟨kind, false, 0, 0⟩ : api_Stitch)) ?_ ?_
    · rintro k s hk rfl
      unfold short_several_l1
      simp only [dT (show (k : Int) < (n : Int) by omega), if_true, appO_of (show ((List.range k).map fun _ => (⟨kind, false, 0, 0⟩ : api_Stitch)).length + [(api_Stitch.mk kind false 0 0)].length ≤ 68719476736 by simp; omega), Option.bind_some, w64_succ (show k < 9223372036854775807 by omega)]
    · unfold short_several_l1
      simp only [dF (show ¬ (n : Int) < (n : Int) by omega), Bool.false_eq_true, if_false]
  unfold F_short_several
  rw [capO_of (k := n) rfl (by omega), hl, map_const]
  rfl
theorem joined_eq (a b : List api_Stitch) (h : a.length + b.length ≤ 1000000) : F_short_joined [a, b] = some (a ++ b) := by
  have i0 : idxO [a, b] 0 = some a := rfl
  have i1 : idxO [a, b] 1 = some b := rfl
  have w1 : w64 (0 + 1) = 1 := rfl
  have w2 : w64 (1 + 1) = 2 := rfl
  have s0 : short_joined_l1 [a, b] ([], 0) = some (.inl (a, 1)) := by
    unfold short_joined_l1
    simp only [dT (show (0 : Int) < (([a, b] : List (List api_Stitch)).length : Int) by simp), if_true, i0, Option.bind_some, appO_of (show ([] : List api_Stitch).length + a.length ≤ 68719476736 by simp; omega), List.nil_append, w1]
  have s1 : short_joined_l1 [a, b] (a, 1) = some (.inl (a ++ b, 2)) := by
    unfold short_joined_l1
    simp only [dT (show (1 : Int) < (([a, b] : List (List api_Stitch)).length : Int) by simp), if_true, i1, Option.bind_some, appO_of (show a.length + b.length ≤ 68719476736 by omega), w2]
  have s2 : short_joined_l1 [a, b] (a ++ b, 2) = some (.inr (a ++ b)) := by
    unfold short_joined_l1
    simp only [dF (show ¬ (2 : Int) < (([a, b] : List (List api_Stitch)).length : Int) by simp), Bool.false_eq_true, if_false]
  unfold F_short_joined
  rw [whileO_step s0, whileO_step s1, whileO_done s2]
  rfl
theorem sm_rep {α : Type} (f : α → Int) (n : Nat) (x : α) : sm f (List.replicate n x) = f x * (n : Int) := by
  induction n with
  | zero => simp [sm]
  | succ n ih =>
    rw [List.replicate_succ]
    simp only [sm, ih]
    rw [Int.natCast_add, Int.mul_add]
    simp
    omega
theorem kn_len {n p : Int} (h0 : 0 ≤ p) (h1 : p ≤ n) : (kn n p).length = n.toNat := by
  unfold kn; simp; omega
theorem kn_ok {n p : Int} (h0 : 0 ≤ p) (h1 : p ≤ n) (h2 : n ≤ 200) : allS (kn n p) = 0 ∧ sm usedS (kn n p) = n ∧ sm madeS (kn n p) = n := by
  have u : sm usedS (kn n p) = n := by
    unfold kn; rw [sm_append, sm_rep, sm_rep]
    have a1 : usedS kS = 1 := rfl
    have a2 : usedS sS = 1 := rfl
    rw [a1, a2]; omega
  have m : sm madeS (kn n p) = n := by
    unfold kn; rw [sm_append, sm_rep, sm_rep]
    have a1 : madeS kS = 1 := rfl
    have a2 : madeS sS = 1 := rfl
    rw [a1, a2]; omega
  have hl := kn_len h0 h1
  have hok : allOk (kn n p) := by
    intro x hx
    unfold kn at hx
    rw [List.mem_append, List.mem_replicate, List.mem_replicate] at hx
    rcases hx with ⟨_, rfl⟩ | ⟨_, rfl⟩ <;> decide
  refine ⟨?_, u, m⟩
  unfold allS
  rw [if_neg (by omega), if_pos hok, u, m, if_neg (by omega)]
theorem kn_wf {n p : Int} : ∀ x, x ∈ kn n p → wfS x := by
  intro x hx
  unfold kn at hx
  rw [List.mem_append, List.mem_replicate, List.mem_replicate] at hx
  rcases hx with ⟨_, rfl⟩ | ⟨_, rfl⟩ <;> simp [wfS, kS, sS]
def rowsOf (n : Int) : List Int → List api_Row
  | [] => []
  | p :: l => ⟨false, kn n p⟩ :: ⟨true, ((kn n p).map othS).reverse⟩ :: rowsOf n l
theorem rowsOf_len (n : Int) (l : List Int) : (rowsOf n l).length = 2 * l.length := by
  induction l with
  | nil => rfl
  | cons p l ih => simp only [rowsOf, List.length_cons, ih]; omega
theorem rowsOf_app (n : Int) (l k : List Int) : rowsOf n (l ++ k) = rowsOf n l ++ rowsOf n k := by
  induction l with
  | nil => rfl
  | cons p l ih => simp only [rowsOf, List.cons_append, ih]
theorem rowsOf_get (n : Int) (l : List Int) (i : Nat) : (rowsOf n l)[2 * i]? = l[i]?.map fun p => (⟨false, kn n p⟩ : api_Row) := by
  induction l generalizing i with
  | nil => simp [rowsOf]
  | cons p l ih =>
    cases i with
    | zero => rfl
    | succ i =>
      rw [show 2 * (i + 1) = 2 * i + 1 + 1 by omega]
      simp only [rowsOf, List.getElem?_cons_succ]
      exact ih i
def chartOf (n : Int) (l : List Int) : api_Chart × Int := if tchk n l = 0 then (⟨n, rowsOf n l⟩, 0) else (⟨0, []⟩, tchk n l)
theorem rows_step {n : Int} {l : List Int} (hl : l.length ≤ 50) {k : Nat} (hk : k < l.length) : appO (rowsOf n (l.take k)) [⟨false, kn n l[k]⟩, ⟨true, ((kn n l[k]).map othS).reverse⟩] = some (rowsOf n (l.take (k + 1))) := by
  rw [appO_of (by rw [rowsOf_len, List.length_take]; simp; omega), take_one l hk, rowsOf_app]
  rfl
theorem chart_eq (n : Int) (l : List Int) : F_short_Chart n l = some (chartOf n l) := by
  unfold F_short_Chart chartOf
  rw [tcheck_eq]
  by_cases h : tchk n l = 0
  case neg => simp only [Option.bind_some, nT h, if_true, if_neg h]
  obtain ⟨n0, n1, hl, hp⟩ := tchk_ok h
  have key : ∃ t, whileO (short_Chart_l1 l n) (0, []) = some t ∧ t = rowsOf n l := by
    refine loop_at (σ := Unit) l.length (fun k _ => ((k : Int), rowsOf n (l.take k))) (fun _ _ => True) _ (s0 := ()) trivial ?_ ?_
    · intro k _ hk _
      refine .inl ⟨(), ?_, trivial⟩
      have hq := hp _ (List.getElem_mem hk)
      have hko := kn_ok (n := n) (p := l[k]) (by omega) hq.2 n1
      have hkl := kn_len (n := n) (p := l[k]) (by omega) hq.2
      have ew : w64 (n - l[k]) = n - l[k] := w64_of (by omega) (by omega)
      have ej : F_short_joined [List.replicate l[k].toNat (⟨1, false, 0, 0⟩ : api_Stitch), List.replicate (n - l[k]).toNat (⟨8, false, 0, 0⟩ : api_Stitch)] = some (kn n l[k]) := joined_eq _ _ (by simp; omega)
      have et : F_stitch_Turn (kn n l[k]) = some (((kn n l[k]).map othS).reverse, 0) := by rw [turn_eq kn_wf, if_pos hko.1]
      unfold short_Chart_l1
      simp only [dT (show (k : Int) < (l.length : Int) by omega), if_true, idxO_nat hk, Option.bind_some, several_eq 1 l[k] (by omega) (by omega), ew, several_eq 8 (n - l[k]) (by omega) (by omega), ej, et, rows_step hl hk, w64_succ (show k < 9223372036854775807 by omega)]
    · intro _ _
      refine ⟨_, ?_, rfl⟩
      unfold short_Chart_l1
      simp only [dF (show ¬ (l.length : Int) < (l.length : Int) by omega), Bool.false_eq_true, if_false, List.take_length]
  obtain ⟨t, h1, rfl⟩ := key
  simp only [Option.bind_some, nF h, Bool.false_eq_true, if_false, h1, if_pos h]
theorem kn_map {n p : Int} (h0 : 0 ≤ p) (h1 : p ≤ n) : (List.range n.toNat).map (fun k : Nat => if (k : Int) < p then kS else sS) = kn n p := by
  apply List.ext_getElem?
  intro j
  unfold kn
  rw [List.getElem?_append]
  simp only [List.length_replicate, List.getElem?_map, List.getElem?_replicate]
  by_cases hj : j < n.toNat
  · rw [List.getElem?_range hj]
    by_cases hp : j < p.toNat
    · simp only [Option.map_some, hp, if_true, if_pos (show (j : Int) < p by omega)]
    · simp only [Option.map_some, hp, if_false, if_neg (show ¬ (j : Int) < p by omega), if_pos (show j - p.toNat < (n - p).toNat by omega)]
  · rw [List.getElem?_eq_none (by simp; omega), if_neg (show ¬ j < p.toNat by omega), if_neg (show ¬ j - p.toNat < (n - p).toNat by omega)]
    rfl
/-- how many stitches are knit: at the start of a row, and in all -/
def lead : List api_Stitch → Nat
  | [] => 0
  | p :: l => if p.Kind = 1 then lead l + 1 else 0
def cntK : List api_Stitch → Nat
  | [] => 0
  | p :: l => if p.Kind = 1 then cntK l + 1 else cntK l
theorem lead_le (l : List api_Stitch) : lead l ≤ l.length := by
  induction l with
  | nil => simp [lead]
  | cons p l ih => simp only [lead]; split <;> simp <;> omega
theorem lead_lt {l : List api_Stitch} {j : Nat} (h : j < lead l) : ∃ hj : j < l.length, l[j].Kind = 1 := by
  induction l generalizing j with
  | nil => simp [lead] at h
  | cons p l ih =>
    simp only [lead] at h
    split at h
    · rename_i hp
      cases j with
      | zero => exact ⟨by simp, hp⟩
      | succ j =>
        obtain ⟨hj, h1⟩ := ih (show j < lead l by omega)
        exact ⟨by simp; omega, by simpa using h1⟩
    · omega
theorem lead_at {l : List api_Stitch} (h : lead l < l.length) : l[lead l].Kind ≠ 1 := by
  have key : ∀ j (hj : j < l.length), j = lead l → l[j].Kind ≠ 1 := by
    clear h
    induction l with
    | nil => intro j hj; simp at hj
    | cons p l ih =>
      intro j hj e
      simp only [lead] at e
      split at e
      · subst e
        simp only [List.getElem_cons_succ]
        exact ih _ (by simpa using hj) rfl
      · subst e
        simpa using ‹¬ p.Kind = 1›
  exact key _ h rfl
theorem lead_kn {n p : Int} : lead (kn n p) = p.toNat := by
  unfold kn
  induction p.toNat with
  | zero =>
    rw [List.replicate_zero, List.nil_append]
    cases (n - p).toNat with
    | zero => rfl
    | succ m => rfl
  | succ m ih => rw [List.replicate_succ, List.cons_append]; simp only [lead, kS, if_true] at ih ⊢; rw [ih]
theorem cntK_kn {n p : Int} : cntK (kn n p) = p.toNat := by
  have z : ∀ m, cntK (List.replicate m sS) = 0 := by
    intro m
    induction m with
    | zero => rfl
    | succ m ih => rw [List.replicate_succ]; show (if sS.Kind = 1 then _ else _) = 0; rw [if_neg (by decide)]; exact ih
  unfold kn
  induction p.toNat with
  | zero => rw [List.replicate_zero, List.nil_append, z]
  | succ m ih => rw [List.replicate_succ, List.cons_append]; simp only [cntK, kS, if_true] at ih ⊢; rw [ih]
theorem cntK_take (l : List api_Stitch) {k : Nat} (hk : k < l.length) : cntK (l.take (k + 1)) = cntK (l.take k) + (if l[k].Kind = 1 then 1 else 0) := by
  have app : ∀ a b : List api_Stitch, cntK (a ++ b) = cntK a + cntK b := by
    intro a b
    induction a with
    | nil => simp [cntK]
    | cons p a ih => simp only [cntK, List.cons_append, ih]; split <;> omega
  rw [take_one l hk, app]
  simp only [cntK]
theorem lead_loop (x : api_Row) (hx : x.Cells.length ≤ 1000000) (i : Nat) : ∀ (m j : Nat) (s : List Int), lead x.Cells = j + m → s[i]? = some (j : Int) → whileO (short_Read_l1 (i : Int) x) s = some (s.set i (lead x.Cells : Int)) := by
  intro m
  have hle := lead_le x.Cells
  induction m with
  | zero =>
    intro j s e hs
    have hi := (List.getElem?_eq_some_iff.1 hs).1
    have hv := (List.getElem?_eq_some_iff.1 hs).2
    have e1 : short_Read_l1 (i : Int) x s = some (.inr s) := by
      unfold short_Read_l1
      simp only [idxO_nat hi, hv, Option.bind_some]
      by_cases hj : j < x.Cells.length
      · have hk : x.Cells[j].Kind ≠ 1 := by
          have := lead_at (l := x.Cells) (by omega)
          simpa [e] using this
        simp only [dT (show (j : Int) < (x.Cells.length : Int) by omega), if_true, idxO_nat hj, Option.bind_some, bF hk, Bool.false_eq_true, if_false]
      · simp only [dF (show ¬ (j : Int) < (x.Cells.length : Int) by omega), Bool.false_eq_true, if_false, Option.bind_some]
    rw [whileO_done e1, show (lead x.Cells : Int) = s[i] by rw [hv]; omega, List.set_getElem_self]
  | succ m ih =>
    intro j s e hs
    have hi := (List.getElem?_eq_some_iff.1 hs).1
    have hv := (List.getElem?_eq_some_iff.1 hs).2
    obtain ⟨hj, hk⟩ := lead_lt (l := x.Cells) (j := j) (by omega)
    have e1 : short_Read_l1 (i : Int) x s = some (.inl (s.set i ((j + 1 : Nat) : Int))) := by
      unfold short_Read_l1
      simp only [idxO_nat hi, hv, Option.bind_some, dT (show (j : Int) < (x.Cells.length : Int) by omega), if_true, idxO_nat hj, bT hk, w64_succ (show j < 9223372036854775807 by omega), setO_nat hi]
    rw [whileO_step e1, ih (j + 1) _ (by omega) (by simp [hi]), List.set_set]
/-- the list of turns that Read looks at -/
def leads (c : api_Chart) : List Int := (List.range (c.Rows.length / 2)).map fun i => (lead (c.Rows.getD (2 * i) ⟨false, []⟩).Cells : Int)
def cnts (c : api_Chart) : List Int := (List.range ((c.Rows.length + 1) / 2)).map fun i => (cntK (c.Rows.getD (2 * i) ⟨false, []⟩).Cells : Int)
theorem leads_loop (c : api_Chart) (hl : c.Rows.length ≤ 1000000) (hc : ∀ r, r ∈ c.Rows → r.Cells.length ≤ 1000000) : whileO (short_Read_l2 (List.replicate (c.Rows.length / 2) 0) c) (List.replicate (c.Rows.length / 2) 0, 0) = some (leads c) := by
  unfold leads
  generalize hn : c.Rows.length / 2 = n
  have key : ∃ t, whileO (short_Read_l2 (List.replicate n 0) c) (List.replicate n 0, 0) = some t ∧ t = (List.range n).map fun i => (lead (c.Rows.getD (2 * i) ⟨false, []⟩).Cells : Int) := by
    refine loop_st n (fun k s => s = ((List.range k).map fun i => (lead (c.Rows.getD (2 * i) ⟨false, []⟩).Cells : Int)) ++ List.replicate (n - k) 0) _ (by simp) ?_ ?_
    · rintro k s hk rfl
      refine .inl ⟨_, ?_, rfl⟩
      have h2 : 2 * k < c.Rows.length := by omega
      have e2 : w64 (2 * (k : Int)) = ((2 * k : Nat) : Int) := by rw [w64_of (by omega) (by omega)]; omega
      have er : List.replicate (n - k) (0 : Int) = 0 :: List.replicate (n - (k + 1)) 0 := by rw [show n - k = (n - (k + 1)) + 1 by omega, List.replicate_succ]
      have hlp := lead_loop c.Rows[2 * k] (hc _ (List.getElem_mem h2)) k (lead c.Rows[2 * k].Cells) 0 (((List.range k).map fun i => (lead (c.Rows.getD (2 * i) ⟨false, []⟩).Cells : Int)) ++ List.replicate (n - k) 0) (by omega) (by rw [er, List.getElem?_append_right (by simp)]; simp)
      unfold short_Read_l2
      simp only [List.length_replicate, dT (show (k : Int) < (n : Int) by omega), if_true, e2, idxO_nat h2, Option.bind_some, hlp, w64_succ (show k < 9223372036854775807 by omega)]
      congr 4
      rw [er, List.set_append_right _ _ (by simp), List.range_succ, List.map_append, List.map_singleton, getD_of _ h2, List.length_map, List.length_range, Nat.sub_self, List.set_cons_zero, List.append_assoc]
      rfl
    · rintro s rfl
      refine ⟨_, ?_, rfl⟩
      unfold short_Read_l2
      simp only [List.length_replicate, dF (show ¬ (n : Int) < (n : Int) by omega), Bool.false_eq_true, if_false, Nat.sub_self, List.replicate_zero, List.append_nil]
  obtain ⟨t, h1, rfl⟩ := key
  exact h1
/-- what Read finds, if it finds any -/
theorem leads_of {c : api_Chart} {V : List Int} (hv : tchk c.Start V = 0) (h : c.Rows = rowsOf c.Start V) : leads c = V ∧ cnts c = V := by
  have hl : c.Rows.length = 2 * V.length := by rw [h, rowsOf_len]
  obtain ⟨_, _, _, hp⟩ := tchk_ok hv
  have get : ∀ i (hi : i < V.length), c.Rows.getD (2 * i) ⟨false, []⟩ = ⟨false, kn c.Start V[i]⟩ := by
    intro i hi
    have e : c.Rows[2 * i]? = some ⟨false, kn c.Start V[i]⟩ := by
      have := rowsOf_get c.Start V i
      rw [← h, List.getElem?_eq_getElem hi] at this
      exact this
    rw [List.getD_eq_getElem?_getD, e]; rfl
  constructor
  · unfold leads
    rw [hl, show 2 * V.length / 2 = V.length by omega]
    apply List.ext_getElem (by simp)
    intro i h1 h2
    simp only [List.getElem_map, List.getElem_range, get i h2, lead_kn]
    have := hp _ (List.getElem_mem h2)
    omega
  · unfold cnts
    rw [hl, show (2 * V.length + 1) / 2 = V.length by omega]
    apply List.ext_getElem (by simp)
    intro i h1 h2
    simp only [List.getElem_map, List.getElem_range, get i h2, cntK_kn]
    have := hp _ (List.getElem_mem h2)
    omega
open Classical in
noncomputable def readOf (c : api_Chart) : Int × List Int × Int := if tchk c.Start (leads c) = 0 ∧ c.Rows = rowsOf c.Start (leads c) then (c.Start, leads c, 0) else (0, [], 8)
theorem read_eq (c : api_Chart) (hl : c.Rows.length ≤ 1000000) (hc : ∀ r, r ∈ c.Rows → r.Cells.length ≤ 1000000) : F_short_Read c = some (readOf c) := by
  have hr : remI (c.Rows.length : Int) 2 = some ((c.Rows.length % 2 : Nat) : Int) := by
    unfold remI; rw [if_neg (by omega)]; rfl
  have hq : quoI (c.Rows.length : Int) 2 = some ((c.Rows.length / 2 : Nat) : Int) := by
    unfold quoI; rw [if_neg (by omega)]
    have : ((c.Rows.length : Int)).tdiv 2 = ((c.Rows.length / 2 : Nat) : Int) := rfl
    rw [this, w64_of (by omega) (by omega)]
  unfold F_short_Read readOf
  simp only [hr, hq, Option.bind_some]
  by_cases odd : c.Rows.length % 2 = 1
  · have : ¬ (tchk c.Start (leads c) = 0 ∧ c.Rows = rowsOf c.Start (leads c)) := fun h => by
      have := congrArg List.length h.2
      rw [rowsOf_len] at this
      omega
    simp only [bT (show ((c.Rows.length % 2 : Nat) : Int) = 1 by omega), if_true, if_neg this]
  simp only [bF (show ¬ ((c.Rows.length % 2 : Nat) : Int) = 1 by omega), Bool.false_eq_true, if_false, makeO_of (k := c.Rows.length / 2) (z := (0 : Int)) rfl (by omega), Option.bind_some, leads_loop c hl hc, chart_eq]
  unfold chartOf
  by_cases ht : tchk c.Start (leads c) = 0
  case neg => simp only [if_neg ht, nT ht, if_true, ht, false_and, if_false]
  simp only [ht, if_true, bne_self_eq_false, Bool.false_eq_true, if_false, true_and]
  have hlen : c.Rows.length = (rowsOf c.Start (leads c)).length := by
    rw [rowsOf_len]; unfold leads; simp; omega
  have key : ∃ t : Bool, (t = true ↔ c.Rows = (rowsOf c.Start (leads c))) ∧ whileO (short_Read_l3 c (⟨c.Start, rowsOf c.Start (leads c)⟩, 0)) 0 = some (if t = true then .inr () else .inl (0, [], 8)) := by
    refine loop_eq c.Rows (rowsOf c.Start (leads c)) hlen _ _ (fun k hk => ?_) ?_
    · have hk2 : k < (rowsOf c.Start (leads c)).length := by omega
      obtain ⟨t, t1, t2⟩ := same_eq c.Rows[k].Cells ((rowsOf c.Start (leads c))[k]).Cells (by have := hc _ (List.getElem_mem hk); omega)
      by_cases hb : c.Rows[k].Back = ((rowsOf c.Start (leads c))[k]).Back
      · refine ⟨t, t1.trans ⟨fun e => row_ext.2 ⟨hb, e⟩, fun e => (row_ext.1 e).2⟩, ?_⟩
        unfold short_Read_l3
        simp only [dT (show (k : Int) < (c.Rows.length : Int) by omega), if_true, idxO_nat hk, idxO_nat hk2, Option.bind_some, w64_succ (show k < 9223372036854775807 by omega), hb, bne_self_eq_false, Bool.false_eq_true, if_false, t2]
        cases t <;> rfl
      · refine ⟨false, ⟨fun h => (by cases h), fun e => absurd (row_ext.1 e).1 hb⟩, ?_⟩
        unfold short_Read_l3
        simp only [dT (show (k : Int) < (c.Rows.length : Int) by omega), if_true, idxO_nat hk, idxO_nat hk2, Option.bind_some, bne_iff_ne.2 hb, Bool.false_eq_true, if_false]
    · unfold short_Read_l3
      simp only [dF (show ¬ (c.Rows.length : Int) < (c.Rows.length : Int) by omega), Bool.false_eq_true, if_false]
  obtain ⟨t, t1, t2⟩ := key
  rw [t2]
  cases t with
  | true =>
    have hp : tchk c.Start (leads c) = 0 ∧ c.Rows = rowsOf c.Start (leads c) := ⟨ht, t1.1 rfl⟩
    rw [if_pos hp]; rfl
  | false =>
    have hn : ¬ (tchk c.Start (leads c) = 0 ∧ c.Rows = rowsOf c.Start (leads c)) := fun h => by cases t1.2 h.2
    rw [if_neg hn]; rfl

end Go.Proofs.YtoiehdlcfehmlaaDoor
namespace Go.Proofs.YtoiehdlcfehmlaaDoor
open Go.RowKit
set_option linter.unusedVariables false

/-- how many are v, and how many are greater than v -/
def ceq (v : Int) : List Int → Nat
  | [] => 0
  | p :: l => if p = v then ceq v l + 1 else ceq v l
def cgt (v : Int) : List Int → Nat
  | [] => 0
  | p :: l => if v < p then cgt v l + 1 else cgt v l
theorem ceq_app (v : Int) (a b : List Int) : ceq v (a ++ b) = ceq v a + ceq v b := by
  induction a with
  | nil => simp [ceq]
  | cons p a ih => simp only [List.cons_append, ceq, ih]; split <;> omega
theorem cgt_app (v : Int) (a b : List Int) : cgt v (a ++ b) = cgt v a + cgt v b := by
  induction a with
  | nil => simp [cgt]
  | cons p a ih => simp only [List.cons_append, cgt, ih]; split <;> omega
theorem ceq_le (v : Int) (l : List Int) : ceq v l ≤ l.length := by
  induction l with
  | nil => simp [ceq]
  | cons p l ih => simp only [ceq, List.length_cons]; split <;> omega
theorem cgt_le (v : Int) (l : List Int) : cgt v l ≤ l.length := by
  induction l with
  | nil => simp [cgt]
  | cons p l ih => simp only [cgt, List.length_cons]; split <;> omega
theorem cgt_step (v : Int) (l : List Int) : cgt v l = ceq (v + 1) l + cgt (v + 1) l := by
  induction l with
  | nil => rfl
  | cons p l ih =>
    simp only [cgt, ceq, ih]
    by_cases h1 : v < p
    · by_cases h2 : p = v + 1
      · rw [if_pos h1, if_pos h2, if_neg (by omega)]; omega
      · rw [if_pos h1, if_neg h2, if_pos (by omega)]; omega
    · rw [if_neg h1, if_neg (by omega), if_neg (by omega)]
theorem cgt_top {v : Int} {l : List Int} (h : ∀ p, p ∈ l → p ≤ v) : cgt v l = 0 := by
  induction l with
  | nil => rfl
  | cons p l ih =>
    simp only [cgt]
    rw [if_neg (by have := h p (by simp); omega)]
    exact ih fun q hq => h q (by simp [hq])
theorem cgt_all {v : Int} {l : List Int} (h : ∀ p, p ∈ l → v < p) : cgt v l = l.length := by
  induction l with
  | nil => rfl
  | cons p l ih =>
    simp only [cgt, List.length_cons]
    rw [if_pos (h p (by simp)), ih fun q hq => h q (by simp [hq])]
theorem cgt_mono {v u : Int} (h : v ≤ u) (l : List Int) : cgt u l ≤ cgt v l := by
  induction l with
  | nil => simp [cgt]
  | cons p l ih =>
    simp only [cgt]
    split
    · rw [if_pos (by omega)]; omega
    · split <;> omega
def hts (n : Int) (l : List Int) : List Int := (List.range n.toNat).map fun k : Nat => (cgt (k : Int) l : Int)
theorem hts_len (n : Int) (l : List Int) : (hts n l).length = n.toNat := by simp [hts]
theorem hts_get {n : Int} {l : List Int} {k : Nat} (hk : k < (hts n l).length) : (hts n l)[k] = (cgt (k : Int) l : Int) := by
  simp [hts]
theorem map_set {α : Type} (n : Nat) (f g : Nat → α) (k : Nat) (v : α) (h : ∀ j, j < n → g j = if j = k then v else f j) : ((List.range n).map f).set k v = (List.range n).map g := by
  apply List.ext_getElem?
  intro j
  rw [List.getElem?_set]
  simp only [List.length_map, List.length_range, List.getElem?_map]
  by_cases hj : j < n
  · rw [List.getElem?_range hj]
    simp only [Option.map_some]
    rw [h j hj]
    by_cases e : j = k
    · subst e; simp [hj]
    · rw [if_neg (fun x => e x.symm), if_neg e]
  · have e1 : (List.range n)[j]? = none := List.getElem?_eq_none (by simp; omega)
    rw [e1]
    by_cases e : k = j
    · subst e; simp [hj]
    · simp [e]
theorem heights_eq (n : Int) (l : List Int) : F_short_Heights n l = some (if tchk n l = 0 then (hts n l, 0) else ([], tchk n l)) := by
  unfold F_short_Heights
  rw [tcheck_eq]
  by_cases h : tchk n l = 0
  case neg => simp only [Option.bind_some, nT h, if_true, if_neg h]
  obtain ⟨n0, n1, hl, hp⟩ := tchk_ok h
  obtain ⟨m, rfl⟩ : ∃ m : Nat, n = m := ⟨n.toNat, by omega⟩
  have l1 : whileO (short_Heights_l1 l) (List.replicate m 0, 0) = some ((List.range m).map fun j : Nat => (ceq ((j : Int) + 1) l : Int)) := by
    have key : ∃ t, whileO (short_Heights_l1 l) (List.replicate m 0, 0) = some t ∧ t = (List.range m).map fun j : Nat => (ceq ((j : Int) + 1) l : Int) := by
      refine loop_st l.length (fun k s => s = (List.range m).map fun j : Nat => (ceq ((j : Int) + 1) (l.take k) : Int)) _ (by rw [← map_const]; simp [ceq]) ?_ ?_
      · rintro k s hk rfl
        refine .inl ⟨_, ?_, rfl⟩
        have hq := hp _ (List.getElem_mem hk)
        obtain ⟨q, hq2⟩ : ∃ q : Nat, l[k] = (q : Int) + 1 := ⟨(l[k] - 1).toNat, by omega⟩
        have e1 : w64 (l[k] - 1) = (q : Int) := by rw [hq2, w64_of (by omega) (by omega)]; omega
        have hqm : q < ((List.range m).map fun j : Nat => (ceq ((j : Int) + 1) (l.take k) : Int)).length := by simp; omega
        have hc := ceq_le ((q : Int) + 1) (l.take k)
        rw [List.length_take] at hc
        have e2 : ((List.range m).map fun j : Nat => (ceq ((j : Int) + 1) (l.take k) : Int))[q] = (ceq ((q : Int) + 1) (l.take k) : Int) := by simp
        unfold short_Heights_l1
        simp only [dT (show (k : Int) < (l.length : Int) by omega), if_true, idxO_nat hk, Option.bind_some, e1, idxO_nat hqm, e2, w64_succ (show ceq ((q : Int) + 1) (l.take k) < 9223372036854775807 by omega), setO_nat hqm, w64_succ (show k < 9223372036854775807 by omega)]
        congr 3
        refine map_set m _ _ q _ fun j hj => ?_
        rw [take_one l hk, ceq_app]
        simp only [ceq, hq2]
        by_cases e : j = q
        · subst e; rw [if_pos rfl, if_pos rfl]
        · rw [if_neg e, if_neg (by omega)]; simp
      · rintro s rfl
        refine ⟨_, ?_, rfl⟩
        unfold short_Heights_l1
        simp only [dF (show ¬ (l.length : Int) < (l.length : Int) by omega), Bool.false_eq_true, if_false, List.take_length]
    obtain ⟨t, h1, rfl⟩ := key
    exact h1
  have mid : ∀ i : Nat, i + 1 ≤ m → whileO short_Heights_l2 ((List.range m).map (fun j : Nat => if j < i then (ceq ((j : Int) + 1) l : Int) else (cgt (j : Int) l : Int)), (i : Int) - 1) = some (hts (m : Int) l) := by
    intro i
    induction i with
    | zero =>
      intro _
      have e : short_Heights_l2 ((List.range m).map (fun j : Nat => if j < 0 then (ceq ((j : Int) + 1) l : Int) else (cgt (j : Int) l : Int)), ((0 : Nat) : Int) - 1) = some (.inr (hts (m : Int) l)) := by
        unfold short_Heights_l2 hts
        simp only [dF (show ¬ (0 : Int) ≤ ((0 : Nat) : Int) - 1 by omega), Bool.false_eq_true, if_false, Nat.not_lt_zero, Int.toNat_natCast]
      rw [whileO_done e]
    | succ i ih =>
      intro hi
      have e0 : ((i + 1 : Nat) : Int) - 1 = (i : Int) := by omega
      have hlen : i < ((List.range m).map (fun j : Nat => if j < i + 1 then (ceq ((j : Int) + 1) l : Int) else (cgt (j : Int) l : Int))).length := by simp; omega
      have hlen2 : i + 1 < ((List.range m).map (fun j : Nat => if j < i + 1 then (ceq ((j : Int) + 1) l : Int) else (cgt (j : Int) l : Int))).length := by simp; omega
      have v1 : ((List.range m).map (fun j : Nat => if j < i + 1 then (ceq ((j : Int) + 1) l : Int) else (cgt (j : Int) l : Int)))[i] = (ceq ((i : Int) + 1) l : Int) := by simp
      have v2 : ((List.range m).map (fun j : Nat => if j < i + 1 then (ceq ((j : Int) + 1) l : Int) else (cgt (j : Int) l : Int)))[i + 1] = (cgt ((i : Int) + 1) l : Int) := by simp
      have b1 := ceq_le ((i : Int) + 1) l
      have b2 := cgt_le ((i : Int) + 1) l
      have b3 := cgt_step (i : Int) l
      have ew : w64 ((ceq ((i : Int) + 1) l : Int) + (cgt ((i : Int) + 1) l : Int)) = (cgt (i : Int) l : Int) := by rw [w64_of (by omega) (by omega)]; omega
      have es := map_set m (fun j : Nat => if j < i + 1 then (ceq ((j : Int) + 1) l : Int) else (cgt (j : Int) l : Int)) (fun j : Nat => if j < i then (ceq ((j : Int) + 1) l : Int) else (cgt (j : Int) l : Int)) i (cgt (i : Int) l : Int) (fun j hj => by
        by_cases e : j = i
        · subst e; rw [if_neg (by omega), if_pos rfl]
        · rw [if_neg e]
          by_cases h2 : j < i
          · rw [if_pos h2, if_pos (by omega)]
          · rw [if_neg h2, if_neg (by omega)])
      have e : short_Heights_l2 ((List.range m).map (fun j : Nat => if j < i + 1 then (ceq ((j : Int) + 1) l : Int) else (cgt (j : Int) l : Int)), (i : Int)) = some (.inl ((List.range m).map (fun j : Nat => if j < i then (ceq ((j : Int) + 1) l : Int) else (cgt (j : Int) l : Int)), (i : Int) - 1)) := by
        unfold short_Heights_l2
        simp only [dT (show (0 : Int) ≤ (i : Int) by omega), if_true, idxO_nat hlen, v1, Option.bind_some, w64_succ (show i < 9223372036854775807 by omega), idxO_nat hlen2, v2, ew, setO_nat hlen, es, w64_of (show (-9223372036854775808 : Int) ≤ (i : Int) - 1 by omega) (by omega)]
      rw [e0, whileO_step e]
      exact ih (by omega)
  have e2 : w64 ((m : Int) - 2) = ((m - 1 : Nat) : Int) - 1 := by rw [w64_of (by omega) (by omega)]; omega
  have top := cgt_top (v := (m : Int)) (l := l) fun p hq => (hp p hq).2
  have est : ((List.range m).map fun j : Nat => (ceq ((j : Int) + 1) l : Int)) = (List.range m).map (fun j : Nat => if j < m - 1 then (ceq ((j : Int) + 1) l : Int) else (cgt (j : Int) l : Int)) := by
    refine map_cong fun j hj => ?_
    by_cases h2 : j < m - 1
    · rw [if_pos h2]
    · rw [if_neg h2]
      have := cgt_step (j : Int) l
      rw [show (j : Int) + 1 = (m : Int) by omega] at this ⊢
      omega
  simp only [Option.bind_some, nF h, Bool.false_eq_true, if_false, makeO_of (n := (m : Int)) (z := (0 : Int)) (k := m) rfl (by omega), l1, e2, est, mid (m - 1) (by omega), if_pos h]
theorem worked_eq (n : Int) (l : List Int) : F_short_Worked n l = some (if tchk n l = 0 then (sm (fun p => 2 * p) l, 0) else (0, tchk n l)) := by
  unfold F_short_Worked
  rw [tcheck_eq]
  by_cases h : tchk n l = 0
  case neg => simp only [Option.bind_some, nT h, if_true, if_neg h]
  obtain ⟨n0, n1, hl, hp⟩ := tchk_ok h
  have bd : ∀ k, 0 ≤ sm (fun p => 2 * p) (l.take k) ∧ sm (fun p => 2 * p) (l.take k) ≤ 400 * ((l.take k).length : Int) := fun k => sm_bd fun x hx => by have := hp x (List.mem_of_mem_take hx); omega
  have key : ∃ t, whileO (short_Worked_l1 l) (0, 0) = some t ∧ t = sm (fun p => 2 * p) l := by
    refine loop_st l.length (fun k s => s = sm (fun p => 2 * p) (l.take k)) _ rfl ?_ ?_
    · rintro k s hk rfl
      refine .inl ⟨_, ?_, rfl⟩
      have hq := hp _ (List.getElem_mem hk)
      have b := bd k
      rw [List.length_take] at b
      unfold short_Worked_l1
      simp only [dT (show (k : Int) < (l.length : Int) by omega), if_true, idxO_nat hk, Option.bind_some, w64_of (show (-9223372036854775808 : Int) ≤ 2 * l[k] by omega) (by omega), w64_succ (show k < 9223372036854775807 by omega)]
      rw [w64_of (by omega) (by omega), sm_take _ _ hk]
    · rintro s rfl
      refine ⟨_, ?_, rfl⟩
      unfold short_Worked_l1
      simp only [dF (show ¬ (l.length : Int) < (l.length : Int) by omega), Bool.false_eq_true, if_false, List.take_length]
  obtain ⟨t, h1, rfl⟩ := key
  simp only [Option.bind_some, nF h, Bool.false_eq_true, if_false, h1, if_pos h]
/-- lists that are alike -/
theorem ints_same_eq (a b : List Int) (hl : a.length ≤ 1000000) : ∃ t : Bool, (t = true ↔ a = b) ∧ F_raddleref36_Same a b = some t := by
  unfold F_raddleref36_Same
  by_cases h : a.length = b.length
  case neg =>
    exact ⟨false, ⟨fun h => (by cases h), fun e => absurd (congrArg List.length e) h⟩, by simp only [nT (show ¬ (a.length : Int) = (b.length : Int) by omega), if_true]⟩
  simp only [nF (show (a.length : Int) = (b.length : Int) by omega), Bool.false_eq_true, if_false]
  have key : ∃ t : Bool, (t = true ↔ a = b) ∧ whileO (raddleref36_Same_l1 a b) 0 = some (if t = true then .inr () else .inl false) := by
    refine loop_eq a b h _ _ (fun k hk => ?_) ?_
    · by_cases e : a[k] = b[k]'(by omega)
      · refine ⟨true, ⟨fun _ => e, fun _ => rfl⟩, ?_⟩
        unfold raddleref36_Same_l1
        simp only [dT (show (k : Int) < (a.length : Int) by omega), if_true, idxO_nat hk, idxO_nat (show k < b.length by omega), Option.bind_some, nF e, Bool.false_eq_true, if_false, w64_succ (show k < 9223372036854775807 by omega)]
      · refine ⟨false, ⟨fun h => (by cases h), fun h => absurd h e⟩, ?_⟩
        unfold raddleref36_Same_l1
        simp only [dT (show (k : Int) < (a.length : Int) by omega), if_true, idxO_nat hk, idxO_nat (show k < b.length by omega), Option.bind_some, nT e, Bool.false_eq_true, if_false]
    · unfold raddleref36_Same_l1
      simp only [dF (show ¬ (a.length : Int) < (a.length : Int) by omega), Bool.false_eq_true, if_false]
  obtain ⟨t, t1, t2⟩ := key
  refine ⟨t, t1, ?_⟩
  rw [t2]
  cases t <;> rfl
theorem tchk_app (n : Int) (a b : List Int) : tchk n (a ++ b) = tchk n (b ++ a) := by
  unfold tchk
  have e1 : (a ++ b).length = (b ++ a).length := by simp; omega
  have e2 : (∀ p, p ∈ a ++ b → 1 ≤ p ∧ p ≤ n) ↔ (∀ p, p ∈ b ++ a → 1 ≤ p ∧ p ≤ n) := by
    simp only [List.mem_append]
    exact ⟨fun h p hp => h p hp.symm, fun h p hp => h p hp.symm⟩
  rw [e1]
  by_cases h : ∀ p, p ∈ a ++ b → 1 ≤ p ∧ p ≤ n
  · rw [if_pos h, if_pos (e2.1 h)]
  · rw [if_neg h, if_neg (fun x => h (e2.2 x))]
theorem tchk_two {n : Int} {a b : List Int} (ha : tchk n a = 0) : (tchk n (a ++ b) = 0 → tchk n b = 0) ∧ (tchk n (a ++ b) ≠ 0 → tchk n b ≠ 0 ∨ tchk n (a ++ b) = 4) := by
  obtain ⟨n0, n1, hl, hp⟩ := tchk_ok ha
  constructor
  · intro h
    obtain ⟨_, _, hl2, hp2⟩ := tchk_ok h
    unfold tchk
    rw [if_pos ⟨n0, n1⟩, if_neg (by simp at hl2; omega), if_pos fun p hq => hp2 p (by simp [hq])]
  · intro h
    by_cases hb : tchk n b = 0
    · right
      obtain ⟨_, _, hl2, hp2⟩ := tchk_ok hb
      unfold tchk at h ⊢
      rw [if_pos ⟨n0, n1⟩] at h ⊢
      by_cases h5 : 50 < (a ++ b).length
      · rw [if_pos h5]
      · rw [if_neg h5, if_pos (fun p hq => by
          rcases List.mem_append.1 hq with hq | hq
          · exact hp p hq
          · exact hp2 p hq)] at h
        exact absurd rfl h
    · exact .inl hb

end Go.Proofs.YtoiehdlcfehmlaaDoor
namespace Go.Proofs.YtoiehdlcfehmlaaDoor
open Go.RowKit
set_option linter.unusedVariables false

def anc_raddlelaw38_ShortSums_0 : List (List Nat) := [[], [], [0, 1], [0, 1, 2], [], [], [4, 5], [4, 5, 6], [], [], [8, 9], [8, 9, 10], [4, 5, 6, 7, 8, 9, 10, 11], [0, 1, 2, 3, 4, 5, 6, 7, 8, 9, 10, 11, 12]]
noncomputable def raddlelaw38_ShortSums_l1 (r18 : ((List Int) × Int)) : (Int × Int) → Option ((Int × Int) ⊕ Int) := fun s0 => match s0 with
  | (s76, s77) =>
    if decide (s77 < (r18.1.length : Int)) then
      Option.bind (idxO r18.1 s77) fun x86 =>
      some (.inl (w64 (s76 + (w64 (2 * x86))), w64 (s77 + 1)))
    else
      some (.inr s76)
noncomputable def raddlelaw38_ShortSums_l2 (r40 : ((List Int) × Int)) (r18 : ((List Int) × Int)) (r24 : ((List Int) × Int)) : Int → Option (Int ⊕ (Bool ⊕ Unit)) := fun s0 => match s0 with
  | s122 =>
    if decide (s122 < (r40.1.length : Int)) then
      Option.bind (idxO r40.1 s122) fun x131 =>
      Option.bind (idxO r18.1 s122) fun x136 =>
      Option.bind (idxO r24.1 s122) fun x141 =>
      if x131 != (w64 (x136 + x141)) then
        some (.inr (.inl false))
      else
        some (.inl (w64 (s122 + 1)))
    else
      some (.inr (.inr ()))
noncomputable def F_raddlelaw38_ShortSums (p0 : Int) (p1 : (List Int)) (p2 : (List Int)) : Option Bool :=
  Option.bind (F_raddlelaw38_alive) fun r7 =>
  Option.bind (α := Bool) (
    if decide (60 < (p1.length : Int)) then
      some true
    else
      if decide (60 < (p2.length : Int)) then
        some true
      else
        some (!r7)) fun o10 =>
  if o10 then
    some r7
  else
    Option.bind (F_short_Heights p0 p1) fun r18 =>
    Option.bind (F_short_Heights p0 p2) fun r24 =>
    Option.bind (appO ([] : List Int) p1) fun l32 =>
    Option.bind (appO l32 p2) fun l36 =>
    Option.bind (F_short_Heights p0 l36) fun r40 =>
    Option.bind (appO ([] : List Int) p2) fun l48 =>
    Option.bind (appO l48 p1) fun l52 =>
    Option.bind (F_short_Heights p0 l52) fun r56 =>
    Option.bind (F_short_Worked p0 p1) fun r62 =>
    if r18.2 != 0 then
      Option.bind (α := Bool) (
        if r7 then
          some (r62.2 == r18.2)
        else
          some false) fun o67 =>
      some o67
    else
      Option.bind (α := Int) (
        Option.bind (whileO (raddlelaw38_ShortSums_l1 r18) (0, 0)) fun e81 =>
          some e81) fun o72 =>
      Option.bind (α := Bool) (
        if r62.2 != 0 then
          some true
        else
          some (r62.1 != o72)) fun o92 =>
      if o92 then
        some false
      else
        if r40.2 != 0 then
          Option.bind (α := Bool) (
            if r7 then
              if r56.2 == r40.2 then
                if r24.2 != 0 then
                  some true
                else
                  some (r40.2 == 4)
              else
                some false
            else
              some false) fun o101 =>
          some o101
        else
          Option.bind (α := Bool) (
            if r24.2 != 0 then
              some true
            else
              if r56.2 != 0 then
                some true
              else
                if (r24.1.length : Int) != (r18.1.length : Int) then
                  some true
                else
                  Option.bind (F_raddleref36_Same r40.1 r56.1) fun r114 =>
                  if !r114 then
                    some true
                  else
                    some ((r40.1.length : Int) != (r18.1.length : Int))) fun o108 =>
          if o108 then
            some false
          else
            Option.bind (α := Unit ⊕ Bool) (
              Option.bind (whileO (raddlelaw38_ShortSums_l2 r40 r18 r24) 0) fun z0 => match z0 with
                | .inl z =>
                  some (.inr z)
                | .inr _ =>
                  some (.inl ())) fun z0 => match z0 with
              | .inl _ =>
                some r7
              | .inr z =>
                some z
set_option maxHeartbeats 4000000 in
set_option maxRecDepth 100000 in
theorem c_raddlelaw38_ShortSums (E : Nat → Prop) (w0 : World) (p0 : Int) (p1 : (List Int)) (v1 : Value) (p2 : (List Int)) (v2 : Value) (r : Bool) (h : F_raddlelaw38_ShortSums p0 p1 p2 = some r) (S : St0 E [] w0 w0 [] [fRep (rL (rI .i64)) (v1) p1, fRep (rL (rI .i64)) (v2) p2]) :
    Calls Tryd.prog 6 #[iv p0, v1, v2] w0 (Ret (X := Unit) E [] w0 (fun _ => .bool r) (fun _ => []) (fun _ => [])) := by
  unfold F_raddlelaw38_ShortSums at h
  obtain ⟨ad1, cp2, _, rfl, _⟩ := S.know (i := 0) (e := fRep (rL (rI .i64)) (v1) p1) rfl
  obtain ⟨ad3, cp4, _, rfl, _⟩ := S.know (i := 1) (e := fRep (rL (rI .i64)) (v2) p2) rfl
  refine sEnter (args := [iv p0, .slice ad1 p1.length cp2, .slice ad3 p2.length cp4]) 164 Tryd.func6 rfl rfl (by simp) S (fun a S => ?_)
  refine sSeq (fun K5 hK5 => ?_)
  refine sRegion ?_
  refine sMove (.bool false) S (wN rfl) (.inr rfl) rfl rfl (lb rfl) fun a S => ?_
  refine leafL (leafT (hK5 _ _ ?_))
  refine sSeq (fun K6 hK6 => ?_)
  refine sRegion ?_
  obtain ⟨r7, hx8, h⟩ := bindSome h
  have S1 := S.mem
  refine sCallQ (X := Unit) (f := 15) (vs := []) (val := fun _ => .bool r7) S (wN rfl) rfl callee15 rfl (S1.quiet [] rfl) (fun E1 w1 S1 => c_raddlelaw38_alive E1 w1  r7 hx8 S1) rfl (lb rfl) fun _ a w S => ?_
  refine sMove (.bool r7) S (wN rfl) (.inr rfl) rfl rfl (lb rfl) fun a S => ?_
  refine leafL (leafT (hK6 _ _ ?_))
  refine sSeq (fun K9 hK9 => ?_)
  obtain ⟨t11, h, g12⟩ := bindSome h
  refine sCut (fun a w => ∃ o10, o10 = t11 ∧ St [] E [] w0 164 a w [(0, iv p0), (1, .slice ad1 p1.length cp2), (2, .slice ad3 p2.length cp4), (7, .bool r7), (33, .bool o10)] [] [fRep (rL (rI .i64)) (.slice ad1 p1.length cp2) p1, fRep (rL (rI .i64)) (.slice ad3 p2.length cp4) p2]) ?_ (fun a w hI => ?_)
  · refine sRegion ?_
    refine sMove (.slice ad1 p1.length cp2) S (wN rfl) (.inl rfl) rfl rfl (lb rfl) fun a S => ?_
    refine sLen (ad := ad1) (m := p1.length) (c := cp2) S (wN rfl) rfl Tryd.underlying22 rfl rfl (lb rfl) fun a S => ?_
    refine sBin (.bool (decide (60 < (p1.length : Int)))) S (wN rfl) rfl rfl rfl (bGt _ _ _ _ .i64 (p1.length : Int) 60) rfl (lb rfl) fun a S => ?_
    refine sMove (.bool (decide (60 < (p1.length : Int)))) S (wN rfl) (.inl rfl) rfl rfl (lb rfl) fun a S => ?_
    rcases iteSome h with ⟨hc13, h⟩ | ⟨hc13, h⟩
    · refine sSkip 3 false 25 26 S rfl rfl rfl hc13 rfl (lb rfl) fun a S => ?_
      refine sSkip 3 false 25 27 S rfl rfl rfl hc13 rfl (lb rfl) fun a S => ?_
      refine sSkip 3 false 25 28 S rfl rfl rfl hc13 rfl (lb rfl) fun a S => ?_
      refine sPickT (.bool true) S (wN rfl) rfl rfl hc13 rfl rfl (lb rfl) fun a S => ?_
      refine sMove (.bool true) S (wN rfl) (.inl rfl) rfl rfl (lb rfl) fun a S => ?_
      refine sSkip 8 false 30 31 S rfl rfl rfl rfl rfl (lb rfl) fun a S => ?_
      refine sSkip 8 false 30 32 S rfl rfl rfl rfl rfl (lb rfl) fun a S => ?_
      refine sPickT (.bool true) S (wN rfl) rfl rfl rfl rfl rfl (lb rfl) fun a S => ?_
      exact leafL (leafT (⟨true, Option.some.inj h, S.fix [] [0, 1] (by decide) rfl rfl rfl⟩))
    refine sMove (.slice ad3 p2.length cp4) S (wG 3 false 25 rfl rfl rfl hc13) (.inl rfl) rfl rfl (lb rfl) fun a S => ?_
    refine sLen (ad := ad3) (m := p2.length) (c := cp4) S (wG 3 false 25 rfl rfl rfl hc13) rfl Tryd.underlying22 rfl rfl (lb rfl) fun a S => ?_
    refine sBin (.bool (decide (60 < (p2.length : Int)))) S (wG 3 false 25 rfl rfl rfl hc13) rfl rfl rfl (bGt _ _ _ _ .i64 (p2.length : Int) 60) rfl (lb rfl) fun a S => ?_
    refine sPickF (.bool (decide (60 < (p2.length : Int)))) S (wN rfl) rfl rfl hc13 rfl rfl (lb rfl) fun a S => ?_
    refine sMove (.bool (decide (60 < (p2.length : Int)))) S (wN rfl) (.inl rfl) rfl rfl (lb rfl) fun a S => ?_
    rcases iteSome h with ⟨hc14, h⟩ | ⟨hc14, h⟩
    · refine sSkip 8 false 30 31 S rfl rfl rfl hc14 rfl (lb rfl) fun a S => ?_
      refine sSkip 8 false 30 32 S rfl rfl rfl hc14 rfl (lb rfl) fun a S => ?_
      refine sPickT (.bool true) S (wN rfl) rfl rfl hc14 rfl rfl (lb rfl) fun a S => ?_
      exact leafL (leafT (⟨true, Option.some.inj h, S.fix [] [0, 1] (by decide) rfl rfl rfl⟩))
    refine sMove (.bool r7) S (wG 8 false 30 rfl rfl rfl hc14) (.inl rfl) rfl rfl (lb rfl) fun a S => ?_
    refine sNot (b := r7) S (wG 8 false 30 rfl rfl rfl hc14) rfl rfl rfl (lb rfl) fun a S => ?_
    refine sPickF (.bool (!r7)) S (wN rfl) rfl rfl hc14 rfl rfl (lb rfl) fun a S => ?_
    exact leafL (leafT (⟨!r7, Option.some.inj h, S.fix [] [0, 1] (by decide) rfl rfl rfl⟩))
  obtain ⟨o10, rfl, S⟩ := hI
  have h := g12
  clear g12
  try dsimp only at h
  rcases iteSome h with ⟨hc15, h⟩ | ⟨hc15, h⟩
  · refine sCondT S rfl hc15 ?_
    refine sSeq (fun K16 hK16 => ?_)
    refine sRegion ?_
    refine sMove (.bool r7) S (wN rfl) (.inl rfl) rfl rfl (lb rfl) fun a S => ?_
    refine sMove (.bool r7) S (wN rfl) (.inr rfl) rfl rfl (lb rfl) fun a S => ?_
    refine leafL (leafT (hK16 _ _ ?_))
    obtain rfl := Option.some.inj h
    exact wp_ret (rThen (sRet (.bool r7) S (rsl1 rfl (rvT (t := 6) (v := .bool r7) S rfl)) ⟨(), rfl, S.mem.sel [] [] (by decide) rfl rfl⟩))
  refine sCondF S rfl hc15 ?_
  refine wp_skip (leafT (hK9 _ _ ?_))
  refine sSeq (fun K17 hK17 => ?_)
  refine sRegion ?_
  refine sMove (iv p0) S (wN rfl) (.inl rfl) rfl rfl (lb rfl) fun a S => ?_
  refine sMove (.slice ad1 p1.length cp2) S (wN rfl) (.inl rfl) rfl rfl (lb rfl) fun a S => ?_
  obtain ⟨r18, hx19, h⟩ := bindSome h
  refine sCall (X := Value) (f := 9) (vs := [iv p0, .slice ad1 p1.length cp2]) (val := c_short_Heights_val r18) (B' := fun _ => []) (D' := c_short_Heights_D r18) [] [] [fRep (rL (rI .i64)) (.slice ad1 p1.length cp2) p1] [] [0] S (wN rfl) rfl callee9 rfl (by decide) rfl rfl (fun E1 w1 S1 => c_short_Heights E1 w1 p0 p1 (.slice ad1 p1.length cp2) r18 hx19 S1) rfl (lb rfl) fun u20 a w S => ?_
  obtain ⟨ad21, cp22, _, rfl, _⟩ := S.mem.know (i := 0) (e := fRep (rL (rI .i64)) (u20) r18.1) rfl
  refine sMove (.tuple #[.slice ad21 r18.1.length cp22, iv r18.2]) S (wN rfl) (.inl rfl) rfl rfl (lb rfl) fun a S => ?_
  refine sExtract (vs := [.slice ad21 r18.1.length cp22, iv r18.2]) (.slice ad21 r18.1.length cp22) S (wN rfl) rfl rfl rfl rfl (lb rfl) fun a S => ?_
  refine sExtract (vs := [.slice ad21 r18.1.length cp22, iv r18.2]) (iv r18.2) S (wN rfl) rfl rfl rfl rfl (lb rfl) fun a S => ?_
  refine sMove (.slice ad21 r18.1.length cp22) S (wN rfl) (.inr rfl) rfl rfl (lb rfl) fun a S => ?_
  refine sMove (iv r18.2) S (wN rfl) (.inr rfl) rfl rfl (lb rfl) fun a S => ?_
  refine leafL (leafT (hK17 _ _ ?_))
  refine sSeq (fun K23 hK23 => ?_)
  refine sRegion ?_
  refine sMove (iv p0) S (wN rfl) (.inl rfl) rfl rfl (lb rfl) fun a S => ?_
  refine sMove (.slice ad3 p2.length cp4) S (wN rfl) (.inl rfl) rfl rfl (lb rfl) fun a S => ?_
  obtain ⟨r24, hx25, h⟩ := bindSome h
  refine sCall (X := Value) (f := 9) (vs := [iv p0, .slice ad3 p2.length cp4]) (val := c_short_Heights_val r24) (B' := fun _ => []) (D' := c_short_Heights_D r24) [] [] [fRep (rL (rI .i64)) (.slice ad3 p2.length cp4) p2] [] [2] S (wN rfl) rfl callee9 rfl (by decide) rfl rfl (fun E1 w1 S1 => c_short_Heights E1 w1 p0 p2 (.slice ad3 p2.length cp4) r24 hx25 S1) rfl (lb rfl) fun u26 a w S => ?_
  obtain ⟨ad27, cp28, _, rfl, _⟩ := S.mem.know (i := 0) (e := fRep (rL (rI .i64)) (u26) r24.1) rfl
  refine sMove (.tuple #[.slice ad27 r24.1.length cp28, iv r24.2]) S (wN rfl) (.inl rfl) rfl rfl (lb rfl) fun a S => ?_
  refine sExtract (vs := [.slice ad27 r24.1.length cp28, iv r24.2]) (.slice ad27 r24.1.length cp28) S (wN rfl) rfl rfl rfl rfl (lb rfl) fun a S => ?_
  refine sExtract (vs := [.slice ad27 r24.1.length cp28, iv r24.2]) (iv r24.2) S (wN rfl) rfl rfl rfl rfl (lb rfl) fun a S => ?_
  refine sMove (.slice ad27 r24.1.length cp28) S (wN rfl) (.inr rfl) rfl rfl (lb rfl) fun a S => ?_
  refine sMove (iv r24.2) S (wN rfl) (.inr rfl) rfl rfl (lb rfl) fun a S => ?_
  refine leafL (leafT (hK23 _ _ ?_))
  refine sSeq (fun K29 hK29 => ?_)
  refine sRegion ?_
  refine sMove (iv p0) S (wN rfl) (.inl rfl) rfl rfl (lb rfl) fun a S => ?_
  refine sLit0 (α := Int) (rI .i64) (T := 3) S (wN rfl) rfl Tryd.underlying22 rfl rfl (lb rfl) fun a w ad30 cp31 S => ?_
  refine sMove (.slice ad1 p1.length cp2) S (wN rfl) (.inl rfl) rfl rfl (lb rfl) fun a S => ?_
  obtain ⟨l32, hx33, h⟩ := bindSome h
  refine sApp (r := (rI .i64)) (T := 3) (xs := ([] : List Int)) (ys := p1) (v := .slice ad30 ([] : List Int).length cp31) (u := .slice ad1 p1.length cp2) 0 (iv 0) 8 S (wN rfl) rfl Tryd.underlying22 rfl rfl (by decide) rfl rfl rfl (src_D 2 S.mem rfl) hx33 rfl (lb rfl) fun a w ad34 cp35 S => ?_
  refine sMove (.slice ad3 p2.length cp4) S (wN rfl) (.inl rfl) rfl rfl (lb rfl) fun a S => ?_
  obtain ⟨l36, hx37, h⟩ := bindSome h
  refine sApp (r := (rI .i64)) (T := 3) (xs := l32) (ys := p2) (v := .slice ad34 l32.length cp35) (u := .slice ad3 p2.length cp4) 0 (iv 0) 8 S (wN rfl) rfl Tryd.underlying22 rfl rfl (by decide) rfl rfl rfl (src_D 3 S.mem rfl) hx37 rfl (lb rfl) fun a w ad38 cp39 S => ?_
  obtain ⟨r40, hx41, h⟩ := bindSome h
  have S := S.shutR (r := (rI .i64)) (T := 3) (v := .slice ad38 l36.length cp39) (xs := l36) 0 rfl
  refine sCall (X := Value) (f := 9) (vs := [iv p0, .slice ad38 l36.length cp39]) (val := c_short_Heights_val r40) (B' := fun _ => []) (D' := c_short_Heights_D r40) [] [] [fRep (rL (rI .i64)) (.slice ad38 l36.length cp39) l36] [] [0] S (wN rfl) rfl callee9 rfl (by decide) rfl rfl (fun E1 w1 S1 => c_short_Heights E1 w1 p0 l36 (.slice ad38 l36.length cp39) r40 hx41 S1) rfl (lb rfl) fun u42 a w S => ?_
  obtain ⟨ad43, cp44, _, rfl, _⟩ := S.mem.know (i := 0) (e := fRep (rL (rI .i64)) (u42) r40.1) rfl
  refine sMove (.tuple #[.slice ad43 r40.1.length cp44, iv r40.2]) S (wN rfl) (.inl rfl) rfl rfl (lb rfl) fun a S => ?_
  refine sExtract (vs := [.slice ad43 r40.1.length cp44, iv r40.2]) (.slice ad43 r40.1.length cp44) S (wN rfl) rfl rfl rfl rfl (lb rfl) fun a S => ?_
  refine sExtract (vs := [.slice ad43 r40.1.length cp44, iv r40.2]) (iv r40.2) S (wN rfl) rfl rfl rfl rfl (lb rfl) fun a S => ?_
  refine sMove (.slice ad43 r40.1.length cp44) S (wN rfl) (.inr rfl) rfl rfl (lb rfl) fun a S => ?_
  refine sMove (iv r40.2) S (wN rfl) (.inr rfl) rfl rfl (lb rfl) fun a S => ?_
  refine leafL (leafT (hK29 _ _ ?_))
  refine sSeq (fun K45 hK45 => ?_)
  refine sRegion ?_
  refine sMove (iv p0) S (wN rfl) (.inl rfl) rfl rfl (lb rfl) fun a S => ?_
  refine sLit0 (α := Int) (rI .i64) (T := 3) S (wN rfl) rfl Tryd.underlying22 rfl rfl (lb rfl) fun a w ad46 cp47 S => ?_
  refine sMove (.slice ad3 p2.length cp4) S (wN rfl) (.inl rfl) rfl rfl (lb rfl) fun a S => ?_
  obtain ⟨l48, hx49, h⟩ := bindSome h
  refine sApp (r := (rI .i64)) (T := 3) (xs := ([] : List Int)) (ys := p2) (v := .slice ad46 ([] : List Int).length cp47) (u := .slice ad3 p2.length cp4) 0 (iv 0) 8 S (wN rfl) rfl Tryd.underlying22 rfl rfl (by decide) rfl rfl rfl (src_D 5 S.mem rfl) hx49 rfl (lb rfl) fun a w ad50 cp51 S => ?_
  refine sMove (.slice ad1 p1.length cp2) S (wN rfl) (.inl rfl) rfl rfl (lb rfl) fun a S => ?_
  obtain ⟨l52, hx53, h⟩ := bindSome h
  refine sApp (r := (rI .i64)) (T := 3) (xs := l48) (ys := p1) (v := .slice ad50 l48.length cp51) (u := .slice ad1 p1.length cp2) 0 (iv 0) 8 S (wN rfl) rfl Tryd.underlying22 rfl rfl (by decide) rfl rfl rfl (src_D 4 S.mem rfl) hx53 rfl (lb rfl) fun a w ad54 cp55 S => ?_
  obtain ⟨r56, hx57, h⟩ := bindSome h
  have S := S.shutR (r := (rI .i64)) (T := 3) (v := .slice ad54 l52.length cp55) (xs := l52) 0 rfl
  refine sCall (X := Value) (f := 9) (vs := [iv p0, .slice ad54 l52.length cp55]) (val := c_short_Heights_val r56) (B' := fun _ => []) (D' := c_short_Heights_D r56) [] [] [fRep (rL (rI .i64)) (.slice ad54 l52.length cp55) l52] [] [0] S (wN rfl) rfl callee9 rfl (by decide) rfl rfl (fun E1 w1 S1 => c_short_Heights E1 w1 p0 l52 (.slice ad54 l52.length cp55) r56 hx57 S1) rfl (lb rfl) fun u58 a w S => ?_
  obtain ⟨ad59, cp60, _, rfl, _⟩ := S.mem.know (i := 0) (e := fRep (rL (rI .i64)) (u58) r56.1) rfl
  refine sMove (.tuple #[.slice ad59 r56.1.length cp60, iv r56.2]) S (wN rfl) (.inl rfl) rfl rfl (lb rfl) fun a S => ?_
  refine sExtract (vs := [.slice ad59 r56.1.length cp60, iv r56.2]) (.slice ad59 r56.1.length cp60) S (wN rfl) rfl rfl rfl rfl (lb rfl) fun a S => ?_
  refine sExtract (vs := [.slice ad59 r56.1.length cp60, iv r56.2]) (iv r56.2) S (wN rfl) rfl rfl rfl rfl (lb rfl) fun a S => ?_
  refine sMove (.slice ad59 r56.1.length cp60) S (wN rfl) (.inr rfl) rfl rfl (lb rfl) fun a S => ?_
  refine sMove (iv r56.2) S (wN rfl) (.inr rfl) rfl rfl (lb rfl) fun a S => ?_
  refine leafL (leafT (hK45 _ _ ?_))
  refine sSeq (fun K61 hK61 => ?_)
  refine sRegion ?_
  refine sMove (iv p0) S (wN rfl) (.inl rfl) rfl rfl (lb rfl) fun a S => ?_
  refine sMove (.slice ad1 p1.length cp2) S (wN rfl) (.inl rfl) rfl rfl (lb rfl) fun a S => ?_
  obtain ⟨r62, hx63, h⟩ := bindSome h
  have S1 := S.mem
  refine sCallQ (X := Unit) (f := 11) (vs := [iv p0, .slice ad1 p1.length cp2]) (val := fun _ => .tuple #[iv r62.1, iv r62.2]) S (wN rfl) rfl callee11 rfl (S1.quiet [6] rfl) (fun E1 w1 S1 => c_short_Worked E1 w1 p0 p1 (.slice ad1 p1.length cp2) r62 hx63 S1) rfl (lb rfl) fun _ a w S => ?_
  refine sMove (.tuple #[iv r62.1, iv r62.2]) S (wN rfl) (.inl rfl) rfl rfl (lb rfl) fun a S => ?_
  refine sExtract (vs := [iv r62.1, iv r62.2]) (iv r62.1) S (wN rfl) rfl rfl rfl rfl (lb rfl) fun a S => ?_
  refine sExtract (vs := [iv r62.1, iv r62.2]) (iv r62.2) S (wN rfl) rfl rfl rfl rfl (lb rfl) fun a S => ?_
  refine sMove (iv r62.1) S (wN rfl) (.inr rfl) rfl rfl (lb rfl) fun a S => ?_
  refine sMove (iv r62.2) S (wN rfl) (.inr rfl) rfl rfl (lb rfl) fun a S => ?_
  refine leafL (leafT (hK61 _ _ ?_))
  refine sSeq (fun K64 hK64 => ?_)
  refine sSeq (fun K65 hK65 => ?_)
  refine sRegion ?_
  refine sMove (iv r18.2) S (wN rfl) (.inl rfl) rfl rfl (lb rfl) fun a S => ?_
  refine sBin (.bool (r18.2 != 0)) S (wN rfl) rfl rfl rfl (bNe _ _ _ _ .i64 r18.2 0) rfl (lb rfl) fun a S => ?_
  refine leafL (leafT (hK65 _ _ ?_))
  rcases iteSome h with ⟨hc66, h⟩ | ⟨hc66, h⟩
  · refine sCondT S rfl hc66 ?_
    obtain ⟨t68, h, g69⟩ := bindSome h
    refine sCut (fun a w => ∃ o67, o67 = t68 ∧ St [] E [] w0 164 a w [(6, .bool o67)] [] []) ?_ (fun a w hI => ?_)
    rotate_left
    · obtain ⟨o67, rfl, S⟩ := hI
      have h := g69
      clear g69
      try dsimp only at h
      obtain rfl := Option.some.inj h
      exact wp_ret (rThen (sRet (.bool o67) S (rsl1 rfl (rvT (t := 6) (v := .bool o67) S rfl)) ⟨(), rfl, S.mem.sel [] [] (by decide) rfl rfl⟩))
    refine sRegion ?_
    refine sMove (.bool r7) S (wN rfl) (.inl rfl) rfl rfl (lb rfl) fun a S => ?_
    refine sMove (.bool r7) S (wN rfl) (.inl rfl) rfl rfl (lb rfl) fun a S => ?_
    rcases iteSome h with ⟨hc70, h⟩ | ⟨hc70, h⟩
    rotate_left
    · refine sSkip 1 true 76 77 S rfl rfl rfl hc70 rfl (lb rfl) fun a S => ?_
      refine sSkip 1 true 76 78 S rfl rfl rfl hc70 rfl (lb rfl) fun a S => ?_
      refine sSkip 1 true 76 79 S rfl rfl rfl hc70 rfl (lb rfl) fun a S => ?_
      refine sPickF (.bool false) S (wN rfl) rfl rfl hc70 rfl rfl (lb rfl) fun a S => ?_
      refine sMove (.bool false) S (wN rfl) (.inr rfl) rfl rfl (lb rfl) fun a S => ?_
      exact leafL (leafT (⟨false, Option.some.inj h, S.fix [] [] (by decide) rfl rfl rfl⟩))
    refine sMove (iv r62.2) S (wG 1 true 76 rfl rfl rfl hc70) (.inl rfl) rfl rfl (lb rfl) fun a S => ?_
    refine sMove (iv r18.2) S (wG 1 true 76 rfl rfl rfl hc70) (.inl rfl) rfl rfl (lb rfl) fun a S => ?_
    refine sBin (.bool (r62.2 == r18.2)) S (wG 1 true 76 rfl rfl rfl hc70) rfl rfl rfl (bEq _ _ _ _ .i64 r62.2 r18.2) rfl (lb rfl) fun a S => ?_
    refine sPickT (.bool (r62.2 == r18.2)) S (wN rfl) rfl rfl hc70 rfl rfl (lb rfl) fun a S => ?_
    refine sMove (.bool (r62.2 == r18.2)) S (wN rfl) (.inr rfl) rfl rfl (lb rfl) fun a S => ?_
    exact leafL (leafT (⟨r62.2 == r18.2, Option.some.inj h, S.fix [] [] (by decide) rfl rfl rfl⟩))
  refine sCondF S rfl hc66 ?_
  refine wp_skip (leafT (hK64 _ _ ?_))
  refine sSeq (fun K71 hK71 => ?_)
  refine sRegion ?_
  refine sMove (iv 0) S (wN rfl) (.inr rfl) rfl rfl (lb rfl) fun a S => ?_
  refine leafL (leafT (hK71 _ _ ?_))
  obtain ⟨t73, h, g74⟩ := bindSome h
  refine sCut (fun a w => ∃ o72, o72 = t73 ∧ St [] E [] w0 164 a w [(7, .bool r7), (8, .slice ad21 r18.1.length cp22), (10, .slice ad27 r24.1.length cp28), (11, iv r24.2), (12, .slice ad43 r40.1.length cp44), (13, iv r40.2), (14, .slice ad59 r56.1.length cp60), (15, iv r56.2), (16, iv r62.1), (17, iv r62.2), (18, iv o72)] [] [fRep (rL (rI .i64)) (.slice ad21 r18.1.length cp22) r18.1, fRep (rL (rI .i64)) (.slice ad27 r24.1.length cp28) r24.1, fRep (rL (rI .i64)) (.slice ad43 r40.1.length cp44) r40.1, fRep (rL (rI .i64)) (.slice ad59 r56.1.length cp60) r56.1]) ?_ (fun a w hI => ?_)
  · refine sSeq (fun K75 hK75 => ?_)
    refine sRegion ?_
    refine sMove (iv 0) S (wN rfl) (.inr rfl) rfl rfl (lb rfl) fun a S => ?_
    refine leafL (leafT (hK75 _ _ ?_))
    refine wp_block ?_
    obtain ⟨t80, hl, g79⟩ := bindSome h
    refine sLoop hl (fun s0 a w => match s0 with | (s76, s77) => St [] E [] w0 164 a w [(7, .bool r7), (8, .slice ad21 r18.1.length cp22), (10, .slice ad27 r24.1.length cp28), (11, iv r24.2), (12, .slice ad43 r40.1.length cp44), (13, iv r40.2), (14, .slice ad59 r56.1.length cp60), (15, iv r56.2), (16, iv r62.1), (17, iv r62.2), (18, iv s76), (19, iv s77)] [] [fRep (rL (rI .i64)) (.slice ad21 r18.1.length cp22) r18.1, fRep (rL (rI .i64)) (.slice ad27 r24.1.length cp28) r24.1, fRep (rL (rI .i64)) (.slice ad43 r40.1.length cp44) r40.1, fRep (rL (rI .i64)) (.slice ad59 r56.1.length cp60) r56.1]) (S.fix [] [5, 4, 2, 0] (by decide) rfl rfl rfl) ?_
    clear hl h
    intro s0 a w c0 hI h hu78
    obtain ⟨s76, s77⟩ := s0
    unfold raddlelaw38_ShortSums_l1 at h
    dsimp only at h hI
    have S := hI
    refine sSeq (fun K82 hK82 => ?_)
    refine sSeq (fun K83 hK83 => ?_)
    refine sRegion ?_
    refine sMove (iv s77) S (wN rfl) (.inl rfl) rfl rfl (lb rfl) fun a S => ?_
    refine sMove (.slice ad21 r18.1.length cp22) S (wN rfl) (.inl rfl) rfl rfl (lb rfl) fun a S => ?_
    refine sLen (ad := ad21) (m := r18.1.length) (c := cp22) S (wN rfl) rfl Tryd.underlying22 rfl rfl (lb rfl) fun a S => ?_
    refine sBin (.bool (decide (s77 < (r18.1.length : Int)))) S (wN rfl) rfl rfl rfl (bLt _ _ _ _ .i64 s77 (r18.1.length : Int)) rfl (lb rfl) fun a S => ?_
    refine leafL (leafT (hK83 _ _ ?_))
    rcases iteSome h with ⟨hc84, h⟩ | ⟨hc84, h⟩
    rotate_left
    · refine sCondF S rfl hc84 ?_
      obtain rfl := Option.some.inj h
      obtain rfl := hu78 _ rfl
      have h := g79
      clear g79
      try dsimp only at h
      exact wp_exit (xThen (xThen (xHit (leafT (⟨s76, Option.some.inj h, S.fix [] [0, 1, 2, 3] (by decide) rfl rfl rfl⟩)))))
    refine sCondT S rfl hc84 ?_
    refine wp_skip (leafT (hK82 _ _ ?_))
    refine sSeq (fun K85 hK85 => ?_)
    refine wp_block ?_
    refine sRegion ?_
    refine sMove (iv s76) S (wN rfl) (.inl rfl) rfl rfl (lb rfl) fun a S => ?_
    refine sMove (.slice ad21 r18.1.length cp22) S (wN rfl) (.inl rfl) rfl rfl (lb rfl) fun a S => ?_
    refine sMove (iv s77) S (wN rfl) (.inl rfl) rfl rfl (lb rfl) fun a S => ?_
    obtain ⟨x86, hx87, h⟩ := bindSome h
    obtain ⟨q88, hq89, S⟩ := pIdx (P := Tryd.prog) (r := (rI .i64)) (v := .slice ad21 r18.1.length cp22) (xs := r18.1) (j := s77) 22 3 0 S Tryd.underlying22 rfl rfl hx87
    refine sIdxV (v := .slice ad21 r18.1.length cp22) (k := .i64) (j := s77) S (wN rfl) rfl rfl rfl hq89 rfl (lb rfl) fun a S => ?_
    obtain ⟨u90, S⟩ := pLoad (r := (rI .i64)) (q := q88) (x := x86) 0 S rfl
    obtain rfl : u90 = iv x86 := S.mem.know (i := 1) (e := fRep (rI .i64) (u90) x86) rfl
    refine sLoadV1 (vq := q88) 0 (iv x86) S (wN rfl) rfl rfl rfl rfl rfl (lb rfl) fun a S => ?_
    refine sBin (iv (w64 (2 * x86))) S (wN rfl) rfl rfl rfl (bMul _ _ _ _ 2 x86) rfl (lb rfl) fun a S => ?_
    refine sBin (iv (w64 (s76 + (w64 (2 * x86))))) S (wN rfl) rfl rfl rfl (bAdd _ _ _ _ s76 (w64 (2 * x86))) rfl (lb rfl) fun a S => ?_
    refine sMove (iv (w64 (s76 + (w64 (2 * x86))))) S (wN rfl) (.inr rfl) rfl rfl (lb rfl) fun a S => ?_
    refine leafL (leafB (leafT (hK85 _ _ ?_)))
    refine sRegion ?_
    refine sMove (iv s77) S (wN rfl) (.inl rfl) rfl rfl (lb rfl) fun a S => ?_
    refine sBin (iv (w64 (s77 + 1))) S (wN rfl) rfl rfl rfl (bAdd _ _ _ _ s77 1) rfl (lb rfl) fun a S => ?_
    refine sMove (iv (w64 (s77 + 1))) S (wN rfl) (.inr rfl) rfl rfl (lb rfl) fun a S => ?_
    exact leafL (leafT (⟨(w64 (s76 + (w64 (2 * x86))), w64 (s77 + 1)), (Option.some.inj h).symm, (S.fix [] [3, 4, 5, 6] (by decide) rfl rfl rfl)⟩))
  obtain ⟨o72, rfl, S⟩ := hI
  have h := g74
  clear g74
  try dsimp only at h
  refine sSeq (fun K91 hK91 => ?_)
  obtain ⟨t93, h, g94⟩ := bindSome h
  refine sCut (fun a w => ∃ o92, o92 = t93 ∧ St [] E [] w0 164 a w [(7, .bool r7), (8, .slice ad21 r18.1.length cp22), (10, .slice ad27 r24.1.length cp28), (11, iv r24.2), (12, .slice ad43 r40.1.length cp44), (13, iv r40.2), (14, .slice ad59 r56.1.length cp60), (15, iv r56.2), (100, .bool o92)] [] [fRep (rL (rI .i64)) (.slice ad21 r18.1.length cp22) r18.1, fRep (rL (rI .i64)) (.slice ad27 r24.1.length cp28) r24.1, fRep (rL (rI .i64)) (.slice ad43 r40.1.length cp44) r40.1, fRep (rL (rI .i64)) (.slice ad59 r56.1.length cp60) r56.1]) ?_ (fun a w hI => ?_)
  · refine sRegion ?_
    refine sMove (iv r62.2) S (wN rfl) (.inl rfl) rfl rfl (lb rfl) fun a S => ?_
    refine sBin (.bool (r62.2 != 0)) S (wN rfl) rfl rfl rfl (bNe _ _ _ _ .i64 r62.2 0) rfl (lb rfl) fun a S => ?_
    refine sMove (.bool (r62.2 != 0)) S (wN rfl) (.inl rfl) rfl rfl (lb rfl) fun a S => ?_
    rcases iteSome h with ⟨hc95, h⟩ | ⟨hc95, h⟩
    · refine sSkip 2 false 96 97 S rfl rfl rfl hc95 rfl (lb rfl) fun a S => ?_
      refine sSkip 2 false 96 98 S rfl rfl rfl hc95 rfl (lb rfl) fun a S => ?_
      refine sSkip 2 false 96 99 S rfl rfl rfl hc95 rfl (lb rfl) fun a S => ?_
      refine sPickT (.bool true) S (wN rfl) rfl rfl hc95 rfl rfl (lb rfl) fun a S => ?_
      exact leafL (leafT (⟨true, Option.some.inj h, S.fix [] [0, 1, 2, 3] (by decide) rfl rfl rfl⟩))
    refine sMove (iv r62.1) S (wG 2 false 96 rfl rfl rfl hc95) (.inl rfl) rfl rfl (lb rfl) fun a S => ?_
    refine sMove (iv o72) S (wG 2 false 96 rfl rfl rfl hc95) (.inl rfl) rfl rfl (lb rfl) fun a S => ?_
    refine sBin (.bool (r62.1 != o72)) S (wG 2 false 96 rfl rfl rfl hc95) rfl rfl rfl (bNe _ _ _ _ .i64 r62.1 o72) rfl (lb rfl) fun a S => ?_
    refine sPickF (.bool (r62.1 != o72)) S (wN rfl) rfl rfl hc95 rfl rfl (lb rfl) fun a S => ?_
    exact leafL (leafT (⟨r62.1 != o72, Option.some.inj h, S.fix [] [0, 1, 2, 3] (by decide) rfl rfl rfl⟩))
  obtain ⟨o92, rfl, S⟩ := hI
  have h := g94
  clear g94
  try dsimp only at h
  rcases iteSome h with ⟨hc96, h⟩ | ⟨hc96, h⟩
  · refine sCondT S rfl hc96 ?_
    refine sSeq (fun K97 hK97 => ?_)
    refine sRegion ?_
    refine sMove (.bool false) S (wN rfl) (.inr rfl) rfl rfl (lb rfl) fun a S => ?_
    refine leafL (leafT (hK97 _ _ ?_))
    obtain rfl := Option.some.inj h
    exact wp_ret (rThen (sRet (.bool false) S (rsl1 rfl (rvT (t := 6) (v := .bool false) S rfl)) ⟨(), rfl, S.mem.sel [] [] (by decide) rfl rfl⟩))
  refine sCondF S rfl hc96 ?_
  refine wp_skip (leafT (hK91 _ _ ?_))
  refine sSeq (fun K98 hK98 => ?_)
  refine sSeq (fun K99 hK99 => ?_)
  refine sRegion ?_
  refine sMove (iv r40.2) S (wN rfl) (.inl rfl) rfl rfl (lb rfl) fun a S => ?_
  refine sBin (.bool (r40.2 != 0)) S (wN rfl) rfl rfl rfl (bNe _ _ _ _ .i64 r40.2 0) rfl (lb rfl) fun a S => ?_
  refine leafL (leafT (hK99 _ _ ?_))
  rcases iteSome h with ⟨hc100, h⟩ | ⟨hc100, h⟩
  · refine sCondT S rfl hc100 ?_
    obtain ⟨t102, h, g103⟩ := bindSome h
    refine sCut (fun a w => ∃ o101, o101 = t102 ∧ St [] E [] w0 164 a w [(6, .bool o101)] [] []) ?_ (fun a w hI => ?_)
    rotate_left
    · obtain ⟨o101, rfl, S⟩ := hI
      have h := g103
      clear g103
      try dsimp only at h
      obtain rfl := Option.some.inj h
      exact wp_ret (rThen (sRet (.bool o101) S (rsl1 rfl (rvT (t := 6) (v := .bool o101) S rfl)) ⟨(), rfl, S.mem.sel [] [] (by decide) rfl rfl⟩))
    refine sRegion ?_
    refine sMove (.bool r7) S (wN rfl) (.inl rfl) rfl rfl (lb rfl) fun a S => ?_
    refine sMove (.bool r7) S (wN rfl) (.inl rfl) rfl rfl (lb rfl) fun a S => ?_
    rcases iteSome h with ⟨hc104, h⟩ | ⟨hc104, h⟩
    rotate_left
    · refine sSkip 1 true 104 105 S rfl rfl rfl hc104 rfl (lb rfl) fun a S => ?_
      refine sSkip 1 true 104 106 S rfl rfl rfl hc104 rfl (lb rfl) fun a S => ?_
      refine sSkip 1 true 104 107 S rfl rfl rfl hc104 rfl (lb rfl) fun a S => ?_
      refine sPickF (.bool false) S (wN rfl) rfl rfl hc104 rfl rfl (lb rfl) fun a S => ?_
      refine sMove (.bool false) S (wN rfl) (.inl rfl) rfl rfl (lb rfl) fun a S => ?_
      refine sSkip 6 true 109 110 S rfl rfl rfl rfl rfl (lb rfl) fun a S => ?_
      refine sSkip 6 true 109 111 S rfl rfl rfl rfl rfl (lb rfl) fun a S => ?_
      refine sSkip 6 true 109 112 S rfl rfl rfl rfl rfl (lb rfl) fun a S => ?_
      refine sSkipU 9 false 112 113 S rfl rfl rfl rfl (lb rfl) fun a S => ?_
      refine sSkipU 9 false 112 114 S rfl rfl rfl rfl (lb rfl) fun a S => ?_
      refine sSkip 6 true 109 115 S rfl rfl rfl rfl rfl (lb rfl) fun a S => ?_
      refine sPickF (.bool false) S (wN rfl) rfl rfl rfl rfl rfl (lb rfl) fun a S => ?_
      refine sMove (.bool false) S (wN rfl) (.inr rfl) rfl rfl (lb rfl) fun a S => ?_
      exact leafL (leafT (⟨false, Option.some.inj h, S.fix [] [] (by decide) rfl rfl rfl⟩))
    refine sMove (iv r56.2) S (wG 1 true 104 rfl rfl rfl hc104) (.inl rfl) rfl rfl (lb rfl) fun a S => ?_
    refine sMove (iv r40.2) S (wG 1 true 104 rfl rfl rfl hc104) (.inl rfl) rfl rfl (lb rfl) fun a S => ?_
    refine sBin (.bool (r56.2 == r40.2)) S (wG 1 true 104 rfl rfl rfl hc104) rfl rfl rfl (bEq _ _ _ _ .i64 r56.2 r40.2) rfl (lb rfl) fun a S => ?_
    refine sPickT (.bool (r56.2 == r40.2)) S (wN rfl) rfl rfl hc104 rfl rfl (lb rfl) fun a S => ?_
    refine sMove (.bool (r56.2 == r40.2)) S (wN rfl) (.inl rfl) rfl rfl (lb rfl) fun a S => ?_
    rcases iteSome h with ⟨hc105, h⟩ | ⟨hc105, h⟩
    rotate_left
    · refine sSkip 6 true 109 110 S rfl rfl rfl hc105 rfl (lb rfl) fun a S => ?_
      refine sSkip 6 true 109 111 S rfl rfl rfl hc105 rfl (lb rfl) fun a S => ?_
      refine sSkip 6 true 109 112 S rfl rfl rfl hc105 rfl (lb rfl) fun a S => ?_
      refine sSkipU 9 false 112 113 S rfl rfl rfl rfl (lb rfl) fun a S => ?_
      refine sSkipU 9 false 112 114 S rfl rfl rfl rfl (lb rfl) fun a S => ?_
      refine sSkip 6 true 109 115 S rfl rfl rfl hc105 rfl (lb rfl) fun a S => ?_
      refine sPickF (.bool false) S (wN rfl) rfl rfl hc105 rfl rfl (lb rfl) fun a S => ?_
      refine sMove (.bool false) S (wN rfl) (.inr rfl) rfl rfl (lb rfl) fun a S => ?_
      exact leafL (leafT (⟨false, Option.some.inj h, S.fix [] [] (by decide) rfl rfl rfl⟩))
    refine sMove (iv r24.2) S (wG 6 true 109 rfl rfl rfl hc105) (.inl rfl) rfl rfl (lb rfl) fun a S => ?_
    refine sBin (.bool (r24.2 != 0)) S (wG 6 true 109 rfl rfl rfl hc105) rfl rfl rfl (bNe _ _ _ _ .i64 r24.2 0) rfl (lb rfl) fun a S => ?_
    refine sMove (.bool (r24.2 != 0)) S (wG 6 true 109 rfl rfl rfl hc105) (.inl rfl) rfl rfl (lb rfl) fun a S => ?_
    rcases iteSome h with ⟨hc106, h⟩ | ⟨hc106, h⟩
    · refine sSkip 9 false 112 113 S rfl rfl rfl hc106 rfl (lb rfl) fun a S => ?_
      refine sSkip 9 false 112 114 S rfl rfl rfl hc106 rfl (lb rfl) fun a S => ?_
      refine sPickT (.bool true) S (wG 6 true 109 rfl rfl rfl hc105) rfl rfl hc106 rfl rfl (lb rfl) fun a S => ?_
      refine sPickT (.bool true) S (wN rfl) rfl rfl hc105 rfl rfl (lb rfl) fun a S => ?_
      refine sMove (.bool true) S (wN rfl) (.inr rfl) rfl rfl (lb rfl) fun a S => ?_
      exact leafL (leafT (⟨true, Option.some.inj h, S.fix [] [] (by decide) rfl rfl rfl⟩))
    refine sMove (iv r40.2) S (wG 9 false 112 rfl rfl rfl hc106) (.inl rfl) rfl rfl (lb rfl) fun a S => ?_
    refine sBin (.bool (r40.2 == 4)) S (wG 9 false 112 rfl rfl rfl hc106) rfl rfl rfl (bEq _ _ _ _ .i64 r40.2 4) rfl (lb rfl) fun a S => ?_
    refine sPickF (.bool (r40.2 == 4)) S (wG 6 true 109 rfl rfl rfl hc105) rfl rfl hc106 rfl rfl (lb rfl) fun a S => ?_
    refine sPickT (.bool (r40.2 == 4)) S (wN rfl) rfl rfl hc105 rfl rfl (lb rfl) fun a S => ?_
    refine sMove (.bool (r40.2 == 4)) S (wN rfl) (.inr rfl) rfl rfl (lb rfl) fun a S => ?_
    exact leafL (leafT (⟨r40.2 == 4, Option.some.inj h, S.fix [] [] (by decide) rfl rfl rfl⟩))
  refine sCondF S rfl hc100 ?_
  refine wp_skip (leafT (hK98 _ _ ?_))
  refine sSeq (fun K107 hK107 => ?_)
  obtain ⟨t109, h, g110⟩ := bindSome h
  refine sCut (fun a w => ∃ o108, o108 = t109 ∧ St [] E [] w0 164 a w [(7, .bool r7), (8, .slice ad21 r18.1.length cp22), (10, .slice ad27 r24.1.length cp28), (12, .slice ad43 r40.1.length cp44), (142, .bool o108)] [] [fRep (rL (rI .i64)) (.slice ad21 r18.1.length cp22) r18.1, fRep (rL (rI .i64)) (.slice ad27 r24.1.length cp28) r24.1, fRep (rL (rI .i64)) (.slice ad43 r40.1.length cp44) r40.1]) ?_ (fun a w hI => ?_)
  · refine sRegion ?_
    refine sMove (iv r24.2) S (wN rfl) (.inl rfl) rfl rfl (lb rfl) fun a S => ?_
    refine sBin (.bool (r24.2 != 0)) S (wN rfl) rfl rfl rfl (bNe _ _ _ _ .i64 r24.2 0) rfl (lb rfl) fun a S => ?_
    refine sMove (.bool (r24.2 != 0)) S (wN rfl) (.inl rfl) rfl rfl (lb rfl) fun a S => ?_
    rcases iteSome h with ⟨hc111, h⟩ | ⟨hc111, h⟩
    · refine sSkip 2 false 119 120 S rfl rfl rfl hc111 rfl (lb rfl) fun a S => ?_
      refine sSkip 2 false 119 121 S rfl rfl rfl hc111 rfl (lb rfl) fun a S => ?_
      refine sPickT (.bool true) S (wN rfl) rfl rfl hc111 rfl rfl (lb rfl) fun a S => ?_
      refine sMove (.bool true) S (wN rfl) (.inl rfl) rfl rfl (lb rfl) fun a S => ?_
      refine sSkip 6 false 123 124 S rfl rfl rfl rfl rfl (lb rfl) fun a S => ?_
      refine sSkip 6 false 123 125 S rfl rfl rfl rfl rfl (lb rfl) fun a S => ?_
      refine sSkip 6 false 123 126 S rfl rfl rfl rfl rfl (lb rfl) fun a S => ?_
      refine sSkip 6 false 123 127 S rfl rfl rfl rfl rfl (lb rfl) fun a S => ?_
      refine sSkip 6 false 123 128 S rfl rfl rfl rfl rfl (lb rfl) fun a S => ?_
      refine sPickT (.bool true) S (wN rfl) rfl rfl rfl rfl rfl (lb rfl) fun a S => ?_
      refine sMove (.bool true) S (wN rfl) (.inl rfl) rfl rfl (lb rfl) fun a S => ?_
      refine sSkip 13 false 130 131 S rfl rfl rfl rfl rfl (lb rfl) fun a S => ?_
      refine sSkip 13 false 130 132 S rfl rfl rfl rfl rfl (lb rfl) fun a S => ?_
      refine sSkip 13 false 130 133 S rfl rfl rfl rfl rfl (lb rfl) fun a S => ?_
      refine sSkip 13 false 130 134 S rfl rfl rfl rfl rfl (lb rfl) fun a S => ?_
      refine sPickT (.bool true) S (wN rfl) rfl rfl rfl rfl rfl (lb rfl) fun a S => ?_
      refine sMove (.bool true) S (wN rfl) (.inl rfl) rfl rfl (lb rfl) fun a S => ?_
      refine sSkip 19 false 136 137 S rfl rfl rfl rfl rfl (lb rfl) fun a S => ?_
      refine sSkip 19 false 136 138 S rfl rfl rfl rfl rfl (lb rfl) fun a S => ?_
      refine sSkip 19 false 136 139 S rfl rfl rfl rfl rfl (lb rfl) fun a S => ?_
      refine sSkip 19 false 136 140 S rfl rfl rfl rfl rfl (lb rfl) fun a S => ?_
      refine sSkip 19 false 136 141 S rfl rfl rfl rfl rfl (lb rfl) fun a S => ?_
      refine sPickT (.bool true) S (wN rfl) rfl rfl rfl rfl rfl (lb rfl) fun a S => ?_
      exact leafL (leafT (⟨true, Option.some.inj h, S.fix [] [0, 1, 2] (by decide) rfl rfl rfl⟩))
    refine sMove (iv r56.2) S (wG 2 false 119 rfl rfl rfl hc111) (.inl rfl) rfl rfl (lb rfl) fun a S => ?_
    refine sBin (.bool (r56.2 != 0)) S (wG 2 false 119 rfl rfl rfl hc111) rfl rfl rfl (bNe _ _ _ _ .i64 r56.2 0) rfl (lb rfl) fun a S => ?_
    refine sPickF (.bool (r56.2 != 0)) S (wN rfl) rfl rfl hc111 rfl rfl (lb rfl) fun a S => ?_
    refine sMove (.bool (r56.2 != 0)) S (wN rfl) (.inl rfl) rfl rfl (lb rfl) fun a S => ?_
    rcases iteSome h with ⟨hc112, h⟩ | ⟨hc112, h⟩
    · refine sSkip 6 false 123 124 S rfl rfl rfl hc112 rfl (lb rfl) fun a S => ?_
      refine sSkip 6 false 123 125 S rfl rfl rfl hc112 rfl (lb rfl) fun a S => ?_
      refine sSkip 6 false 123 126 S rfl rfl rfl hc112 rfl (lb rfl) fun a S => ?_
      refine sSkip 6 false 123 127 S rfl rfl rfl hc112 rfl (lb rfl) fun a S => ?_
      refine sSkip 6 false 123 128 S rfl rfl rfl hc112 rfl (lb rfl) fun a S => ?_
      refine sPickT (.bool true) S (wN rfl) rfl rfl hc112 rfl rfl (lb rfl) fun a S => ?_
      refine sMove (.bool true) S (wN rfl) (.inl rfl) rfl rfl (lb rfl) fun a S => ?_
      refine sSkip 13 false 130 131 S rfl rfl rfl rfl rfl (lb rfl) fun a S => ?_
      refine sSkip 13 false 130 132 S rfl rfl rfl rfl rfl (lb rfl) fun a S => ?_
      refine sSkip 13 false 130 133 S rfl rfl rfl rfl rfl (lb rfl) fun a S => ?_
      refine sSkip 13 false 130 134 S rfl rfl rfl rfl rfl (lb rfl) fun a S => ?_
      refine sPickT (.bool true) S (wN rfl) rfl rfl rfl rfl rfl (lb rfl) fun a S => ?_
      refine sMove (.bool true) S (wN rfl) (.inl rfl) rfl rfl (lb rfl) fun a S => ?_
      refine sSkip 19 false 136 137 S rfl rfl rfl rfl rfl (lb rfl) fun a S => ?_
      refine sSkip 19 false 136 138 S rfl rfl rfl rfl rfl (lb rfl) fun a S => ?_
      refine sSkip 19 false 136 139 S rfl rfl rfl rfl rfl (lb rfl) fun a S => ?_
      refine sSkip 19 false 136 140 S rfl rfl rfl rfl rfl (lb rfl) fun a S => ?_
      refine sSkip 19 false 136 141 S rfl rfl rfl rfl rfl (lb rfl) fun a S => ?_
      refine sPickT (.bool true) S (wN rfl) rfl rfl rfl rfl rfl (lb rfl) fun a S => ?_
      exact leafL (leafT (⟨true, Option.some.inj h, S.fix [] [0, 1, 2] (by decide) rfl rfl rfl⟩))
    refine sMove (.slice ad27 r24.1.length cp28) S (wG 6 false 123 rfl rfl rfl hc112) (.inl rfl) rfl rfl (lb rfl) fun a S => ?_
    refine sLen (ad := ad27) (m := r24.1.length) (c := cp28) S (wG 6 false 123 rfl rfl rfl hc112) rfl Tryd.underlying22 rfl rfl (lb rfl) fun a S => ?_
    refine sMove (.slice ad21 r18.1.length cp22) S (wG 6 false 123 rfl rfl rfl hc112) (.inl rfl) rfl rfl (lb rfl) fun a S => ?_
    refine sLen (ad := ad21) (m := r18.1.length) (c := cp22) S (wG 6 false 123 rfl rfl rfl hc112) rfl Tryd.underlying22 rfl rfl (lb rfl) fun a S => ?_
    refine sBin (.bool ((r24.1.length : Int) != (r18.1.length : Int))) S (wG 6 false 123 rfl rfl rfl hc112) rfl rfl rfl (bNe _ _ _ _ .i64 (r24.1.length : Int) (r18.1.length : Int)) rfl (lb rfl) fun a S => ?_
    refine sPickF (.bool ((r24.1.length : Int) != (r18.1.length : Int))) S (wN rfl) rfl rfl hc112 rfl rfl (lb rfl) fun a S => ?_
    refine sMove (.bool ((r24.1.length : Int) != (r18.1.length : Int))) S (wN rfl) (.inl rfl) rfl rfl (lb rfl) fun a S => ?_
    rcases iteSome h with ⟨hc113, h⟩ | ⟨hc113, h⟩
    · refine sSkip 13 false 130 131 S rfl rfl rfl hc113 rfl (lb rfl) fun a S => ?_
      refine sSkip 13 false 130 132 S rfl rfl rfl hc113 rfl (lb rfl) fun a S => ?_
      refine sSkip 13 false 130 133 S rfl rfl rfl hc113 rfl (lb rfl) fun a S => ?_
      refine sSkip 13 false 130 134 S rfl rfl rfl hc113 rfl (lb rfl) fun a S => ?_
      refine sPickT (.bool true) S (wN rfl) rfl rfl hc113 rfl rfl (lb rfl) fun a S => ?_
      refine sMove (.bool true) S (wN rfl) (.inl rfl) rfl rfl (lb rfl) fun a S => ?_
      refine sSkip 19 false 136 137 S rfl rfl rfl rfl rfl (lb rfl) fun a S => ?_
      refine sSkip 19 false 136 138 S rfl rfl rfl rfl rfl (lb rfl) fun a S => ?_
      refine sSkip 19 false 136 139 S rfl rfl rfl rfl rfl (lb rfl) fun a S => ?_
      refine sSkip 19 false 136 140 S rfl rfl rfl rfl rfl (lb rfl) fun a S => ?_
      refine sSkip 19 false 136 141 S rfl rfl rfl rfl rfl (lb rfl) fun a S => ?_
      refine sPickT (.bool true) S (wN rfl) rfl rfl rfl rfl rfl (lb rfl) fun a S => ?_
      exact leafL (leafT (⟨true, Option.some.inj h, S.fix [] [0, 1, 2] (by decide) rfl rfl rfl⟩))
    refine sMove (.slice ad43 r40.1.length cp44) S (wG 13 false 130 rfl rfl rfl hc113) (.inl rfl) rfl rfl (lb rfl) fun a S => ?_
    refine sMove (.slice ad59 r56.1.length cp60) S (wG 13 false 130 rfl rfl rfl hc113) (.inl rfl) rfl rfl (lb rfl) fun a S => ?_
    obtain ⟨r114, hx115, h⟩ := bindSome h
    have S1 := S.mem
    refine sCallQ (X := Unit) (f := 14) (vs := [.slice ad43 r40.1.length cp44, .slice ad59 r56.1.length cp60]) (val := fun _ => .bool r114) S (wG 13 false 130 rfl rfl rfl hc113) rfl callee14 rfl (S1.quiet [2, 3] rfl) (fun E1 w1 S1 => c_raddleref36_Same E1 w1 r40.1 (.slice ad43 r40.1.length cp44) r56.1 (.slice ad59 r56.1.length cp60) r114 hx115 S1) rfl (lb rfl) fun _ a w S => ?_
    refine sNot (b := r114) S (wG 13 false 130 rfl rfl rfl hc113) rfl rfl rfl (lb rfl) fun a S => ?_
    refine sPickF (.bool (!r114)) S (wN rfl) rfl rfl hc113 rfl rfl (lb rfl) fun a S => ?_
    refine sMove (.bool (!r114)) S (wN rfl) (.inl rfl) rfl rfl (lb rfl) fun a S => ?_
    rcases iteSome h with ⟨hc116, h⟩ | ⟨hc116, h⟩
    · refine sSkip 19 false 136 137 S rfl rfl rfl hc116 rfl (lb rfl) fun a S => ?_
      refine sSkip 19 false 136 138 S rfl rfl rfl hc116 rfl (lb rfl) fun a S => ?_
      refine sSkip 19 false 136 139 S rfl rfl rfl hc116 rfl (lb rfl) fun a S => ?_
      refine sSkip 19 false 136 140 S rfl rfl rfl hc116 rfl (lb rfl) fun a S => ?_
      refine sSkip 19 false 136 141 S rfl rfl rfl hc116 rfl (lb rfl) fun a S => ?_
      refine sPickT (.bool true) S (wN rfl) rfl rfl hc116 rfl rfl (lb rfl) fun a S => ?_
      exact leafL (leafT (⟨true, Option.some.inj h, S.fix [] [0, 1, 2] (by decide) rfl rfl rfl⟩))
    refine sMove (.slice ad43 r40.1.length cp44) S (wG 19 false 136 rfl rfl rfl hc116) (.inl rfl) rfl rfl (lb rfl) fun a S => ?_
    refine sLen (ad := ad43) (m := r40.1.length) (c := cp44) S (wG 19 false 136 rfl rfl rfl hc116) rfl Tryd.underlying22 rfl rfl (lb rfl) fun a S => ?_
    refine sMove (.slice ad21 r18.1.length cp22) S (wG 19 false 136 rfl rfl rfl hc116) (.inl rfl) rfl rfl (lb rfl) fun a S => ?_
    refine sLen (ad := ad21) (m := r18.1.length) (c := cp22) S (wG 19 false 136 rfl rfl rfl hc116) rfl Tryd.underlying22 rfl rfl (lb rfl) fun a S => ?_
    refine sBin (.bool ((r40.1.length : Int) != (r18.1.length : Int))) S (wG 19 false 136 rfl rfl rfl hc116) rfl rfl rfl (bNe _ _ _ _ .i64 (r40.1.length : Int) (r18.1.length : Int)) rfl (lb rfl) fun a S => ?_
    refine sPickF (.bool ((r40.1.length : Int) != (r18.1.length : Int))) S (wN rfl) rfl rfl hc116 rfl rfl (lb rfl) fun a S => ?_
    exact leafL (leafT (⟨(r40.1.length : Int) != (r18.1.length : Int), Option.some.inj h, S.fix [] [0, 1, 2] (by decide) rfl rfl rfl⟩))
  obtain ⟨o108, rfl, S⟩ := hI
  have h := g110
  clear g110
  try dsimp only at h
  rcases iteSome h with ⟨hc117, h⟩ | ⟨hc117, h⟩
  · refine sCondT S rfl hc117 ?_
    refine sSeq (fun K118 hK118 => ?_)
    refine sRegion ?_
    refine sMove (.bool false) S (wN rfl) (.inr rfl) rfl rfl (lb rfl) fun a S => ?_
    refine leafL (leafT (hK118 _ _ ?_))
    obtain rfl := Option.some.inj h
    exact wp_ret (rThen (sRet (.bool false) S (rsl1 rfl (rvT (t := 6) (v := .bool false) S rfl)) ⟨(), rfl, S.mem.sel [] [] (by decide) rfl rfl⟩))
  refine sCondF S rfl hc117 ?_
  refine wp_skip (leafT (hK107 _ _ ?_))
  obtain ⟨t119, h, g120⟩ := bindSome h
  refine sCut (fun a w => .inl () = t119 ∧ St [] E [] w0 164 a w [(7, .bool r7)] [] []) ?_ (fun a w hI => ?_)
  rotate_left
  · obtain ⟨rfl, S⟩ := hI
    have h := g120
    clear g120
    try dsimp only at h
    refine sSeq (fun K157 hK157 => ?_)
    refine sRegion ?_
    refine sMove (.bool r7) S (wN rfl) (.inl rfl) rfl rfl (lb rfl) fun a S => ?_
    refine sMove (.bool r7) S (wN rfl) (.inr rfl) rfl rfl (lb rfl) fun a S => ?_
    refine leafL (leafT (hK157 _ _ ?_))
    obtain rfl := Option.some.inj h
    exact wp_ret (sRet (.bool r7) S (rsl1 rfl (rvT (t := 6) (v := .bool r7) S rfl)) ⟨(), rfl, S.mem.sel [] [] (by decide) rfl rfl⟩)
  refine sSeq (fun K121 hK121 => ?_)
  refine sRegion ?_
  refine sMove (iv 0) S (wN rfl) (.inr rfl) rfl rfl (lb rfl) fun a S => ?_
  refine leafL (leafT (hK121 _ _ ?_))
  refine wp_block ?_
  obtain ⟨t125, hl, g124⟩ := bindSome h
  refine sLoop hl (fun s0 a w => match s0 with | s122 => St [] E [] w0 164 a w [(7, .bool r7), (8, .slice ad21 r18.1.length cp22), (10, .slice ad27 r24.1.length cp28), (12, .slice ad43 r40.1.length cp44), (20, iv s122)] [] [fRep (rL (rI .i64)) (.slice ad21 r18.1.length cp22) r18.1, fRep (rL (rI .i64)) (.slice ad27 r24.1.length cp28) r24.1, fRep (rL (rI .i64)) (.slice ad43 r40.1.length cp44) r40.1]) (S.fix [] [0, 1, 2] (by decide) rfl rfl rfl) ?_
  clear hl h
  intro s122 a w c0 hI h hu123
  unfold raddlelaw38_ShortSums_l2 at h
  dsimp only at h hI
  have S := hI
  refine sSeq (fun K126 hK126 => ?_)
  refine sSeq (fun K127 hK127 => ?_)
  refine sRegion ?_
  refine sMove (iv s122) S (wN rfl) (.inl rfl) rfl rfl (lb rfl) fun a S => ?_
  refine sMove (.slice ad43 r40.1.length cp44) S (wN rfl) (.inl rfl) rfl rfl (lb rfl) fun a S => ?_
  refine sLen (ad := ad43) (m := r40.1.length) (c := cp44) S (wN rfl) rfl Tryd.underlying22 rfl rfl (lb rfl) fun a S => ?_
  refine sBin (.bool (decide (s122 < (r40.1.length : Int)))) S (wN rfl) rfl rfl rfl (bLt _ _ _ _ .i64 s122 (r40.1.length : Int)) rfl (lb rfl) fun a S => ?_
  refine leafL (leafT (hK127 _ _ ?_))
  rcases iteSome h with ⟨hc128, h⟩ | ⟨hc128, h⟩
  rotate_left
  · refine sCondF S rfl hc128 ?_
    obtain rfl := Option.some.inj h
    obtain rfl := hu123 _ rfl
    have h := g124
    clear g124
    try dsimp only at h
    exact wp_exit (xThen (xThen (xHit (leafT (⟨Option.some.inj h, S.fix [] [] (by decide) rfl rfl rfl⟩)))))
  refine sCondT S rfl hc128 ?_
  refine wp_skip (leafT (hK126 _ _ ?_))
  refine sSeq (fun K129 hK129 => ?_)
  refine wp_block ?_
  refine sSeq (fun K130 hK130 => ?_)
  obtain ⟨x131, hx132, h⟩ := bindSome h
  obtain ⟨x136, hx137, h⟩ := bindSome h
  obtain ⟨x141, hx142, h⟩ := bindSome h
  obtain ⟨q146, hq147, S⟩ := pIdx (P := Tryd.prog) (r := (rI .i64)) (v := .slice ad43 r40.1.length cp44) (xs := r40.1) (j := s122) 22 3 2 S Tryd.underlying22 rfl rfl hx132
  obtain ⟨u148, S⟩ := pLoad (r := (rI .i64)) (q := q146) (x := x131) 0 S rfl
  obtain rfl : u148 = iv x131 := S.mem.know (i := 1) (e := fRep (rI .i64) (u148) x131) rfl
  obtain ⟨q149, hq150, S⟩ := pIdx (P := Tryd.prog) (r := (rI .i64)) (v := .slice ad21 r18.1.length cp22) (xs := r18.1) (j := s122) 22 3 3 S Tryd.underlying22 rfl rfl hx137
  obtain ⟨u151, S⟩ := pLoad (r := (rI .i64)) (q := q149) (x := x136) 0 S rfl
  obtain rfl : u151 = iv x136 := S.mem.know (i := 1) (e := fRep (rI .i64) (u151) x136) rfl
  obtain ⟨q152, hq153, S⟩ := pIdx (P := Tryd.prog) (r := (rI .i64)) (v := .slice ad27 r24.1.length cp28) (xs := r24.1) (j := s122) 22 3 7 S Tryd.underlying22 rfl rfl hx142
  obtain ⟨u154, S⟩ := pLoad (r := (rI .i64)) (q := q152) (x := x141) 0 S rfl
  obtain rfl : u154 = iv x141 := S.mem.know (i := 1) (e := fRep (rI .i64) (u154) x141) rfl
  refine sDraw (nf := []) (W := [(0, 149, .slice ad43 r40.1.length cp44), (1, 150, iv s122), (2, 151, q146), (3, 152, iv x131), (4, 153, .slice ad21 r18.1.length cp22), (5, 154, iv s122), (6, 155, q149), (7, 156, iv x136), (8, 157, .slice ad27 r24.1.length cp28), (9, 158, iv s122), (10, 159, q152), (11, 160, iv x141), (12, 161, iv (w64 (x136 + x141))), (13, 162, .bool (x131 != (w64 (x136 + x141))))]) rfl S ?_
  refine node_by (A := anc_raddlelaw38_ShortSums_0) (nf := []) (Y := []) (W := [(0, 149, .slice ad43 r40.1.length cp44), (1, 150, iv s122), (2, 151, q146), (3, 152, iv x131), (4, 153, .slice ad21 r18.1.length cp22), (5, 154, iv s122), (6, 155, q149), (7, 156, iv x136), (8, 157, .slice ad27 r24.1.length cp28), (9, 158, iv s122), (10, 159, q152), (11, 160, iv x141), (12, 161, iv (w64 (x136 + x141))), (13, 162, .bool (x131 != (w64 (x136 + x141))))]) 14 (by kernel_rfl) (by kernel_rfl) (by kernel_rfl) (by kernel_rfl) (by kernel_rfl) [0, 1, 2, 3, 4, 5, 6, 7, 8, 9, 10, 11, 12, 13] (by kernel_rfl) (by decide) (by decide) (aF 0 13 (by decide) ?_ (aF 1 12 (by decide) ?_ (aF 2 11 (by decide) ?_ (aF 3 10 (by decide) ?_ (aF 4 9 (by decide) ?_ (aF 5 8 (by decide) ?_ (aF 6 7 (by decide) ?_ (aF 7 6 (by decide) ?_ (aF 8 5 (by decide) ?_ (aF 9 4 (by decide) ?_ (aF 10 3 (by decide) ?_ (aF 11 2 (by decide) ?_ (aF 12 1 (by decide) ?_ (aF 13 0 (by decide) ?_ (trivial))))))))))))))) [(7, .bool r7), (8, .slice ad21 r18.1.length cp22), (10, .slice ad27 r24.1.length cp28), (12, .slice ad43 r40.1.length cp44), (20, iv s122), (162, .bool (x131 != (w64 (x136 + x141))))] (fin_of [none, none, none, none, none, some 13] rfl (by kernel_rfl) (by kernel_rfl)) (fun _ a w S => ?_)
  · refine fI 149 (.slice ad43 r40.1.length cp44) [(12, .slice ad43 r40.1.length cp44)] 0 [none] rfl rfl rfl rfl rfl rfl fun G a w S => ?_
    refine sMove (.slice ad43 r40.1.length cp44) S (wN rfl) (.inl rfl) rfl rfl (lb rfl) fun a S => ?_
    exact leafL ⟨rfl, S⟩
  · refine fI 150 (iv s122) [(20, iv s122)] 1 [none] rfl rfl rfl rfl rfl rfl fun G a w S => ?_
    refine sMove (iv s122) S (wN rfl) (.inl rfl) rfl rfl (lb rfl) fun a S => ?_
    exact leafL ⟨rfl, S⟩
  · refine fI 151 q146 [(149, .slice ad43 r40.1.length cp44), (150, iv s122)] 2 [some 0, some 1] rfl rfl rfl rfl rfl rfl fun G a w S => ?_
    refine sIdxV (v := .slice ad43 r40.1.length cp44) (k := .i64) (j := s122) S (wN rfl) rfl rfl rfl hq147 rfl (lb rfl) fun a S => ?_
    exact leafL ⟨rfl, S⟩
  · refine fI 152 (iv x131) [(151, q146)] 3 [some 2] rfl rfl rfl rfl rfl rfl fun G a w S => ?_
    refine sLoadV1 (vq := q146) 6 (iv x131) S (wN rfl) rfl rfl rfl rfl rfl (lb rfl) fun a S => ?_
    exact leafL ⟨rfl, S⟩
  · refine fI 153 (.slice ad21 r18.1.length cp22) [(8, .slice ad21 r18.1.length cp22)] 4 [none] rfl rfl rfl rfl rfl rfl fun G a w S => ?_
    refine sMove (.slice ad21 r18.1.length cp22) S (wN rfl) (.inl rfl) rfl rfl (lb rfl) fun a S => ?_
    exact leafL ⟨rfl, S⟩
  · refine fI 154 (iv s122) [(20, iv s122)] 5 [none] rfl rfl rfl rfl rfl rfl fun G a w S => ?_
    refine sMove (iv s122) S (wN rfl) (.inl rfl) rfl rfl (lb rfl) fun a S => ?_
    exact leafL ⟨rfl, S⟩
  · refine fI 155 q149 [(153, .slice ad21 r18.1.length cp22), (154, iv s122)] 6 [some 4, some 5] rfl rfl rfl rfl rfl rfl fun G a w S => ?_
    refine sIdxV (v := .slice ad21 r18.1.length cp22) (k := .i64) (j := s122) S (wN rfl) rfl rfl rfl hq150 rfl (lb rfl) fun a S => ?_
    exact leafL ⟨rfl, S⟩
  · refine fI 156 (iv x136) [(155, q149)] 7 [some 6] rfl rfl rfl rfl rfl rfl fun G a w S => ?_
    refine sLoadV1 (vq := q149) 3 (iv x136) S (wN rfl) rfl rfl rfl rfl rfl (lb rfl) fun a S => ?_
    exact leafL ⟨rfl, S⟩
  · refine fI 157 (.slice ad27 r24.1.length cp28) [(10, .slice ad27 r24.1.length cp28)] 8 [none] rfl rfl rfl rfl rfl rfl fun G a w S => ?_
    refine sMove (.slice ad27 r24.1.length cp28) S (wN rfl) (.inl rfl) rfl rfl (lb rfl) fun a S => ?_
    exact leafL ⟨rfl, S⟩
  · refine fI 158 (iv s122) [(20, iv s122)] 9 [none] rfl rfl rfl rfl rfl rfl fun G a w S => ?_
    refine sMove (iv s122) S (wN rfl) (.inl rfl) rfl rfl (lb rfl) fun a S => ?_
    exact leafL ⟨rfl, S⟩
  · refine fI 159 q152 [(157, .slice ad27 r24.1.length cp28), (158, iv s122)] 10 [some 8, some 9] rfl rfl rfl rfl rfl rfl fun G a w S => ?_
    refine sIdxV (v := .slice ad27 r24.1.length cp28) (k := .i64) (j := s122) S (wN rfl) rfl rfl rfl hq153 rfl (lb rfl) fun a S => ?_
    exact leafL ⟨rfl, S⟩
  · refine fI 160 (iv x141) [(159, q152)] 11 [some 10] rfl rfl rfl rfl rfl rfl fun G a w S => ?_
    refine sLoadV1 (vq := q152) 0 (iv x141) S (wN rfl) rfl rfl rfl rfl rfl (lb rfl) fun a S => ?_
    exact leafL ⟨rfl, S⟩
  · refine fI 161 (iv (w64 (x136 + x141))) [(156, iv x136), (160, iv x141)] 12 [some 7, some 11] rfl rfl rfl rfl rfl rfl fun G a w S => ?_
    refine sBin (iv (w64 (x136 + x141))) S (wN rfl) rfl rfl rfl (bAdd _ _ _ _ x136 x141) rfl (lb rfl) fun a S => ?_
    exact leafL ⟨rfl, S⟩
  · refine fI 162 (.bool (x131 != (w64 (x136 + x141)))) [(152, iv x131), (161, iv (w64 (x136 + x141)))] 13 [some 3, some 12] rfl rfl rfl rfl rfl rfl fun G a w S => ?_
    refine sBin (.bool (x131 != (w64 (x136 + x141)))) S (wN rfl) rfl rfl rfl (bNe _ _ _ _ .i64 x131 (w64 (x136 + x141))) rfl (lb rfl) fun a S => ?_
    exact leafL ⟨rfl, S⟩
  refine leafT (hK130 _ _ ?_)
  rcases iteSome h with ⟨hc155, h⟩ | ⟨hc155, h⟩
  rotate_left
  · refine sCondF S rfl hc155 ?_
    refine wp_skip (leafB (leafT (hK129 _ _ ?_)))
    refine sRegion ?_
    refine sMove (iv s122) S (wN rfl) (.inl rfl) rfl rfl (lb rfl) fun a S => ?_
    refine sBin (iv (w64 (s122 + 1))) S (wN rfl) rfl rfl rfl (bAdd _ _ _ _ s122 1) rfl (lb rfl) fun a S => ?_
    refine sMove (iv (w64 (s122 + 1))) S (wN rfl) (.inr rfl) rfl rfl (lb rfl) fun a S => ?_
    exact leafL (leafT (⟨w64 (s122 + 1), (Option.some.inj h).symm, (S.fix [] [9, 10, 11] (by decide) rfl rfl rfl)⟩))
  refine sCondT S rfl hc155 ?_
  refine sSeq (fun K156 hK156 => ?_)
  refine sRegion ?_
  refine sMove (.bool false) S (wN rfl) (.inr rfl) rfl rfl (lb rfl) fun a S => ?_
  refine leafL (leafT (hK156 _ _ ?_))
  obtain rfl := Option.some.inj h
  obtain rfl := hu123 _ rfl
  have h := g124
  clear g124
  try dsimp only at h
  obtain rfl := Option.some.inj h
  have h := g120
  clear g120
  try dsimp only at h
  obtain rfl := Option.some.inj h
  exact wp_ret (rBlock (rThen (rThen (rBlock (rThen (sRet (.bool false) S (rsl1 rfl (rvT (t := 6) (v := .bool false) S rfl)) ⟨(), rfl, S.mem.sel [] [] (by decide) rfl rfl⟩))))))

end Go.Proofs.YtoiehdlcfehmlaaDoor
namespace Go.Proofs.YtoiehdlcfehmlaaDoor
open Go.RowKit
set_option linter.unusedVariables false

/-- the sum of the heights is the sum of the turns -/
theorem sm_hts (n : Nat) (l : List Int) (h : ∀ p, p ∈ l → 1 ≤ p ∧ p ≤ (n : Int)) : sm (fun x => 2 * x) ((List.range n).map fun k : Nat => (cgt (k : Int) l : Int)) = sm (fun p => 2 * p) l := by
  have one : ∀ (p : Int) (m : Nat), 0 ≤ p → sm (fun x => 2 * x) ((List.range m).map fun k : Nat => if (k : Int) < p then (1 : Int) else 0) = 2 * (if p ≤ (m : Int) then p else (m : Int)) := by
    intro p m hp
    induction m with
    | zero => simp only [List.range_zero, List.map_nil, sm]; split <;> omega
    | succ m ih =>
      rw [List.range_succ, List.map_append, sm_append, ih]
      simp only [List.map_cons, List.map_nil, sm]
      split <;> split <;> split <;> omega
  induction l with
  | nil =>
    have z : ∀ m : Nat, sm (fun x => 2 * x) ((List.range m).map fun k : Nat => (cgt (k : Int) [] : Int)) = 0 := by
      intro m
      induction m with
      | zero => rfl
      | succ m ih => rw [List.range_succ, List.map_append, sm_append, ih]; simp [sm, cgt]
    rw [z]; rfl
  | cons p l ih =>
    have hp := h p (by simp)
    have ih := ih fun q hq => h q (by simp [hq])
    have add : ∀ m : Nat, sm (fun x => 2 * x) ((List.range m).map fun k : Nat => (cgt (k : Int) (p :: l) : Int)) = sm (fun x => 2 * x) ((List.range m).map fun k : Nat => if (k : Int) < p then (1 : Int) else 0) + sm (fun x => 2 * x) ((List.range m).map fun k : Nat => (cgt (k : Int) l : Int)) := by
      intro m
      induction m with
      | zero => rfl
      | succ m ih2 =>
        rw [List.range_succ, List.map_append, List.map_append, List.map_append, sm_append, sm_append, sm_append, ih2]
        simp only [List.map_cons, List.map_nil, sm, cgt]
        split <;> omega
    rw [add, one p n (by omega), ih, if_pos hp.2]
    rfl
theorem sums_loop (r : List Int × Int) (hl : r.1.length ≤ 1000) (hb : ∀ x, x ∈ r.1 → 0 ≤ x ∧ x ≤ 1000) : whileO (raddlelaw38_ShortSums_l1 r) (0, 0) = some (sm (fun x => 2 * x) r.1) := by
  have bd : ∀ k, 0 ≤ sm (fun p => 2 * p) (r.1.take k) ∧ sm (fun p => 2 * p) (r.1.take k) ≤ 2000 * ((r.1.take k).length : Int) := fun k => sm_bd fun x hx => by have := hb x (List.mem_of_mem_take hx); omega
  have key : ∃ t, whileO (raddlelaw38_ShortSums_l1 r) (0, 0) = some t ∧ t = sm (fun x => 2 * x) r.1 := by
    refine loop_st r.1.length (fun k s => s = sm (fun p => 2 * p) (r.1.take k)) _ rfl ?_ ?_
    · rintro k s hk rfl
      refine .inl ⟨_, ?_, rfl⟩
      have hq := hb _ (List.getElem_mem hk)
      have b := bd k
      rw [List.length_take] at b
      unfold raddlelaw38_ShortSums_l1
      simp only [dT (show (k : Int) < (r.1.length : Int) by omega), if_true, idxO_nat hk, Option.bind_some, w64_of (show (-9223372036854775808 : Int) ≤ 2 * r.1[k] by omega) (by omega), w64_succ (show k < 9223372036854775807 by omega)]
      rw [w64_of (by omega) (by omega), sm_take _ _ hk]
    · rintro s rfl
      refine ⟨_, ?_, rfl⟩
      unfold raddlelaw38_ShortSums_l1
      simp only [dF (show ¬ (r.1.length : Int) < (r.1.length : Int) by omega), Bool.false_eq_true, if_false, List.take_length]
  obtain ⟨t, h1, rfl⟩ := key
  exact h1
theorem law_ShortSums' (ha : F_raddlelaw38_alive = some true) (n : Int) (a b : List Int) : F_raddlelaw38_ShortSums n a b = some true := by
  unfold F_raddlelaw38_ShortSums
  simp only [ha, Option.bind_some, Bool.not_true]
  by_cases h1 : 60 < a.length
  · simp only [dT (show (60 : Int) < (a.length : Int) by omega), if_true, Option.bind_some]
  by_cases h2 : 60 < b.length
  · simp only [dF (show ¬ (60 : Int) < (a.length : Int) by omega), dT (show (60 : Int) < (b.length : Int) by omega), Bool.false_eq_true, if_true, if_false, Option.bind_some]
  simp only [dF (show ¬ (60 : Int) < (a.length : Int) by omega), dF (show ¬ (60 : Int) < (b.length : Int) by omega), Bool.false_eq_true, if_false, Option.bind_some, heights_eq, worked_eq, appO_of (show ([] : List Int).length + a.length ≤ 68719476736 by simp; omega), appO_of (show ([] : List Int).length + b.length ≤ 68719476736 by simp; omega), List.nil_append, appO_of (show a.length + b.length ≤ 68719476736 by omega), appO_of (show b.length + a.length ≤ 68719476736 by omega), tchk_app n b a]
  by_cases ta : tchk n a = 0
  case neg => simp only [if_neg ta, nT ta, if_true, beq_self_eq_true, Option.bind_some]
  obtain ⟨n0, n1, al, ap⟩ := tchk_ok ta
  obtain ⟨m, rfl⟩ : ∃ m : Nat, n = m := ⟨n.toNat, by omega⟩
  have hb : ∀ (l : List Int), l.length ≤ 1000 → ∀ x, x ∈ hts (m : Int) l → 0 ≤ x ∧ x ≤ 1000 := by
    intro l hl x hx
    unfold hts at hx
    obtain ⟨k, _, rfl⟩ := List.mem_map.1 hx
    have := cgt_le (k : Int) l
    omega
  have lp := sums_loop (hts (m : Int) a, 0) (by rw [hts_len]; omega) (hb a (by omega))
  have es : sm (fun x => 2 * x) (hts (m : Int) a) = sm (fun p => 2 * p) a := sm_hts m a ap
  dsimp only at lp
  rw [es] at lp
  simp only [if_pos ta, bne_self_eq_false, Bool.false_eq_true, if_false, lp, Option.bind_some]
  by_cases tab : tchk (m : Int) (a ++ b) = 0
  case neg =>
    simp only [if_neg tab, nT tab, if_true, beq_self_eq_true]
    by_cases tb : tchk (m : Int) b = 0
    · rcases (tchk_two (b := b) ta).2 tab with h | h
      · exact absurd tb h
      · simp only [if_pos tb, bne_self_eq_false, Bool.false_eq_true, if_false, h, Option.bind_some]
        rfl
    · simp only [if_neg tb, nT tb, if_true, Option.bind_some]
  have tb := (tchk_two (b := b) ta).1 tab
  have eq : hts (m : Int) (a ++ b) = hts (m : Int) (b ++ a) := by
    unfold hts
    refine map_cong fun k _ => ?_
    rw [cgt_app, cgt_app, Nat.add_comm]
  obtain ⟨t, t1, t2⟩ := ints_same_eq (hts (m : Int) (a ++ b)) (hts (m : Int) (b ++ a)) (by rw [hts_len]; omega)
  obtain rfl : t = true := t1.2 eq
  have l2 : whileO (raddlelaw38_ShortSums_l2 (hts (m : Int) (a ++ b), 0) (hts (m : Int) a, 0) (hts (m : Int) b, 0)) 0 = some (.inr ()) := by
    have key : ∃ t, whileO (raddlelaw38_ShortSums_l2 (hts (m : Int) (a ++ b), 0) (hts (m : Int) a, 0) (hts (m : Int) b, 0)) 0 = some t ∧ t = .inr () := by
      refine loop_ix m (fun _ => True) _ trivial ?_ ?_
      · intro k hk _
        refine .inl ⟨?_, trivial⟩
        have k1 : k < (hts (m : Int) (a ++ b)).length := by rw [hts_len]; omega
        have k2 : k < (hts (m : Int) a).length := by rw [hts_len]; omega
        have k3 : k < (hts (m : Int) b).length := by rw [hts_len]; omega
        have b1 := cgt_le (k : Int) a
        have b2 := cgt_le (k : Int) b
        have e : (cgt (k : Int) (a ++ b) : Int) = w64 ((cgt (k : Int) a : Int) + (cgt (k : Int) b : Int)) := by rw [w64_of (by omega) (by omega), cgt_app]; omega
        unfold raddlelaw38_ShortSums_l2
        simp only [dT (show (k : Int) < ((hts (m : Int) (a ++ b)).length : Int) by omega), if_true, idxO_nat k1, idxO_nat k2, idxO_nat k3, hts_get, Option.bind_some, ← e, bne_self_eq_false, Bool.false_eq_true, if_false, w64_succ (show k < 9223372036854775807 by omega)]
      · intro _
        refine ⟨_, ?_, rfl⟩
        unfold raddlelaw38_ShortSums_l2
        simp only [hts_len, Int.toNat_natCast, dF (show ¬ (m : Int) < (m : Int) by omega), Bool.false_eq_true, if_false]
    obtain ⟨t, h1, rfl⟩ := key
    exact h1
  simp only [if_pos tab, if_pos tb, bne_self_eq_false, Bool.false_eq_true, if_false, hts_len, t2, Bool.not_true, Option.bind_some, l2]

end Go.Proofs.YtoiehdlcfehmlaaDoor
namespace Go.Proofs.YtoiehdlcfehmlaaDoor
open Go.RowKit
set_option linter.unusedVariables false

theorem law_ShortSums (n : Int) (a b : List Int) (wn : InK .i64 n) (wa : Wl (InK .i64) a) (wb : Wl (InK .i64) b) : F_raddlelaw38_ShortSums n a b = some true := law_ShortSums' k_raddlelaw38_alive n a b

end Go.Proofs.YtoiehdlcfehmlaaDoor
namespace Go.Proofs.YtoiehdlcfehmlaaDoor
open Go.RowKit
set_option linter.unusedVariables false

namespace frameShortSums
open Go.ChangeShapes Go.WideShapes Go.ChangeAt Go.Joins
theorem own : ownKnob Tryd.prog.godebug = none := by kernel_rfl
theorem laidOut : laidOutB Tryd.prog = true := by kernel_rfl
set_option maxRecDepth 100000 in
theorem door_met (os : Os) (args : Array Value) : laidMetH Tryd.prog Rows.shortSumsRow.laid ((World.doorLaid Tryd.prog 400 os).forCall (fun _ _ => 0) ⟨#[], args, []⟩).memory :=
  laidMetH_of_parts3 (fuel := 8) (laidMet_of_run' 8 (by kernel_rfl) (by kernel_rfl)) (by kernel_rfl) (by kernel_rfl)
set_option maxRecDepth 100000 in
theorem lifted (os : Os) (started : os.Started) (H : Type) (enc : TypeId × Value → H) :
    ReturnsInHanded {} Tryd.checked os 6 .any (fun w args => (Rows.shortSumsSpec.pre enc Tryd.prog Tryd.f6 Rows.shortSumsRow.domain false w args ∧ laidMetH Tryd.prog Rows.shortSumsRow.laid w) ∧ sizedMet enc Tryd.prog Tryd.f6 (OpenSpec.ofChange Rows.shortSumsSpec) false w args) (Rows.shortSumsSpec.post enc Tryd.prog Tryd.f6 false true false false) := by
  refine returnsInHanded_of_change_and (C := Tryd.checked) (X := fun w _ => laidMetH Tryd.prog Rows.shortSumsRow.laid w) (fun _ _ _ hh h => h.of_heap hh) own started (by kernel_rfl) Tryd.func6
    (ChangeSpec.witness_shaped (enc := enc) (C := Tryd.checked) (os := os) (X := fun w _ => laidMetH Tryd.prog Rows.shortSumsRow.laid w) false (World.doorLaid Tryd.prog 400 os) #[.int .i64 0, .slice none 0 0, .slice none 0 0] 8 rfl (World.shaped_of_RefB (by kernel_rfl) (by kernel_rfl)) (by kernel_rfl) (by kernel_rfl) (by kernel_rfl) (door_met os _)) ?_
  intro W base args ds gs before hval0 hW _ _ _ _
  have hval : ∀ (j : Nat) t v, Tryd.f6.params[j]? = some t → args[j]? = some v → Value.okWide Tryd.prog W .any base t v := hval0
  have hW' := hW
  obtain ⟨p, q, hA0, hV, rfl, hfz, hnd⟩ := hW
  have hA : DataW.TrodAll enc Tryd.prog W 0 (fun _ => true) true Tryd.f6.params.toList args.toList ds p := hA0
  rw [Tryd.params6] at hA hval
  obtain ⟨v0, vs0, d0, ds0, p0, q0, hargs, rfl, rfl, h0, r0⟩ := trodAll_cons hA
  obtain ⟨v1, vs1, d1, ds1, p1, q1, rfl, rfl, rfl, h1, r1⟩ := trodAll_cons r0
  obtain ⟨v2, vs2, d2, ds2, p2, q2, rfl, rfl, rfl, h2, r2⟩ := trodAll_cons r1
  obtain ⟨rfl, rfl, rfl⟩ := trodAll_nil r2
  obtain rfl : args = #[v0, v1, v2] := by cases args; simp_all
  obtain ⟨rfl, rfl⟩ := trodVars_none hV
  have k0 := h0
  have lt0 : ∀ x ∈ p0, x.block < W.heap.size := by obtain ⟨m, hm⟩ := k0; exact DataW.trod_lt m _ _ _ hm
  have k1 := h1
  have lt1 : ∀ x ∈ p1, x.block < W.heap.size := by obtain ⟨m, hm⟩ := k1; exact DataW.trod_lt m _ _ _ hm
  have k2 := h2
  have lt2 : ∀ x ∈ p2, x.block < W.heap.size := by obtain ⟨m, hm⟩ := k2; exact DataW.trod_lt m _ _ _ hm
  obtain ⟨x0, rfl, rfl, rfl, wf0⟩ := open_int Tryd.underlying3 (hval 0 _ v0 rfl rfl) h0
  obtain ⟨x1, rep1, wf1⟩ := top_slice Tryd.underlying22 (op_slice (r := (rI .i64)) Tryd.underlying22 (by kernel_rfl) (op_int .i64 Tryd.underlying3)) (hval 1 _ v1 rfl rfl) h1
  obtain ⟨x2, rep2, wf2⟩ := top_slice Tryd.underlying22 (op_slice (r := (rI .i64)) Tryd.underlying22 (by kernel_rfl) (op_int .i64 Tryd.underlying3)) (hval 2 _ v2 rfl rfl) h2
  clear hA0 hval0
  refine (c_raddlelaw38_ShortSums (fun _ => False) W x0 x1 v1 x2 v2 true (law_ShortSums x0 x1 x2 wf0 wf1 wf2) (St0.start (by intro d hd; simp only [List.mem_cons, List.not_mem_nil, or_false] at hd; rcases hd with rfl | rfl; exact rep1; exact rep2))).mono fun e W' hr => ?_
  obtain ⟨_, he, hS⟩ := hr
  have bel := hS.chg.below
  subst he
  exact ⟨_, rfl, _, _, _, [], _, [], hW', trodAll_mk1 (shut_bool Tryd.underlying4 _), (trodAll_cons_mk (Below.trod laidOut (by kernel_rfl) (of_decide_eq_true (by kernel_rfl)) k0 bel lt0) (trodAll_cons_mk (Below.trod laidOut (by kernel_rfl) (of_decide_eq_true (by kernel_rfl)) k1 bel lt1) (trodAll_cons_mk (Below.trod laidOut (by kernel_rfl) (of_decide_eq_true (by kernel_rfl)) k2 bel lt2) trodAll_mk0))), rfl, bel.frame _, fun h => by cases h⟩
theorem over : Rows.shortSumsRow.holds Tryd.pinned (OpenSpec.ofChange Rows.shortSumsSpec) :=
  OpenClaim.holds_of_wide 6 Tryd.f6 rfl rfl rfl rfl rfl rfl rfl ⟨rfl, rfl, rfl, rfl, rfl⟩ rfl rfl rfl rfl rfl (by kernel_rfl) Tryd.func6 (by kernel_rfl)
    (of_decide_eq_true (by kernel_rfl)) (by unfold Func.isWrapper; first | (rw [if_pos (by decide +kernel)]; kernel_rfl) | (rw [if_neg (by decide +kernel)]; exact ⟨rfl, rfl⟩))
    (fun os started H enc _ => lifted os started H enc)
theorem card : Rows.ShortSumsCardSaid :=
  Claim7.holds_tied_plain_at .later [] [.data, .data, .data] true (true, "dd224f09b7bd2d708e49c9d1e39fbd7694ddda389d105d38d20db584f451cd0f") false
    over (fun _ h => by cases h) (by kernel_rfl) (fun _ h => by cases h) shortSums_row_tie rfl ⟨rfl, rfl⟩ (by kernel_rfl) rfl
    (fun f fn hf hfn => by
      obtain rfl : f = 6 := Option.some.inj ((show Tryd.prog.funcNamed "raddle/raddlelaw38.ShortSums" = some 6 by kernel_rfl).symm.trans hf) |>.symm
      obtain rfl : fn = Tryd.f6 := (Option.some.inj (Tryd.func6.symm.trans hfn)).symm
      exact ⟨by kernel_rfl, fun j t ht => by
        rw [Tryd.params6] at ht
        have hm : t ∈ [3, 22, 22] := by simpa using Array.mem_of_getElem? ht
        have hall : ([3, 22, 22].all fun u => !Tryd.prog.wantsStandIn u) = true := by kernel_rfl
        exact (show Tryd.prog.wantsStandIn t = false by simpa using List.all_eq_true.1 hall t hm)⟩)
    (by kernel_rfl)
end frameShortSums
theorem shortSums_holds : Rows.ShortSumsCardSaid := frameShortSums.card

end Go.Proofs.YtoiehdlcfehmlaaDoor
