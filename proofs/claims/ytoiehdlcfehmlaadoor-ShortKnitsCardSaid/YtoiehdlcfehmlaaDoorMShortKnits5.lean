/- Several texts in one: PlV PlH PlG G16 G17 PlSu PlUo G7 LKN LKNv FrShortKnits -/
import Derived.WalkKit
import Derived.Maps.AppendAt
import Derived.Deep.AppendLies
import Derived.KernelRfl
import Derived.Laws.OwnMore
import Derived.Great.BuildSlice
import Derived.Orders
import Derived.Laws.StructEq
import Derived.ChangeKeysEq
import Derived.Defers
import Derived.Laws.BytesString
import Derived.RangeFuncNested
import Derived.RangeFuncBound
import Derived.RangeFuncCalls
import Derived.RangeFuncLeaves
import Derived.OrdersIn
import Derived.LoopNIn
import Derived.Test.YtoiehdlcfehmlaaDoorProg
import Derived.ProofKit
import Derived.OpenShut
import Derived.ChangeOld
import Derived.Deep.Slices
import Derived.Lib.SmallJoins
import Derived.JoinedOf
import Derived.JoinedAt
import Derived.Below
import Derived.Shelf.Strings.Builder1
import Derived.Shelf.Strings.Builder2
import Derived.Shelf.Strings.OnBuilder
import Derived.Test.YtoiehdlcfehmlaaDoorRows
import Derived.LaidMore
import Derived.SevenTiedAt
import Derived.Test.YtoiehdlcfehmlaaDoorCards
import Derived.Test.YtoiehdlcfehmlaaDoorTie
import Derived.Test.YtoiehdlcfehmlaaDoorMShortKnits4
namespace Go.Proofs.YtoiehdlcfehmlaaDoor
open Go.RowKit
set_option linter.unusedVariables false

/-- a loop that compares two lists -/
theorem loop_eq {α τ : Type} {B : Int → Option (Int ⊕ τ)} (a b : List α) (hl : a.length = b.length) (good bad : τ)
    (h : ∀ k (hk : k < a.length), ∃ t : Bool, (t = true ↔ a[k] = b[k]'(by omega)) ∧ B (k : Int) = some (if t = true then .inl ((k + 1 : Nat) : Int) else .inr bad)) (hn : B (a.length : Int) = some (.inr good)) :
    ∃ t : Bool, (t = true ↔ a = b) ∧ whileO B 0 = some (if t = true then good else bad) := by
  have key : ∃ u, whileO B 0 = some u ∧ ∃ t : Bool, (t = true ↔ a = b) ∧ u = (if t = true then good else bad) := by
    refine loop_ix a.length (fun k => ∀ j, j < k → a[j]? = b[j]?) _ (fun j hj => absurd hj (Nat.not_lt_zero j)) ?_ ?_
    · intro k hk hI
      obtain ⟨t, h1, h2⟩ := h k hk
      cases t with
      | true =>
        refine .inl ⟨by rw [h2, if_pos rfl], fun j hj => ?_⟩
        by_cases e : j = k
        · subst e
          rw [List.getElem?_eq_getElem hk, List.getElem?_eq_getElem (by omega), h1.1 rfl]
        · exact hI j (by omega)
      | false =>
        refine .inr ⟨bad, by rw [h2]; rfl, false, ⟨fun h => (by cases h), fun h => ?_⟩, rfl⟩
        subst h
        exact absurd (h1.2 rfl) (by simp)
    · intro hI
      refine ⟨good, hn, true, ⟨fun _ => ?_, fun _ => rfl⟩, rfl⟩
      apply List.ext_getElem?
      intro j
      by_cases hj : j < a.length
      · exact hI j hj
      · rw [List.getElem?_eq_none (by omega), List.getElem?_eq_none (by omega)]
  obtain ⟨u, h1, t, h2, rfl⟩ := key
  exact ⟨t, h2, h1⟩
theorem eqS_iff (x y : api_Stitch) : ((x.Kind == y.Kind) && ((x.Purl == y.Purl) && ((x.A == y.A) && ((x.B == y.B) && true)))) = true ↔ x = y := by
  cases x; cases y; simp
theorem same_eq (a b : List api_Stitch) (hl : a.length ≤ 9223372036854775807) : ∃ t : Bool, (t = true ↔ a = b) ∧ F_stitch_Same a b = some t := by
  unfold F_stitch_Same F_slices_Equal___api_Stitch_api_Stitch_
  by_cases h : a.length = b.length
  case neg =>
    exact ⟨false, ⟨fun h => (by cases h), fun e => absurd (congrArg List.length e) h⟩, by simp only [nT (show ¬ (a.length : Int) = (b.length : Int) by omega), if_true, Option.bind_some]⟩
  simp only [nF (show (a.length : Int) = (b.length : Int) by omega), Bool.false_eq_true, if_false]
  have key : ∃ t : Bool, (t = true ↔ a = b) ∧ whileO (slices_Equal___api_Stitch_api_Stitch__l1 a b) 0 = some (if t = true then .inr () else .inl false) := by
    refine loop_eq a b h _ _ (fun k hk => ?_) ?_
    · refine ⟨_, eqS_iff a[k] (b[k]'(by omega)), ?_⟩
      unfold slices_Equal___api_Stitch_api_Stitch__l1
      simp only [dT (show (k : Int) < (a.length : Int) by omega), if_true, idxO_nat hk, idxO_nat (show k < b.length by omega), Option.bind_some, w64_succ (show k < 9223372036854775807 by omega)]
      cases ((a[k].Kind == (b[k]'(by omega)).Kind) && ((a[k].Purl == (b[k]'(by omega)).Purl) && ((a[k].A == (b[k]'(by omega)).A) && ((a[k].B == (b[k]'(by omega)).B) && true)))) <;> rfl
    · unfold slices_Equal___api_Stitch_api_Stitch__l1
      simp only [dF (show ¬ (a.length : Int) < (a.length : Int) by omega), Bool.false_eq_true, if_false]
  obtain ⟨t, t1, t2⟩ := key
  refine ⟨t, t1, ?_⟩
  rw [t2]
  cases t <;> rfl
theorem row_ext {x y : api_Row} : x = y ↔ x.Back = y.Back ∧ x.Cells = y.Cells := by cases x; cases y; simp

end Go.Proofs.YtoiehdlcfehmlaaDoor
namespace Go.Proofs.YtoiehdlcfehmlaaDoor
open Go.RowKit
set_option linter.unusedVariables false

def kS : api_Stitch := ⟨1, false, 0, 0⟩
def sS : api_Stitch := ⟨8, false, 0, 0⟩
def kn (n p : Int) : List api_Stitch := List.replicate p.toNat kS ++ List.replicate (n - p).toNat sS
def tchk (n : Int) (l : List Int) : Int := if 1 ≤ n ∧ n ≤ 200 then (if 50 < l.length then 4 else if (∀ p, p ∈ l → 1 ≤ p ∧ p ≤ n) then 0 else 2) else 2
theorem tchk_ok {n : Int} {l : List Int} (h : tchk n l = 0) : 1 ≤ n ∧ n ≤ 200 ∧ l.length ≤ 50 ∧ ∀ p, p ∈ l → 1 ≤ p ∧ p ≤ n := by
  unfold tchk at h
  by_cases h1 : 1 ≤ n ∧ n ≤ 200
  case neg => rw [if_neg h1] at h; cases h
  rw [if_pos h1] at h
  by_cases h2 : 50 < l.length
  · rw [if_pos h2] at h; cases h
  rw [if_neg h2] at h
  by_cases h3 : ∀ p, p ∈ l → 1 ≤ p ∧ p ≤ n
  case neg => rw [if_neg h3] at h; cases h
  exact ⟨h1.1, h1.2, by omega, h3⟩
theorem within_eq (x a b : Int) : F_short_within x a b = some (decide (a ≤ x ∧ x ≤ b)) := by
  unfold F_short_within
  by_cases h : a ≤ x <;> simp [h]
theorem range_mem {l : List Int} {n : Int} : (List.range l.length).all (fun k => decide (1 ≤ l.getD k 0 ∧ l.getD k 0 ≤ n)) = true ↔ ∀ p, p ∈ l → 1 ≤ p ∧ p ≤ n := by
  rw [List.all_eq_true]
  constructor
  · intro h p hp
    obtain ⟨k, hk, rfl⟩ := List.getElem_of_mem hp
    have := h k (List.mem_range.2 hk)
    rw [getD_of _ hk] at this
    exact of_decide_eq_true this
  · intro h k hk
    have hk := List.mem_range.1 hk
    rw [getD_of _ hk]
    exact decide_eq_true (h _ (List.getElem_mem hk))
theorem tcheck_eq (n : Int) (l : List Int) : F_short_check n l = some (tchk n l) := by
  unfold F_short_check tchk
  rw [within_eq]
  by_cases h1 : 1 ≤ n ∧ n ≤ 200
  case neg => simp only [Option.bind_some, dF h1, Bool.not_false, if_true, if_neg h1]
  simp only [Option.bind_some, dT h1, Bool.not_true, Bool.false_eq_true, if_false, if_pos h1]
  by_cases h2 : 50 < l.length
  · simp only [dT (show (50 : Int) < (l.length : Int) by omega), if_true, if_pos h2]
  simp only [dF (show ¬ (50 : Int) < (l.length : Int) by omega), Bool.false_eq_true, if_false, if_neg h2]
  rw [loop_all (B := short_check_l1 l n) l.length (fun k => decide (1 ≤ l.getD k 0 ∧ l.getD k 0 ≤ n)) (.inr ()) (.inl 2) ?_ ?_]
  · by_cases h3 : ∀ p, p ∈ l → 1 ≤ p ∧ p ≤ n
    · rw [if_pos (range_mem.2 h3), if_pos h3]; rfl
    · rw [if_neg (fun h => h3 (range_mem.1 h)), if_neg h3]; rfl
  · intro k hk
    unfold short_check_l1
    simp only [dT (show (k : Int) < (l.length : Int) by omega), if_true, idxO_nat hk, Option.bind_some, within_eq, getD_of _ hk, w64_succ (show k < 9223372036854775807 by omega)]
    by_cases h : 1 ≤ l[k] ∧ l[k] ≤ n
    · simp only [dT h, Bool.not_true, Bool.false_eq_true, if_false, if_true]
    · simp only [dF h, Bool.not_false, Bool.false_eq_true, if_false, if_true]
  · unfold short_check_l1
    simp only [dF (show ¬ (l.length : Int) < (l.length : Int) by omega), Bool.false_eq_true, if_false]
theorem map_const {α : Type} (n : Nat) (c : α) : (List.range n).map (fun _ => c) = List.replicate n c := by
  rw [List.map_const', List.length_range]
theorem several_eq (kind x : Int) (h0 : 0 ≤ x) (h1 : x ≤ 1000000) : F_short_several kind x = some (List.replicate x.toNat ⟨kind, false, 0, 0⟩) := by
  obtain ⟨n, rfl⟩ : ∃ n : Nat, x = n := ⟨x.toNat, by omega⟩
  have hl : whileO (short_several_l1 (n : Int) kind) ([], 0) = some ((List.range n).map fun _ => (⟨kind, false, 0, 0⟩ : api_Stitch)) := by
    refine loop_map n (fun _ => (⟨kind, false, 0, 0⟩ : api_Stitch)) ?_ ?_
    · rintro k s hk rfl
      unfold short_several_l1
      simp only [dT (show (k : Int) < (n : Int) by omega), if_true, appO_of (show ((List.range k).map fun _ => (⟨kind, false, 0, 0⟩ : api_Stitch)).length + [(api_Stitch.mk kind false 0 0)].length ≤ 68719476736 by simp; omega), Option.bind_some, w64_succ (show k < 9223372036854775807 by omega)]
    · unfold short_several_l1
      simp only [dF (show ¬ (n : Int) < (n : Int) by omega), Bool.false_eq_true, if_false]
  unfold F_short_several
  rw [capO_of (k := n) rfl (by omega), hl, map_const]
  rfl
theorem joined_eq (a b : List api_Stitch) (h : a.length + b.length ≤ 1000000) : F_short_joined [a, b] = some (a ++ b) := by
  have i0 : idxO [a, b] 0 = some a := rfl
  have i1 : idxO [a, b] 1 = some b := rfl
  have w1 : w64 (0 + 1) = 1 := rfl
  have w2 : w64 (1 + 1) = 2 := rfl
  have s0 : short_joined_l1 [a, b] ([], 0) = some (.inl (a, 1)) := by
    unfold short_joined_l1
    simp only [dT (show (0 : Int) < (([a, b] : List (List api_Stitch)).length : Int) by simp), if_true, i0, Option.bind_some, appO_of (show ([] : List api_Stitch).length + a.length ≤ 68719476736 by simp; omega), List.nil_append, w1]
  have s1 : short_joined_l1 [a, b] (a, 1) = some (.inl (a ++ b, 2)) := by
    unfold short_joined_l1
    simp only [dT (show (1 : Int) < (([a, b] : List (List api_Stitch)).length : Int) by simp), if_true, i1, Option.bind_some, appO_of (show a.length + b.length ≤ 68719476736 by omega), w2]
  have s2 : short_joined_l1 [a, b] (a ++ b, 2) = some (.inr (a ++ b)) := by
    unfold short_joined_l1
    simp only [dF (show ¬ (2 : Int) < (([a, b] : List (List api_Stitch)).length : Int) by simp), Bool.false_eq_true, if_false]
  unfold F_short_joined
  rw [whileO_step s0, whileO_step s1, whileO_done s2]
  rfl
theorem sm_rep {α : Type} (f : α → Int) (n : Nat) (x : α) : sm f (List.replicate n x) = f x * (n : Int) := by
  induction n with
  | zero => simp [sm]
  | succ n ih =>
    rw [List.replicate_succ]
    simp only [sm, ih]
    rw [Int.natCast_add, Int.mul_add]
    simp
    omega
theorem kn_len {n p : Int} (h0 : 0 ≤ p) (h1 : p ≤ n) : (kn n p).length = n.toNat := by
  unfold kn; simp; omega
theorem kn_ok {n p : Int} (h0 : 0 ≤ p) (h1 : p ≤ n) (h2 : n ≤ 200) : allS (kn n p) = 0 ∧ sm usedS (kn n p) = n ∧ sm madeS (kn n p) = n := by
  have u : sm usedS (kn n p) = n := by
    unfold kn; rw [sm_append, sm_rep, sm_rep]
    have a1 : usedS kS = 1 := rfl
    have a2 : usedS sS = 1 := rfl
    rw [a1, a2]; omega
  have m : sm madeS (kn n p) = n := by
    unfold kn; rw [sm_append, sm_rep, sm_rep]
    have a1 : madeS kS = 1 := rfl
    have a2 : madeS sS = 1 := rfl
    rw [a1, a2]; omega
  have hl := kn_len h0 h1
  have hok : allOk (kn n p) := by
    intro x hx
    unfold kn at hx
    rw [List.mem_append, List.mem_replicate, List.mem_replicate] at hx
    rcases hx with ⟨_, rfl⟩ | ⟨_, rfl⟩ <;> decide
  refine ⟨?_, u, m⟩
  unfold allS
  rw [if_neg (by omega), if_pos hok, u, m, if_neg (by omega)]
theorem kn_wf {n p : Int} : ∀ x, x ∈ kn n p → wfS x := by
  intro x hx
  unfold kn at hx
  rw [List.mem_append, List.mem_replicate, List.mem_replicate] at hx
  rcases hx with ⟨_, rfl⟩ | ⟨_, rfl⟩ <;> simp [wfS, kS, sS]
def rowsOf (n : Int) : List Int → List api_Row
  | [] => []
  | p :: l => ⟨false, kn n p⟩ :: ⟨true, ((kn n p).map othS).reverse⟩ :: rowsOf n l
theorem rowsOf_len (n : Int) (l : List Int) : (rowsOf n l).length = 2 * l.length := by
  induction l with
  | nil => rfl
  | cons p l ih => simp only [rowsOf, List.length_cons, ih]; omega
theorem rowsOf_app (n : Int) (l k : List Int) : rowsOf n (l ++ k) = rowsOf n l ++ rowsOf n k := by
  induction l with
  | nil => rfl
  | cons p l ih => simp only [rowsOf, List.cons_append, ih]
theorem rowsOf_get (n : Int) (l : List Int) (i : Nat) : (rowsOf n l)[2 * i]? = l[i]?.map fun p => (⟨false, kn n p⟩ : api_Row) := by
  induction l generalizing i with
  | nil => simp [rowsOf]
  | cons p l ih =>
    cases i with
    | zero => rfl
    | succ i =>
      rw [show 2 * (i + 1) = 2 * i + 1 + 1 by omega]
      simp only [rowsOf, List.getElem?_cons_succ]
      exact ih i
def chartOf (n : Int) (l : List Int) : api_Chart × Int := if tchk n l = 0 then (⟨n, rowsOf n l⟩, 0) else (⟨0, []⟩, tchk n l)
theorem rows_step {n : Int} {l : List Int} (hl : l.length ≤ 50) {k : Nat} (hk : k < l.length) : appO (rowsOf n (l.take k)) [⟨false, kn n l[k]⟩, ⟨true, ((kn n l[k]).map othS).reverse⟩] = some (rowsOf n (l.take (k + 1))) := by
  rw [appO_of (by rw [rowsOf_len, List.length_take]; simp; omega), take_one l hk, rowsOf_app]
  rfl
theorem chart_eq (n : Int) (l : List Int) : F_short_Chart n l = some (chartOf n l) := by
  unfold F_short_Chart chartOf
  rw [tcheck_eq]
  by_cases h : tchk n l = 0
  case neg => simp only [Option.bind_some, nT h, if_true, if_neg h]
  obtain ⟨n0, n1, hl, hp⟩ := tchk_ok h
  have key : ∃ t, whileO (short_Chart_l1 l n) (0, []) = some t ∧ t = rowsOf n l := by
    refine loop_at (σ := Unit) l.length (fun k _ => ((k : Int), rowsOf n (l.take k))) (fun _ _ => True) _ (s0 := ()) trivial ?_ ?_
    · intro k _ hk _
      refine .inl ⟨(), ?_, trivial⟩
      have hq := hp _ (List.getElem_mem hk)
      have hko := kn_ok (n := n) (p := l[k]) (by omega) hq.2 n1
      have hkl := kn_len (n := n) (p := l[k]) (by omega) hq.2
      have ew : w64 (n - l[k]) = n - l[k] := w64_of (by omega) (by omega)
      have ej : F_short_joined [List.replicate l[k].toNat (⟨1, false, 0, 0⟩ : api_Stitch), List.replicate (n - l[k]).toNat (⟨8, false, 0, 0⟩ : api_Stitch)] = some (kn n l[k]) := joined_eq _ _ (by simp; omega)
      have et : F_stitch_Turn (kn n l[k]) = some (((kn n l[k]).map othS).reverse, 0) := by rw [turn_eq kn_wf, if_pos hko.1]
      unfold short_Chart_l1
      simp only [dT (show (k : Int) < (l.length : Int) by omega), if_true, idxO_nat hk, Option.bind_some, several_eq 1 l[k] (by omega) (by omega), ew, several_eq 8 (n - l[k]) (by omega) (by omega), ej, et, rows_step hl hk, w64_succ (show k < 9223372036854775807 by omega)]
    · intro _ _
      refine ⟨_, ?_, rfl⟩
      unfold short_Chart_l1
      simp only [dF (show ¬ (l.length : Int) < (l.length : Int) by omega), Bool.false_eq_true, if_false, List.take_length]
  obtain ⟨t, h1, rfl⟩ := key
  simp only [Option.bind_some, nF h, Bool.false_eq_true, if_false, h1, if_pos h]
theorem kn_map {n p : Int} (h0 : 0 ≤ p) (h1 : p ≤ n) : (List.range n.toNat).map (fun k : Nat => if (k : Int) < p then kS else sS) = kn n p := by
  apply List.ext_getElem?
  intro j
  unfold kn
  rw [List.getElem?_append]
  simp only [List.length_replicate, List.getElem?_map, List.getElem?_replicate]
  by_cases hj : j < n.toNat
  · rw [List.getElem?_range hj]
    by_cases hp : j < p.toNat
    · simp only [Option.map_some, hp, if_true, if_pos (show (j : Int) < p by omega)]
    · simp only [Option.map_some, hp, if_false, if_neg (show ¬ (j : Int) < p by omega), if_pos (show j - p.toNat < (n - p).toNat by omega)]
  · rw [List.getElem?_eq_none (by simp; omega), if_neg (show ¬ j < p.toNat by omega), if_neg (show ¬ j - p.toNat < (n - p).toNat by omega)]
    rfl
/-- how many stitches are knit: at the start of a row, and in all -/
def lead : List api_Stitch → Nat
  | [] => 0
  | p :: l => if p.Kind = 1 then lead l + 1 else 0
def cntK : List api_Stitch → Nat
  | [] => 0
  | p :: l => if p.Kind = 1 then cntK l + 1 else cntK l
theorem lead_le (l : List api_Stitch) : lead l ≤ l.length := by
  induction l with
  | nil => simp [lead]
  | cons p l ih => simp only [lead]; split <;> simp <;> omega
theorem lead_lt {l : List api_Stitch} {j : Nat} (h : j < lead l) : ∃ hj : j < l.length, l[j].Kind = 1 := by
  induction l generalizing j with
  | nil => simp [lead] at h
  | cons p l ih =>
    simp only [lead] at h
    split at h
    · rename_i hp
      cases j with
      | zero => exact ⟨by simp, hp⟩
      | succ j =>
        obtain ⟨hj, h1⟩ := ih (show j < lead l by omega)
        exact ⟨by simp; omega, by simpa using h1⟩
    · omega
theorem lead_at {l : List api_Stitch} (h : lead l < l.length) : l[lead l].Kind ≠ 1 := by
  have key : ∀ j (hj : j < l.length), j = lead l → l[j].Kind ≠ 1 := by
    clear h
    induction l with
    | nil => intro j hj; simp at hj
    | cons p l ih =>
      intro j hj e
      simp only [lead] at e
      split at e
      · subst e
        simp only [List.getElem_cons_succ]
        exact ih _ (by simpa using hj) rfl
      · subst e
        simpa using ‹¬ p.Kind = 1›
  exact key _ h rfl
theorem lead_kn {n p : Int} : lead (kn n p) = p.toNat := by
  unfold kn
  induction p.toNat with
  | zero =>
    rw [List.replicate_zero, List.nil_append]
    cases (n - p).toNat with
    | zero => rfl
    | succ m => rfl
  | succ m ih => rw [List.replicate_succ, List.cons_append]; simp only [lead, kS, if_true] at ih ⊢; rw [ih]
theorem cntK_kn {n p : Int} : cntK (kn n p) = p.toNat := by
  have z : ∀ m, cntK (List.replicate m sS) = 0 := by
    intro m
    induction m with
    | zero => rfl
    | succ m ih => rw [List.replicate_succ]; show (if sS.Kind = 1 then _ else _) = 0; rw [if_neg (by decide)]; exact ih
  unfold kn
  induction p.toNat with
  | zero => rw [List.replicate_zero, List.nil_append, z]
  | succ m ih => rw [List.replicate_succ, List.cons_append]; simp only [cntK, kS, if_true] at ih ⊢; rw [ih]
theorem cntK_take (l : List api_Stitch) {k : Nat} (hk : k < l.length) : cntK (l.take (k + 1)) = cntK (l.take k) + (if l[k].Kind = 1 then 1 else 0) := by
  have app : ∀ a b : List api_Stitch, cntK (a ++ b) = cntK a + cntK b := by
    intro a b
    induction a with
    | nil => simp [cntK]
    | cons p a ih => simp only [cntK, List.cons_append, ih]; split <;> omega
  rw [take_one l hk, app]
  simp only [cntK]
theorem lead_loop (x : api_Row) (hx : x.Cells.length ≤ 1000000) (i : Nat) : ∀ (m j : Nat) (s : List Int), lead x.Cells = j + m → s[i]? = some (j : Int) → whileO (short_Read_l1 (i : Int) x) s = some (s.set i (lead x.Cells : Int)) := by
  intro m
  have hle := lead_le x.Cells
  induction m with
  | zero =>
    intro j s e hs
    have hi := (List.getElem?_eq_some_iff.1 hs).1
    have hv := (List.getElem?_eq_some_iff.1 hs).2
    have e1 : short_Read_l1 (i : Int) x s = some (.inr s) := by
      unfold short_Read_l1
      simp only [idxO_nat hi, hv, Option.bind_some]
      by_cases hj : j < x.Cells.length
      · have hk : x.Cells[j].Kind ≠ 1 := by
          have := lead_at (l := x.Cells) (by omega)
          simpa [e] using this
        simp only [dT (show (j : Int) < (x.Cells.length : Int) by omega), if_true, idxO_nat hj, Option.bind_some, bF hk, Bool.false_eq_true, if_false]
      · simp only [dF (show ¬ (j : Int) < (x.Cells.length : Int) by omega), Bool.false_eq_true, if_false, Option.bind_some]
    rw [whileO_done e1, show (lead x.Cells : Int) = s[i] by rw [hv]; omega, List.set_getElem_self]
  | succ m ih =>
    intro j s e hs
    have hi := (List.getElem?_eq_some_iff.1 hs).1
    have hv := (List.getElem?_eq_some_iff.1 hs).2
    obtain ⟨hj, hk⟩ := lead_lt (l := x.Cells) (j := j) (by omega)
    have e1 : short_Read_l1 (i : Int) x s = some (.inl (s.set i ((j + 1 : Nat) : Int))) := by
      unfold short_Read_l1
      simp only [idxO_nat hi, hv, Option.bind_some, dT (show (j : Int) < (x.Cells.length : Int) by omega), if_true, idxO_nat hj, bT hk, w64_succ (show j < 9223372036854775807 by omega), setO_nat hi]
    rw [whileO_step e1, ih (j + 1) _ (by omega) (by simp [hi]), List.set_set]
/-- the list of turns that Read looks at -/
def leads (c : api_Chart) : List Int := (List.range (c.Rows.length / 2)).map fun i => (lead (c.Rows.getD (2 * i) ⟨false, []⟩).Cells : Int)
def cnts (c : api_Chart) : List Int := (List.range ((c.Rows.length + 1) / 2)).map fun i => (cntK (c.Rows.getD (2 * i) ⟨false, []⟩).Cells : Int)
theorem leads_loop (c : api_Chart) (hl : c.Rows.length ≤ 1000000) (hc : ∀ r, r ∈ c.Rows → r.Cells.length ≤ 1000000) : whileO (short_Read_l2 (List.replicate (c.Rows.length / 2) 0) c) (List.replicate (c.Rows.length / 2) 0, 0) = some (leads c) := by
  unfold leads
  generalize hn : c.Rows.length / 2 = n
  have key : ∃ t, whileO (short_Read_l2 (List.replicate n 0) c) (List.replicate n 0, 0) = some t ∧ t = (List.range n).map fun i => (lead (c.Rows.getD (2 * i) ⟨false, []⟩).Cells : Int) := by
    refine loop_st n (fun k s => s = ((List.range k).map fun i => (lead (c.Rows.getD (2 * i) ⟨false, []⟩).Cells : Int)) ++ List.replicate (n - k) 0) _ (by simp) ?_ ?_
    · rintro k s hk rfl
      refine .inl ⟨_, ?_, rfl⟩
      have h2 : 2 * k < c.Rows.length := by omega
      have e2 : w64 (2 * (k : Int)) = ((2 * k : Nat) : Int) := by rw [w64_of (by omega) (by omega)]; omega
      have er : List.replicate (n - k) (0 : Int) = 0 :: List.replicate (n - (k + 1)) 0 := by rw [show n - k = (n - (k + 1)) + 1 by omega, List.replicate_succ]
      have hlp := lead_loop c.Rows[2 * k] (hc _ (List.getElem_mem h2)) k (lead c.Rows[2 * k].Cells) 0 (((List.range k).map fun i => (lead (c.Rows.getD (2 * i) ⟨false, []⟩).Cells : Int)) ++ List.replicate (n - k) 0) (by omega) (by rw [er, List.getElem?_append_right (by simp)]; simp)
      unfold short_Read_l2
      simp only [List.length_replicate, dT (show (k : Int) < (n : Int) by omega), if_true, e2, idxO_nat h2, Option.bind_some, hlp, w64_succ (show k < 9223372036854775807 by omega)]
      congr 4
      rw [er, List.set_append_right _ _ (by simp), List.range_succ, List.map_append, List.map_singleton, getD_of _ h2, List.length_map, List.length_range, Nat.sub_self, List.set_cons_zero, List.append_assoc]
      rfl
    · rintro s rfl
      refine ⟨_, ?_, rfl⟩
      unfold short_Read_l2
      simp only [List.length_replicate, dF (show ¬ (n : Int) < (n : Int) by omega), Bool.false_eq_true, if_false, Nat.sub_self, List.replicate_zero, List.append_nil]
  obtain ⟨t, h1, rfl⟩ := key
  exact h1
/-- what Read finds, if it finds any -/
theorem leads_of {c : api_Chart} {V : List Int} (hv : tchk c.Start V = 0) (h : c.Rows = rowsOf c.Start V) : leads c = V ∧ cnts c = V := by
  have hl : c.Rows.length = 2 * V.length := by rw [h, rowsOf_len]
  obtain ⟨_, _, _, hp⟩ := tchk_ok hv
  have get : ∀ i (hi : i < V.length), c.Rows.getD (2 * i) ⟨false, []⟩ = ⟨false, kn c.Start V[i]⟩ := by
    intro i hi
    have e : c.Rows[2 * i]? = some ⟨false, kn c.Start V[i]⟩ := by
      have := rowsOf_get c.Start V i
      rw [← h, List.getElem?_eq_getElem hi] at this
      exact this
    rw [List.getD_eq_getElem?_getD, e]; rfl
  constructor
  · unfold leads
    rw [hl, show 2 * V.length / 2 = V.length by omega]
    apply List.ext_getElem (by simp)
    intro i h1 h2
    simp only [List.getElem_map, List.getElem_range, get i h2, lead_kn]
    have := hp _ (List.getElem_mem h2)
    omega
  · unfold cnts
    rw [hl, show (2 * V.length + 1) / 2 = V.length by omega]
    apply List.ext_getElem (by simp)
    intro i h1 h2
    simp only [List.getElem_map, List.getElem_range, get i h2, cntK_kn]
    have := hp _ (List.getElem_mem h2)
    omega
open Classical in
noncomputable def readOf (c : api_Chart) : Int × List Int × Int := if tchk c.Start (leads c) = 0 ∧ c.Rows = rowsOf c.Start (leads c) then (c.Start, leads c, 0) else (0, [], 8)
theorem read_eq (c : api_Chart) (hl : c.Rows.length ≤ 1000000) (hc : ∀ r, r ∈ c.Rows → r.Cells.length ≤ 1000000) : F_short_Read c = some (readOf c) := by
  have hr : remI (c.Rows.length : Int) 2 = some ((c.Rows.length % 2 : Nat) : Int) := by
    unfold remI; rw [if_neg (by omega)]; rfl
  have hq : quoI (c.Rows.length : Int) 2 = some ((c.Rows.length / 2 : Nat) : Int) := by
    unfold quoI; rw [if_neg (by omega)]
    have : ((c.Rows.length : Int)).tdiv 2 = ((c.Rows.length / 2 : Nat) : Int) := rfl
    rw [this, w64_of (by omega) (by omega)]
  unfold F_short_Read readOf
  simp only [hr, hq, Option.bind_some]
  by_cases odd : c.Rows.length % 2 = 1
  · have : ¬ (tchk c.Start (leads c) = 0 ∧ c.Rows = rowsOf c.Start (leads c)) := fun h => by
      have := congrArg List.length h.2
      rw [rowsOf_len] at this
      omega
    simp only [bT (show ((c.Rows.length % 2 : Nat) : Int) = 1 by omega), if_true, if_neg this]
  simp only [bF (show ¬ ((c.Rows.length % 2 : Nat) : Int) = 1 by omega), Bool.false_eq_true, if_false, makeO_of (k := c.Rows.length / 2) (z := (0 : Int)) rfl (by omega), Option.bind_some, leads_loop c hl hc, chart_eq]
  unfold chartOf
  by_cases ht : tchk c.Start (leads c) = 0
  case neg => simp only [if_neg ht, nT ht, if_true, ht, false_and, if_false]
  simp only [ht, if_true, bne_self_eq_false, Bool.false_eq_true, if_false, true_and]
  have hlen : c.Rows.length = (rowsOf c.Start (leads c)).length := by
    rw [rowsOf_len]; unfold leads; simp; omega
  have key : ∃ t : Bool, (t = true ↔ c.Rows = (rowsOf c.Start (leads c))) ∧ whileO (short_Read_l3 c (⟨c.Start, rowsOf c.Start (leads c)⟩, 0)) 0 = some (if t = true then .inr () else .inl (0, [], 8)) := by
    refine loop_eq c.Rows (rowsOf c.Start (leads c)) hlen _ _ (fun k hk => ?_) ?_
    · have hk2 : k < (rowsOf c.Start (leads c)).length := by omega
      obtain ⟨t, t1, t2⟩ := same_eq c.Rows[k].Cells ((rowsOf c.Start (leads c))[k]).Cells (by have := hc _ (List.getElem_mem hk); omega)
      by_cases hb : c.Rows[k].Back = ((rowsOf c.Start (leads c))[k]).Back
      · refine ⟨t, t1.trans ⟨fun e => row_ext.2 ⟨hb, e⟩, fun e => (row_ext.1 e).2⟩, ?_⟩
        unfold short_Read_l3
        simp only [dT (show (k : Int) < (c.Rows.length : Int) by omega), if_true, idxO_nat hk, idxO_nat hk2, Option.bind_some, w64_succ (show k < 9223372036854775807 by omega), hb, bne_self_eq_false, Bool.false_eq_true, if_false, t2]
        cases t <;> rfl
      · refine ⟨false, ⟨fun h => (by cases h), fun e => absurd (row_ext.1 e).1 hb⟩, ?_⟩
        unfold short_Read_l3
        simp only [dT (show (k : Int) < (c.Rows.length : Int) by omega), if_true, idxO_nat hk, idxO_nat hk2, Option.bind_some, bne_iff_ne.2 hb, Bool.false_eq_true, if_false]
    · unfold short_Read_l3
      simp only [dF (show ¬ (c.Rows.length : Int) < (c.Rows.length : Int) by omega), Bool.false_eq_true, if_false]
  obtain ⟨t, t1, t2⟩ := key
  rw [t2]
  cases t with
  | true =>
    have hp : tchk c.Start (leads c) = 0 ∧ c.Rows = rowsOf c.Start (leads c) := ⟨ht, t1.1 rfl⟩
    rw [if_pos hp]; rfl
  | false =>
    have hn : ¬ (tchk c.Start (leads c) = 0 ∧ c.Rows = rowsOf c.Start (leads c)) := fun h => by cases t1.2 h.2
    rw [if_neg hn]; rfl

end Go.Proofs.YtoiehdlcfehmlaaDoor
namespace Go.Proofs.YtoiehdlcfehmlaaDoor
open Go.RowKit
set_option linter.unusedVariables false

/-- how many are v, and how many are greater than v -/
def ceq (v : Int) : List Int → Nat
  | [] => 0
  | p :: l => if p = v then ceq v l + 1 else ceq v l
def cgt (v : Int) : List Int → Nat
  | [] => 0
  | p :: l => if v < p then cgt v l + 1 else cgt v l
theorem ceq_app (v : Int) (a b : List Int) : ceq v (a ++ b) = ceq v a + ceq v b := by
  induction a with
  | nil => simp [ceq]
  | cons p a ih => simp only [List.cons_append, ceq, ih]; split <;> omega
theorem cgt_app (v : Int) (a b : List Int) : cgt v (a ++ b) = cgt v a + cgt v b := by
  induction a with
  | nil => simp [cgt]
  | cons p a ih => simp only [List.cons_append, cgt, ih]; split <;> omega
theorem ceq_le (v : Int) (l : List Int) : ceq v l ≤ l.length := by
  induction l with
  | nil => simp [ceq]
  | cons p l ih => simp only [ceq, List.length_cons]; split <;> omega
theorem cgt_le (v : Int) (l : List Int) : cgt v l ≤ l.length := by
  induction l with
  | nil => simp [cgt]
  | cons p l ih => simp only [cgt, List.length_cons]; split <;> omega
theorem cgt_step (v : Int) (l : List Int) : cgt v l = ceq (v + 1) l + cgt (v + 1) l := by
  induction l with
  | nil => rfl
  | cons p l ih =>
    simp only [cgt, ceq, ih]
    by_cases h1 : v < p
    · by_cases h2 : p = v + 1
      · rw [if_pos h1, if_pos h2, if_neg (by omega)]; omega
      · rw [if_pos h1, if_neg h2, if_pos (by omega)]; omega
    · rw [if_neg h1, if_neg (by omega), if_neg (by omega)]
theorem cgt_top {v : Int} {l : List Int} (h : ∀ p, p ∈ l → p ≤ v) : cgt v l = 0 := by
  induction l with
  | nil => rfl
  | cons p l ih =>
    simp only [cgt]
    rw [if_neg (by have := h p (by simp); omega)]
    exact ih fun q hq => h q (by simp [hq])
theorem cgt_all {v : Int} {l : List Int} (h : ∀ p, p ∈ l → v < p) : cgt v l = l.length := by
  induction l with
  | nil => rfl
  | cons p l ih =>
    simp only [cgt, List.length_cons]
    rw [if_pos (h p (by simp)), ih fun q hq => h q (by simp [hq])]
theorem cgt_mono {v u : Int} (h : v ≤ u) (l : List Int) : cgt u l ≤ cgt v l := by
  induction l with
  | nil => simp [cgt]
  | cons p l ih =>
    simp only [cgt]
    split
    · rw [if_pos (by omega)]; omega
    · split <;> omega
def hts (n : Int) (l : List Int) : List Int := (List.range n.toNat).map fun k : Nat => (cgt (k : Int) l : Int)
theorem hts_len (n : Int) (l : List Int) : (hts n l).length = n.toNat := by simp [hts]
theorem hts_get {n : Int} {l : List Int} {k : Nat} (hk : k < (hts n l).length) : (hts n l)[k] = (cgt (k : Int) l : Int) := by
  simp [hts]
theorem map_set {α : Type} (n : Nat) (f g : Nat → α) (k : Nat) (v : α) (h : ∀ j, j < n → g j = if j = k then v else f j) : ((List.range n).map f).set k v = (List.range n).map g := by
  apply List.ext_getElem?
  intro j
  rw [List.getElem?_set]
  simp only [List.length_map, List.length_range, List.getElem?_map]
  by_cases hj : j < n
  · rw [List.getElem?_range hj]
    simp only [Option.map_some]
    rw [h j hj]
    by_cases e : j = k
    · subst e; simp [hj]
    · rw [if_neg (fun x => e x.symm), if_neg e]
  · have e1 : (List.range n)[j]? = none := List.getElem?_eq_none (by simp; omega)
    rw [e1]
    by_cases e : k = j
    · subst e; simp [hj]
    · simp [e]
theorem heights_eq (n : Int) (l : List Int) : F_short_Heights n l = some (if tchk n l = 0 then (hts n l, 0) else ([], tchk n l)) := by
  unfold F_short_Heights
  rw [tcheck_eq]
  by_cases h : tchk n l = 0
  case neg => simp only [Option.bind_some, nT h, if_true, if_neg h]
  obtain ⟨n0, n1, hl, hp⟩ := tchk_ok h
  obtain ⟨m, rfl⟩ : ∃ m : Nat, n = m := ⟨n.toNat, by omega⟩
  have l1 : whileO (short_Heights_l1 l) (List.replicate m 0, 0) = some ((List.range m).map fun j : Nat => (ceq ((j : Int) + 1) l : Int)) := by
    have key : ∃ t, whileO (short_Heights_l1 l) (List.replicate m 0, 0) = some t ∧ t = (List.range m).map fun j : Nat => (ceq ((j : Int) + 1) l : Int) := by
      refine loop_st l.length (fun k s => s = (List.range m).map fun j : Nat => (ceq ((j : Int) + 1) (l.take k) : Int)) _ (by rw [← map_const]; simp [ceq]) ?_ ?_
      · rintro k s hk rfl
        refine .inl ⟨_, ?_, rfl⟩
        have hq := hp _ (List.getElem_mem hk)
        obtain ⟨q, hq2⟩ : ∃ q : Nat, l[k] = (q : Int) + 1 := ⟨(l[k] - 1).toNat, by omega⟩
        have e1 : w64 (l[k] - 1) = (q : Int) := by rw [hq2, w64_of (by omega) (by omega)]; omega
        have hqm : q < ((List.range m).map fun j : Nat => (ceq ((j : Int) + 1) (l.take k) : Int)).length := by simp; omega
        have hc := ceq_le ((q : Int) + 1) (l.take k)
        rw [List.length_take] at hc
        have e2 : ((List.range m).map fun j : Nat => (ceq ((j : Int) + 1) (l.take k) : Int))[q] = (ceq ((q : Int) + 1) (l.take k) : Int) := by simp
        unfold short_Heights_l1
        simp only [dT (show (k : Int) < (l.length : Int) by omega), if_true, idxO_nat hk, Option.bind_some, e1, idxO_nat hqm, e2, w64_succ (show ceq ((q : Int) + 1) (l.take k) < 9223372036854775807 by omega), setO_nat hqm, w64_succ (show k < 9223372036854775807 by omega)]
        congr 3
        refine map_set m _ _ q _ fun j hj => ?_
        rw [take_one l hk, ceq_app]
        simp only [ceq, hq2]
        by_cases e : j = q
        · subst e; rw [if_pos rfl, if_pos rfl]
        · rw [if_neg e, if_neg (by omega)]; simp
      · rintro s rfl
        refine ⟨_, ?_, rfl⟩
        unfold short_Heights_l1
        simp only [dF (show ¬ (l.length : Int) < (l.length : Int) by omega), Bool.false_eq_true, if_false, List.take_length]
    obtain ⟨t, h1, rfl⟩ := key
    exact h1
  have mid : ∀ i : Nat, i + 1 ≤ m → whileO short_Heights_l2 ((List.range m).map (fun j : Nat => if j < i then (ceq ((j : Int) + 1) l : Int) else (cgt (j : Int) l : Int)), (i : Int) - 1) = some (hts (m : Int) l) := by
    intro i
    induction i with
    | zero =>
      intro _
      have e : short_Heights_l2 ((List.range m).map (fun j : Nat => if j < 0 then (ceq ((j : Int) + 1) l : Int) else (cgt (j : Int) l : Int)), ((0 : Nat) : Int) - 1) = some (.inr (hts (m : Int) l)) := by
        unfold short_Heights_l2 hts
        simp only [dF (show ¬ (0 : Int) ≤ ((0 : Nat) : Int) - 1 by omega), Bool.false_eq_true, if_false, Nat.not_lt_zero, Int.toNat_natCast]
      rw [whileO_done e]
    | succ i ih =>
      intro hi
      have e0 : ((i + 1 : Nat) : Int) - 1 = (i : Int) := by omega
      have hlen : i < ((List.range m).map (fun j : Nat => if j < i + 1 then (ceq ((j : Int) + 1) l : Int) else (cgt (j : Int) l : Int))).length := by simp; omega
      have hlen2 : i + 1 < ((List.range m).map (fun j : Nat => if j < i + 1 then (ceq ((j : Int) + 1) l : Int) else (cgt (j : Int) l : Int))).length := by simp; omega
      have v1 : ((List.range m).map (fun j : Nat => if j < i + 1 then (ceq ((j : Int) + 1) l : Int) else (cgt (j : Int) l : Int)))[i] = (ceq ((i : Int) + 1) l : Int) := by simp
      have v2 : ((List.range m).map (fun j : Nat => if j < i + 1 then (ceq ((j : Int) + 1) l : Int) else (cgt (j : Int) l : Int)))[i + 1] = (cgt ((i : Int) + 1) l : Int) := by simp
      have b1 := ceq_le ((i : Int) + 1) l
      have b2 := cgt_le ((i : Int) + 1) l
      have b3 := cgt_step (i : Int) l
      have ew : w64 ((ceq ((i : Int) + 1) l : Int) + (cgt ((i : Int) + 1) l : Int)) = (cgt (i : Int) l : Int) := by rw [w64_of (by omega) (by omega)]; omega
      have es := map_set m (fun j : Nat => if j < i + 1 then (ceq ((j : Int) + 1) l : Int) else (cgt (j : Int) l : Int)) (fun j : Nat => if j < i then (ceq ((j : Int) + 1) l : Int) else (cgt (j : Int) l : Int)) i (cgt (i : Int) l : Int) (fun j hj => by
        by_cases e : j = i
        · subst e; rw [if_neg (by omega), if_pos rfl]
        · rw [if_neg e]
          by_cases h2 : j < i
          · rw [if_pos h2, if_pos (by omega)]
          · rw [if_neg h2, if_neg (by omega)])
      have e : short_Heights_l2 ((List.range m).map (fun j : Nat => if j < i + 1 then (ceq ((j : Int) + 1) l : Int) else (cgt (j : Int) l : Int)), (i : Int)) = some (.inl ((List.range m).map (fun j : Nat => if j < i then (ceq ((j : Int) + 1) l : Int) else (cgt (j : Int) l : Int)), (i : Int) - 1)) := by
        unfold short_Heights_l2
        simp only [dT (show (0 : Int) ≤ (i : Int) by omega), if_true, idxO_nat hlen, v1, Option.bind_some, w64_succ (show i < 9223372036854775807 by omega), idxO_nat hlen2, v2, ew, setO_nat hlen, es, w64_of (show (-9223372036854775808 : Int) ≤ (i : Int) - 1 by omega) (by omega)]
      rw [e0, whileO_step e]
      exact ih (by omega)
  have e2 : w64 ((m : Int) - 2) = ((m - 1 : Nat) : Int) - 1 := by rw [w64_of (by omega) (by omega)]; omega
  have top := cgt_top (v := (m : Int)) (l := l) fun p hq => (hp p hq).2
  have est : ((List.range m).map fun j : Nat => (ceq ((j : Int) + 1) l : Int)) = (List.range m).map (fun j : Nat => if j < m - 1 then (ceq ((j : Int) + 1) l : Int) else (cgt (j : Int) l : Int)) := by
    refine map_cong fun j hj => ?_
    by_cases h2 : j < m - 1
    · rw [if_pos h2]
    · rw [if_neg h2]
      have := cgt_step (j : Int) l
      rw [show (j : Int) + 1 = (m : Int) by omega] at this ⊢
      omega
  simp only [Option.bind_some, nF h, Bool.false_eq_true, if_false, makeO_of (n := (m : Int)) (z := (0 : Int)) (k := m) rfl (by omega), l1, e2, est, mid (m - 1) (by omega), if_pos h]
theorem worked_eq (n : Int) (l : List Int) : F_short_Worked n l = some (if tchk n l = 0 then (sm (fun p => 2 * p) l, 0) else (0, tchk n l)) := by
  unfold F_short_Worked
  rw [tcheck_eq]
  by_cases h : tchk n l = 0
  case neg => simp only [Option.bind_some, nT h, if_true, if_neg h]
  obtain ⟨n0, n1, hl, hp⟩ := tchk_ok h
  have bd : ∀ k, 0 ≤ sm (fun p => 2 * p) (l.take k) ∧ sm (fun p => 2 * p) (l.take k) ≤ 400 * ((l.take k).length : Int) := fun k => sm_bd fun x hx => by have := hp x (List.mem_of_mem_take hx); omega
  have key : ∃ t, whileO (short_Worked_l1 l) (0, 0) = some t ∧ t = sm (fun p => 2 * p) l := by
    refine loop_st l.length (fun k s => s = sm (fun p => 2 * p) (l.take k)) _ rfl ?_ ?_
    · rintro k s hk rfl
      refine .inl ⟨_, ?_, rfl⟩
      have hq := hp _ (List.getElem_mem hk)
      have b := bd k
      rw [List.length_take] at b
      unfold short_Worked_l1
      simp only [dT (show (k : Int) < (l.length : Int) by omega), if_true, idxO_nat hk, Option.bind_some, w64_of (show (-9223372036854775808 : Int) ≤ 2 * l[k] by omega) (by omega), w64_succ (show k < 9223372036854775807 by omega)]
      rw [w64_of (by omega) (by omega), sm_take _ _ hk]
    · rintro s rfl
      refine ⟨_, ?_, rfl⟩
      unfold short_Worked_l1
      simp only [dF (show ¬ (l.length : Int) < (l.length : Int) by omega), Bool.false_eq_true, if_false, List.take_length]
  obtain ⟨t, h1, rfl⟩ := key
  simp only [Option.bind_some, nF h, Bool.false_eq_true, if_false, h1, if_pos h]
/-- lists that are alike -/
theorem ints_same_eq (a b : List Int) (hl : a.length ≤ 1000000) : ∃ t : Bool, (t = true ↔ a = b) ∧ F_raddleref36_Same a b = some t := by
  unfold F_raddleref36_Same
  by_cases h : a.length = b.length
  case neg =>
    exact ⟨false, ⟨fun h => (by cases h), fun e => absurd (congrArg List.length e) h⟩, by simp only [nT (show ¬ (a.length : Int) = (b.length : Int) by omega), if_true]⟩
  simp only [nF (show (a.length : Int) = (b.length : Int) by omega), Bool.false_eq_true, if_false]
  have key : ∃ t : Bool, (t = true ↔ a = b) ∧ whileO (raddleref36_Same_l1 a b) 0 = some (if t = true then .inr () else .inl false) := by
    refine loop_eq a b h _ _ (fun k hk => ?_) ?_
    · by_cases e : a[k] = b[k]'(by omega)
      · refine ⟨true, ⟨fun _ => e, fun _ => rfl⟩, ?_⟩
        unfold raddleref36_Same_l1
        simp only [dT (show (k : Int) < (a.length : Int) by omega), if_true, idxO_nat hk, idxO_nat (show k < b.length by omega), Option.bind_some, nF e, Bool.false_eq_true, if_false, w64_succ (show k < 9223372036854775807 by omega)]
      · refine ⟨false, ⟨fun h => (by cases h), fun h => absurd h e⟩, ?_⟩
        unfold raddleref36_Same_l1
        simp only [dT (show (k : Int) < (a.length : Int) by omega), if_true, idxO_nat hk, idxO_nat (show k < b.length by omega), Option.bind_some, nT e, Bool.false_eq_true, if_false]
    · unfold raddleref36_Same_l1
      simp only [dF (show ¬ (a.length : Int) < (a.length : Int) by omega), Bool.false_eq_true, if_false]
  obtain ⟨t, t1, t2⟩ := key
  refine ⟨t, t1, ?_⟩
  rw [t2]
  cases t <;> rfl
theorem tchk_app (n : Int) (a b : List Int) : tchk n (a ++ b) = tchk n (b ++ a) := by
  unfold tchk
  have e1 : (a ++ b).length = (b ++ a).length := by simp; omega
  have e2 : (∀ p, p ∈ a ++ b → 1 ≤ p ∧ p ≤ n) ↔ (∀ p, p ∈ b ++ a → 1 ≤ p ∧ p ≤ n) := by
    simp only [List.mem_append]
    exact ⟨fun h p hp => h p hp.symm, fun h p hp => h p hp.symm⟩
  rw [e1]
  by_cases h : ∀ p, p ∈ a ++ b → 1 ≤ p ∧ p ≤ n
  · rw [if_pos h, if_pos (e2.1 h)]
  · rw [if_neg h, if_neg (fun x => h (e2.2 x))]
theorem tchk_two {n : Int} {a b : List Int} (ha : tchk n a = 0) : (tchk n (a ++ b) = 0 → tchk n b = 0) ∧ (tchk n (a ++ b) ≠ 0 → tchk n b ≠ 0 ∨ tchk n (a ++ b) = 4) := by
  obtain ⟨n0, n1, hl, hp⟩ := tchk_ok ha
  constructor
  · intro h
    obtain ⟨_, _, hl2, hp2⟩ := tchk_ok h
    unfold tchk
    rw [if_pos ⟨n0, n1⟩, if_neg (by simp at hl2; omega), if_pos fun p hq => hp2 p (by simp [hq])]
  · intro h
    by_cases hb : tchk n b = 0
    · right
      obtain ⟨_, _, hl2, hp2⟩ := tchk_ok hb
      unfold tchk at h ⊢
      rw [if_pos ⟨n0, n1⟩] at h ⊢
      by_cases h5 : 50 < (a ++ b).length
      · rw [if_pos h5]
      · rw [if_neg h5, if_pos (fun p hq => by
          rcases List.mem_append.1 hq with hq | hq
          · exact hp p hq
          · exact hp2 p hq)] at h
        exact absurd rfl h
    · exact .inl hb

end Go.Proofs.YtoiehdlcfehmlaaDoor
namespace Go.Proofs.YtoiehdlcfehmlaaDoor
open Go.RowKit
set_option linter.unusedVariables false

noncomputable def F_stitch_Uses (p0 : (List api_Stitch)) : Option (Int × Int) :=
  Option.bind (F_stitch_All p0) fun r6 =>
  if r6 != 0 then
    some (0, r6)
  else
    Option.bind (F_stitch_sum p0) fun r12 =>
    some (r12.1, 0)
set_option maxHeartbeats 4000000 in
set_option maxRecDepth 100000 in
theorem c_stitch_Uses (E : Nat → Prop) (w0 : World) (p0 : (List api_Stitch)) (v0 : Value) (r : (Int × Int)) (h : F_stitch_Uses p0 = some r) (S : St0 E [] w0 w0 [] [fRep (rL r_api_Stitch) (v0) p0]) :
    Calls Tryd.prog 16 #[v0] w0 (Ret (X := Unit) E [] w0 (fun _ => .tuple #[.int .i64 r.1, .int .i64 r.2]) (fun _ => []) (fun _ => [])) := by
  unfold F_stitch_Uses at h
  obtain ⟨ad1, cp2, _, rfl, _⟩ := S.know (i := 0) (e := fRep (rL r_api_Stitch) (v0) p0) rfl
  refine sEnter (args := [.slice ad1 p0.length cp2]) 18 Tryd.func16 rfl rfl (by simp) S (fun a S => ?_)
  refine sSeq (fun K3 hK3 => ?_)
  refine sRegion ?_
  refine sMove (iv 0) S (wN rfl) (.inr rfl) rfl rfl (lb rfl) fun a S => ?_
  refine sMove (iv 0) S (wN rfl) (.inr rfl) rfl rfl (lb rfl) fun a S => ?_
  refine leafL (leafT (hK3 _ _ ?_))
  refine sSeq (fun K4 hK4 => ?_)
  refine sSeq (fun K5 hK5 => ?_)
  refine sRegion ?_
  refine sMove (.slice ad1 p0.length cp2) S (wN rfl) (.inl rfl) rfl rfl (lb rfl) fun a S => ?_
  obtain ⟨r6, hx7, h⟩ := bindSome h
  have S1 := S.mem
  refine sCallQ (X := Unit) (f := 25) (vs := [.slice ad1 p0.length cp2]) (val := fun _ => iv r6) S (wN rfl) rfl callee25 rfl (S1.quiet [0] rfl) (fun E1 w1 S1 => c_stitch_All E1 w1 p0 (.slice ad1 p0.length cp2) r6 hx7 S1) rfl (lb rfl) fun _ a w S => ?_
  refine sMove (iv r6) S (wN rfl) (.inr rfl) rfl rfl (lb rfl) fun a S => ?_
  refine leafL (leafT (hK5 _ _ ?_))
  refine sSeq (fun K8 hK8 => ?_)
  refine sRegion ?_
  refine sMove (iv r6) S (wN rfl) (.inl rfl) rfl rfl (lb rfl) fun a S => ?_
  refine sBin (.bool (r6 != 0)) S (wN rfl) rfl rfl rfl (bNe _ _ _ _ .i64 r6 0) rfl (lb rfl) fun a S => ?_
  refine leafL (leafT (hK8 _ _ ?_))
  rcases iteSome h with ⟨hc9, h⟩ | ⟨hc9, h⟩
  · refine sCondT S rfl hc9 ?_
    refine sSeq (fun K10 hK10 => ?_)
    refine sRegion ?_
    refine sMove (iv r6) S (wN rfl) (.inl rfl) rfl rfl (lb rfl) fun a S => ?_
    refine sMove (iv 0) S (wN rfl) (.inr rfl) rfl rfl (lb rfl) fun a S => ?_
    refine sMove (iv r6) S (wN rfl) (.inr rfl) rfl rfl (lb rfl) fun a S => ?_
    refine leafL (leafT (hK10 _ _ ?_))
    obtain rfl := Option.some.inj h
    exact wp_ret (rThen (sRet (.tuple #[iv 0, iv r6]) S (rsl2 rfl (rvT (t := 2) (v := iv 0) S rfl) (rvT (t := 3) (v := iv r6) S rfl)) ⟨(), rfl, S.mem.sel [] [] (by decide) rfl rfl⟩))
  refine sCondF S rfl hc9 ?_
  refine wp_skip (leafT (hK4 _ _ ?_))
  refine sSeq (fun K11 hK11 => ?_)
  refine sRegion ?_
  refine sMove (.slice ad1 p0.length cp2) S (wN rfl) (.inl rfl) rfl rfl (lb rfl) fun a S => ?_
  obtain ⟨r12, hx13, h⟩ := bindSome h
  have S1 := S.mem
  refine sCallQ (X := Unit) (f := 26) (vs := [.slice ad1 p0.length cp2]) (val := fun _ => .tuple #[iv r12.1, iv r12.2]) S (wN rfl) rfl callee26 rfl (S1.quiet [0] rfl) (fun E1 w1 S1 => c_stitch_sum E1 w1 p0 (.slice ad1 p0.length cp2) r12 hx13 S1) rfl (lb rfl) fun _ a w S => ?_
  refine sMove (.tuple #[iv r12.1, iv r12.2]) S (wN rfl) (.inl rfl) rfl rfl (lb rfl) fun a S => ?_
  refine sExtract (vs := [iv r12.1, iv r12.2]) (iv r12.1) S (wN rfl) rfl rfl rfl rfl (lb rfl) fun a S => ?_
  refine sExtract (vs := [iv r12.1, iv r12.2]) (iv r12.2) S (wN rfl) rfl rfl rfl rfl (lb rfl) fun a S => ?_
  refine sMove (iv r12.1) S (wN rfl) (.inr rfl) rfl rfl (lb rfl) fun a S => ?_
  refine sMove (iv r12.2) S (wN rfl) (.inr rfl) rfl rfl (lb rfl) fun a S => ?_
  refine leafL (leafT (hK11 _ _ ?_))
  refine sSeq (fun K14 hK14 => ?_)
  refine sRegion ?_
  refine sMove (iv r12.1) S (wN rfl) (.inl rfl) rfl rfl (lb rfl) fun a S => ?_
  refine sMove (iv r12.1) S (wN rfl) (.inr rfl) rfl rfl (lb rfl) fun a S => ?_
  refine sMove (iv 0) S (wN rfl) (.inr rfl) rfl rfl (lb rfl) fun a S => ?_
  refine leafL (leafT (hK14 _ _ ?_))
  obtain rfl := Option.some.inj h
  exact wp_ret (sRet (.tuple #[iv r12.1, iv 0]) S (rsl2 rfl (rvT (t := 2) (v := iv r12.1) S rfl) (rvT (t := 3) (v := iv 0) S rfl)) ⟨(), rfl, S.mem.sel [] [] (by decide) rfl rfl⟩)

end Go.Proofs.YtoiehdlcfehmlaaDoor
namespace Go.Proofs.YtoiehdlcfehmlaaDoor
open Go.RowKit
set_option linter.unusedVariables false

noncomputable def F_stitch_Makes (p0 : (List api_Stitch)) : Option (Int × Int) :=
  Option.bind (F_stitch_All p0) fun r6 =>
  if r6 != 0 then
    some (0, r6)
  else
    Option.bind (F_stitch_sum p0) fun r12 =>
    some (r12.2, 0)
set_option maxHeartbeats 4000000 in
set_option maxRecDepth 100000 in
theorem c_stitch_Makes (E : Nat → Prop) (w0 : World) (p0 : (List api_Stitch)) (v0 : Value) (r : (Int × Int)) (h : F_stitch_Makes p0 = some r) (S : St0 E [] w0 w0 [] [fRep (rL r_api_Stitch) (v0) p0]) :
    Calls Tryd.prog 17 #[v0] w0 (Ret (X := Unit) E [] w0 (fun _ => .tuple #[.int .i64 r.1, .int .i64 r.2]) (fun _ => []) (fun _ => [])) := by
  unfold F_stitch_Makes at h
  obtain ⟨ad1, cp2, _, rfl, _⟩ := S.know (i := 0) (e := fRep (rL r_api_Stitch) (v0) p0) rfl
  refine sEnter (args := [.slice ad1 p0.length cp2]) 18 Tryd.func17 rfl rfl (by simp) S (fun a S => ?_)
  refine sSeq (fun K3 hK3 => ?_)
  refine sRegion ?_
  refine sMove (iv 0) S (wN rfl) (.inr rfl) rfl rfl (lb rfl) fun a S => ?_
  refine sMove (iv 0) S (wN rfl) (.inr rfl) rfl rfl (lb rfl) fun a S => ?_
  refine leafL (leafT (hK3 _ _ ?_))
  refine sSeq (fun K4 hK4 => ?_)
  refine sSeq (fun K5 hK5 => ?_)
  refine sRegion ?_
  refine sMove (.slice ad1 p0.length cp2) S (wN rfl) (.inl rfl) rfl rfl (lb rfl) fun a S => ?_
  obtain ⟨r6, hx7, h⟩ := bindSome h
  have S1 := S.mem
  refine sCallQ (X := Unit) (f := 25) (vs := [.slice ad1 p0.length cp2]) (val := fun _ => iv r6) S (wN rfl) rfl callee25 rfl (S1.quiet [0] rfl) (fun E1 w1 S1 => c_stitch_All E1 w1 p0 (.slice ad1 p0.length cp2) r6 hx7 S1) rfl (lb rfl) fun _ a w S => ?_
  refine sMove (iv r6) S (wN rfl) (.inr rfl) rfl rfl (lb rfl) fun a S => ?_
  refine leafL (leafT (hK5 _ _ ?_))
  refine sSeq (fun K8 hK8 => ?_)
  refine sRegion ?_
  refine sMove (iv r6) S (wN rfl) (.inl rfl) rfl rfl (lb rfl) fun a S => ?_
  refine sBin (.bool (r6 != 0)) S (wN rfl) rfl rfl rfl (bNe _ _ _ _ .i64 r6 0) rfl (lb rfl) fun a S => ?_
  refine leafL (leafT (hK8 _ _ ?_))
  rcases iteSome h with ⟨hc9, h⟩ | ⟨hc9, h⟩
  · refine sCondT S rfl hc9 ?_
    refine sSeq (fun K10 hK10 => ?_)
    refine sRegion ?_
    refine sMove (iv r6) S (wN rfl) (.inl rfl) rfl rfl (lb rfl) fun a S => ?_
    refine sMove (iv 0) S (wN rfl) (.inr rfl) rfl rfl (lb rfl) fun a S => ?_
    refine sMove (iv r6) S (wN rfl) (.inr rfl) rfl rfl (lb rfl) fun a S => ?_
    refine leafL (leafT (hK10 _ _ ?_))
    obtain rfl := Option.some.inj h
    exact wp_ret (rThen (sRet (.tuple #[iv 0, iv r6]) S (rsl2 rfl (rvT (t := 2) (v := iv 0) S rfl) (rvT (t := 3) (v := iv r6) S rfl)) ⟨(), rfl, S.mem.sel [] [] (by decide) rfl rfl⟩))
  refine sCondF S rfl hc9 ?_
  refine wp_skip (leafT (hK4 _ _ ?_))
  refine sSeq (fun K11 hK11 => ?_)
  refine sRegion ?_
  refine sMove (.slice ad1 p0.length cp2) S (wN rfl) (.inl rfl) rfl rfl (lb rfl) fun a S => ?_
  obtain ⟨r12, hx13, h⟩ := bindSome h
  have S1 := S.mem
  refine sCallQ (X := Unit) (f := 26) (vs := [.slice ad1 p0.length cp2]) (val := fun _ => .tuple #[iv r12.1, iv r12.2]) S (wN rfl) rfl callee26 rfl (S1.quiet [0] rfl) (fun E1 w1 S1 => c_stitch_sum E1 w1 p0 (.slice ad1 p0.length cp2) r12 hx13 S1) rfl (lb rfl) fun _ a w S => ?_
  refine sMove (.tuple #[iv r12.1, iv r12.2]) S (wN rfl) (.inl rfl) rfl rfl (lb rfl) fun a S => ?_
  refine sExtract (vs := [iv r12.1, iv r12.2]) (iv r12.1) S (wN rfl) rfl rfl rfl rfl (lb rfl) fun a S => ?_
  refine sExtract (vs := [iv r12.1, iv r12.2]) (iv r12.2) S (wN rfl) rfl rfl rfl rfl (lb rfl) fun a S => ?_
  refine sMove (iv r12.1) S (wN rfl) (.inr rfl) rfl rfl (lb rfl) fun a S => ?_
  refine sMove (iv r12.2) S (wN rfl) (.inr rfl) rfl rfl (lb rfl) fun a S => ?_
  refine leafL (leafT (hK11 _ _ ?_))
  refine sSeq (fun K14 hK14 => ?_)
  refine sRegion ?_
  refine sMove (iv r12.2) S (wN rfl) (.inl rfl) rfl rfl (lb rfl) fun a S => ?_
  refine sMove (iv r12.2) S (wN rfl) (.inr rfl) rfl rfl (lb rfl) fun a S => ?_
  refine sMove (iv 0) S (wN rfl) (.inr rfl) rfl rfl (lb rfl) fun a S => ?_
  refine leafL (leafT (hK14 _ _ ?_))
  obtain rfl := Option.some.inj h
  exact wp_ret (sRet (.tuple #[iv r12.2, iv 0]) S (rsl2 rfl (rvT (t := 2) (v := iv r12.2) S rfl) (rvT (t := 3) (v := iv 0) S rfl)) ⟨(), rfl, S.mem.sel [] [] (by decide) rfl rfl⟩)

end Go.Proofs.YtoiehdlcfehmlaaDoor
namespace Go.Proofs.YtoiehdlcfehmlaaDoor
open Go.RowKit
set_option linter.unusedVariables false

theorem uses_eq {l : List api_Stitch} (hw : ∀ p, p ∈ l → wfS p) : F_stitch_Uses l = some (if allS l = 0 then (sm usedS l, 0) else (0, allS l)) := by
  unfold F_stitch_Uses
  rw [all_eq hw, Option.bind_some]
  by_cases h : allS l = 0
  · simp only [nF h, Bool.false_eq_true, if_false, sum_eq (allS_ok h).2.1 (show l.length ≤ 100000 by have := (allS_ok h).1; omega), Option.bind_some, if_pos h]
  · simp only [nT h, if_true, if_neg h]
theorem makes_eq {l : List api_Stitch} (hw : ∀ p, p ∈ l → wfS p) : F_stitch_Makes l = some (if allS l = 0 then (sm madeS l, 0) else (0, allS l)) := by
  unfold F_stitch_Makes
  rw [all_eq hw, Option.bind_some]
  by_cases h : allS l = 0
  · simp only [nF h, Bool.false_eq_true, if_false, sum_eq (allS_ok h).2.1 (show l.length ≤ 100000 by have := (allS_ok h).1; omega), Option.bind_some, if_pos h]
  · simp only [nT h, if_true, if_neg h]

end Go.Proofs.YtoiehdlcfehmlaaDoor
namespace Go.Proofs.YtoiehdlcfehmlaaDoor
open Go.RowKit
set_option linter.unusedVariables false

theorem oth_ok {p : api_Stitch} (h : okS p) : okS (othS p) ∧ usedS (othS p) = usedS p ∧ madeS (othS p) = madeS p := by
  have hb := okS_bd h
  have hk : (othS p).Kind = p.Kind := rfl
  rcases kinds (x := p.Kind) (by omega) with k | k | k | k | k | k | k | k | k | k | k | k
  · omega
  · refine ⟨?_, ?_, ?_⟩ <;> simp [okS, usedS, madeS, othS, k] at h ⊢ <;> omega
  · refine ⟨?_, ?_, ?_⟩ <;> simp [okS, usedS, madeS, othS, k] at h ⊢ <;> exact h
  · refine ⟨?_, ?_, ?_⟩ <;> simp [okS, usedS, madeS, othS, k] at h ⊢ <;> omega
  · refine ⟨?_, ?_, ?_⟩ <;> simp [okS, usedS, madeS, othS, k] at h ⊢ <;> omega
  · refine ⟨?_, ?_, ?_⟩ <;> simp [okS, usedS, madeS, othS, k] at h ⊢ <;> omega
  · refine ⟨?_, ?_, ?_⟩ <;> simp [okS, usedS, madeS, othS, k] at h ⊢ <;> omega
  · refine ⟨?_, ?_, ?_⟩ <;> simp [okS, usedS, madeS, othS, k] at h ⊢ <;> omega
  · refine ⟨?_, ?_, ?_⟩ <;> simp [okS, usedS, madeS, othS, k] at h ⊢ <;> omega
  · refine ⟨?_, ?_, ?_⟩ <;> simp [okS, usedS, madeS, othS, k] at h ⊢ <;> first | exact h | omega
  · refine ⟨?_, ?_, ?_⟩ <;> simp [okS, usedS, madeS, othS, k] at h ⊢ <;> omega
  · omega
theorem sm_reverse {α : Type} (f : α → Int) (l : List α) : sm f l.reverse = sm f l := by
  induction l with
  | nil => rfl
  | cons x l ih => rw [List.reverse_cons, sm_append, ih]; simp only [sm]; omega
theorem sm_oth {l : List api_Stitch} (h : allOk l) : sm usedS (l.map othS) = sm usedS l ∧ sm madeS (l.map othS) = sm madeS l := by
  induction l with
  | nil => exact ⟨rfl, rfl⟩
  | cons x l ih =>
    have hx := oth_ok (h x (by simp))
    have ih := ih fun y hy => h y (by simp [hy])
    simp only [List.map_cons, sm, hx.2.1, hx.2.2, ih.1, ih.2, and_self]
theorem turned_ok {l : List api_Stitch} (h : allS l = 0) : allS ((l.map othS).reverse) = 0 ∧ sm usedS ((l.map othS).reverse) = sm usedS l ∧ sm madeS ((l.map othS).reverse) = sm madeS l := by
  obtain ⟨h1, h2, h3, h4⟩ := allS_ok h
  have hs := sm_oth h2
  have hok : allOk ((l.map othS).reverse) := by
    intro p hp
    rw [List.mem_reverse] at hp
    obtain ⟨q, hq, rfl⟩ := List.mem_map.1 hp
    exact (oth_ok (h2 q hq)).1
  rw [sm_reverse, sm_reverse, hs.1, hs.2]
  refine ⟨?_, rfl, rfl⟩
  unfold allS
  rw [sm_reverse, sm_reverse, hs.1, hs.2, if_neg (by simp; omega), if_pos hok, if_neg (by omega)]
theorem oth_wf {l : List api_Stitch} (h : ∀ p, p ∈ l → wfS p) : ∀ p, p ∈ (l.map othS).reverse → wfS p := by
  intro p hp
  rw [List.mem_reverse] at hp
  obtain ⟨q, hq, rfl⟩ := List.mem_map.1 hp
  exact h q hq

end Go.Proofs.YtoiehdlcfehmlaaDoor
namespace Go.Proofs.YtoiehdlcfehmlaaDoor
open Go.RowKit
set_option linter.unusedVariables false

def anc_raddlelaw38_ShortKnits_0 : List (List Nat) := [[], [], [0, 1], [0, 1, 2], [], [], [4, 5], [4, 5, 6], [4, 5, 6, 7], [0, 1, 2, 3, 4, 5, 6, 7, 8]]
noncomputable def raddlelaw38_ShortKnits_l1 (p0 : Int) (x88 : api_Row) : (List Int × Int) → Option ((List Int × Int) ⊕ List Int) := fun s0 => match s0 with
  | (s135, s138) =>
    if decide (s138 < p0) then
      Option.bind (α := List Int) (
        Option.bind (α := Int) (
          if x88.Back then
            some (w64 ((w64 (p0 - 1)) - s138))
          else
            some s138) fun o154 =>
        Option.bind (idxO x88.Cells s138) fun x172 =>
        if x172.Kind == 1 then
          Option.bind (idxO s135 o154) fun x180 =>
          Option.bind (setO s135 o154 (w64 (x180 + 1))) fun l188 =>
          some l188
        else
          some s135) fun o148 =>
      some (.inl (o148, w64 (s138 + 1)))
    else
      some (.inr s135)
noncomputable def raddlelaw38_ShortKnits_l2 (r16 : (api_Chart × Int)) (p0 : Int) : (List Int × Int) → Option ((List Int × Int) ⊕ (Bool ⊕ (List Int))) := fun s0 => match s0 with
  | (s69, s72) =>
    if decide (s72 < (r16.1.Rows.length : Int)) then
      Option.bind (α := List Int ⊕ Bool) (
        Option.bind (idxO r16.1.Rows s72) fun x88 =>
        Option.bind (F_stitch_Uses x88.Cells) fun r97 =>
        Option.bind (F_stitch_Makes x88.Cells) fun r107 =>
        Option.bind (α := Bool) (
          if r97.2 != 0 then
            some true
          else
            if r107.2 != 0 then
              some true
            else
              if r97.1 != p0 then
                some true
              else
                if r107.1 != p0 then
                  some true
                else
                  if (x88.Cells.length : Int) != p0 then
                    some true
                  else
                    Option.bind (remI s72 2) fun z130 =>
                    some (x88.Back != (z130 == 1))) fun o110 =>
        if o110 then
          some (.inr false)
        else
          Option.bind (whileO (raddlelaw38_ShortKnits_l1 p0 x88) (s69, 0)) fun e142 =>
            some (.inl e142)) fun z0 => match z0 with
        | .inl o82 =>
          some (.inl (o82, w64 (s72 + 1)))
        | .inr z =>
          some (.inr (.inl z))
    else
      some (.inr (.inr s69))
noncomputable def raddlelaw38_ShortKnits_l3 (p0 : Int) (o63 : List Int) (r25 : ((List Int) × Int)) : Int → Option (Int ⊕ (Bool ⊕ Unit)) := fun s0 => match s0 with
  | s193 =>
    if decide (s193 < p0) then
      Option.bind (idxO o63 s193) fun x202 =>
      Option.bind (idxO r25.1 s193) fun x207 =>
      if x202 != (w64 (2 * x207)) then
        some (.inr (.inl false))
      else
        some (.inl (w64 (s193 + 1)))
    else
      some (.inr (.inr ()))
noncomputable def F_raddlelaw38_ShortKnits (p0 : Int) (p1 : (List Int)) : Option Bool :=
  Option.bind (F_raddlelaw38_alive) fun r5 =>
  Option.bind (α := Bool) (
    if decide (60 < p0) then
      some true
    else
      if decide (60 < (p1.length : Int)) then
        some true
      else
        some (!r5)) fun o8 =>
  if o8 then
    some r5
  else
    Option.bind (F_short_Chart p0 p1) fun r16 =>
    Option.bind (F_short_Heights p0 p1) fun r25 =>
    Option.bind (F_short_Read r16.1) fun r31 =>
    Option.bind (α := Bool) (
      if r16.2 != 0 then
        some true
      else
        some (r25.2 != 0)) fun o37 =>
    if o37 then
      Option.bind (α := Bool) (
        if r5 then
          some (r16.2 == r25.2)
        else
          some false) fun o42 =>
      some o42
    else
      Option.bind (α := Bool) (
        if r31.2.2 != 0 then
          some true
        else
          if r31.1 != p0 then
            some true
          else
            Option.bind (F_raddleref36_Same r31.2.1 p1) fun r52 =>
            if !r52 then
              some true
            else
              if (r16.1.Rows.length : Int) != (w64 (2 * (p1.length : Int))) then
                some true
              else
                some ((r25.1.length : Int) != p0)) fun o47 =>
      if o47 then
        some false
      else
        Option.bind (makeO p0 (0 : Int)) fun m61 =>
        Option.bind (α := List Int ⊕ Bool) (
          Option.bind (whileO (raddlelaw38_ShortKnits_l2 r16 p0) (m61, 0)) fun z0 => match z0 with
            | .inl z =>
              some (.inr z)
            | .inr e76 =>
              some (.inl e76)) fun z0 => match z0 with
          | .inl o63 =>
            Option.bind (α := Unit ⊕ Bool) (
              Option.bind (whileO (raddlelaw38_ShortKnits_l3 p0 o63 r25) 0) fun z0 => match z0 with
                | .inl z =>
                  some (.inr z)
                | .inr _ =>
                  some (.inl ())) fun z0 => match z0 with
              | .inl _ =>
                some r5
              | .inr z =>
                some z
          | .inr z =>
            some z
set_option maxHeartbeats 4000000 in
set_option maxRecDepth 100000 in
theorem c_raddlelaw38_ShortKnits (E : Nat → Prop) (w0 : World) (p0 : Int) (p1 : (List Int)) (v1 : Value) (r : Bool) (h : F_raddlelaw38_ShortKnits p0 p1 = some r) (S : St0 E [] w0 w0 [] [fRep (rL (rI .i64)) (v1) p1]) :
    Calls Tryd.prog 7 #[iv p0, v1] w0 (Ret (X := Unit) E [] w0 (fun _ => .bool r) (fun _ => []) (fun _ => [])) := by
  unfold F_raddlelaw38_ShortKnits at h
  obtain ⟨ad1, cp2, _, rfl, _⟩ := S.know (i := 0) (e := fRep (rL (rI .i64)) (v1) p1) rfl
  refine sEnter (args := [iv p0, .slice ad1 p1.length cp2]) 210 Tryd.func7 rfl rfl (by simp) S (fun a S => ?_)
  refine sSeq (fun K3 hK3 => ?_)
  refine sRegion ?_
  refine sMove (.bool false) S (wN rfl) (.inr rfl) rfl rfl (lb rfl) fun a S => ?_
  refine leafL (leafT (hK3 _ _ ?_))
  refine sSeq (fun K4 hK4 => ?_)
  refine sRegion ?_
  obtain ⟨r5, hx6, h⟩ := bindSome h
  have S1 := S.mem
  refine sCallQ (X := Unit) (f := 15) (vs := []) (val := fun _ => .bool r5) S (wN rfl) rfl callee15 rfl (S1.quiet [] rfl) (fun E1 w1 S1 => c_raddlelaw38_alive E1 w1  r5 hx6 S1) rfl (lb rfl) fun _ a w S => ?_
  refine sMove (.bool r5) S (wN rfl) (.inr rfl) rfl rfl (lb rfl) fun a S => ?_
  refine leafL (leafT (hK4 _ _ ?_))
  refine sSeq (fun K7 hK7 => ?_)
  obtain ⟨t9, h, g10⟩ := bindSome h
  refine sCut (fun a w => ∃ o8, o8 = t9 ∧ St [] E [] w0 210 a w [(0, iv p0), (1, .slice ad1 p1.length cp2), (5, .bool r5), (33, .bool o8)] [] [fRep (rL (rI .i64)) (.slice ad1 p1.length cp2) p1]) ?_ (fun a w hI => ?_)
  · refine sRegion ?_
    refine sMove (iv p0) S (wN rfl) (.inl rfl) rfl rfl (lb rfl) fun a S => ?_
    refine sBin (.bool (decide (60 < p0))) S (wN rfl) rfl rfl rfl (bGt _ _ _ _ .i64 p0 60) rfl (lb rfl) fun a S => ?_
    refine sMove (.bool (decide (60 < p0))) S (wN rfl) (.inl rfl) rfl rfl (lb rfl) fun a S => ?_
    rcases iteSome h with ⟨hc11, h⟩ | ⟨hc11, h⟩
    · refine sSkip 2 false 25 26 S rfl rfl rfl hc11 rfl (lb rfl) fun a S => ?_
      refine sSkip 2 false 25 27 S rfl rfl rfl hc11 rfl (lb rfl) fun a S => ?_
      refine sSkip 2 false 25 28 S rfl rfl rfl hc11 rfl (lb rfl) fun a S => ?_
      refine sPickT (.bool true) S (wN rfl) rfl rfl hc11 rfl rfl (lb rfl) fun a S => ?_
      refine sMove (.bool true) S (wN rfl) (.inl rfl) rfl rfl (lb rfl) fun a S => ?_
      refine sSkip 7 false 30 31 S rfl rfl rfl rfl rfl (lb rfl) fun a S => ?_
      refine sSkip 7 false 30 32 S rfl rfl rfl rfl rfl (lb rfl) fun a S => ?_
      refine sPickT (.bool true) S (wN rfl) rfl rfl rfl rfl rfl (lb rfl) fun a S => ?_
      exact leafL (leafT (⟨true, Option.some.inj h, S.fix [] [0] (by decide) rfl rfl rfl⟩))
    refine sMove (.slice ad1 p1.length cp2) S (wG 2 false 25 rfl rfl rfl hc11) (.inl rfl) rfl rfl (lb rfl) fun a S => ?_
    refine sLen (ad := ad1) (m := p1.length) (c := cp2) S (wG 2 false 25 rfl rfl rfl hc11) rfl Tryd.underlying22 rfl rfl (lb rfl) fun a S => ?_
    refine sBin (.bool (decide (60 < (p1.length : Int)))) S (wG 2 false 25 rfl rfl rfl hc11) rfl rfl rfl (bGt _ _ _ _ .i64 (p1.length : Int) 60) rfl (lb rfl) fun a S => ?_
    refine sPickF (.bool (decide (60 < (p1.length : Int)))) S (wN rfl) rfl rfl hc11 rfl rfl (lb rfl) fun a S => ?_
    refine sMove (.bool (decide (60 < (p1.length : Int)))) S (wN rfl) (.inl rfl) rfl rfl (lb rfl) fun a S => ?_
    rcases iteSome h with ⟨hc12, h⟩ | ⟨hc12, h⟩
    · refine sSkip 7 false 30 31 S rfl rfl rfl hc12 rfl (lb rfl) fun a S => ?_
      refine sSkip 7 false 30 32 S rfl rfl rfl hc12 rfl (lb rfl) fun a S => ?_
      refine sPickT (.bool true) S (wN rfl) rfl rfl hc12 rfl rfl (lb rfl) fun a S => ?_
      exact leafL (leafT (⟨true, Option.some.inj h, S.fix [] [0] (by decide) rfl rfl rfl⟩))
    refine sMove (.bool r5) S (wG 7 false 30 rfl rfl rfl hc12) (.inl rfl) rfl rfl (lb rfl) fun a S => ?_
    refine sNot (b := r5) S (wG 7 false 30 rfl rfl rfl hc12) rfl rfl rfl (lb rfl) fun a S => ?_
    refine sPickF (.bool (!r5)) S (wN rfl) rfl rfl hc12 rfl rfl (lb rfl) fun a S => ?_
    exact leafL (leafT (⟨!r5, Option.some.inj h, S.fix [] [0] (by decide) rfl rfl rfl⟩))
  obtain ⟨o8, rfl, S⟩ := hI
  have h := g10
  clear g10
  try dsimp only at h
  rcases iteSome h with ⟨hc13, h⟩ | ⟨hc13, h⟩
  · refine sCondT S rfl hc13 ?_
    refine sSeq (fun K14 hK14 => ?_)
    refine sRegion ?_
    refine sMove (.bool r5) S (wN rfl) (.inl rfl) rfl rfl (lb rfl) fun a S => ?_
    refine sMove (.bool r5) S (wN rfl) (.inr rfl) rfl rfl (lb rfl) fun a S => ?_
    refine leafL (leafT (hK14 _ _ ?_))
    obtain rfl := Option.some.inj h
    exact wp_ret (rThen (sRet (.bool r5) S (rsl1 rfl (rvT (t := 4) (v := .bool r5) S rfl)) ⟨(), rfl, S.mem.sel [] [] (by decide) rfl rfl⟩))
  refine sCondF S rfl hc13 ?_
  refine wp_skip (leafT (hK7 _ _ ?_))
  refine sSeq (fun K15 hK15 => ?_)
  refine sRegion ?_
  refine sMove (iv p0) S (wN rfl) (.inl rfl) rfl rfl (lb rfl) fun a S => ?_
  refine sMove (.slice ad1 p1.length cp2) S (wN rfl) (.inl rfl) rfl rfl (lb rfl) fun a S => ?_
  obtain ⟨r16, hx17, h⟩ := bindSome h
  refine sCall (X := Value) (f := 12) (vs := [iv p0, .slice ad1 p1.length cp2]) (val := c_short_Chart_val r16) (B' := fun _ => []) (D' := c_short_Chart_D r16) [] [] [fRep (rL (rI .i64)) (.slice ad1 p1.length cp2) p1] [] [0] S (wN rfl) rfl callee12 rfl (by decide) rfl rfl (fun E1 w1 S1 => c_short_Chart E1 w1 p0 p1 (.slice ad1 p1.length cp2) r16 hx17 S1) rfl (lb rfl) fun u18 a w S => ?_
  obtain ⟨u19, rfl, hu20⟩ := S.mem.know (i := 0) (e := fRep r_api_Chart (u18) r16.1) rfl
  have S := S.learn (fRep (rL r_api_Row) u19 r16.1.Rows) hu20
  obtain ⟨ad21, cp22, _, rfl, _⟩ := hu20
  refine sMove (.tuple #[.agg #[iv r16.1.Start, .slice ad21 r16.1.Rows.length cp22], iv r16.2]) S (wN rfl) (.inl rfl) rfl rfl (lb rfl) fun a S => ?_
  refine sExtract (vs := [.agg #[iv r16.1.Start, .slice ad21 r16.1.Rows.length cp22], iv r16.2]) (.agg #[iv r16.1.Start, .slice ad21 r16.1.Rows.length cp22]) S (wN rfl) rfl rfl rfl rfl (lb rfl) fun a S => ?_
  refine sExtract (vs := [.agg #[iv r16.1.Start, .slice ad21 r16.1.Rows.length cp22], iv r16.2]) (iv r16.2) S (wN rfl) rfl rfl rfl rfl (lb rfl) fun a S => ?_
  refine sAlloc (.agg #[iv 0, .slice none 0 0]) S (wN rfl) rfl rfl [iv 0, .slice none 0 0] rfl rfl (lb rfl) fun a b23 w S => ?_
  refine sStore (p := b23) (off := 0) (T := 32) (vs := [iv 0, .slice none 0 0]) (v := .agg #[iv r16.1.Start, .slice ad21 r16.1.Rows.length cp22]) 0 [iv r16.1.Start, .slice ad21 r16.1.Rows.length cp22] S (wN rfl) rfl rfl rfl rfl rfl rfl rfl (by simp) rfl fun a w S => ?_
  refine sMove (iv r16.2) S (wN rfl) (.inr rfl) rfl rfl (lb rfl) fun a S => ?_
  refine leafL (leafT (hK15 _ _ ?_))
  refine sSeq (fun K24 hK24 => ?_)
  refine sRegion ?_
  refine sMove (iv p0) S (wN rfl) (.inl rfl) rfl rfl (lb rfl) fun a S => ?_
  refine sMove (.slice ad1 p1.length cp2) S (wN rfl) (.inl rfl) rfl rfl (lb rfl) fun a S => ?_
  obtain ⟨r25, hx26, h⟩ := bindSome h
  refine sCall (X := Value) (f := 9) (vs := [iv p0, .slice ad1 p1.length cp2]) (val := c_short_Heights_val r25) (B' := fun _ => []) (D' := c_short_Heights_D r25) [] [eBox b23 32 [iv r16.1.Start, .slice ad21 r16.1.Rows.length cp22]] [fRep (rL (rI .i64)) (.slice ad1 p1.length cp2) p1] [0] [2] S (wN rfl) rfl callee9 rfl (by decide) rfl rfl (fun E1 w1 S1 => c_short_Heights E1 w1 p0 p1 (.slice ad1 p1.length cp2) r25 hx26 S1) rfl (lb rfl) fun u27 a w S => ?_
  obtain ⟨ad28, cp29, _, rfl, _⟩ := S.mem.know (i := 0) (e := fRep (rL (rI .i64)) (u27) r25.1) rfl
  refine sMove (.tuple #[.slice ad28 r25.1.length cp29, iv r25.2]) S (wN rfl) (.inl rfl) rfl rfl (lb rfl) fun a S => ?_
  refine sExtract (vs := [.slice ad28 r25.1.length cp29, iv r25.2]) (.slice ad28 r25.1.length cp29) S (wN rfl) rfl rfl rfl rfl (lb rfl) fun a S => ?_
  refine sExtract (vs := [.slice ad28 r25.1.length cp29, iv r25.2]) (iv r25.2) S (wN rfl) rfl rfl rfl rfl (lb rfl) fun a S => ?_
  refine sMove (.slice ad28 r25.1.length cp29) S (wN rfl) (.inr rfl) rfl rfl (lb rfl) fun a S => ?_
  refine sMove (iv r25.2) S (wN rfl) (.inr rfl) rfl rfl (lb rfl) fun a S => ?_
  refine leafL (leafT (hK24 _ _ ?_))
  refine sSeq (fun K30 hK30 => ?_)
  refine sRegion ?_
  refine sLoadN (p := b23) (off := 0) (T := 32) (vs := [iv r16.1.Start, .slice ad21 r16.1.Rows.length cp22]) 0 [iv r16.1.Start, .slice ad21 r16.1.Rows.length cp22] S (wN rfl) rfl rfl rfl rfl rfl rfl rfl (lb rfl) fun a S => ?_
  obtain ⟨r31, hx32, h⟩ := bindSome h
  refine sCall (X := Value) (f := 13) (vs := [.agg #[iv r16.1.Start, .slice ad21 r16.1.Rows.length cp22]]) (val := c_short_Read_val r31) (B' := fun _ => []) (D' := c_short_Read_D r31) [] [eBox b23 32 [iv r16.1.Start, .slice ad21 r16.1.Rows.length cp22]] [fRep r_api_Chart (.agg #[iv r16.1.Start, .slice ad21 r16.1.Rows.length cp22]) r16.1] [0] [2] S (wN rfl) rfl callee13 rfl (by decide) rfl rfl (fun E1 w1 S1 => c_short_Read E1 w1 r16.1 (.agg #[iv r16.1.Start, .slice ad21 r16.1.Rows.length cp22]) r31 hx32 S1) rfl (lb rfl) fun u33 a w S => ?_
  obtain ⟨ad34, cp35, _, rfl, _⟩ := S.mem.know (i := 0) (e := fRep (rL (rI .i64)) (u33) r31.2.1) rfl
  refine sMove (.tuple #[iv r31.1, .slice ad34 r31.2.1.length cp35, iv r31.2.2]) S (wN rfl) (.inl rfl) rfl rfl (lb rfl) fun a S => ?_
  refine sExtract (vs := [iv r31.1, .slice ad34 r31.2.1.length cp35, iv r31.2.2]) (iv r31.1) S (wN rfl) rfl rfl rfl rfl (lb rfl) fun a S => ?_
  refine sExtract (vs := [iv r31.1, .slice ad34 r31.2.1.length cp35, iv r31.2.2]) (.slice ad34 r31.2.1.length cp35) S (wN rfl) rfl rfl rfl rfl (lb rfl) fun a S => ?_
  refine sExtract (vs := [iv r31.1, .slice ad34 r31.2.1.length cp35, iv r31.2.2]) (iv r31.2.2) S (wN rfl) rfl rfl rfl rfl (lb rfl) fun a S => ?_
  refine sMove (iv r31.1) S (wN rfl) (.inr rfl) rfl rfl (lb rfl) fun a S => ?_
  refine sMove (.slice ad34 r31.2.1.length cp35) S (wN rfl) (.inr rfl) rfl rfl (lb rfl) fun a S => ?_
  refine sMove (iv r31.2.2) S (wN rfl) (.inr rfl) rfl rfl (lb rfl) fun a S => ?_
  refine leafL (leafT (hK30 _ _ ?_))
  refine sSeq (fun K36 hK36 => ?_)
  obtain ⟨t38, h, g39⟩ := bindSome h
  refine sCut (fun a w => ∃ o37, o37 = t38 ∧ St [] E [] w0 210 a w [(0, iv p0), (1, .slice ad1 p1.length cp2), (5, .bool r5), (6, .pointer (some ⟨b23, 0, none⟩)), (7, iv r16.2), (8, .slice ad28 r25.1.length cp29), (9, iv r25.2), (10, iv r31.1), (11, .slice ad34 r31.2.1.length cp35), (12, iv r31.2.2), (58, .bool o37)] [eBox b23 32 [iv r16.1.Start, .slice ad21 r16.1.Rows.length cp22]] [fRep (rL (rI .i64)) (.slice ad1 p1.length cp2) p1, fRep (rL (rI .i64)) (.slice ad28 r25.1.length cp29) r25.1, fRep (rL (rI .i64)) (.slice ad34 r31.2.1.length cp35) r31.2.1, fRep (rL r_api_Row) (.slice ad21 r16.1.Rows.length cp22) r16.1.Rows]) ?_ (fun a w hI => ?_)
  · refine sRegion ?_
    refine sMove (iv r16.2) S (wN rfl) (.inl rfl) rfl rfl (lb rfl) fun a S => ?_
    refine sBin (.bool (r16.2 != 0)) S (wN rfl) rfl rfl rfl (bNe _ _ _ _ .i64 r16.2 0) rfl (lb rfl) fun a S => ?_
    refine sMove (.bool (r16.2 != 0)) S (wN rfl) (.inl rfl) rfl rfl (lb rfl) fun a S => ?_
    rcases iteSome h with ⟨hc40, h⟩ | ⟨hc40, h⟩
    · refine sSkip 2 false 55 56 S rfl rfl rfl hc40 rfl (lb rfl) fun a S => ?_
      refine sSkip 2 false 55 57 S rfl rfl rfl hc40 rfl (lb rfl) fun a S => ?_
      refine sPickT (.bool true) S (wN rfl) rfl rfl hc40 rfl rfl (lb rfl) fun a S => ?_
      exact leafL (leafT (⟨true, Option.some.inj h, S.fix [0] [4, 1, 0, 2] (by decide) rfl rfl rfl⟩))
    refine sMove (iv r25.2) S (wG 2 false 55 rfl rfl rfl hc40) (.inl rfl) rfl rfl (lb rfl) fun a S => ?_
    refine sBin (.bool (r25.2 != 0)) S (wG 2 false 55 rfl rfl rfl hc40) rfl rfl rfl (bNe _ _ _ _ .i64 r25.2 0) rfl (lb rfl) fun a S => ?_
    refine sPickF (.bool (r25.2 != 0)) S (wN rfl) rfl rfl hc40 rfl rfl (lb rfl) fun a S => ?_
    exact leafL (leafT (⟨r25.2 != 0, Option.some.inj h, S.fix [0] [4, 1, 0, 2] (by decide) rfl rfl rfl⟩))
  obtain ⟨o37, rfl, S⟩ := hI
  have h := g39
  clear g39
  try dsimp only at h
  rcases iteSome h with ⟨hc41, h⟩ | ⟨hc41, h⟩
  · refine sCondT S rfl hc41 ?_
    obtain ⟨t43, h, g44⟩ := bindSome h
    refine sCut (fun a w => ∃ o42, o42 = t43 ∧ St [] E [] w0 210 a w [(4, .bool o42)] [] []) ?_ (fun a w hI => ?_)
    rotate_left
    · obtain ⟨o42, rfl, S⟩ := hI
      have h := g44
      clear g44
      try dsimp only at h
      obtain rfl := Option.some.inj h
      exact wp_ret (rThen (sRet (.bool o42) S (rsl1 rfl (rvT (t := 4) (v := .bool o42) S rfl)) ⟨(), rfl, S.mem.sel [] [] (by decide) rfl rfl⟩))
    refine sRegion ?_
    refine sMove (.bool r5) S (wN rfl) (.inl rfl) rfl rfl (lb rfl) fun a S => ?_
    refine sMove (.bool r5) S (wN rfl) (.inl rfl) rfl rfl (lb rfl) fun a S => ?_
    rcases iteSome h with ⟨hc45, h⟩ | ⟨hc45, h⟩
    rotate_left
    · refine sSkip 1 true 60 61 S rfl rfl rfl hc45 rfl (lb rfl) fun a S => ?_
      refine sSkip 1 true 60 62 S rfl rfl rfl hc45 rfl (lb rfl) fun a S => ?_
      refine sSkip 1 true 60 63 S rfl rfl rfl hc45 rfl (lb rfl) fun a S => ?_
      refine sPickF (.bool false) S (wN rfl) rfl rfl hc45 rfl rfl (lb rfl) fun a S => ?_
      refine sMove (.bool false) S (wN rfl) (.inr rfl) rfl rfl (lb rfl) fun a S => ?_
      exact leafL (leafT (⟨false, Option.some.inj h, S.fix [] [] (by decide) rfl rfl rfl⟩))
    refine sMove (iv r16.2) S (wG 1 true 60 rfl rfl rfl hc45) (.inl rfl) rfl rfl (lb rfl) fun a S => ?_
    refine sMove (iv r25.2) S (wG 1 true 60 rfl rfl rfl hc45) (.inl rfl) rfl rfl (lb rfl) fun a S => ?_
    refine sBin (.bool (r16.2 == r25.2)) S (wG 1 true 60 rfl rfl rfl hc45) rfl rfl rfl (bEq _ _ _ _ .i64 r16.2 r25.2) rfl (lb rfl) fun a S => ?_
    refine sPickT (.bool (r16.2 == r25.2)) S (wN rfl) rfl rfl hc45 rfl rfl (lb rfl) fun a S => ?_
    refine sMove (.bool (r16.2 == r25.2)) S (wN rfl) (.inr rfl) rfl rfl (lb rfl) fun a S => ?_
    exact leafL (leafT (⟨r16.2 == r25.2, Option.some.inj h, S.fix [] [] (by decide) rfl rfl rfl⟩))
  refine sCondF S rfl hc41 ?_
  refine wp_skip (leafT (hK36 _ _ ?_))
  refine sSeq (fun K46 hK46 => ?_)
  obtain ⟨t48, h, g49⟩ := bindSome h
  refine sCut (fun a w => ∃ o47, o47 = t48 ∧ St [] E [] w0 210 a w [(0, iv p0), (5, .bool r5), (6, .pointer (some ⟨b23, 0, none⟩)), (8, .slice ad28 r25.1.length cp29), (92, .bool o47)] [eBox b23 32 [iv r16.1.Start, .slice ad21 r16.1.Rows.length cp22]] [fRep (rL (rI .i64)) (.slice ad28 r25.1.length cp29) r25.1, fRep (rL r_api_Row) (.slice ad21 r16.1.Rows.length cp22) r16.1.Rows]) ?_ (fun a w hI => ?_)
  · refine sRegion ?_
    refine sMove (iv r31.2.2) S (wN rfl) (.inl rfl) rfl rfl (lb rfl) fun a S => ?_
    refine sBin (.bool (r31.2.2 != 0)) S (wN rfl) rfl rfl rfl (bNe _ _ _ _ .i64 r31.2.2 0) rfl (lb rfl) fun a S => ?_
    refine sMove (.bool (r31.2.2 != 0)) S (wN rfl) (.inl rfl) rfl rfl (lb rfl) fun a S => ?_
    rcases iteSome h with ⟨hc50, h⟩ | ⟨hc50, h⟩
    · refine sSkip 2 false 67 68 S rfl rfl rfl hc50 rfl (lb rfl) fun a S => ?_
      refine sSkip 2 false 67 69 S rfl rfl rfl hc50 rfl (lb rfl) fun a S => ?_
      refine sSkip 2 false 67 70 S rfl rfl rfl hc50 rfl (lb rfl) fun a S => ?_
      refine sPickT (.bool true) S (wN rfl) rfl rfl hc50 rfl rfl (lb rfl) fun a S => ?_
      refine sMove (.bool true) S (wN rfl) (.inl rfl) rfl rfl (lb rfl) fun a S => ?_
      refine sSkip 7 false 72 73 S rfl rfl rfl rfl rfl (lb rfl) fun a S => ?_
      refine sSkip 7 false 72 74 S rfl rfl rfl rfl rfl (lb rfl) fun a S => ?_
      refine sSkip 7 false 72 75 S rfl rfl rfl rfl rfl (lb rfl) fun a S => ?_
      refine sSkip 7 false 72 76 S rfl rfl rfl rfl rfl (lb rfl) fun a S => ?_
      refine sPickT (.bool true) S (wN rfl) rfl rfl rfl rfl rfl (lb rfl) fun a S => ?_
      refine sMove (.bool true) S (wN rfl) (.inl rfl) rfl rfl (lb rfl) fun a S => ?_
      refine sSkip 13 false 78 79 S rfl rfl rfl rfl rfl (lb rfl) fun a S => ?_
      refine sSkip 13 false 78 80 S rfl rfl rfl rfl rfl (lb rfl) fun a S => ?_
      refine sSkip 13 false 78 81 S rfl rfl rfl rfl rfl (lb rfl) fun a S => ?_
      refine sSkip 13 false 78 82 S rfl rfl rfl rfl rfl (lb rfl) fun a S => ?_
      refine sSkip 13 false 78 83 S rfl rfl rfl rfl rfl (lb rfl) fun a S => ?_
      refine sSkip 13 false 78 84 S rfl rfl rfl rfl rfl (lb rfl) fun a S => ?_
      refine sSkip 13 false 78 85 S rfl rfl rfl rfl rfl (lb rfl) fun a S => ?_
      refine sPickT (.bool true) S (wN rfl) rfl rfl rfl rfl rfl (lb rfl) fun a S => ?_
      refine sMove (.bool true) S (wN rfl) (.inl rfl) rfl rfl (lb rfl) fun a S => ?_
      refine sSkip 22 false 87 88 S rfl rfl rfl rfl rfl (lb rfl) fun a S => ?_
      refine sSkip 22 false 87 89 S rfl rfl rfl rfl rfl (lb rfl) fun a S => ?_
      refine sSkip 22 false 87 90 S rfl rfl rfl rfl rfl (lb rfl) fun a S => ?_
      refine sSkip 22 false 87 91 S rfl rfl rfl rfl rfl (lb rfl) fun a S => ?_
      refine sPickT (.bool true) S (wN rfl) rfl rfl rfl rfl rfl (lb rfl) fun a S => ?_
      exact leafL (leafT (⟨true, Option.some.inj h, S.fix [0] [1, 3] (by decide) rfl rfl rfl⟩))
    refine sMove (iv r31.1) S (wG 2 false 67 rfl rfl rfl hc50) (.inl rfl) rfl rfl (lb rfl) fun a S => ?_
    refine sMove (iv p0) S (wG 2 false 67 rfl rfl rfl hc50) (.inl rfl) rfl rfl (lb rfl) fun a S => ?_
    refine sBin (.bool (r31.1 != p0)) S (wG 2 false 67 rfl rfl rfl hc50) rfl rfl rfl (bNe _ _ _ _ .i64 r31.1 p0) rfl (lb rfl) fun a S => ?_
    refine sPickF (.bool (r31.1 != p0)) S (wN rfl) rfl rfl hc50 rfl rfl (lb rfl) fun a S => ?_
    refine sMove (.bool (r31.1 != p0)) S (wN rfl) (.inl rfl) rfl rfl (lb rfl) fun a S => ?_
    rcases iteSome h with ⟨hc51, h⟩ | ⟨hc51, h⟩
    · refine sSkip 7 false 72 73 S rfl rfl rfl hc51 rfl (lb rfl) fun a S => ?_
      refine sSkip 7 false 72 74 S rfl rfl rfl hc51 rfl (lb rfl) fun a S => ?_
      refine sSkip 7 false 72 75 S rfl rfl rfl hc51 rfl (lb rfl) fun a S => ?_
      refine sSkip 7 false 72 76 S rfl rfl rfl hc51 rfl (lb rfl) fun a S => ?_
      refine sPickT (.bool true) S (wN rfl) rfl rfl hc51 rfl rfl (lb rfl) fun a S => ?_
      refine sMove (.bool true) S (wN rfl) (.inl rfl) rfl rfl (lb rfl) fun a S => ?_
      refine sSkip 13 false 78 79 S rfl rfl rfl rfl rfl (lb rfl) fun a S => ?_
      refine sSkip 13 false 78 80 S rfl rfl rfl rfl rfl (lb rfl) fun a S => ?_
      refine sSkip 13 false 78 81 S rfl rfl rfl rfl rfl (lb rfl) fun a S => ?_
      refine sSkip 13 false 78 82 S rfl rfl rfl rfl rfl (lb rfl) fun a S => ?_
      refine sSkip 13 false 78 83 S rfl rfl rfl rfl rfl (lb rfl) fun a S => ?_
      refine sSkip 13 false 78 84 S rfl rfl rfl rfl rfl (lb rfl) fun a S => ?_
      refine sSkip 13 false 78 85 S rfl rfl rfl rfl rfl (lb rfl) fun a S => ?_
      refine sPickT (.bool true) S (wN rfl) rfl rfl rfl rfl rfl (lb rfl) fun a S => ?_
      refine sMove (.bool true) S (wN rfl) (.inl rfl) rfl rfl (lb rfl) fun a S => ?_
      refine sSkip 22 false 87 88 S rfl rfl rfl rfl rfl (lb rfl) fun a S => ?_
      refine sSkip 22 false 87 89 S rfl rfl rfl rfl rfl (lb rfl) fun a S => ?_
      refine sSkip 22 false 87 90 S rfl rfl rfl rfl rfl (lb rfl) fun a S => ?_
      refine sSkip 22 false 87 91 S rfl rfl rfl rfl rfl (lb rfl) fun a S => ?_
      refine sPickT (.bool true) S (wN rfl) rfl rfl rfl rfl rfl (lb rfl) fun a S => ?_
      exact leafL (leafT (⟨true, Option.some.inj h, S.fix [0] [1, 3] (by decide) rfl rfl rfl⟩))
    refine sMove (.slice ad34 r31.2.1.length cp35) S (wG 7 false 72 rfl rfl rfl hc51) (.inl rfl) rfl rfl (lb rfl) fun a S => ?_
    refine sMove (.slice ad1 p1.length cp2) S (wG 7 false 72 rfl rfl rfl hc51) (.inl rfl) rfl rfl (lb rfl) fun a S => ?_
    obtain ⟨r52, hx53, h⟩ := bindSome h
    have S1 := S.mem
    refine sCallQ (X := Unit) (f := 14) (vs := [.slice ad34 r31.2.1.length cp35, .slice ad1 p1.length cp2]) (val := fun _ => .bool r52) S (wG 7 false 72 rfl rfl rfl hc51) rfl callee14 rfl (S1.quiet [2, 0] rfl) (fun E1 w1 S1 => c_raddleref36_Same E1 w1 r31.2.1 (.slice ad34 r31.2.1.length cp35) p1 (.slice ad1 p1.length cp2) r52 hx53 S1) rfl (lb rfl) fun _ a w S => ?_
    refine sNot (b := r52) S (wG 7 false 72 rfl rfl rfl hc51) rfl rfl rfl (lb rfl) fun a S => ?_
    refine sPickF (.bool (!r52)) S (wN rfl) rfl rfl hc51 rfl rfl (lb rfl) fun a S => ?_
    refine sMove (.bool (!r52)) S (wN rfl) (.inl rfl) rfl rfl (lb rfl) fun a S => ?_
    rcases iteSome h with ⟨hc54, h⟩ | ⟨hc54, h⟩
    · refine sSkip 13 false 78 79 S rfl rfl rfl hc54 rfl (lb rfl) fun a S => ?_
      refine sSkip 13 false 78 80 S rfl rfl rfl hc54 rfl (lb rfl) fun a S => ?_
      refine sSkip 13 false 78 81 S rfl rfl rfl hc54 rfl (lb rfl) fun a S => ?_
      refine sSkip 13 false 78 82 S rfl rfl rfl hc54 rfl (lb rfl) fun a S => ?_
      refine sSkip 13 false 78 83 S rfl rfl rfl hc54 rfl (lb rfl) fun a S => ?_
      refine sSkip 13 false 78 84 S rfl rfl rfl hc54 rfl (lb rfl) fun a S => ?_
      refine sSkip 13 false 78 85 S rfl rfl rfl hc54 rfl (lb rfl) fun a S => ?_
      refine sPickT (.bool true) S (wN rfl) rfl rfl hc54 rfl rfl (lb rfl) fun a S => ?_
      refine sMove (.bool true) S (wN rfl) (.inl rfl) rfl rfl (lb rfl) fun a S => ?_
      refine sSkip 22 false 87 88 S rfl rfl rfl rfl rfl (lb rfl) fun a S => ?_
      refine sSkip 22 false 87 89 S rfl rfl rfl rfl rfl (lb rfl) fun a S => ?_
      refine sSkip 22 false 87 90 S rfl rfl rfl rfl rfl (lb rfl) fun a S => ?_
      refine sSkip 22 false 87 91 S rfl rfl rfl rfl rfl (lb rfl) fun a S => ?_
      refine sPickT (.bool true) S (wN rfl) rfl rfl rfl rfl rfl (lb rfl) fun a S => ?_
      exact leafL (leafT (⟨true, Option.some.inj h, S.fix [0] [1, 3] (by decide) rfl rfl rfl⟩))
    refine sField (b := b23) (off := 0) 1 1 S (wG 13 false 78 rfl rfl rfl hc54) rfl rfl rfl rfl rfl (lb rfl) fun a S => ?_
    refine sLoad1 (p := b23) (off := 1) (T := 32) (vs := [iv r16.1.Start, .slice ad21 r16.1.Rows.length cp22]) 0 (.slice ad21 r16.1.Rows.length cp22) S (wG 13 false 78 rfl rfl rfl hc54) rfl rfl rfl rfl rfl rfl (lb rfl) fun a S => ?_
    refine sLen (ad := ad21) (m := r16.1.Rows.length) (c := cp22) S (wG 13 false 78 rfl rfl rfl hc54) rfl Tryd.underlying30 rfl rfl (lb rfl) fun a S => ?_
    refine sMove (.slice ad1 p1.length cp2) S (wG 13 false 78 rfl rfl rfl hc54) (.inl rfl) rfl rfl (lb rfl) fun a S => ?_
    refine sLen (ad := ad1) (m := p1.length) (c := cp2) S (wG 13 false 78 rfl rfl rfl hc54) rfl Tryd.underlying22 rfl rfl (lb rfl) fun a S => ?_
    refine sBin (iv (w64 (2 * (p1.length : Int)))) S (wG 13 false 78 rfl rfl rfl hc54) rfl rfl rfl (bMul _ _ _ _ 2 (p1.length : Int)) rfl (lb rfl) fun a S => ?_
    refine sBin (.bool ((r16.1.Rows.length : Int) != (w64 (2 * (p1.length : Int))))) S (wG 13 false 78 rfl rfl rfl hc54) rfl rfl rfl (bNe _ _ _ _ .i64 (r16.1.Rows.length : Int) (w64 (2 * (p1.length : Int)))) rfl (lb rfl) fun a S => ?_
    refine sPickF (.bool ((r16.1.Rows.length : Int) != (w64 (2 * (p1.length : Int))))) S (wN rfl) rfl rfl hc54 rfl rfl (lb rfl) fun a S => ?_
    refine sMove (.bool ((r16.1.Rows.length : Int) != (w64 (2 * (p1.length : Int))))) S (wN rfl) (.inl rfl) rfl rfl (lb rfl) fun a S => ?_
    rcases iteSome h with ⟨hc55, h⟩ | ⟨hc55, h⟩
    · refine sSkip 22 false 87 88 S rfl rfl rfl hc55 rfl (lb rfl) fun a S => ?_
      refine sSkip 22 false 87 89 S rfl rfl rfl hc55 rfl (lb rfl) fun a S => ?_
      refine sSkip 22 false 87 90 S rfl rfl rfl hc55 rfl (lb rfl) fun a S => ?_
      refine sSkip 22 false 87 91 S rfl rfl rfl hc55 rfl (lb rfl) fun a S => ?_
      refine sPickT (.bool true) S (wN rfl) rfl rfl hc55 rfl rfl (lb rfl) fun a S => ?_
      exact leafL (leafT (⟨true, Option.some.inj h, S.fix [0] [1, 3] (by decide) rfl rfl rfl⟩))
    refine sMove (.slice ad28 r25.1.length cp29) S (wG 22 false 87 rfl rfl rfl hc55) (.inl rfl) rfl rfl (lb rfl) fun a S => ?_
    refine sLen (ad := ad28) (m := r25.1.length) (c := cp29) S (wG 22 false 87 rfl rfl rfl hc55) rfl Tryd.underlying22 rfl rfl (lb rfl) fun a S => ?_
    refine sMove (iv p0) S (wG 22 false 87 rfl rfl rfl hc55) (.inl rfl) rfl rfl (lb rfl) fun a S => ?_
    refine sBin (.bool ((r25.1.length : Int) != p0)) S (wG 22 false 87 rfl rfl rfl hc55) rfl rfl rfl (bNe _ _ _ _ .i64 (r25.1.length : Int) p0) rfl (lb rfl) fun a S => ?_
    refine sPickF (.bool ((r25.1.length : Int) != p0)) S (wN rfl) rfl rfl hc55 rfl rfl (lb rfl) fun a S => ?_
    exact leafL (leafT (⟨(r25.1.length : Int) != p0, Option.some.inj h, S.fix [0] [1, 3] (by decide) rfl rfl rfl⟩))
  obtain ⟨o47, rfl, S⟩ := hI
  have h := g49
  clear g49
  try dsimp only at h
  rcases iteSome h with ⟨hc56, h⟩ | ⟨hc56, h⟩
  · refine sCondT S rfl hc56 ?_
    refine sSeq (fun K57 hK57 => ?_)
    refine sRegion ?_
    refine sMove (.bool false) S (wN rfl) (.inr rfl) rfl rfl (lb rfl) fun a S => ?_
    refine leafL (leafT (hK57 _ _ ?_))
    obtain rfl := Option.some.inj h
    exact wp_ret (rThen (sRet (.bool false) S (rsl1 rfl (rvT (t := 4) (v := .bool false) S rfl)) ⟨(), rfl, S.mem.sel [] [] (by decide) rfl rfl⟩))
  refine sCondF S rfl hc56 ?_
  refine wp_skip (leafT (hK46 _ _ ?_))
  refine sSeq (fun K58 hK58 => ?_)
  refine sRegion ?_
  refine sMove (iv p0) S (wN rfl) (.inl rfl) rfl rfl (lb rfl) fun a S => ?_
  obtain ⟨m61, hx62, h⟩ := bindSome h
  refine sMake (r := (rI .i64)) (m := p0) (xs := m61) (iv 0) (0 : Int) 8 S (wN rfl) rfl Tryd.underlying22 rfl rfl (by decide) (fun _ _ => rfl) rfl rfl hx62 rfl (lb rfl) fun a w ad59 cp60 S => ?_
  refine sMove (.slice ad59 m61.length cp60) S (wN rfl) (.inr rfl) rfl rfl (lb rfl) fun a S => ?_
  refine leafL (leafT (hK58 _ _ ?_))
  obtain ⟨t66, h, g67⟩ := bindSome h
  refine sCut (fun a w => ∃ o63, .inl o63 = t66 ∧ ∃ ad64, ∃ cp65, St [] E [] w0 210 a w [(0, iv p0), (5, .bool r5), (8, .slice ad28 r25.1.length cp29), (13, .slice ad64 o63.length cp65)] [eRow (rI .i64) 3 (.slice ad64 o63.length cp65) o63] [fRep (rL (rI .i64)) (.slice ad28 r25.1.length cp29) r25.1]) ?_ (fun a w hI => ?_)
  rotate_left
  · obtain ⟨o63, rfl, ad64, cp65, S⟩ := hI
    have h := g67
    clear g67
    try dsimp only at h
    obtain ⟨t190, h, g191⟩ := bindSome h
    refine sCut (fun a w => .inl () = t190 ∧ St [] E [] w0 210 a w [(5, .bool r5)] [] []) ?_ (fun a w hI => ?_)
    rotate_left
    · obtain ⟨rfl, S⟩ := hI
      have h := g191
      clear g191
      try dsimp only at h
      refine sSeq (fun K220 hK220 => ?_)
      refine sRegion ?_
      refine sMove (.bool r5) S (wN rfl) (.inl rfl) rfl rfl (lb rfl) fun a S => ?_
      refine sMove (.bool r5) S (wN rfl) (.inr rfl) rfl rfl (lb rfl) fun a S => ?_
      refine leafL (leafT (hK220 _ _ ?_))
      obtain rfl := Option.some.inj h
      exact wp_ret (sRet (.bool r5) S (rsl1 rfl (rvT (t := 4) (v := .bool r5) S rfl)) ⟨(), rfl, S.mem.sel [] [] (by decide) rfl rfl⟩)
    refine sSeq (fun K192 hK192 => ?_)
    refine sRegion ?_
    refine sMove (iv 0) S (wN rfl) (.inr rfl) rfl rfl (lb rfl) fun a S => ?_
    refine leafL (leafT (hK192 _ _ ?_))
    refine wp_block ?_
    obtain ⟨t196, hl, g195⟩ := bindSome h
    refine sLoop hl (fun s0 a w => match s0 with | s193 => St [] E [] w0 210 a w [(0, iv p0), (5, .bool r5), (8, .slice ad28 r25.1.length cp29), (13, .slice ad64 o63.length cp65), (21, iv s193)] [eRow (rI .i64) 3 (.slice ad64 o63.length cp65) o63] [fRep (rL (rI .i64)) (.slice ad28 r25.1.length cp29) r25.1]) (S.fix [0] [0] (by decide) rfl rfl rfl) ?_
    clear hl h
    intro s193 a w c0 hI h hu194
    unfold raddlelaw38_ShortKnits_l3 at h
    dsimp only at h hI
    have S := hI
    refine sSeq (fun K197 hK197 => ?_)
    refine sSeq (fun K198 hK198 => ?_)
    refine sRegion ?_
    refine sMove (iv s193) S (wN rfl) (.inl rfl) rfl rfl (lb rfl) fun a S => ?_
    refine sMove (iv p0) S (wN rfl) (.inl rfl) rfl rfl (lb rfl) fun a S => ?_
    refine sBin (.bool (decide (s193 < p0))) S (wN rfl) rfl rfl rfl (bLt _ _ _ _ .i64 s193 p0) rfl (lb rfl) fun a S => ?_
    refine leafL (leafT (hK198 _ _ ?_))
    rcases iteSome h with ⟨hc199, h⟩ | ⟨hc199, h⟩
    rotate_left
    · refine sCondF S rfl hc199 ?_
      obtain rfl := Option.some.inj h
      obtain rfl := hu194 _ rfl
      have h := g195
      clear g195
      try dsimp only at h
      exact wp_exit (xThen (xThen (xHit (leafT (⟨Option.some.inj h, S.fix [] [] (by decide) rfl rfl rfl⟩)))))
    refine sCondT S rfl hc199 ?_
    refine wp_skip (leafT (hK197 _ _ ?_))
    refine sSeq (fun K200 hK200 => ?_)
    refine wp_block ?_
    refine sSeq (fun K201 hK201 => ?_)
    obtain ⟨x202, hx203, h⟩ := bindSome h
    obtain ⟨x207, hx208, h⟩ := bindSome h
    obtain ⟨q212, hq213, hp214⟩ := pIdxR (P := Tryd.prog) (r := (rI .i64)) (T := 3) (v := .slice ad64 o63.length cp65) (xs := o63) (j := s193) 22 3 0 S Tryd.underlying22 rfl rfl hx203
    obtain ⟨q215, hq216, S⟩ := pIdx (P := Tryd.prog) (r := (rI .i64)) (v := .slice ad28 r25.1.length cp29) (xs := r25.1) (j := s193) 22 3 0 S Tryd.underlying22 rfl rfl hx208
    obtain ⟨u217, S⟩ := pLoad (r := (rI .i64)) (q := q215) (x := x207) 0 S rfl
    obtain rfl : u217 = iv x207 := S.mem.know (i := 1) (e := fRep (rI .i64) (u217) x207) rfl
    refine sDraw (nf := []) (W := [(0, 199, .slice ad64 o63.length cp65), (1, 200, iv s193), (2, 201, q212), (3, 202, iv x202), (4, 203, .slice ad28 r25.1.length cp29), (5, 204, iv s193), (6, 205, q215), (7, 206, iv x207), (8, 207, iv (w64 (2 * x207))), (9, 208, .bool (x202 != (w64 (2 * x207))))]) rfl S ?_
    refine node_by (A := anc_raddlelaw38_ShortKnits_0) (nf := []) (Y := []) (W := [(0, 199, .slice ad64 o63.length cp65), (1, 200, iv s193), (2, 201, q212), (3, 202, iv x202), (4, 203, .slice ad28 r25.1.length cp29), (5, 204, iv s193), (6, 205, q215), (7, 206, iv x207), (8, 207, iv (w64 (2 * x207))), (9, 208, .bool (x202 != (w64 (2 * x207))))]) 10 (by kernel_rfl) (by kernel_rfl) (by kernel_rfl) (by kernel_rfl) (by kernel_rfl) [0, 1, 2, 3, 4, 5, 6, 7, 8, 9] (by kernel_rfl) (by decide) (by decide) (aF 0 9 (by decide) ?_ (aF 1 8 (by decide) ?_ (aF 2 7 (by decide) ?_ (aF 3 6 (by decide) ?_ (aF 4 5 (by decide) ?_ (aF 5 4 (by decide) ?_ (aF 6 3 (by decide) ?_ (aF 7 2 (by decide) ?_ (aF 8 1 (by decide) ?_ (aF 9 0 (by decide) ?_ (trivial))))))))))) [(0, iv p0), (5, .bool r5), (8, .slice ad28 r25.1.length cp29), (13, .slice ad64 o63.length cp65), (21, iv s193), (208, .bool (x202 != (w64 (2 * x207))))] (fin_of [none, none, none, none, none, some 9] rfl (by kernel_rfl) (by kernel_rfl)) (fun _ a w S => ?_)
    · refine fI 199 (.slice ad64 o63.length cp65) [(13, .slice ad64 o63.length cp65)] 0 [none] rfl rfl rfl rfl rfl rfl fun G a w S => ?_
      refine sMove (.slice ad64 o63.length cp65) S (wN rfl) (.inl rfl) rfl rfl (lb rfl) fun a S => ?_
      exact leafL ⟨rfl, S⟩
    · refine fI 200 (iv s193) [(21, iv s193)] 1 [none] rfl rfl rfl rfl rfl rfl fun G a w S => ?_
      refine sMove (iv s193) S (wN rfl) (.inl rfl) rfl rfl (lb rfl) fun a S => ?_
      exact leafL ⟨rfl, S⟩
    · refine fI 201 q212 [(199, .slice ad64 o63.length cp65), (200, iv s193)] 2 [some 0, some 1] rfl rfl rfl rfl rfl rfl fun G a w S => ?_
      refine sIdxV (v := .slice ad64 o63.length cp65) (k := .i64) (j := s193) S (wN rfl) rfl rfl rfl hq213 rfl (lb rfl) fun a S => ?_
      exact leafL ⟨rfl, S⟩
    · refine fI 202 (iv x202) [(201, q212)] 3 [some 2] rfl rfl rfl rfl rfl rfl fun G a w S => ?_
      refine sLoadR (r := (rI .i64)) (T := 3) (xs := o63) (x := x202) (v := .slice ad64 o63.length cp65) (vq := q212) (j := s193) 0 (iv x202) S hp214 (wN rfl) rfl rfl rfl hx203 (fun _ _ _ h => h) (scal_I _) rfl rfl (lb rfl) fun a S => ?_
      exact leafL ⟨rfl, S⟩
    · refine fI 203 (.slice ad28 r25.1.length cp29) [(8, .slice ad28 r25.1.length cp29)] 4 [none] rfl rfl rfl rfl rfl rfl fun G a w S => ?_
      refine sMove (.slice ad28 r25.1.length cp29) S (wN rfl) (.inl rfl) rfl rfl (lb rfl) fun a S => ?_
      exact leafL ⟨rfl, S⟩
    · refine fI 204 (iv s193) [(21, iv s193)] 5 [none] rfl rfl rfl rfl rfl rfl fun G a w S => ?_
      refine sMove (iv s193) S (wN rfl) (.inl rfl) rfl rfl (lb rfl) fun a S => ?_
      exact leafL ⟨rfl, S⟩
    · refine fI 205 q215 [(203, .slice ad28 r25.1.length cp29), (204, iv s193)] 6 [some 4, some 5] rfl rfl rfl rfl rfl rfl fun G a w S => ?_
      refine sIdxV (v := .slice ad28 r25.1.length cp29) (k := .i64) (j := s193) S (wN rfl) rfl rfl rfl hq216 rfl (lb rfl) fun a S => ?_
      exact leafL ⟨rfl, S⟩
    · refine fI 206 (iv x207) [(205, q215)] 7 [some 6] rfl rfl rfl rfl rfl rfl fun G a w S => ?_
      refine sLoadV1 (vq := q215) 0 (iv x207) S (wN rfl) rfl rfl rfl rfl rfl (lb rfl) fun a S => ?_
      exact leafL ⟨rfl, S⟩
    · refine fI 207 (iv (w64 (2 * x207))) [(206, iv x207)] 8 [some 7] rfl rfl rfl rfl rfl rfl fun G a w S => ?_
      refine sBin (iv (w64 (2 * x207))) S (wN rfl) rfl rfl rfl (bMul _ _ _ _ 2 x207) rfl (lb rfl) fun a S => ?_
      exact leafL ⟨rfl, S⟩
    · refine fI 208 (.bool (x202 != (w64 (2 * x207)))) [(202, iv x202), (207, iv (w64 (2 * x207)))] 9 [some 3, some 8] rfl rfl rfl rfl rfl rfl fun G a w S => ?_
      refine sBin (.bool (x202 != (w64 (2 * x207)))) S (wN rfl) rfl rfl rfl (bNe _ _ _ _ .i64 x202 (w64 (2 * x207))) rfl (lb rfl) fun a S => ?_
      exact leafL ⟨rfl, S⟩
    refine leafT (hK201 _ _ ?_)
    rcases iteSome h with ⟨hc218, h⟩ | ⟨hc218, h⟩
    rotate_left
    · refine sCondF S rfl hc218 ?_
      refine wp_skip (leafB (leafT (hK200 _ _ ?_)))
      refine sRegion ?_
      refine sMove (iv s193) S (wN rfl) (.inl rfl) rfl rfl (lb rfl) fun a S => ?_
      refine sBin (iv (w64 (s193 + 1))) S (wN rfl) rfl rfl rfl (bAdd _ _ _ _ s193 1) rfl (lb rfl) fun a S => ?_
      refine sMove (iv (w64 (s193 + 1))) S (wN rfl) (.inr rfl) rfl rfl (lb rfl) fun a S => ?_
      exact leafL (leafT (⟨w64 (s193 + 1), (Option.some.inj h).symm, (S.fix [0] [3] (by decide) rfl rfl rfl)⟩))
    refine sCondT S rfl hc218 ?_
    refine sSeq (fun K219 hK219 => ?_)
    refine sRegion ?_
    refine sMove (.bool false) S (wN rfl) (.inr rfl) rfl rfl (lb rfl) fun a S => ?_
    refine leafL (leafT (hK219 _ _ ?_))
    obtain rfl := Option.some.inj h
    obtain rfl := hu194 _ rfl
    have h := g195
    clear g195
    try dsimp only at h
    obtain rfl := Option.some.inj h
    have h := g191
    clear g191
    try dsimp only at h
    obtain rfl := Option.some.inj h
    exact wp_ret (rBlock (rThen (rThen (rBlock (rThen (sRet (.bool false) S (rsl1 rfl (rvT (t := 4) (v := .bool false) S rfl)) ⟨(), rfl, S.mem.sel [] [] (by decide) rfl rfl⟩))))))
  refine sSeq (fun K68 hK68 => ?_)
  refine sRegion ?_
  refine sMove (iv 0) S (wN rfl) (.inr rfl) rfl rfl (lb rfl) fun a S => ?_
  refine leafL (leafT (hK68 _ _ ?_))
  refine wp_block ?_
  obtain ⟨t75, hl, g74⟩ := bindSome h
  refine sLoop hl (fun s0 a w => match s0 with | (s69, s72) => ∃ ad70, ∃ cp71, St [] E [] w0 210 a w [(0, iv p0), (5, .bool r5), (6, .pointer (some ⟨b23, 0, none⟩)), (8, .slice ad28 r25.1.length cp29), (13, .slice ad70 s69.length cp71), (14, iv s72)] [eBox b23 32 [iv r16.1.Start, .slice ad21 r16.1.Rows.length cp22], eRow (rI .i64) 3 (.slice ad70 s69.length cp71) s69] [fRep (rL (rI .i64)) (.slice ad28 r25.1.length cp29) r25.1, fRep (rL r_api_Row) (.slice ad21 r16.1.Rows.length cp22) r16.1.Rows]) ⟨ad59, cp60, S.fix [1, 0] [0, 1] (by decide) rfl rfl rfl⟩ ?_
  clear hl h
  intro s0 a w c0 hI h hu73
  obtain ⟨s69, s72⟩ := s0
  unfold raddlelaw38_ShortKnits_l2 at h
  dsimp only at h hI
  obtain ⟨ad70, cp71, S⟩ := hI
  refine sSeq (fun K79 hK79 => ?_)
  refine sSeq (fun K80 hK80 => ?_)
  refine sRegion ?_
  refine sMove (iv s72) S (wN rfl) (.inl rfl) rfl rfl (lb rfl) fun a S => ?_
  refine sField (b := b23) (off := 0) 1 1 S (wN rfl) rfl rfl rfl rfl rfl (lb rfl) fun a S => ?_
  refine sLoad1 (p := b23) (off := 1) (T := 32) (vs := [iv r16.1.Start, .slice ad21 r16.1.Rows.length cp22]) 0 (.slice ad21 r16.1.Rows.length cp22) S (wN rfl) rfl rfl rfl rfl rfl rfl (lb rfl) fun a S => ?_
  refine sLen (ad := ad21) (m := r16.1.Rows.length) (c := cp22) S (wN rfl) rfl Tryd.underlying30 rfl rfl (lb rfl) fun a S => ?_
  refine sBin (.bool (decide (s72 < (r16.1.Rows.length : Int)))) S (wN rfl) rfl rfl rfl (bLt _ _ _ _ .i64 s72 (r16.1.Rows.length : Int)) rfl (lb rfl) fun a S => ?_
  refine leafL (leafT (hK80 _ _ ?_))
  rcases iteSome h with ⟨hc81, h⟩ | ⟨hc81, h⟩
  rotate_left
  · refine sCondF S rfl hc81 ?_
    obtain rfl := Option.some.inj h
    obtain rfl := hu73 _ rfl
    have h := g74
    clear g74
    try dsimp only at h
    exact wp_exit (xThen (xThen (xHit (leafT (⟨s69, Option.some.inj h, ad70, cp71, S.fix [1] [0] (by decide) rfl rfl rfl⟩)))))
  refine sCondT S rfl hc81 ?_
  refine wp_skip (leafT (hK79 _ _ ?_))
  obtain ⟨t85, h, g86⟩ := bindSome h
  refine sCut (fun a w => ∃ o82, .inl o82 = t85 ∧ ∃ ad83, ∃ cp84, St [] E [] w0 210 a w [(0, iv p0), (5, .bool r5), (6, .pointer (some ⟨b23, 0, none⟩)), (8, .slice ad28 r25.1.length cp29), (13, .slice ad83 o82.length cp84), (14, iv s72)] [eBox b23 32 [iv r16.1.Start, .slice ad21 r16.1.Rows.length cp22], eRow (rI .i64) 3 (.slice ad83 o82.length cp84) o82] [fRep (rL (rI .i64)) (.slice ad28 r25.1.length cp29) r25.1, fRep (rL r_api_Row) (.slice ad21 r16.1.Rows.length cp22) r16.1.Rows]) ?_ (fun a w hI => ?_)
  rotate_left
  · obtain ⟨o82, rfl, ad83, cp84, S⟩ := hI
    have h := g86
    clear g86
    try dsimp only at h
    refine sRegion ?_
    refine sMove (iv s72) S (wN rfl) (.inl rfl) rfl rfl (lb rfl) fun a S => ?_
    refine sBin (iv (w64 (s72 + 1))) S (wN rfl) rfl rfl rfl (bAdd _ _ _ _ s72 1) rfl (lb rfl) fun a S => ?_
    refine sMove (iv (w64 (s72 + 1))) S (wN rfl) (.inr rfl) rfl rfl (lb rfl) fun a S => ?_
    exact leafL (leafT (⟨(o82, w64 (s72 + 1)), (Option.some.inj h).symm, ⟨ad83, cp84, S.fix [0, 1] [0, 1] (by decide) rfl rfl rfl⟩⟩))
  refine wp_block ?_
  refine sSeq (fun K87 hK87 => ?_)
  refine sRegion ?_
  refine sField (b := b23) (off := 0) 1 1 S (wN rfl) rfl rfl rfl rfl rfl (lb rfl) fun a S => ?_
  refine sLoad1 (p := b23) (off := 1) (T := 32) (vs := [iv r16.1.Start, .slice ad21 r16.1.Rows.length cp22]) 0 (.slice ad21 r16.1.Rows.length cp22) S (wN rfl) rfl rfl rfl rfl rfl rfl (lb rfl) fun a S => ?_
  refine sMove (iv s72) S (wN rfl) (.inl rfl) rfl rfl (lb rfl) fun a S => ?_
  obtain ⟨x88, hx89, h⟩ := bindSome h
  obtain ⟨q90, hq91, S⟩ := pIdx (P := Tryd.prog) (r := r_api_Row) (v := .slice ad21 r16.1.Rows.length cp22) (xs := r16.1.Rows) (j := s72) 30 41 1 S Tryd.underlying30 rfl rfl hx89
  refine sIdxV (v := .slice ad21 r16.1.Rows.length cp22) (k := .i64) (j := s72) S (wN rfl) rfl rfl rfl hq91 rfl (lb rfl) fun a S => ?_
  obtain ⟨q92, hq93, S⟩ := pFld (P := Tryd.prog) (r := r_api_Row) (s2 := (rL r_api_Stitch)) (g := (·.Cells)) (q := q90) (z := x88) 41 1 0 1 S rfl rfl comp_api_Row_Cells
  refine sFldV (q := q90) S (wN rfl) rfl rfl hq93 rfl (lb rfl) fun a S => ?_
  obtain ⟨u94, S⟩ := pLoad (r := (rL r_api_Stitch)) (q := q92) (x := x88.Cells) 0 S rfl
  obtain ⟨ad95, cp96, _, rfl, _⟩ := S.mem.know (i := 1) (e := fRep (rL r_api_Stitch) (u94) x88.Cells) rfl
  refine sLoadV1 (vq := q92) 0 (.slice ad95 x88.Cells.length cp96) S (wN rfl) rfl rfl rfl rfl rfl (lb rfl) fun a S => ?_
  obtain ⟨r97, hx98, h⟩ := bindSome h
  have S1 := S.mem
  refine sCallQ (X := Unit) (f := 16) (vs := [.slice ad95 x88.Cells.length cp96]) (val := fun _ => .tuple #[iv r97.1, iv r97.2]) S (wN rfl) rfl callee16 rfl (S1.quiet [1] rfl) (fun E1 w1 S1 => c_stitch_Uses E1 w1 x88.Cells (.slice ad95 x88.Cells.length cp96) r97 hx98 S1) rfl (lb rfl) fun _ a w S => ?_
  refine sMove (.tuple #[iv r97.1, iv r97.2]) S (wN rfl) (.inl rfl) rfl rfl (lb rfl) fun a S => ?_
  refine sExtract (vs := [iv r97.1, iv r97.2]) (iv r97.1) S (wN rfl) rfl rfl rfl rfl (lb rfl) fun a S => ?_
  refine sExtract (vs := [iv r97.1, iv r97.2]) (iv r97.2) S (wN rfl) rfl rfl rfl rfl (lb rfl) fun a S => ?_
  refine sMove (iv r97.1) S (wN rfl) (.inr rfl) rfl rfl (lb rfl) fun a S => ?_
  refine sMove (iv r97.2) S (wN rfl) (.inr rfl) rfl rfl (lb rfl) fun a S => ?_
  refine leafL (leafT (hK87 _ _ ?_))
  refine sSeq (fun K99 hK99 => ?_)
  refine sRegion ?_
  refine sField (b := b23) (off := 0) 1 1 S (wN rfl) rfl rfl rfl rfl rfl (lb rfl) fun a S => ?_
  refine sLoad1 (p := b23) (off := 1) (T := 32) (vs := [iv r16.1.Start, .slice ad21 r16.1.Rows.length cp22]) 0 (.slice ad21 r16.1.Rows.length cp22) S (wN rfl) rfl rfl rfl rfl rfl rfl (lb rfl) fun a S => ?_
  refine sMove (iv s72) S (wN rfl) (.inl rfl) rfl rfl (lb rfl) fun a S => ?_
  obtain ⟨q100, hq101, S⟩ := pIdx (P := Tryd.prog) (r := r_api_Row) (v := .slice ad21 r16.1.Rows.length cp22) (xs := r16.1.Rows) (j := s72) 30 41 5 S Tryd.underlying30 rfl rfl hx89
  refine sIdxV (v := .slice ad21 r16.1.Rows.length cp22) (k := .i64) (j := s72) S (wN rfl) rfl rfl rfl hq101 rfl (lb rfl) fun a S => ?_
  obtain ⟨q102, hq103, S⟩ := pFld (P := Tryd.prog) (r := r_api_Row) (s2 := (rL r_api_Stitch)) (g := (·.Cells)) (q := q100) (z := x88) 41 1 0 1 S rfl rfl comp_api_Row_Cells
  refine sFldV (q := q100) S (wN rfl) rfl rfl hq103 rfl (lb rfl) fun a S => ?_
  obtain ⟨u104, S⟩ := pLoad (r := (rL r_api_Stitch)) (q := q102) (x := x88.Cells) 0 S rfl
  obtain ⟨ad105, cp106, _, rfl, _⟩ := S.mem.know (i := 1) (e := fRep (rL r_api_Stitch) (u104) x88.Cells) rfl
  refine sLoadV1 (vq := q102) 0 (.slice ad105 x88.Cells.length cp106) S (wN rfl) rfl rfl rfl rfl rfl (lb rfl) fun a S => ?_
  obtain ⟨r107, hx108, h⟩ := bindSome h
  have S1 := S.mem
  refine sCallQ (X := Unit) (f := 17) (vs := [.slice ad105 x88.Cells.length cp106]) (val := fun _ => .tuple #[iv r107.1, iv r107.2]) S (wN rfl) rfl callee17 rfl (S1.quiet [1] rfl) (fun E1 w1 S1 => c_stitch_Makes E1 w1 x88.Cells (.slice ad105 x88.Cells.length cp106) r107 hx108 S1) rfl (lb rfl) fun _ a w S => ?_
  refine sMove (.tuple #[iv r107.1, iv r107.2]) S (wN rfl) (.inl rfl) rfl rfl (lb rfl) fun a S => ?_
  refine sExtract (vs := [iv r107.1, iv r107.2]) (iv r107.1) S (wN rfl) rfl rfl rfl rfl (lb rfl) fun a S => ?_
  refine sExtract (vs := [iv r107.1, iv r107.2]) (iv r107.2) S (wN rfl) rfl rfl rfl rfl (lb rfl) fun a S => ?_
  refine sMove (iv r107.1) S (wN rfl) (.inr rfl) rfl rfl (lb rfl) fun a S => ?_
  refine sMove (iv r107.2) S (wN rfl) (.inr rfl) rfl rfl (lb rfl) fun a S => ?_
  refine leafL (leafT (hK99 _ _ ?_))
  refine sSeq (fun K109 hK109 => ?_)
  obtain ⟨t111, h, g112⟩ := bindSome h
  refine sCut (fun a w => ∃ o110, o110 = t111 ∧ St [] E [] w0 210 a w [(0, iv p0), (5, .bool r5), (6, .pointer (some ⟨b23, 0, none⟩)), (8, .slice ad28 r25.1.length cp29), (13, .slice ad70 s69.length cp71), (14, iv s72), (160, .bool o110)] [eBox b23 32 [iv r16.1.Start, .slice ad21 r16.1.Rows.length cp22], eRow (rI .i64) 3 (.slice ad70 s69.length cp71) s69] [fRep (rL (rI .i64)) (.slice ad28 r25.1.length cp29) r25.1, fRep (rL r_api_Row) (.slice ad21 r16.1.Rows.length cp22) r16.1.Rows]) ?_ (fun a w hI => ?_)
  rotate_left
  · obtain ⟨o110, rfl, S⟩ := hI
    have h := g112
    clear g112
    try dsimp only at h
    rcases iteSome h with ⟨hc132, h⟩ | ⟨hc132, h⟩
    · refine sCondT S rfl hc132 ?_
      refine sSeq (fun K133 hK133 => ?_)
      refine sRegion ?_
      refine sMove (.bool false) S (wN rfl) (.inr rfl) rfl rfl (lb rfl) fun a S => ?_
      refine leafL (leafT (hK133 _ _ ?_))
      obtain rfl := Option.some.inj h
      have h := g86
      clear g86
      try dsimp only at h
      obtain rfl := Option.some.inj h
      obtain rfl := hu73 _ rfl
      have h := g74
      clear g74
      try dsimp only at h
      obtain rfl := Option.some.inj h
      have h := g67
      clear g67
      try dsimp only at h
      obtain rfl := Option.some.inj h
      exact wp_ret (rThen (rBlock (rThen (rThen (rBlock (rThen (sRet (.bool false) S (rsl1 rfl (rvT (t := 4) (v := .bool false) S rfl)) ⟨(), rfl, S.mem.sel [] [] (by decide) rfl rfl⟩)))))))
    refine sCondF S rfl hc132 ?_
    refine wp_skip (leafT (hK109 _ _ ?_))
    refine sSeq (fun K134 hK134 => ?_)
    refine sRegion ?_
    refine sMove (iv 0) S (wN rfl) (.inr rfl) rfl rfl (lb rfl) fun a S => ?_
    refine leafL (leafT (hK134 _ _ ?_))
    refine wp_block ?_
    obtain ⟨t141, hl, g140⟩ := bindSome h
    refine sLoop hl (fun s0 a w => match s0 with | (s135, s138) => ∃ ad136, ∃ cp137, St [] E [] w0 210 a w [(0, iv p0), (5, .bool r5), (6, .pointer (some ⟨b23, 0, none⟩)), (8, .slice ad28 r25.1.length cp29), (13, .slice ad136 s135.length cp137), (14, iv s72), (19, iv s138)] [eBox b23 32 [iv r16.1.Start, .slice ad21 r16.1.Rows.length cp22], eRow (rI .i64) 3 (.slice ad136 s135.length cp137) s135] [fRep (rL (rI .i64)) (.slice ad28 r25.1.length cp29) r25.1, fRep (rL r_api_Row) (.slice ad21 r16.1.Rows.length cp22) r16.1.Rows]) ⟨ad70, cp71, S.fix [0, 1] [0, 1] (by decide) rfl rfl rfl⟩ ?_
    clear hl h
    intro s0 a w c0 hI h hu139
    obtain ⟨s135, s138⟩ := s0
    unfold raddlelaw38_ShortKnits_l1 at h
    dsimp only at h hI
    obtain ⟨ad136, cp137, S⟩ := hI
    refine sSeq (fun K145 hK145 => ?_)
    refine sSeq (fun K146 hK146 => ?_)
    refine sRegion ?_
    refine sMove (iv s138) S (wN rfl) (.inl rfl) rfl rfl (lb rfl) fun a S => ?_
    refine sMove (iv p0) S (wN rfl) (.inl rfl) rfl rfl (lb rfl) fun a S => ?_
    refine sBin (.bool (decide (s138 < p0))) S (wN rfl) rfl rfl rfl (bLt _ _ _ _ .i64 s138 p0) rfl (lb rfl) fun a S => ?_
    refine leafL (leafT (hK146 _ _ ?_))
    rcases iteSome h with ⟨hc147, h⟩ | ⟨hc147, h⟩
    rotate_left
    · refine sCondF S rfl hc147 ?_
      obtain rfl := Option.some.inj h
      obtain rfl := hu139 _ rfl
      have h := g140
      clear g140
      try dsimp only at h
      exact wp_exit (xThen (xThen (xHit (leafB (leafT (⟨s135, Option.some.inj h, ad136, cp137, S.fix [0, 1] [0, 1] (by decide) rfl rfl rfl⟩))))))
    refine sCondT S rfl hc147 ?_
    refine wp_skip (leafT (hK145 _ _ ?_))
    obtain ⟨t151, h, g152⟩ := bindSome h
    refine sCut (fun a w => ∃ o148, o148 = t151 ∧ ∃ ad149, ∃ cp150, St [] E [] w0 210 a w [(0, iv p0), (5, .bool r5), (6, .pointer (some ⟨b23, 0, none⟩)), (8, .slice ad28 r25.1.length cp29), (13, .slice ad149 o148.length cp150), (14, iv s72), (19, iv s138)] [eBox b23 32 [iv r16.1.Start, .slice ad21 r16.1.Rows.length cp22], eRow (rI .i64) 3 (.slice ad149 o148.length cp150) o148] [fRep (rL (rI .i64)) (.slice ad28 r25.1.length cp29) r25.1, fRep (rL r_api_Row) (.slice ad21 r16.1.Rows.length cp22) r16.1.Rows]) ?_ (fun a w hI => ?_)
    rotate_left
    · obtain ⟨o148, rfl, ad149, cp150, S⟩ := hI
      have h := g152
      clear g152
      try dsimp only at h
      refine sRegion ?_
      refine sMove (iv s138) S (wN rfl) (.inl rfl) rfl rfl (lb rfl) fun a S => ?_
      refine sBin (iv (w64 (s138 + 1))) S (wN rfl) rfl rfl rfl (bAdd _ _ _ _ s138 1) rfl (lb rfl) fun a S => ?_
      refine sMove (iv (w64 (s138 + 1))) S (wN rfl) (.inr rfl) rfl rfl (lb rfl) fun a S => ?_
      exact leafL (leafT (⟨(o148, w64 (s138 + 1)), (Option.some.inj h).symm, ⟨ad149, cp150, S.fix [0, 1] [0, 1] (by decide) rfl rfl rfl⟩⟩))
    refine wp_block ?_
    refine sSeq (fun K153 hK153 => ?_)
    refine sRegion ?_
    refine sMove (iv s138) S (wN rfl) (.inl rfl) rfl rfl (lb rfl) fun a S => ?_
    refine sMove (iv s138) S (wN rfl) (.inr rfl) rfl rfl (lb rfl) fun a S => ?_
    refine leafL (leafT (hK153 _ _ ?_))
    obtain ⟨t155, h, g156⟩ := bindSome h
    refine sCut (fun a w => ∃ o154, o154 = t155 ∧ St [] E [] w0 210 a w [(0, iv p0), (5, .bool r5), (6, .pointer (some ⟨b23, 0, none⟩)), (8, .slice ad28 r25.1.length cp29), (13, .slice ad136 s135.length cp137), (14, iv s72), (19, iv s138), (20, iv o154)] [eBox b23 32 [iv r16.1.Start, .slice ad21 r16.1.Rows.length cp22], eRow (rI .i64) 3 (.slice ad136 s135.length cp137) s135] [fRep (rL (rI .i64)) (.slice ad28 r25.1.length cp29) r25.1, fRep (rL r_api_Row) (.slice ad21 r16.1.Rows.length cp22) r16.1.Rows]) ?_ (fun a w hI => ?_)
    · refine sSeq (fun K157 hK157 => ?_)
      refine sRegion ?_
      refine sField (b := b23) (off := 0) 1 1 S (wN rfl) rfl rfl rfl rfl rfl (lb rfl) fun a S => ?_
      refine sLoad1 (p := b23) (off := 1) (T := 32) (vs := [iv r16.1.Start, .slice ad21 r16.1.Rows.length cp22]) 0 (.slice ad21 r16.1.Rows.length cp22) S (wN rfl) rfl rfl rfl rfl rfl rfl (lb rfl) fun a S => ?_
      refine sMove (iv s72) S (wN rfl) (.inl rfl) rfl rfl (lb rfl) fun a S => ?_
      obtain ⟨q158, hq159, S⟩ := pIdx (P := Tryd.prog) (r := r_api_Row) (v := .slice ad21 r16.1.Rows.length cp22) (xs := r16.1.Rows) (j := s72) 30 41 1 S Tryd.underlying30 rfl rfl hx89
      refine sIdxV (v := .slice ad21 r16.1.Rows.length cp22) (k := .i64) (j := s72) S (wN rfl) rfl rfl rfl hq159 rfl (lb rfl) fun a S => ?_
      obtain ⟨q160, hq161, S⟩ := pFld (P := Tryd.prog) (r := r_api_Row) (s2 := rB) (g := (·.Back)) (q := q158) (z := x88) 41 0 0 0 S rfl rfl comp_api_Row_Back
      refine sFldV (q := q158) S (wN rfl) rfl rfl hq161 rfl (lb rfl) fun a S => ?_
      obtain ⟨u162, S⟩ := pLoad (r := rB) (q := q160) (x := x88.Back) 0 S rfl
      obtain rfl : u162 = .bool x88.Back := S.mem.know (i := 1) (e := fRep rB (u162) x88.Back) rfl
      refine sLoadV1 (vq := q160) 0 (.bool x88.Back) S (wN rfl) rfl rfl rfl rfl rfl (lb rfl) fun a S => ?_
      refine leafL (leafT (hK157 _ _ ?_))
      rcases iteSome h with ⟨hc163, h⟩ | ⟨hc163, h⟩
      rotate_left
      · refine sCondF S rfl hc163 ?_
        exact wp_skip (leafT (⟨s138, Option.some.inj h, S.fix [0, 1] [4, 5] (by decide) rfl rfl rfl⟩))
      refine sCondT S rfl hc163 ?_
      refine sRegion ?_
      refine sMove (iv p0) S (wN rfl) (.inl rfl) rfl rfl (lb rfl) fun a S => ?_
      refine sBin (iv (w64 (p0 - 1))) S (wN rfl) rfl rfl rfl (bSub _ _ _ _ p0 1) rfl (lb rfl) fun a S => ?_
      refine sMove (iv s138) S (wN rfl) (.inl rfl) rfl rfl (lb rfl) fun a S => ?_
      refine sBin (iv (w64 ((w64 (p0 - 1)) - s138))) S (wN rfl) rfl rfl rfl (bSub _ _ _ _ (w64 (p0 - 1)) s138) rfl (lb rfl) fun a S => ?_
      refine sMove (iv (w64 ((w64 (p0 - 1)) - s138))) S (wN rfl) (.inr rfl) rfl rfl (lb rfl) fun a S => ?_
      exact leafL (leafT (⟨w64 ((w64 (p0 - 1)) - s138), Option.some.inj h, S.fix [0, 1] [4, 5] (by decide) rfl rfl rfl⟩))
    obtain ⟨o154, rfl, S⟩ := hI
    have h := g156
    clear g156
    try dsimp only at h
    refine sSeq (fun K164 hK164 => ?_)
    refine sRegion ?_
    refine sField (b := b23) (off := 0) 1 1 S (wN rfl) rfl rfl rfl rfl rfl (lb rfl) fun a S => ?_
    refine sLoad1 (p := b23) (off := 1) (T := 32) (vs := [iv r16.1.Start, .slice ad21 r16.1.Rows.length cp22]) 0 (.slice ad21 r16.1.Rows.length cp22) S (wN rfl) rfl rfl rfl rfl rfl rfl (lb rfl) fun a S => ?_
    refine sMove (iv s72) S (wN rfl) (.inl rfl) rfl rfl (lb rfl) fun a S => ?_
    obtain ⟨q165, hq166, S⟩ := pIdx (P := Tryd.prog) (r := r_api_Row) (v := .slice ad21 r16.1.Rows.length cp22) (xs := r16.1.Rows) (j := s72) 30 41 1 S Tryd.underlying30 rfl rfl hx89
    refine sIdxV (v := .slice ad21 r16.1.Rows.length cp22) (k := .i64) (j := s72) S (wN rfl) rfl rfl rfl hq166 rfl (lb rfl) fun a S => ?_
    obtain ⟨q167, hq168, S⟩ := pFld (P := Tryd.prog) (r := r_api_Row) (s2 := (rL r_api_Stitch)) (g := (·.Cells)) (q := q165) (z := x88) 41 1 0 1 S rfl rfl comp_api_Row_Cells
    refine sFldV (q := q165) S (wN rfl) rfl rfl hq168 rfl (lb rfl) fun a S => ?_
    obtain ⟨u169, S⟩ := pLoad (r := (rL r_api_Stitch)) (q := q167) (x := x88.Cells) 0 S rfl
    obtain ⟨ad170, cp171, _, rfl, _⟩ := S.mem.know (i := 1) (e := fRep (rL r_api_Stitch) (u169) x88.Cells) rfl
    refine sLoadV1 (vq := q167) 0 (.slice ad170 x88.Cells.length cp171) S (wN rfl) rfl rfl rfl rfl rfl (lb rfl) fun a S => ?_
    refine sMove (iv s138) S (wN rfl) (.inl rfl) rfl rfl (lb rfl) fun a S => ?_
    obtain ⟨x172, hx173, h⟩ := bindSome h
    obtain ⟨q174, hq175, S⟩ := pIdx (P := Tryd.prog) (r := r_api_Stitch) (v := .slice ad170 x88.Cells.length cp171) (xs := x88.Cells) (j := s138) 39 38 1 S Tryd.underlying39 rfl rfl hx173
    refine sIdxV (v := .slice ad170 x88.Cells.length cp171) (k := .i64) (j := s138) S (wN rfl) rfl rfl rfl hq175 rfl (lb rfl) fun a S => ?_
    obtain ⟨q176, hq177, S⟩ := pFld (P := Tryd.prog) (r := r_api_Stitch) (s2 := (rI .u8)) (g := (·.Kind)) (q := q174) (z := x172) 38 0 0 0 S rfl rfl comp_api_Stitch_Kind
    refine sFldV (q := q174) S (wN rfl) rfl rfl hq177 rfl (lb rfl) fun a S => ?_
    obtain ⟨u178, S⟩ := pLoad (r := (rI .u8)) (q := q176) (x := x172.Kind) 0 S rfl
    obtain rfl : u178 = .int .u8 x172.Kind := S.mem.know (i := 1) (e := fRep (rI .u8) (u178) x172.Kind) rfl
    refine sLoadV1 (vq := q176) 0 (.int .u8 x172.Kind) S (wN rfl) rfl rfl rfl rfl rfl (lb rfl) fun a S => ?_
    refine sBin (.bool (x172.Kind == 1)) S (wN rfl) rfl rfl rfl (bEq _ _ _ _ .u8 x172.Kind 1) rfl (lb rfl) fun a S => ?_
    refine leafL (leafT (hK164 _ _ ?_))
    rcases iteSome h with ⟨hc179, h⟩ | ⟨hc179, h⟩
    rotate_left
    · refine sCondF S rfl hc179 ?_
      exact wp_skip (leafB (leafT (⟨s135, Option.some.inj h, ad136, cp137, S.fix [0, 1] [8, 9] (by decide) rfl rfl rfl⟩)))
    refine sCondT S rfl hc179 ?_
    refine sRegion ?_
    refine sMove (.slice ad136 s135.length cp137) S (wN rfl) (.inl rfl) rfl rfl (lb rfl) fun a S => ?_
    refine sMove (iv o154) S (wN rfl) (.inl rfl) rfl rfl (lb rfl) fun a S => ?_
    obtain ⟨x180, hx181, h⟩ := bindSome h
    obtain ⟨q182, hq183, hp184⟩ := pIdxR (P := Tryd.prog) (r := (rI .i64)) (T := 3) (v := .slice ad136 s135.length cp137) (xs := s135) (j := o154) 22 3 1 S Tryd.underlying22 rfl rfl hx181
    refine sIdxV (v := .slice ad136 s135.length cp137) (k := .i64) (j := o154) S (wN rfl) rfl rfl rfl hq183 rfl (lb rfl) fun a S => ?_
    refine sLoadR (r := (rI .i64)) (T := 3) (xs := s135) (x := x180) (v := .slice ad136 s135.length cp137) (vq := q182) (j := o154) 1 (iv x180) S hp184 (wN rfl) rfl rfl rfl hx181 (fun _ _ _ h => h) (scal_I _) rfl rfl (lb rfl) fun a S => ?_
    refine sBin (iv (w64 (x180 + 1))) S (wN rfl) rfl rfl rfl (bAdd _ _ _ _ x180 1) rfl (lb rfl) fun a S => ?_
    obtain ⟨q185, hq186, hp187⟩ := pIdxR (P := Tryd.prog) (r := (rI .i64)) (T := 3) (v := .slice ad136 s135.length cp137) (xs := s135) (j := o154) 22 3 1 S Tryd.underlying22 rfl rfl hx181
    refine sIdxV (v := .slice ad136 s135.length cp137) (k := .i64) (j := o154) S (wN rfl) rfl rfl rfl hq186 rfl (lb rfl) fun a S => ?_
    obtain ⟨l188, hx189, h⟩ := bindSome h
    refine sStoreR (r := (rI .i64)) (T := 3) (xs := s135) (ys := l188) (y := (w64 (x180 + 1))) (v := .slice ad136 s135.length cp137) (vq := q185) (u := iv (w64 (x180 + 1))) (j := o154) 1 S hp187 (wN rfl) rfl rfl rfl rfl rfl hx189 rfl rfl fun a w S => ?_
    rw [setO_v hx189 ad136 cp137] at S
    exact leafL (leafB (leafT (⟨l188, Option.some.inj h, ad136, cp137, S.fix [1, 0] [8, 9] (by decide) rfl rfl rfl⟩)))
  refine sRegion ?_
  refine sMove (iv r97.2) S (wN rfl) (.inl rfl) rfl rfl (lb rfl) fun a S => ?_
  refine sBin (.bool (r97.2 != 0)) S (wN rfl) rfl rfl rfl (bNe _ _ _ _ .i64 r97.2 0) rfl (lb rfl) fun a S => ?_
  refine sMove (.bool (r97.2 != 0)) S (wN rfl) (.inl rfl) rfl rfl (lb rfl) fun a S => ?_
  rcases iteSome h with ⟨hc113, h⟩ | ⟨hc113, h⟩
  · refine sSkip 2 false 124 125 S rfl rfl rfl hc113 rfl (lb rfl) fun a S => ?_
    refine sSkip 2 false 124 126 S rfl rfl rfl hc113 rfl (lb rfl) fun a S => ?_
    refine sPickT (.bool true) S (wN rfl) rfl rfl hc113 rfl rfl (lb rfl) fun a S => ?_
    refine sMove (.bool true) S (wN rfl) (.inl rfl) rfl rfl (lb rfl) fun a S => ?_
    refine sSkip 6 false 128 129 S rfl rfl rfl rfl rfl (lb rfl) fun a S => ?_
    refine sSkip 6 false 128 130 S rfl rfl rfl rfl rfl (lb rfl) fun a S => ?_
    refine sSkip 6 false 128 131 S rfl rfl rfl rfl rfl (lb rfl) fun a S => ?_
    refine sPickT (.bool true) S (wN rfl) rfl rfl rfl rfl rfl (lb rfl) fun a S => ?_
    refine sMove (.bool true) S (wN rfl) (.inl rfl) rfl rfl (lb rfl) fun a S => ?_
    refine sSkip 11 false 133 134 S rfl rfl rfl rfl rfl (lb rfl) fun a S => ?_
    refine sSkip 11 false 133 135 S rfl rfl rfl rfl rfl (lb rfl) fun a S => ?_
    refine sSkip 11 false 133 136 S rfl rfl rfl rfl rfl (lb rfl) fun a S => ?_
    refine sPickT (.bool true) S (wN rfl) rfl rfl rfl rfl rfl (lb rfl) fun a S => ?_
    refine sMove (.bool true) S (wN rfl) (.inl rfl) rfl rfl (lb rfl) fun a S => ?_
    refine sSkip 16 false 138 139 S rfl rfl rfl rfl rfl (lb rfl) fun a S => ?_
    refine sSkip 16 false 138 140 S rfl rfl rfl rfl rfl (lb rfl) fun a S => ?_
    refine sSkip 16 false 138 141 S rfl rfl rfl rfl rfl (lb rfl) fun a S => ?_
    refine sSkip 16 false 138 142 S rfl rfl rfl rfl rfl (lb rfl) fun a S => ?_
    refine sSkip 16 false 138 143 S rfl rfl rfl rfl rfl (lb rfl) fun a S => ?_
    refine sSkip 16 false 138 144 S rfl rfl rfl rfl rfl (lb rfl) fun a S => ?_
    refine sSkip 16 false 138 145 S rfl rfl rfl rfl rfl (lb rfl) fun a S => ?_
    refine sSkip 16 false 138 146 S rfl rfl rfl rfl rfl (lb rfl) fun a S => ?_
    refine sSkip 16 false 138 147 S rfl rfl rfl rfl rfl (lb rfl) fun a S => ?_
    refine sPickT (.bool true) S (wN rfl) rfl rfl rfl rfl rfl (lb rfl) fun a S => ?_
    refine sMove (.bool true) S (wN rfl) (.inl rfl) rfl rfl (lb rfl) fun a S => ?_
    refine sSkip 27 false 149 150 S rfl rfl rfl rfl rfl (lb rfl) fun a S => ?_
    refine sSkip 27 false 149 151 S rfl rfl rfl rfl rfl (lb rfl) fun a S => ?_
    refine sSkip 27 false 149 152 S rfl rfl rfl rfl rfl (lb rfl) fun a S => ?_
    refine sSkip 27 false 149 153 S rfl rfl rfl rfl rfl (lb rfl) fun a S => ?_
    refine sSkip 27 false 149 154 S rfl rfl rfl rfl rfl (lb rfl) fun a S => ?_
    refine sSkip 27 false 149 155 S rfl rfl rfl rfl rfl (lb rfl) fun a S => ?_
    refine sSkip 27 false 149 156 S rfl rfl rfl rfl rfl (lb rfl) fun a S => ?_
    refine sSkip 27 false 149 157 S rfl rfl rfl rfl rfl (lb rfl) fun a S => ?_
    refine sSkip 27 false 149 158 S rfl rfl rfl rfl rfl (lb rfl) fun a S => ?_
    refine sSkip 27 false 149 159 S rfl rfl rfl rfl rfl (lb rfl) fun a S => ?_
    refine sPickT (.bool true) S (wN rfl) rfl rfl rfl rfl rfl (lb rfl) fun a S => ?_
    exact leafL (leafT (⟨true, Option.some.inj h, S.fix [0, 1] [8, 9] (by decide) rfl rfl rfl⟩))
  refine sMove (iv r107.2) S (wG 2 false 124 rfl rfl rfl hc113) (.inl rfl) rfl rfl (lb rfl) fun a S => ?_
  refine sBin (.bool (r107.2 != 0)) S (wG 2 false 124 rfl rfl rfl hc113) rfl rfl rfl (bNe _ _ _ _ .i64 r107.2 0) rfl (lb rfl) fun a S => ?_
  refine sPickF (.bool (r107.2 != 0)) S (wN rfl) rfl rfl hc113 rfl rfl (lb rfl) fun a S => ?_
  refine sMove (.bool (r107.2 != 0)) S (wN rfl) (.inl rfl) rfl rfl (lb rfl) fun a S => ?_
  rcases iteSome h with ⟨hc114, h⟩ | ⟨hc114, h⟩
  · refine sSkip 6 false 128 129 S rfl rfl rfl hc114 rfl (lb rfl) fun a S => ?_
    refine sSkip 6 false 128 130 S rfl rfl rfl hc114 rfl (lb rfl) fun a S => ?_
    refine sSkip 6 false 128 131 S rfl rfl rfl hc114 rfl (lb rfl) fun a S => ?_
    refine sPickT (.bool true) S (wN rfl) rfl rfl hc114 rfl rfl (lb rfl) fun a S => ?_
    refine sMove (.bool true) S (wN rfl) (.inl rfl) rfl rfl (lb rfl) fun a S => ?_
    refine sSkip 11 false 133 134 S rfl rfl rfl rfl rfl (lb rfl) fun a S => ?_
    refine sSkip 11 false 133 135 S rfl rfl rfl rfl rfl (lb rfl) fun a S => ?_
    refine sSkip 11 false 133 136 S rfl rfl rfl rfl rfl (lb rfl) fun a S => ?_
    refine sPickT (.bool true) S (wN rfl) rfl rfl rfl rfl rfl (lb rfl) fun a S => ?_
    refine sMove (.bool true) S (wN rfl) (.inl rfl) rfl rfl (lb rfl) fun a S => ?_
    refine sSkip 16 false 138 139 S rfl rfl rfl rfl rfl (lb rfl) fun a S => ?_
    refine sSkip 16 false 138 140 S rfl rfl rfl rfl rfl (lb rfl) fun a S => ?_
    refine sSkip 16 false 138 141 S rfl rfl rfl rfl rfl (lb rfl) fun a S => ?_
    refine sSkip 16 false 138 142 S rfl rfl rfl rfl rfl (lb rfl) fun a S => ?_
    refine sSkip 16 false 138 143 S rfl rfl rfl rfl rfl (lb rfl) fun a S => ?_
    refine sSkip 16 false 138 144 S rfl rfl rfl rfl rfl (lb rfl) fun a S => ?_
    refine sSkip 16 false 138 145 S rfl rfl rfl rfl rfl (lb rfl) fun a S => ?_
    refine sSkip 16 false 138 146 S rfl rfl rfl rfl rfl (lb rfl) fun a S => ?_
    refine sSkip 16 false 138 147 S rfl rfl rfl rfl rfl (lb rfl) fun a S => ?_
    refine sPickT (.bool true) S (wN rfl) rfl rfl rfl rfl rfl (lb rfl) fun a S => ?_
    refine sMove (.bool true) S (wN rfl) (.inl rfl) rfl rfl (lb rfl) fun a S => ?_
    refine sSkip 27 false 149 150 S rfl rfl rfl rfl rfl (lb rfl) fun a S => ?_
    refine sSkip 27 false 149 151 S rfl rfl rfl rfl rfl (lb rfl) fun a S => ?_
    refine sSkip 27 false 149 152 S rfl rfl rfl rfl rfl (lb rfl) fun a S => ?_
    refine sSkip 27 false 149 153 S rfl rfl rfl rfl rfl (lb rfl) fun a S => ?_
    refine sSkip 27 false 149 154 S rfl rfl rfl rfl rfl (lb rfl) fun a S => ?_
    refine sSkip 27 false 149 155 S rfl rfl rfl rfl rfl (lb rfl) fun a S => ?_
    refine sSkip 27 false 149 156 S rfl rfl rfl rfl rfl (lb rfl) fun a S => ?_
    refine sSkip 27 false 149 157 S rfl rfl rfl rfl rfl (lb rfl) fun a S => ?_
    refine sSkip 27 false 149 158 S rfl rfl rfl rfl rfl (lb rfl) fun a S => ?_
    refine sSkip 27 false 149 159 S rfl rfl rfl rfl rfl (lb rfl) fun a S => ?_
    refine sPickT (.bool true) S (wN rfl) rfl rfl rfl rfl rfl (lb rfl) fun a S => ?_
    exact leafL (leafT (⟨true, Option.some.inj h, S.fix [0, 1] [8, 9] (by decide) rfl rfl rfl⟩))
  refine sMove (iv r97.1) S (wG 6 false 128 rfl rfl rfl hc114) (.inl rfl) rfl rfl (lb rfl) fun a S => ?_
  refine sMove (iv p0) S (wG 6 false 128 rfl rfl rfl hc114) (.inl rfl) rfl rfl (lb rfl) fun a S => ?_
  refine sBin (.bool (r97.1 != p0)) S (wG 6 false 128 rfl rfl rfl hc114) rfl rfl rfl (bNe _ _ _ _ .i64 r97.1 p0) rfl (lb rfl) fun a S => ?_
  refine sPickF (.bool (r97.1 != p0)) S (wN rfl) rfl rfl hc114 rfl rfl (lb rfl) fun a S => ?_
  refine sMove (.bool (r97.1 != p0)) S (wN rfl) (.inl rfl) rfl rfl (lb rfl) fun a S => ?_
  rcases iteSome h with ⟨hc115, h⟩ | ⟨hc115, h⟩
  · refine sSkip 11 false 133 134 S rfl rfl rfl hc115 rfl (lb rfl) fun a S => ?_
    refine sSkip 11 false 133 135 S rfl rfl rfl hc115 rfl (lb rfl) fun a S => ?_
    refine sSkip 11 false 133 136 S rfl rfl rfl hc115 rfl (lb rfl) fun a S => ?_
    refine sPickT (.bool true) S (wN rfl) rfl rfl hc115 rfl rfl (lb rfl) fun a S => ?_
    refine sMove (.bool true) S (wN rfl) (.inl rfl) rfl rfl (lb rfl) fun a S => ?_
    refine sSkip 16 false 138 139 S rfl rfl rfl rfl rfl (lb rfl) fun a S => ?_
    refine sSkip 16 false 138 140 S rfl rfl rfl rfl rfl (lb rfl) fun a S => ?_
    refine sSkip 16 false 138 141 S rfl rfl rfl rfl rfl (lb rfl) fun a S => ?_
    refine sSkip 16 false 138 142 S rfl rfl rfl rfl rfl (lb rfl) fun a S => ?_
    refine sSkip 16 false 138 143 S rfl rfl rfl rfl rfl (lb rfl) fun a S => ?_
    refine sSkip 16 false 138 144 S rfl rfl rfl rfl rfl (lb rfl) fun a S => ?_
    refine sSkip 16 false 138 145 S rfl rfl rfl rfl rfl (lb rfl) fun a S => ?_
    refine sSkip 16 false 138 146 S rfl rfl rfl rfl rfl (lb rfl) fun a S => ?_
    refine sSkip 16 false 138 147 S rfl rfl rfl rfl rfl (lb rfl) fun a S => ?_
    refine sPickT (.bool true) S (wN rfl) rfl rfl rfl rfl rfl (lb rfl) fun a S => ?_
    refine sMove (.bool true) S (wN rfl) (.inl rfl) rfl rfl (lb rfl) fun a S => ?_
    refine sSkip 27 false 149 150 S rfl rfl rfl rfl rfl (lb rfl) fun a S => ?_
    refine sSkip 27 false 149 151 S rfl rfl rfl rfl rfl (lb rfl) fun a S => ?_
    refine sSkip 27 false 149 152 S rfl rfl rfl rfl rfl (lb rfl) fun a S => ?_
    refine sSkip 27 false 149 153 S rfl rfl rfl rfl rfl (lb rfl) fun a S => ?_
    refine sSkip 27 false 149 154 S rfl rfl rfl rfl rfl (lb rfl) fun a S => ?_
    refine sSkip 27 false 149 155 S rfl rfl rfl rfl rfl (lb rfl) fun a S => ?_
    refine sSkip 27 false 149 156 S rfl rfl rfl rfl rfl (lb rfl) fun a S => ?_
    refine sSkip 27 false 149 157 S rfl rfl rfl rfl rfl (lb rfl) fun a S => ?_
    refine sSkip 27 false 149 158 S rfl rfl rfl rfl rfl (lb rfl) fun a S => ?_
    refine sSkip 27 false 149 159 S rfl rfl rfl rfl rfl (lb rfl) fun a S => ?_
    refine sPickT (.bool true) S (wN rfl) rfl rfl rfl rfl rfl (lb rfl) fun a S => ?_
    exact leafL (leafT (⟨true, Option.some.inj h, S.fix [0, 1] [8, 9] (by decide) rfl rfl rfl⟩))
  refine sMove (iv r107.1) S (wG 11 false 133 rfl rfl rfl hc115) (.inl rfl) rfl rfl (lb rfl) fun a S => ?_
  refine sMove (iv p0) S (wG 11 false 133 rfl rfl rfl hc115) (.inl rfl) rfl rfl (lb rfl) fun a S => ?_
  refine sBin (.bool (r107.1 != p0)) S (wG 11 false 133 rfl rfl rfl hc115) rfl rfl rfl (bNe _ _ _ _ .i64 r107.1 p0) rfl (lb rfl) fun a S => ?_
  refine sPickF (.bool (r107.1 != p0)) S (wN rfl) rfl rfl hc115 rfl rfl (lb rfl) fun a S => ?_
  refine sMove (.bool (r107.1 != p0)) S (wN rfl) (.inl rfl) rfl rfl (lb rfl) fun a S => ?_
  rcases iteSome h with ⟨hc116, h⟩ | ⟨hc116, h⟩
  · refine sSkip 16 false 138 139 S rfl rfl rfl hc116 rfl (lb rfl) fun a S => ?_
    refine sSkip 16 false 138 140 S rfl rfl rfl hc116 rfl (lb rfl) fun a S => ?_
    refine sSkip 16 false 138 141 S rfl rfl rfl hc116 rfl (lb rfl) fun a S => ?_
    refine sSkip 16 false 138 142 S rfl rfl rfl hc116 rfl (lb rfl) fun a S => ?_
    refine sSkip 16 false 138 143 S rfl rfl rfl hc116 rfl (lb rfl) fun a S => ?_
    refine sSkip 16 false 138 144 S rfl rfl rfl hc116 rfl (lb rfl) fun a S => ?_
    refine sSkip 16 false 138 145 S rfl rfl rfl hc116 rfl (lb rfl) fun a S => ?_
    refine sSkip 16 false 138 146 S rfl rfl rfl hc116 rfl (lb rfl) fun a S => ?_
    refine sSkip 16 false 138 147 S rfl rfl rfl hc116 rfl (lb rfl) fun a S => ?_
    refine sPickT (.bool true) S (wN rfl) rfl rfl hc116 rfl rfl (lb rfl) fun a S => ?_
    refine sMove (.bool true) S (wN rfl) (.inl rfl) rfl rfl (lb rfl) fun a S => ?_
    refine sSkip 27 false 149 150 S rfl rfl rfl rfl rfl (lb rfl) fun a S => ?_
    refine sSkip 27 false 149 151 S rfl rfl rfl rfl rfl (lb rfl) fun a S => ?_
    refine sSkip 27 false 149 152 S rfl rfl rfl rfl rfl (lb rfl) fun a S => ?_
    refine sSkip 27 false 149 153 S rfl rfl rfl rfl rfl (lb rfl) fun a S => ?_
    refine sSkip 27 false 149 154 S rfl rfl rfl rfl rfl (lb rfl) fun a S => ?_
    refine sSkip 27 false 149 155 S rfl rfl rfl rfl rfl (lb rfl) fun a S => ?_
    refine sSkip 27 false 149 156 S rfl rfl rfl rfl rfl (lb rfl) fun a S => ?_
    refine sSkip 27 false 149 157 S rfl rfl rfl rfl rfl (lb rfl) fun a S => ?_
    refine sSkip 27 false 149 158 S rfl rfl rfl rfl rfl (lb rfl) fun a S => ?_
    refine sSkip 27 false 149 159 S rfl rfl rfl rfl rfl (lb rfl) fun a S => ?_
    refine sPickT (.bool true) S (wN rfl) rfl rfl rfl rfl rfl (lb rfl) fun a S => ?_
    exact leafL (leafT (⟨true, Option.some.inj h, S.fix [0, 1] [8, 9] (by decide) rfl rfl rfl⟩))
  refine sField (b := b23) (off := 0) 1 1 S (wG 16 false 138 rfl rfl rfl hc116) rfl rfl rfl rfl rfl (lb rfl) fun a S => ?_
  refine sLoad1 (p := b23) (off := 1) (T := 32) (vs := [iv r16.1.Start, .slice ad21 r16.1.Rows.length cp22]) 0 (.slice ad21 r16.1.Rows.length cp22) S (wG 16 false 138 rfl rfl rfl hc116) rfl rfl rfl rfl rfl rfl (lb rfl) fun a S => ?_
  refine sMove (iv s72) S (wG 16 false 138 rfl rfl rfl hc116) (.inl rfl) rfl rfl (lb rfl) fun a S => ?_
  obtain ⟨q117, hq118, S⟩ := pIdx (P := Tryd.prog) (r := r_api_Row) (v := .slice ad21 r16.1.Rows.length cp22) (xs := r16.1.Rows) (j := s72) 30 41 9 S Tryd.underlying30 rfl rfl hx89
  refine sIdxV (v := .slice ad21 r16.1.Rows.length cp22) (k := .i64) (j := s72) S (wG 16 false 138 rfl rfl rfl hc116) rfl rfl rfl hq118 rfl (lb rfl) fun a S => ?_
  obtain ⟨q119, hq120, S⟩ := pFld (P := Tryd.prog) (r := r_api_Row) (s2 := (rL r_api_Stitch)) (g := (·.Cells)) (q := q117) (z := x88) 41 1 0 1 S rfl rfl comp_api_Row_Cells
  refine sFldV (q := q117) S (wG 16 false 138 rfl rfl rfl hc116) rfl rfl hq120 rfl (lb rfl) fun a S => ?_
  obtain ⟨u121, S⟩ := pLoad (r := (rL r_api_Stitch)) (q := q119) (x := x88.Cells) 0 S rfl
  obtain ⟨ad122, cp123, _, rfl, _⟩ := S.mem.know (i := 1) (e := fRep (rL r_api_Stitch) (u121) x88.Cells) rfl
  refine sLoadV1 (vq := q119) 0 (.slice ad122 x88.Cells.length cp123) S (wG 16 false 138 rfl rfl rfl hc116) rfl rfl rfl rfl rfl (lb rfl) fun a S => ?_
  refine sLen (ad := ad122) (m := x88.Cells.length) (c := cp123) S (wG 16 false 138 rfl rfl rfl hc116) rfl Tryd.underlying39 rfl rfl (lb rfl) fun a S => ?_
  refine sMove (iv p0) S (wG 16 false 138 rfl rfl rfl hc116) (.inl rfl) rfl rfl (lb rfl) fun a S => ?_
  refine sBin (.bool ((x88.Cells.length : Int) != p0)) S (wG 16 false 138 rfl rfl rfl hc116) rfl rfl rfl (bNe _ _ _ _ .i64 (x88.Cells.length : Int) p0) rfl (lb rfl) fun a S => ?_
  refine sPickF (.bool ((x88.Cells.length : Int) != p0)) S (wN rfl) rfl rfl hc116 rfl rfl (lb rfl) fun a S => ?_
  refine sMove (.bool ((x88.Cells.length : Int) != p0)) S (wN rfl) (.inl rfl) rfl rfl (lb rfl) fun a S => ?_
  rcases iteSome h with ⟨hc124, h⟩ | ⟨hc124, h⟩
  · refine sSkip 27 false 149 150 S rfl rfl rfl hc124 rfl (lb rfl) fun a S => ?_
    refine sSkip 27 false 149 151 S rfl rfl rfl hc124 rfl (lb rfl) fun a S => ?_
    refine sSkip 27 false 149 152 S rfl rfl rfl hc124 rfl (lb rfl) fun a S => ?_
    refine sSkip 27 false 149 153 S rfl rfl rfl hc124 rfl (lb rfl) fun a S => ?_
    refine sSkip 27 false 149 154 S rfl rfl rfl hc124 rfl (lb rfl) fun a S => ?_
    refine sSkip 27 false 149 155 S rfl rfl rfl hc124 rfl (lb rfl) fun a S => ?_
    refine sSkip 27 false 149 156 S rfl rfl rfl hc124 rfl (lb rfl) fun a S => ?_
    refine sSkip 27 false 149 157 S rfl rfl rfl hc124 rfl (lb rfl) fun a S => ?_
    refine sSkip 27 false 149 158 S rfl rfl rfl hc124 rfl (lb rfl) fun a S => ?_
    refine sSkip 27 false 149 159 S rfl rfl rfl hc124 rfl (lb rfl) fun a S => ?_
    refine sPickT (.bool true) S (wN rfl) rfl rfl hc124 rfl rfl (lb rfl) fun a S => ?_
    exact leafL (leafT (⟨true, Option.some.inj h, S.fix [0, 1] [12, 13] (by decide) rfl rfl rfl⟩))
  refine sField (b := b23) (off := 0) 1 1 S (wG 27 false 149 rfl rfl rfl hc124) rfl rfl rfl rfl rfl (lb rfl) fun a S => ?_
  refine sLoad1 (p := b23) (off := 1) (T := 32) (vs := [iv r16.1.Start, .slice ad21 r16.1.Rows.length cp22]) 0 (.slice ad21 r16.1.Rows.length cp22) S (wG 27 false 149 rfl rfl rfl hc124) rfl rfl rfl rfl rfl rfl (lb rfl) fun a S => ?_
  refine sMove (iv s72) S (wG 27 false 149 rfl rfl rfl hc124) (.inl rfl) rfl rfl (lb rfl) fun a S => ?_
  obtain ⟨q125, hq126, S⟩ := pIdx (P := Tryd.prog) (r := r_api_Row) (v := .slice ad21 r16.1.Rows.length cp22) (xs := r16.1.Rows) (j := s72) 30 41 13 S Tryd.underlying30 rfl rfl hx89
  refine sIdxV (v := .slice ad21 r16.1.Rows.length cp22) (k := .i64) (j := s72) S (wG 27 false 149 rfl rfl rfl hc124) rfl rfl rfl hq126 rfl (lb rfl) fun a S => ?_
  obtain ⟨q127, hq128, S⟩ := pFld (P := Tryd.prog) (r := r_api_Row) (s2 := rB) (g := (·.Back)) (q := q125) (z := x88) 41 0 0 0 S rfl rfl comp_api_Row_Back
  refine sFldV (q := q125) S (wG 27 false 149 rfl rfl rfl hc124) rfl rfl hq128 rfl (lb rfl) fun a S => ?_
  obtain ⟨u129, S⟩ := pLoad (r := rB) (q := q127) (x := x88.Back) 0 S rfl
  obtain rfl : u129 = .bool x88.Back := S.mem.know (i := 1) (e := fRep rB (u129) x88.Back) rfl
  refine sLoadV1 (vq := q127) 0 (.bool x88.Back) S (wG 27 false 149 rfl rfl rfl hc124) rfl rfl rfl rfl rfl (lb rfl) fun a S => ?_
  refine sMove (iv s72) S (wG 27 false 149 rfl rfl rfl hc124) (.inl rfl) rfl rfl (lb rfl) fun a S => ?_
  obtain ⟨z130, hx131, h⟩ := bindSome h
  refine sBin (iv z130) S (wG 27 false 149 rfl rfl rfl hc124) rfl rfl rfl (bRem _ _ _ _ (x := s72) (y := 2) hx131) rfl (lb rfl) fun a S => ?_
  refine sBin (.bool (z130 == 1)) S (wG 27 false 149 rfl rfl rfl hc124) rfl rfl rfl (bEq _ _ _ _ .i64 z130 1) rfl (lb rfl) fun a S => ?_
  refine sBin (.bool (x88.Back != (z130 == 1))) S (wG 27 false 149 rfl rfl rfl hc124) rfl rfl rfl (bNeB _ _ _ _ Tryd.underlying4 x88.Back (z130 == 1)) rfl (lb rfl) fun a S => ?_
  refine sPickF (.bool (x88.Back != (z130 == 1))) S (wN rfl) rfl rfl hc124 rfl rfl (lb rfl) fun a S => ?_
  exact leafL (leafT (⟨x88.Back != (z130 == 1), Option.some.inj h, S.fix [0, 1] [16, 17] (by decide) rfl rfl rfl⟩))

end Go.Proofs.YtoiehdlcfehmlaaDoor
namespace Go.Proofs.YtoiehdlcfehmlaaDoor
open Go.RowKit
set_option linter.unusedVariables false

theorem rowsOf_odd (n : Int) (l : List Int) (i : Nat) : (rowsOf n l)[2 * i + 1]? = l[i]?.map fun p => (⟨true, ((kn n p).map othS).reverse⟩ : api_Row) := by
  induction l generalizing i with
  | nil => simp [rowsOf]
  | cons p l ih =>
    cases i with
    | zero => rfl
    | succ i =>
      rw [show 2 * (i + 1) + 1 = 2 * i + 1 + 1 + 1 by omega]
      simp only [rowsOf, List.getElem?_cons_succ]
      exact ih i
theorem knit_row (m : Nat) (hm : m ≤ 60) (r : api_Row) (hl : r.Cells.length = m) (p : Int) (hk : ∀ x (hx : x < r.Cells.length), r.Cells[x].Kind = 1 ↔ ((if r.Back = true then m - 1 - x else x : Nat) : Int) < p) (f : Nat → Int) (hf : ∀ j, j < m → 0 ≤ f j ∧ f j ≤ 1000) :
    whileO (raddlelaw38_ShortKnits_l1 (m : Int) r) ((List.range m).map f, 0) = some ((List.range m).map fun j : Nat => f j + if (j : Int) < p then 1 else 0) := by
  cases hb : r.Back with
  | false =>
    have key : ∃ t, whileO (raddlelaw38_ShortKnits_l1 (m : Int) r) ((List.range m).map f, 0) = some t ∧ t = (List.range m).map fun j : Nat => f j + if (j : Int) < p then 1 else 0 := by
      refine loop_st m (fun k s => s = (List.range m).map fun j : Nat => f j + if j < k ∧ (j : Int) < p then 1 else 0) _ (map_cong fun j _ => by simp) ?_ ?_
      · rintro k s hk2 rfl
        have h1 := hk k (by omega)
        rw [hb] at h1
        simp only [Bool.false_eq_true, if_false] at h1
        have hlen : k < ((List.range m).map fun j : Nat => f j + if j < k ∧ (j : Int) < p then 1 else 0).length := by simp; omega
        have v : ((List.range m).map fun j : Nat => f j + if j < k ∧ (j : Int) < p then 1 else 0)[k] = f k := by simp
        have hfk := hf k hk2
        by_cases c : (k : Int) < p
        · refine .inl ⟨_, ?_, rfl⟩
          have es := map_set m (fun j : Nat => f j + if j < k ∧ (j : Int) < p then 1 else 0) (fun j : Nat => f j + if j < k + 1 ∧ (j : Int) < p then 1 else 0) k (f k + 1) (fun j hj => by
            by_cases e : j = k
            · subst e; rw [if_pos rfl, if_pos ⟨by omega, c⟩]
            · rw [if_neg e]
              by_cases h2 : j < k ∧ (j : Int) < p
              · rw [if_pos h2, if_pos ⟨by omega, h2.2⟩]
              · rw [if_neg h2, if_neg (fun h => h2 ⟨by omega, h.2⟩)])
          unfold raddlelaw38_ShortKnits_l1
          simp only [dT (show (k : Int) < (m : Int) by omega), if_true, hb, Bool.false_eq_true, if_false, Option.bind_some, idxO_nat (show k < r.Cells.length by omega), bT (h1.2 c), idxO_nat hlen, v, w64_of (show (-9223372036854775808 : Int) ≤ f k + 1 by omega) (by omega), setO_nat hlen, es, w64_succ (show k < 9223372036854775807 by omega)]
        · refine .inl ⟨_, ?_, rfl⟩
          have es : ((List.range m).map fun j : Nat => f j + if j < k ∧ (j : Int) < p then 1 else 0) = (List.range m).map fun j : Nat => f j + if j < k + 1 ∧ (j : Int) < p then 1 else 0 := map_cong fun j hj => by
            by_cases h2 : j < k ∧ (j : Int) < p
            · rw [if_pos h2, if_pos ⟨by omega, h2.2⟩]
            · rw [if_neg h2, if_neg (fun h => h2 ⟨by omega, h.2⟩)]
          unfold raddlelaw38_ShortKnits_l1
          simp only [dT (show (k : Int) < (m : Int) by omega), if_true, hb, Bool.false_eq_true, if_false, Option.bind_some, idxO_nat (show k < r.Cells.length by omega), bF (fun h => c (h1.1 h)), w64_succ (show k < 9223372036854775807 by omega)]
          rw [es]
      · rintro s rfl
        refine ⟨_, ?_, rfl⟩
        · unfold raddlelaw38_ShortKnits_l1
          simp only [dF (show ¬ (m : Int) < (m : Int) by omega), Bool.false_eq_true, if_false]
          refine congrArg (fun z => some (Sum.inr z)) (map_cong fun j hj => ?_)
          by_cases h2 : (j : Int) < p
          · rw [if_pos ⟨hj, h2⟩, if_pos h2]
          · rw [if_neg (fun h => h2 h.2), if_neg h2]
    obtain ⟨t, h1, rfl⟩ := key
    exact h1
  | true =>
    have key : ∃ t, whileO (raddlelaw38_ShortKnits_l1 (m : Int) r) ((List.range m).map f, 0) = some t ∧ t = (List.range m).map fun j : Nat => f j + if (j : Int) < p then 1 else 0 := by
      refine loop_st m (fun k s => s = (List.range m).map fun j : Nat => f j + if m - k ≤ j ∧ (j : Int) < p then 1 else 0) _ (map_cong fun j hj => by rw [if_neg (by omega)]; simp) ?_ ?_
      · rintro k s hk2 rfl
        have h1 := hk k (by omega)
        rw [hb] at h1
        simp only [if_true] at h1
        have hlen : m - 1 - k < ((List.range m).map fun j : Nat => f j + if m - k ≤ j ∧ (j : Int) < p then 1 else 0).length := by simp; omega
        have v : ((List.range m).map fun j : Nat => f j + if m - k ≤ j ∧ (j : Int) < p then 1 else 0)[m - 1 - k] = f (m - 1 - k) := by
          simp only [List.getElem_map, List.getElem_range]
          rw [if_neg (by omega)]; simp
        have hfk := hf (m - 1 - k) (by omega)
        have ea : w64 (w64 ((m : Int) - 1) - (k : Int)) = ((m - 1 - k : Nat) : Int) := by rw [w64_of (x := (m : Int) - 1) (by omega) (by omega), w64_of (by omega) (by omega)]; omega
        by_cases c : ((m - 1 - k : Nat) : Int) < p
        · refine .inl ⟨_, ?_, rfl⟩
          have es := map_set m (fun j : Nat => f j + if m - k ≤ j ∧ (j : Int) < p then 1 else 0) (fun j : Nat => f j + if m - (k + 1) ≤ j ∧ (j : Int) < p then 1 else 0) (m - 1 - k) (f (m - 1 - k) + 1) (fun j hj => by
            by_cases e : j = m - 1 - k
            · rw [if_pos e, e, if_pos ⟨by omega, c⟩]
            · rw [if_neg e]
              by_cases h2 : m - k ≤ j ∧ (j : Int) < p
              · rw [if_pos h2, if_pos ⟨by omega, h2.2⟩]
              · rw [if_neg h2, if_neg (fun h => h2 ⟨by omega, h.2⟩)])
          unfold raddlelaw38_ShortKnits_l1
          simp only [dT (show (k : Int) < (m : Int) by omega), if_true, hb, ea, Option.bind_some, idxO_nat (show k < r.Cells.length by omega), bT (h1.2 c), idxO_nat hlen, v, w64_of (show (-9223372036854775808 : Int) ≤ f (m - 1 - k) + 1 by omega) (by omega), setO_nat hlen, es, w64_succ (show k < 9223372036854775807 by omega)]
        · refine .inl ⟨_, ?_, rfl⟩
          have es : ((List.range m).map fun j : Nat => f j + if m - k ≤ j ∧ (j : Int) < p then 1 else 0) = (List.range m).map fun j : Nat => f j + if m - (k + 1) ≤ j ∧ (j : Int) < p then 1 else 0 := map_cong fun j hj => by
            by_cases h2 : m - k ≤ j ∧ (j : Int) < p
            · rw [if_pos h2, if_pos ⟨by omega, h2.2⟩]
            · rw [if_neg h2, if_neg (fun h => h2 ⟨by omega, h.2⟩)]
          unfold raddlelaw38_ShortKnits_l1
          simp only [dT (show (k : Int) < (m : Int) by omega), if_true, hb, ea, Bool.false_eq_true, if_false, Option.bind_some, idxO_nat (show k < r.Cells.length by omega), bF (fun h => c (h1.1 h)), w64_succ (show k < 9223372036854775807 by omega)]
          rw [es]
      · rintro s rfl
        refine ⟨_, ?_, rfl⟩
        · unfold raddlelaw38_ShortKnits_l1
          simp only [dF (show ¬ (m : Int) < (m : Int) by omega), Bool.false_eq_true, if_false]
          refine congrArg (fun z => some (Sum.inr z)) (map_cong fun j hj => ?_)
          by_cases h2 : (j : Int) < p
          · rw [if_pos ⟨by omega, h2⟩, if_pos h2]
          · rw [if_neg (fun h => h2 h.2), if_neg h2]
    obtain ⟨t, h1, rfl⟩ := key
    exact h1
theorem kn_kind {n p : Int} (h0 : 0 ≤ p) (h1 : p ≤ n) {x : Nat} (hx : x < (kn n p).length) : (kn n p)[x].Kind = 1 ↔ (x : Int) < p := by
  rw [List.getElem_of_eq (kn_map h0 h1).symm]
  simp only [List.getElem_map, List.getElem_range]
  by_cases c : (x : Int) < p
  · rw [if_pos c]; simp [kS, c]
  · rw [if_neg c]; simp [sS, c]
theorem knit_step (m : Nat) (hm : m ≤ 60) (c : api_Chart) (i : Nat) (hi : i < c.Rows.length) (r : api_Row) (hr : c.Rows[i] = r) (hw : ∀ p, p ∈ r.Cells → wfS p) (hs : allS r.Cells = 0) (hu : sm usedS r.Cells = (m : Int)) (hd : sm madeS r.Cells = (m : Int)) (hl : r.Cells.length = m) (hbk : r.Back = (((i % 2 : Nat) : Int) == 1)) (e : Int) (s s' : List Int) (hk : whileO (raddlelaw38_ShortKnits_l1 (m : Int) r) (s, 0) = some s') (hil : i < 1000000) :
    raddlelaw38_ShortKnits_l2 (c, e) (m : Int) (s, (i : Int)) = some (.inl (s', ((i + 1 : Nat) : Int))) := by
  have e1 : F_stitch_Uses r.Cells = some ((m : Int), 0) := by rw [uses_eq hw, if_pos hs, hu]
  have e2 : F_stitch_Makes r.Cells = some ((m : Int), 0) := by rw [makes_eq hw, if_pos hs, hd]
  have e3 : remI (i : Int) 2 = some ((i % 2 : Nat) : Int) := by unfold remI; rw [if_neg (by omega)]; rfl
  unfold raddlelaw38_ShortKnits_l2
  simp only [dT (show (i : Int) < (c.Rows.length : Int) by omega), if_true, idxO_nat hi, hr, Option.bind_some, e1, e2, bne_self_eq_false, Bool.false_eq_true, if_false, nF (show (r.Cells.length : Int) = (m : Int) by omega), e3, hbk, hk, w64_succ (show i < 9223372036854775807 by omega)]
theorem law_ShortKnits' (ha : F_raddlelaw38_alive = some true) (n : Int) (l : List Int) : F_raddlelaw38_ShortKnits n l = some true := by
  unfold F_raddlelaw38_ShortKnits
  simp only [ha, Option.bind_some, Bool.not_true]
  by_cases h1 : 60 < n
  · simp only [dT h1, if_true, Option.bind_some]
  by_cases h2 : 60 < l.length
  · simp only [dF h1, dT (show (60 : Int) < (l.length : Int) by omega), Bool.false_eq_true, if_true, if_false, Option.bind_some]
  simp only [dF h1, dF (show ¬ (60 : Int) < (l.length : Int) by omega), Bool.false_eq_true, if_false, Option.bind_some, chart_eq, heights_eq]
  by_cases ht : tchk n l = 0
  case neg =>
    have ec : chartOf n l = (⟨0, []⟩, tchk n l) := by unfold chartOf; rw [if_neg ht]
    have er := read_eq ⟨0, []⟩ (by simp) (fun r hr => by simp at hr)
    simp only [ec, er, Option.bind_some, nT ht, if_true, if_neg ht, beq_self_eq_true]
  obtain ⟨n0, n1, hl, hp⟩ := tchk_ok ht
  obtain ⟨m, rfl⟩ : ∃ m : Nat, n = m := ⟨n.toNat, by omega⟩
  have ec : chartOf (m : Int) l = (⟨(m : Int), rowsOf (m : Int) l⟩, 0) := by unfold chartOf; rw [if_pos ht]
  have rl := rowsOf_len (m : Int) l
  have hcell : ∀ r, r ∈ rowsOf (m : Int) l → r.Cells.length ≤ 1000000 := by
    clear rl ec ht h2 hl
    induction l with
    | nil => intro r hr; simp [rowsOf] at hr
    | cons p l ih =>
      intro r hr
      have hq := hp p (by simp)
      have e := kn_len (n := (m : Int)) (p := p) (by omega) hq.2
      simp only [rowsOf, List.mem_cons] at hr
      rcases hr with rfl | rfl | hr
      · dsimp only; omega
      · simp; omega
      · exact ih (fun q hq => hp q (by simp [hq])) r hr
  have er := read_eq ⟨(m : Int), rowsOf (m : Int) l⟩ (by dsimp only; omega) hcell
  have lv := leads_of (c := ⟨(m : Int), rowsOf (m : Int) l⟩) (V := l) ht rfl
  have ero : readOf ⟨(m : Int), rowsOf (m : Int) l⟩ = ((m : Int), l, 0) := by
    have hpp : tchk (api_Chart.mk (m : Int) (rowsOf (m : Int) l)).Start (leads ⟨(m : Int), rowsOf (m : Int) l⟩) = 0 ∧ (api_Chart.mk (m : Int) (rowsOf (m : Int) l)).Rows = rowsOf (api_Chart.mk (m : Int) (rowsOf (m : Int) l)).Start (leads ⟨(m : Int), rowsOf (m : Int) l⟩) := by
      rw [lv.1]; exact ⟨ht, rfl⟩
    unfold readOf
    rw [if_pos hpp, lv.1]
  obtain ⟨t, t1, t2⟩ := ints_same_eq l l (by omega)
  obtain rfl : t = true := t1.2 rfl
  have G : ∀ d k : Nat, k + d = l.length → whileO (raddlelaw38_ShortKnits_l2 (⟨(m : Int), rowsOf (m : Int) l⟩, 0) (m : Int)) ((List.range m).map (fun j : Nat => 2 * (cgt (j : Int) (l.take k) : Int)), ((2 * k : Nat) : Int)) = some (.inr ((List.range m).map fun j : Nat => 2 * (cgt (j : Int) l : Int))) := by
    intro d
    induction d with
    | zero =>
      intro k hk
      obtain rfl : k = l.length := by omega
      refine whileO_done ?_
      unfold raddlelaw38_ShortKnits_l2
      simp only [dF (show ¬ ((2 * l.length : Nat) : Int) < ((rowsOf (m : Int) l).length : Int) by omega), Bool.false_eq_true, if_false, List.take_length]
    | succ d ih =>
      intro k hk
      have hkl : k < l.length := by omega
      have hq := hp _ (List.getElem_mem hkl)
      have ko := kn_ok (n := (m : Int)) (p := l[k]) (by omega) hq.2 n1
      have kl := kn_len (n := (m : Int)) (p := l[k]) (by omega) hq.2
      have ti := turned_ok ko.1
      have bnd : ∀ j : Nat, 0 ≤ 2 * (cgt (j : Int) (l.take k) : Int) ∧ 2 * (cgt (j : Int) (l.take k) : Int) ≤ 900 := fun j => by
        have := cgt_le (j : Int) (l.take k)
        rw [List.length_take] at this
        omega
      have r1 : (rowsOf (m : Int) l)[2 * k]'(by omega) = ⟨false, kn (m : Int) l[k]⟩ := by
        have := rowsOf_get (m : Int) l k
        rw [List.getElem?_eq_getElem (by omega), List.getElem?_eq_getElem hkl] at this
        exact Option.some.inj this
      have r2 : (rowsOf (m : Int) l)[2 * k + 1]'(by omega) = ⟨true, ((kn (m : Int) l[k]).map othS).reverse⟩ := by
        have := rowsOf_odd (m : Int) l k
        rw [List.getElem?_eq_getElem (by omega), List.getElem?_eq_getElem hkl] at this
        exact Option.some.inj this
      have k1 := knit_row m (by omega) ⟨false, kn (m : Int) l[k]⟩ (by dsimp only; omega) l[k] (fun x hx => by
        have := kn_kind (n := (m : Int)) (p := l[k]) (by omega) hq.2 hx
        simpa using this) (fun j : Nat => 2 * (cgt (j : Int) (l.take k) : Int)) (fun j _ => by have := bnd j; omega)
      have k2 := knit_row m (by omega) ⟨true, ((kn (m : Int) l[k]).map othS).reverse⟩ (by simp; omega) l[k] (fun x hx => by
        have hx2 : x < (kn (m : Int) l[k]).length := by simpa using hx
        have := kn_kind (n := (m : Int)) (p := l[k]) (by omega) hq.2 (x := (kn (m : Int) l[k]).length - 1 - x) (by omega)
        simp only [List.getElem_reverse, List.getElem_map, List.length_map, if_true]
        have e : (kn (m : Int) l[k]).length = m := by omega
        simp only [e] at this ⊢
        exact this) (fun j : Nat => 2 * (cgt (j : Int) (l.take k) : Int) + if (j : Int) < l[k] then 1 else 0) (fun j _ => by have := bnd j; split <;> omega)
      have s1 := knit_step m (by omega) ⟨(m : Int), rowsOf (m : Int) l⟩ (2 * k) (by dsimp only; omega) _ r1 kn_wf ko.1 ko.2.1 ko.2.2 (by dsimp only; omega) (by simp) 0 _ _ k1 (by omega)
      have s2 := knit_step m (by omega) ⟨(m : Int), rowsOf (m : Int) l⟩ (2 * k + 1) (by dsimp only; omega) _ r2 (oth_wf kn_wf) ti.1 (ti.2.1.trans ko.2.1) (ti.2.2.trans ko.2.2) (by simp; omega) (by simp [Nat.add_mod]) 0 _ _ k2 (by omega)
      rw [whileO_step s1, whileO_step s2]
      have e : ((List.range m).map fun j : Nat => 2 * (cgt (j : Int) (l.take k) : Int) + (if (j : Int) < l[k] then 1 else 0) + if (j : Int) < l[k] then 1 else 0) = (List.range m).map fun j : Nat => 2 * (cgt (j : Int) (l.take (k + 1)) : Int) := map_cong fun j _ => by
        rw [take_one l hkl, cgt_app]
        simp only [cgt]
        split <;> omega
      rw [e]
      exact ih (k + 1) (by omega)
  have G0 := G l.length 0 (by omega)
  have ez : ((List.range m).map fun j : Nat => 2 * (cgt (j : Int) (l.take 0) : Int)) = List.replicate m 0 := by
    rw [← map_const]
    exact map_cong fun j _ => by simp [cgt]
  rw [ez] at G0
  have l3 : whileO (raddlelaw38_ShortKnits_l3 (m : Int) ((List.range m).map fun j : Nat => 2 * (cgt (j : Int) l : Int)) (hts (m : Int) l, 0)) 0 = some (.inr ()) := by
    have key : ∃ t, whileO (raddlelaw38_ShortKnits_l3 (m : Int) ((List.range m).map fun j : Nat => 2 * (cgt (j : Int) l : Int)) (hts (m : Int) l, 0)) 0 = some t ∧ t = .inr () := by
      refine loop_ix m (fun _ => True) _ trivial ?_ ?_
      · intro k hk _
        refine .inl ⟨?_, trivial⟩
        have hc := cgt_le (k : Int) l
        have a1 : k < ((List.range m).map fun j : Nat => 2 * (cgt (j : Int) l : Int)).length := by simp; omega
        have a2 : k < (hts (m : Int) l).length := by rw [hts_len]; omega
        have v : ((List.range m).map fun j : Nat => 2 * (cgt (j : Int) l : Int))[k] = 2 * (cgt (k : Int) l : Int) := by simp
        unfold raddlelaw38_ShortKnits_l3
        simp only [dT (show (k : Int) < (m : Int) by omega), if_true, idxO_nat a1, idxO_nat a2, v, hts_get, Option.bind_some, w64_of (show (-9223372036854775808 : Int) ≤ 2 * (cgt (k : Int) l : Int) by omega) (by omega), bne_self_eq_false, Bool.false_eq_true, if_false, w64_succ (show k < 9223372036854775807 by omega)]
      · intro _
        refine ⟨_, ?_, rfl⟩
        unfold raddlelaw38_ShortKnits_l3
        simp only [dF (show ¬ (m : Int) < (m : Int) by omega), Bool.false_eq_true, if_false]
    obtain ⟨t, h1, rfl⟩ := key
    exact h1
  have e2 : w64 (2 * (l.length : Int)) = ((rowsOf (m : Int) l).length : Int) := by rw [w64_of (by omega) (by omega)]; omega
  simp only [ec, er, ero, Option.bind_some, bne_self_eq_false, Bool.false_eq_true, if_false, if_pos ht, t2, Bool.not_true, e2, hts_len, Int.toNat_natCast, makeO_of (n := (m : Int)) (z := (0 : Int)) (k := m) rfl (by omega)]
  have G1 : whileO (raddlelaw38_ShortKnits_l2 (⟨(m : Int), rowsOf (m : Int) l⟩, 0) (m : Int)) (List.replicate m 0, 0) = _ := G0
  simp only [G1, Option.bind_some, l3]

end Go.Proofs.YtoiehdlcfehmlaaDoor
namespace Go.Proofs.YtoiehdlcfehmlaaDoor
open Go.RowKit
set_option linter.unusedVariables false

theorem law_ShortKnits (n : Int) (l : List Int) (wn : InK .i64 n) (wl : Wl (InK .i64) l) : F_raddlelaw38_ShortKnits n l = some true := law_ShortKnits' k_raddlelaw38_alive n l

end Go.Proofs.YtoiehdlcfehmlaaDoor
namespace Go.Proofs.YtoiehdlcfehmlaaDoor
open Go.RowKit
set_option linter.unusedVariables false

namespace frameShortKnits
open Go.ChangeShapes Go.WideShapes Go.ChangeAt Go.Joins
theorem own : ownKnob Tryd.prog.godebug = none := by kernel_rfl
theorem laidOut : laidOutB Tryd.prog = true := by kernel_rfl
set_option maxRecDepth 100000 in
theorem door_met (os : Os) (args : Array Value) : laidMetH Tryd.prog Rows.shortKnitsRow.laid ((World.doorLaid Tryd.prog 400 os).forCall (fun _ _ => 0) ⟨#[], args, []⟩).memory :=
  laidMetH_of_parts3 (fuel := 8) (laidMet_of_run' 8 (by kernel_rfl) (by kernel_rfl)) (by kernel_rfl) (by kernel_rfl)
set_option maxRecDepth 100000 in
theorem lifted (os : Os) (started : os.Started) (H : Type) (enc : TypeId × Value → H) :
    ReturnsInHanded {} Tryd.checked os 7 .any (fun w args => (Rows.shortKnitsSpec.pre enc Tryd.prog Tryd.f7 Rows.shortKnitsRow.domain false w args ∧ laidMetH Tryd.prog Rows.shortKnitsRow.laid w) ∧ sizedMet enc Tryd.prog Tryd.f7 (OpenSpec.ofChange Rows.shortKnitsSpec) false w args) (Rows.shortKnitsSpec.post enc Tryd.prog Tryd.f7 false true false false) := by
  refine returnsInHanded_of_change_and (C := Tryd.checked) (X := fun w _ => laidMetH Tryd.prog Rows.shortKnitsRow.laid w) (fun _ _ _ hh h => h.of_heap hh) own started (by kernel_rfl) Tryd.func7
    (ChangeSpec.witness_shaped (enc := enc) (C := Tryd.checked) (os := os) (X := fun w _ => laidMetH Tryd.prog Rows.shortKnitsRow.laid w) false (World.doorLaid Tryd.prog 400 os) #[.int .i64 0, .slice none 0 0] 8 rfl (World.shaped_of_RefB (by kernel_rfl) (by kernel_rfl)) (by kernel_rfl) (by kernel_rfl) (by kernel_rfl) (door_met os _)) ?_
  intro W base args ds gs before hval0 hW _ _ _ _
  have hval : ∀ (j : Nat) t v, Tryd.f7.params[j]? = some t → args[j]? = some v → Value.okWide Tryd.prog W .any base t v := hval0
  have hW' := hW
  obtain ⟨p, q, hA0, hV, rfl, hfz, hnd⟩ := hW
  have hA : DataW.TrodAll enc Tryd.prog W 0 (fun _ => true) true Tryd.f7.params.toList args.toList ds p := hA0
  rw [Tryd.params7] at hA hval
  obtain ⟨v0, vs0, d0, ds0, p0, q0, hargs, rfl, rfl, h0, r0⟩ := trodAll_cons hA
  obtain ⟨v1, vs1, d1, ds1, p1, q1, rfl, rfl, rfl, h1, r1⟩ := trodAll_cons r0
  obtain ⟨rfl, rfl, rfl⟩ := trodAll_nil r1
  obtain rfl : args = #[v0, v1] := by cases args; simp_all
  obtain ⟨rfl, rfl⟩ := trodVars_none hV
  have k0 := h0
  have lt0 : ∀ x ∈ p0, x.block < W.heap.size := by obtain ⟨m, hm⟩ := k0; exact DataW.trod_lt m _ _ _ hm
  have k1 := h1
  have lt1 : ∀ x ∈ p1, x.block < W.heap.size := by obtain ⟨m, hm⟩ := k1; exact DataW.trod_lt m _ _ _ hm
  obtain ⟨x0, rfl, rfl, rfl, wf0⟩ := open_int Tryd.underlying3 (hval 0 _ v0 rfl rfl) h0
  obtain ⟨x1, rep1, wf1⟩ := top_slice Tryd.underlying22 (op_slice (r := (rI .i64)) Tryd.underlying22 (by kernel_rfl) (op_int .i64 Tryd.underlying3)) (hval 1 _ v1 rfl rfl) h1
  clear hA0 hval0
  refine (c_raddlelaw38_ShortKnits (fun _ => False) W x0 x1 v1 true (law_ShortKnits x0 x1 wf0 wf1) (St0.start (by intro d hd; simp only [List.mem_cons, List.not_mem_nil, or_false] at hd; subst hd; exact rep1))).mono fun e W' hr => ?_
  obtain ⟨_, he, hS⟩ := hr
  have bel := hS.chg.below
  subst he
  exact ⟨_, rfl, _, _, _, [], _, [], hW', trodAll_mk1 (shut_bool Tryd.underlying4 _), (trodAll_cons_mk (Below.trod laidOut (by kernel_rfl) (of_decide_eq_true (by kernel_rfl)) k0 bel lt0) (trodAll_cons_mk (Below.trod laidOut (by kernel_rfl) (of_decide_eq_true (by kernel_rfl)) k1 bel lt1) trodAll_mk0)), rfl, bel.frame _, fun h => by cases h⟩
theorem over : Rows.shortKnitsRow.holds Tryd.pinned (OpenSpec.ofChange Rows.shortKnitsSpec) :=
  OpenClaim.holds_of_wide 7 Tryd.f7 rfl rfl rfl rfl rfl rfl rfl ⟨rfl, rfl, rfl, rfl, rfl⟩ rfl rfl rfl rfl rfl (by kernel_rfl) Tryd.func7 (by kernel_rfl)
    (of_decide_eq_true (by kernel_rfl)) (by unfold Func.isWrapper; first | (rw [if_pos (by decide +kernel)]; kernel_rfl) | (rw [if_neg (by decide +kernel)]; exact ⟨rfl, rfl⟩))
    (fun os started H enc _ => lifted os started H enc)
theorem card : Rows.ShortKnitsCardSaid :=
  Claim7.holds_tied_plain_at .later [] [.data, .data, .data] true (true, "dd224f09b7bd2d708e49c9d1e39fbd7694ddda389d105d38d20db584f451cd0f") false
    over (fun _ h => by cases h) (by kernel_rfl) (fun _ h => by cases h) shortKnits_row_tie rfl ⟨rfl, rfl⟩ (by kernel_rfl) rfl
    (fun f fn hf hfn => by
      obtain rfl : f = 7 := Option.some.inj ((show Tryd.prog.funcNamed "raddle/raddlelaw38.ShortKnits" = some 7 by kernel_rfl).symm.trans hf) |>.symm
      obtain rfl : fn = Tryd.f7 := (Option.some.inj (Tryd.func7.symm.trans hfn)).symm
      exact ⟨by kernel_rfl, fun j t ht => by
        rw [Tryd.params7] at ht
        have hm : t ∈ [3, 22] := by simpa using Array.mem_of_getElem? ht
        have hall : ([3, 22].all fun u => !Tryd.prog.wantsStandIn u) = true := by kernel_rfl
        exact (show Tryd.prog.wantsStandIn t = false by simpa using List.all_eq_true.1 hall t hm)⟩)
    (by kernel_rfl)
end frameShortKnits
theorem shortKnits_holds : Rows.ShortKnitsCardSaid := frameShortKnits.card

end Go.Proofs.YtoiehdlcfehmlaaDoor
