/- Several texts in one: PlV PlH PlG G4 LNR LNRv FrShortNear -/
import Derived.WalkKit
import Derived.Maps.AppendAt
import Derived.Deep.AppendLies
import Derived.KernelRfl
import Derived.Laws.OwnMore
import Derived.Great.BuildSlice
import Derived.Orders
import Derived.Laws.StructEq
import Derived.ChangeKeysEq
import Derived.Defers
import Derived.Laws.BytesString
import Derived.RangeFuncNested
import Derived.RangeFuncBound
import Derived.RangeFuncCalls
import Derived.RangeFuncLeaves
import Derived.OrdersIn
import Derived.LoopNIn
import Derived.Test.YtoiehdlcfehmlaaDoorProg
import Derived.ProofKit
import Derived.OpenShut
import Derived.ChangeOld
import Derived.Deep.Slices
import Derived.Lib.SmallJoins
import Derived.JoinedOf
import Derived.JoinedAt
import Derived.Below
import Derived.Shelf.Strings.Builder1
import Derived.Shelf.Strings.Builder2
import Derived.Shelf.Strings.OnBuilder
import Derived.Test.YtoiehdlcfehmlaaDoorRows
import Derived.LaidMore
import Derived.SevenTiedAt
import Derived.Test.YtoiehdlcfehmlaaDoorCards
import Derived.Test.YtoiehdlcfehmlaaDoorTie
import Derived.Test.YtoiehdlcfehmlaaDoorMShortNear4
namespace Go.Proofs.YtoiehdlcfehmlaaDoor
open Go.RowKit
set_option linter.unusedVariables false

/-- a loop that compares two lists -/
theorem loop_eq {α τ : Type} {B : Int → Option (Int ⊕ τ)} (a b : List α) (hl : a.length = b.length) (good bad : τ)
    (h : ∀ k (hk : k < a.length), ∃ t : Bool, (t = true ↔ a[k] = b[k]'(by omega)) ∧ B (k : Int) = some (if t = true then .inl ((k + 1 : Nat) : Int) else .inr bad)) (hn : B (a.length : Int) = some (.inr good)) :
    ∃ t : Bool, (t = true ↔ a = b) ∧ whileO B 0 = some (if t = true then good else bad) := by
  have key : ∃ u, whileO B 0 = some u ∧ ∃ t : Bool, (t = true ↔ a = b) ∧ u = (if t = true then good else bad) := by
    refine loop_ix a.length (fun k => ∀ j, j < k → a[j]? = b[j]?) _ (fun j hj => absurd hj (Nat.not_lt_zero j)) ?_ ?_
    · intro k hk hI
      obtain ⟨t, h1, h2⟩ := h k hk
      cases t with
      | true =>
        refine .inl ⟨by rw [h2, if_pos rfl], fun j hj => ?_⟩
        by_cases e : j = k
        · subst e
          rw [List.getElem?_eq_getElem hk, List.getElem?_eq_getElem (by omega), h1.1 rfl]
        · exact hI j (by omega)
      | false =>
        refine .inr ⟨bad, by rw [h2]; rfl, false, ⟨fun h => (by cases h), fun h => ?_⟩, rfl⟩
        subst h
        exact absurd (h1.2 rfl) (by simp)
    · intro hI
      refine ⟨good, hn, true, ⟨fun _ => ?_, fun _ => rfl⟩, rfl⟩
      apply List.ext_getElem?
      intro j
      by_cases hj : j < a.length
      · exact hI j hj
      · rw [List.getElem?_eq_none (by omega), List.getElem?_eq_none (by omega)]
  obtain ⟨u, h1, t, h2, rfl⟩ := key
  exact ⟨t, h2, h1⟩
theorem eqS_iff (x y : api_Stitch) : ((x.Kind == y.Kind) && ((x.Purl == y.Purl) && ((x.A == y.A) && ((x.B == y.B) && true)))) = true ↔ x = y := by
  cases x; cases y; simp
theorem same_eq (a b : List api_Stitch) (hl : a.length ≤ 9223372036854775807) : ∃ t : Bool, (t = true ↔ a = b) ∧ F_stitch_Same a b = some t := by
  unfold F_stitch_Same F_slices_Equal___api_Stitch_api_Stitch_
  by_cases h : a.length = b.length
  case neg =>
    exact ⟨false, ⟨fun h => (by cases h), fun e => absurd (congrArg List.length e) h⟩, by simp only [nT (show ¬ (a.length : Int) = (b.length : Int) by omega), if_true, Option.bind_some]⟩
  simp only [nF (show (a.length : Int) = (b.length : Int) by omega), Bool.false_eq_true, if_false]
  have key : ∃ t : Bool, (t = true ↔ a = b) ∧ whileO (slices_Equal___api_Stitch_api_Stitch__l1 a b) 0 = some (if t = true then .inr () else .inl false) := by
    refine loop_eq a b h _ _ (fun k hk => ?_) ?_
    · refine ⟨_, eqS_iff a[k] (b[k]'(by omega)), ?_⟩
      unfold slices_Equal___api_Stitch_api_Stitch__l1
      simp only [dT (show (k : Int) < (a.length : Int) by omega), if_true, idxO_nat hk, idxO_nat (show k < b.length by omega), Option.bind_some, w64_succ (show k < 9223372036854775807 by omega)]
      cases ((a[k].Kind == (b[k]'(by omega)).Kind) && ((a[k].Purl == (b[k]'(by omega)).Purl) && ((a[k].A == (b[k]'(by omega)).A) && ((a[k].B == (b[k]'(by omega)).B) && true)))) <;> rfl
    · unfold slices_Equal___api_Stitch_api_Stitch__l1
      simp only [dF (show ¬ (a.length : Int) < (a.length : Int) by omega), Bool.false_eq_true, if_false]
  obtain ⟨t, t1, t2⟩ := key
  refine ⟨t, t1, ?_⟩
  rw [t2]
  cases t <;> rfl
theorem row_ext {x y : api_Row} : x = y ↔ x.Back = y.Back ∧ x.Cells = y.Cells := by cases x; cases y; simp

end Go.Proofs.YtoiehdlcfehmlaaDoor
namespace Go.Proofs.YtoiehdlcfehmlaaDoor
open Go.RowKit
set_option linter.unusedVariables false

def kS : api_Stitch := ⟨1, false, 0, 0⟩
def sS : api_Stitch := ⟨8, false, 0, 0⟩
def kn (n p : Int) : List api_Stitch := List.replicate p.toNat kS ++ List.replicate (n - p).toNat sS
def tchk (n : Int) (l : List Int) : Int := if 1 ≤ n ∧ n ≤ 200 then (if 50 < l.length then 4 else if (∀ p, p ∈ l → 1 ≤ p ∧ p ≤ n) then 0 else 2) else 2
theorem tchk_ok {n : Int} {l : List Int} (h : tchk n l = 0) : 1 ≤ n ∧ n ≤ 200 ∧ l.length ≤ 50 ∧ ∀ p, p ∈ l → 1 ≤ p ∧ p ≤ n := by
  unfold tchk at h
  by_cases h1 : 1 ≤ n ∧ n ≤ 200
  case neg => rw [if_neg h1] at h; cases h
  rw [if_pos h1] at h
  by_cases h2 : 50 < l.length
  · rw [if_pos h2] at h; cases h
  rw [if_neg h2] at h
  by_cases h3 : ∀ p, p ∈ l → 1 ≤ p ∧ p ≤ n
  case neg => rw [if_neg h3] at h; cases h
  exact ⟨h1.1, h1.2, by omega, h3⟩
theorem within_eq (x a b : Int) : F_short_within x a b = some (decide (a ≤ x ∧ x ≤ b)) := by
  unfold F_short_within
  by_cases h : a ≤ x <;> simp [h]
theorem range_mem {l : List Int} {n : Int} : (List.range l.length).all (fun k => decide (1 ≤ l.getD k 0 ∧ l.getD k 0 ≤ n)) = true ↔ ∀ p, p ∈ l → 1 ≤ p ∧ p ≤ n := by
  rw [List.all_eq_true]
  constructor
  · intro h p hp
    obtain ⟨k, hk, rfl⟩ := List.getElem_of_mem hp
    have := h k (List.mem_range.2 hk)
    rw [getD_of _ hk] at this
    exact of_decide_eq_true this
  · intro h k hk
    have hk := List.mem_range.1 hk
    rw [getD_of _ hk]
    exact decide_eq_true (h _ (List.getElem_mem hk))
theorem tcheck_eq (n : Int) (l : List Int) : F_short_check n l = some (tchk n l) := by
  unfold F_short_check tchk
  rw [within_eq]
  by_cases h1 : 1 ≤ n ∧ n ≤ 200
  case neg => simp only [Option.bind_some, dF h1, Bool.not_false, if_true, if_neg h1]
  simp only [Option.bind_some, dT h1, Bool.not_true, Bool.false_eq_true, if_false, if_pos h1]
  by_cases h2 : 50 < l.length
  · simp only [dT (show (50 : Int) < (l.length : Int) by omega), if_true, if_pos h2]
  simp only [dF (show ¬ (50 : Int) < (l.length : Int) by omega), Bool.false_eq_true, if_false, if_neg h2]
  rw [loop_all (B := short_check_l1 l n) l.length (fun k => decide (1 ≤ l.getD k 0 ∧ l.getD k 0 ≤ n)) (.inr ()) (.inl 2) ?_ ?_]
  · by_cases h3 : ∀ p, p ∈ l → 1 ≤ p ∧ p ≤ n
    · rw [if_pos (range_mem.2 h3), if_pos h3]; rfl
    · rw [if_neg (fun h => h3 (range_mem.1 h)), if_neg h3]; rfl
  · intro k hk
    unfold short_check_l1
    simp only [dT (show (k : Int) < (l.length : Int) by omega), if_true, idxO_nat hk, Option.bind_some, within_eq, getD_of _ hk, w64_succ (show k < 9223372036854775807 by omega)]
    by_cases h : 1 ≤ l[k] ∧ l[k] ≤ n
    · simp only [dT h, Bool.not_true, Bool.false_eq_true, if_false, if_true]
    · simp only [dF h, Bool.not_false, Bool.false_eq_true, if_false, if_true]
  · unfold short_check_l1
    simp only [dF (show ¬ (l.length : Int) < (l.length : Int) by omega), Bool.false_eq_true, if_false]
theorem map_const {α : Type} (n : Nat) (c : α) : (List.range n).map (fun _ => c) = List.replicate n c := by
  rw [List.map_const', List.length_range]
theorem several_eq (kind x : Int) (h0 : 0 ≤ x) (h1 : x ≤ 1000000) : F_short_several kind x = some (List.replicate x.toNat ⟨kind, false, 0, 0⟩) := by
  obtain ⟨n, rfl⟩ : ∃ n : Nat, x = n := ⟨x.toNat, by omega⟩
  have hl : whileO (short_several_l1 (n : Int) kind) ([], 0) = some ((List.range n).map fun _ => (⟨kind, false, 0, 0⟩ : api_Stitch)) := by
    refine loop_map n (fun _ => (⟨kind, false, 0, 0⟩ : api_Stitch)) ?_ ?_
    · rintro k s hk rfl
      unfold short_several_l1
      simp only [dT (show (k : Int) < (n : Int) by omega), if_true, appO_of (show ((List.range k).map fun _ => (⟨kind, false, 0, 0⟩ : api_Stitch)).length + [(api_Stitch.mk kind false 0 0)].length ≤ 68719476736 by simp; omega), Option.bind_some, w64_succ (show k < 9223372036854775807 by omega)]
    · unfold short_several_l1
      simp only [dF (show ¬ (n : Int) < (n : Int) by omega), Bool.false_eq_true, if_false]
  unfold F_short_several
  rw [capO_of (k := n) rfl (by omega), hl, map_const]
  rfl
theorem joined_eq (a b : List api_Stitch) (h : a.length + b.length ≤ 1000000) : F_short_joined [a, b] = some (a ++ b) := by
  have i0 : idxO [a, b] 0 = some a := rfl
  have i1 : idxO [a, b] 1 = some b := rfl
  have w1 : w64 (0 + 1) = 1 := rfl
  have w2 : w64 (1 + 1) = 2 := rfl
  have s0 : short_joined_l1 [a, b] ([], 0) = some (.inl (a, 1)) := by
    unfold short_joined_l1
    simp only [dT (show (0 : Int) < (([a, b] : List (List api_Stitch)).length : Int) by simp), if_true, i0, Option.bind_some, appO_of (show ([] : List api_Stitch).length + a.length ≤ 68719476736 by simp; omega), List.nil_append, w1]
  have s1 : short_joined_l1 [a, b] (a, 1) = some (.inl (a ++ b, 2)) := by
    unfold short_joined_l1
    simp only [dT (show (1 : Int) < (([a, b] : List (List api_Stitch)).length : Int) by simp), if_true, i1, Option.bind_some, appO_of (show a.length + b.length ≤ 68719476736 by omega), w2]
  have s2 : short_joined_l1 [a, b] (a ++ b, 2) = some (.inr (a ++ b)) := by
    unfold short_joined_l1
    simp only [dF (show ¬ (2 : Int) < (([a, b] : List (List api_Stitch)).length : Int) by simp), Bool.false_eq_true, if_false]
  unfold F_short_joined
  rw [whileO_step s0, whileO_step s1, whileO_done s2]
  rfl
theorem sm_rep {α : Type} (f : α → Int) (n : Nat) (x : α) : sm f (List.replicate n x) = f x * (n : Int) := by
  induction n with
  | zero => simp [sm]
  | succ n ih =>
    rw [List.replicate_succ]
    simp only [sm, ih]
    rw [Int.natCast_add, Int.mul_add]
    simp
    omega
theorem kn_len {n p : Int} (h0 : 0 ≤ p) (h1 : p ≤ n) : (kn n p).length = n.toNat := by
  unfold kn; simp; omega
theorem kn_ok {n p : Int} (h0 : 0 ≤ p) (h1 : p ≤ n) (h2 : n ≤ 200) : allS (kn n p) = 0 ∧ sm usedS (kn n p) = n ∧ sm madeS (kn n p) = n := by
  have u : sm usedS (kn n p) = n := by
    unfold kn; rw [sm_append, sm_rep, sm_rep]
    have a1 : usedS kS = 1 := rfl
    have a2 : usedS sS = 1 := rfl
    rw [a1, a2]; omega
  have m : sm madeS (kn n p) = n := by
    unfold kn; rw [sm_append, sm_rep, sm_rep]
    have a1 : madeS kS = 1 := rfl
    have a2 : madeS sS = 1 := rfl
    rw [a1, a2]; omega
  have hl := kn_len h0 h1
  have hok : allOk (kn n p) := by
    intro x hx
    unfold kn at hx
    rw [List.mem_append, List.mem_replicate, List.mem_replicate] at hx
    rcases hx with ⟨_, rfl⟩ | ⟨_, rfl⟩ <;> decide
  refine ⟨?_, u, m⟩
  unfold allS
  rw [if_neg (by omega), if_pos hok, u, m, if_neg (by omega)]
theorem kn_wf {n p : Int} : ∀ x, x ∈ kn n p → wfS x := by
  intro x hx
  unfold kn at hx
  rw [List.mem_append, List.mem_replicate, List.mem_replicate] at hx
  rcases hx with ⟨_, rfl⟩ | ⟨_, rfl⟩ <;> simp [wfS, kS, sS]
def rowsOf (n : Int) : List Int → List api_Row
  | [] => []
  | p :: l => ⟨false, kn n p⟩ :: ⟨true, ((kn n p).map othS).reverse⟩ :: rowsOf n l
theorem rowsOf_len (n : Int) (l : List Int) : (rowsOf n l).length = 2 * l.length := by
  induction l with
  | nil => rfl
  | cons p l ih => simp only [rowsOf, List.length_cons, ih]; omega
theorem rowsOf_app (n : Int) (l k : List Int) : rowsOf n (l ++ k) = rowsOf n l ++ rowsOf n k := by
  induction l with
  | nil => rfl
  | cons p l ih => simp only [rowsOf, List.cons_append, ih]
theorem rowsOf_get (n : Int) (l : List Int) (i : Nat) : (rowsOf n l)[2 * i]? = l[i]?.map fun p => (⟨false, kn n p⟩ : api_Row) := by
  induction l generalizing i with
  | nil => simp [rowsOf]
  | cons p l ih =>
    cases i with
    | zero => rfl
    | succ i =>
      rw [show 2 * (i + 1) = 2 * i + 1 + 1 by omega]
      simp only [rowsOf, List.getElem?_cons_succ]
      exact ih i
def chartOf (n : Int) (l : List Int) : api_Chart × Int := if tchk n l = 0 then (⟨n, rowsOf n l⟩, 0) else (⟨0, []⟩, tchk n l)
theorem rows_step {n : Int} {l : List Int} (hl : l.length ≤ 50) {k : Nat} (hk : k < l.length) : appO (rowsOf n (l.take k)) [⟨false, kn n l[k]⟩, ⟨true, ((kn n l[k]).map othS).reverse⟩] = some (rowsOf n (l.take (k + 1))) := by
  rw [appO_of (by rw [rowsOf_len, List.length_take]; simp; omega), take_one l hk, rowsOf_app]
  rfl
theorem chart_eq (n : Int) (l : List Int) : F_short_Chart n l = some (chartOf n l) := by
  unfold F_short_Chart chartOf
  rw [tcheck_eq]
  by_cases h : tchk n l = 0
  case neg => simp only [Option.bind_some, nT h, if_true, if_neg h]
  obtain ⟨n0, n1, hl, hp⟩ := tchk_ok h
  have key : ∃ t, whileO (short_Chart_l1 l n) (0, []) = some t ∧ t = rowsOf n l := by
    refine loop_at (σ := Unit) l.length (fun k _ => ((k : Int), rowsOf n (l.take k))) (fun _ _ => True) _ (s0 := ()) trivial ?_ ?_
    · intro k _ hk _
      refine .inl ⟨(), ?_, trivial⟩
      have hq := hp _ (List.getElem_mem hk)
      have hko := kn_ok (n := n) (p := l[k]) (by omega) hq.2 n1
      have hkl := kn_len (n := n) (p := l[k]) (by omega) hq.2
      have ew : w64 (n - l[k]) = n - l[k] := w64_of (by omega) (by omega)
      have ej : F_short_joined [List.replicate l[k].toNat (⟨1, false, 0, 0⟩ : api_Stitch), List.replicate (n - l[k]).toNat (⟨8, false, 0, 0⟩ : api_Stitch)] = some (kn n l[k]) := joined_eq _ _ (by simp; omega)
      have et : F_stitch_Turn (kn n l[k]) = some (((kn n l[k]).map othS).reverse, 0) := by rw [turn_eq kn_wf, if_pos hko.1]
      unfold short_Chart_l1
      simp only [dT (show (k : Int) < (l.length : Int) by omega), if_true, idxO_nat hk, Option.bind_some, several_eq 1 l[k] (by omega) (by omega), ew, several_eq 8 (n - l[k]) (by omega) (by omega), ej, et, rows_step hl hk, w64_succ (show k < 9223372036854775807 by omega)]
    · intro _ _
      refine ⟨_, ?_, rfl⟩
      unfold short_Chart_l1
      simp only [dF (show ¬ (l.length : Int) < (l.length : Int) by omega), Bool.false_eq_true, if_false, List.take_length]
  obtain ⟨t, h1, rfl⟩ := key
  simp only [Option.bind_some, nF h, Bool.false_eq_true, if_false, h1, if_pos h]
theorem kn_map {n p : Int} (h0 : 0 ≤ p) (h1 : p ≤ n) : (List.range n.toNat).map (fun k : Nat => if (k : Int) < p then kS else sS) = kn n p := by
  apply List.ext_getElem?
  intro j
  unfold kn
  rw [List.getElem?_append]
  simp only [List.length_replicate, List.getElem?_map, List.getElem?_replicate]
  by_cases hj : j < n.toNat
  · rw [List.getElem?_range hj]
    by_cases hp : j < p.toNat
    · simp only [Option.map_some, hp, if_true, if_pos (show (j : Int) < p by omega)]
    · simp only [Option.map_some, hp, if_false, if_neg (show ¬ (j : Int) < p by omega), if_pos (show j - p.toNat < (n - p).toNat by omega)]
  · rw [List.getElem?_eq_none (by simp; omega), if_neg (show ¬ j < p.toNat by omega), if_neg (show ¬ j - p.toNat < (n - p).toNat by omega)]
    rfl
/-- how many stitches are knit: at the start of a row, and in all -/
def lead : List api_Stitch → Nat
  | [] => 0
  | p :: l => if p.Kind = 1 then lead l + 1 else 0
def cntK : List api_Stitch → Nat
  | [] => 0
  | p :: l => if p.Kind = 1 then cntK l + 1 else cntK l
theorem lead_le (l : List api_Stitch) : lead l ≤ l.length := by
  induction l with
  | nil => simp [lead]
  | cons p l ih => simp only [lead]; split <;> simp <;> omega
theorem lead_lt {l : List api_Stitch} {j : Nat} (h : j < lead l) : ∃ hj : j < l.length, l[j].Kind = 1 := by
  induction l generalizing j with
  | nil => simp [lead] at h
  | cons p l ih =>
    simp only [lead] at h
    split at h
    · rename_i hp
      cases j with
      | zero => exact ⟨by simp, hp⟩
      | succ j =>
        obtain ⟨hj, h1⟩ := ih (show j < lead l by omega)
        exact ⟨by simp; omega, by simpa using h1⟩
    · omega
theorem lead_at {l : List api_Stitch} (h : lead l < l.length) : l[lead l].Kind ≠ 1 := by
  have key : ∀ j (hj : j < l.length), j = lead l → l[j].Kind ≠ 1 := by
    clear h
    induction l with
    | nil => intro j hj; simp at hj
    | cons p l ih =>
      intro j hj e
      simp only [lead] at e
      split at e
      · subst e
        simp only [List.getElem_cons_succ]
        exact ih _ (by simpa using hj) rfl
      · subst e
        simpa using ‹¬ p.Kind = 1›
  exact key _ h rfl
theorem lead_kn {n p : Int} : lead (kn n p) = p.toNat := by
  unfold kn
  induction p.toNat with
  | zero =>
    rw [List.replicate_zero, List.nil_append]
    cases (n - p).toNat with
    | zero => rfl
    | succ m => rfl
  | succ m ih => rw [List.replicate_succ, List.cons_append]; simp only [lead, kS, if_true] at ih ⊢; rw [ih]
theorem cntK_kn {n p : Int} : cntK (kn n p) = p.toNat := by
  have z : ∀ m, cntK (List.replicate m sS) = 0 := by
    intro m
    induction m with
    | zero => rfl
    | succ m ih => rw [List.replicate_succ]; show (if sS.Kind = 1 then _ else _) = 0; rw [if_neg (by decide)]; exact ih
  unfold kn
  induction p.toNat with
  | zero => rw [List.replicate_zero, List.nil_append, z]
  | succ m ih => rw [List.replicate_succ, List.cons_append]; simp only [cntK, kS, if_true] at ih ⊢; rw [ih]
theorem cntK_take (l : List api_Stitch) {k : Nat} (hk : k < l.length) : cntK (l.take (k + 1)) = cntK (l.take k) + (if l[k].Kind = 1 then 1 else 0) := by
  have app : ∀ a b : List api_Stitch, cntK (a ++ b) = cntK a + cntK b := by
    intro a b
    induction a with
    | nil => simp [cntK]
    | cons p a ih => simp only [cntK, List.cons_append, ih]; split <;> omega
  rw [take_one l hk, app]
  simp only [cntK]
theorem lead_loop (x : api_Row) (hx : x.Cells.length ≤ 1000000) (i : Nat) : ∀ (m j : Nat) (s : List Int), lead x.Cells = j + m → s[i]? = some (j : Int) → whileO (short_Read_l1 (i : Int) x) s = some (s.set i (lead x.Cells : Int)) := by
  intro m
  have hle := lead_le x.Cells
  induction m with
  | zero =>
    intro j s e hs
    have hi := (List.getElem?_eq_some_iff.1 hs).1
    have hv := (List.getElem?_eq_some_iff.1 hs).2
    have e1 : short_Read_l1 (i : Int) x s = some (.inr s) := by
      unfold short_Read_l1
      simp only [idxO_nat hi, hv, Option.bind_some]
      by_cases hj : j < x.Cells.length
      · have hk : x.Cells[j].Kind ≠ 1 := by
          have := lead_at (l := x.Cells) (by omega)
          simpa [e] using this
        simp only [dT (show (j : Int) < (x.Cells.length : Int) by omega), if_true, idxO_nat hj, Option.bind_some, bF hk, Bool.false_eq_true, if_false]
      · simp only [dF (show ¬ (j : Int) < (x.Cells.length : Int) by omega), Bool.false_eq_true, if_false, Option.bind_some]
    rw [whileO_done e1, show (lead x.Cells : Int) = s[i] by rw [hv]; omega, List.set_getElem_self]
  | succ m ih =>
    intro j s e hs
    have hi := (List.getElem?_eq_some_iff.1 hs).1
    have hv := (List.getElem?_eq_some_iff.1 hs).2
    obtain ⟨hj, hk⟩ := lead_lt (l := x.Cells) (j := j) (by omega)
    have e1 : short_Read_l1 (i : Int) x s = some (.inl (s.set i ((j + 1 : Nat) : Int))) := by
      unfold short_Read_l1
      simp only [idxO_nat hi, hv, Option.bind_some, dT (show (j : Int) < (x.Cells.length : Int) by omega), if_true, idxO_nat hj, bT hk, w64_succ (show j < 9223372036854775807 by omega), setO_nat hi]
    rw [whileO_step e1, ih (j + 1) _ (by omega) (by simp [hi]), List.set_set]
/-- the list of turns that Read looks at -/
def leads (c : api_Chart) : List Int := (List.range (c.Rows.length / 2)).map fun i => (lead (c.Rows.getD (2 * i) ⟨false, []⟩).Cells : Int)
def cnts (c : api_Chart) : List Int := (List.range ((c.Rows.length + 1) / 2)).map fun i => (cntK (c.Rows.getD (2 * i) ⟨false, []⟩).Cells : Int)
theorem leads_loop (c : api_Chart) (hl : c.Rows.length ≤ 1000000) (hc : ∀ r, r ∈ c.Rows → r.Cells.length ≤ 1000000) : whileO (short_Read_l2 (List.replicate (c.Rows.length / 2) 0) c) (List.replicate (c.Rows.length / 2) 0, 0) = some (leads c) := by
  unfold leads
  generalize hn : c.Rows.length / 2 = n
  have key : ∃ t, whileO (short_Read_l2 (List.replicate n 0) c) (List.replicate n 0, 0) = some t ∧ t = (List.range n).map fun i => (lead (c.Rows.getD (2 * i) ⟨false, []⟩).Cells : Int) := by
    refine loop_st n (fun k s => s = ((List.range k).map fun i => (lead (c.Rows.getD (2 * i) ⟨false, []⟩).Cells : Int)) ++ List.replicate (n - k) 0) _ (by simp) ?_ ?_
    · rintro k s hk rfl
      refine .inl ⟨_, ?_, rfl⟩
      have h2 : 2 * k < c.Rows.length := by omega
      have e2 : w64 (2 * (k : Int)) = ((2 * k : Nat) : Int) := by rw [w64_of (by omega) (by omega)]; omega
      have er : List.replicate (n - k) (0 : Int) = 0 :: List.replicate (n - (k + 1)) 0 := by rw [show n - k = (n - (k + 1)) + 1 by omega, List.replicate_succ]
      have hlp := lead_loop c.Rows[2 * k] (hc _ (List.getElem_mem h2)) k (lead c.Rows[2 * k].Cells) 0 (((List.range k).map fun i => (lead (c.Rows.getD (2 * i) ⟨false, []⟩).Cells : Int)) ++ List.replicate (n - k) 0) (by omega) (by rw [er, List.getElem?_append_right (by simp)]; simp)
      unfold short_Read_l2
      simp only [List.length_replicate, dT (show (k : Int) < (n : Int) by omega), if_true, e2, idxO_nat h2, Option.bind_some, hlp, w64_succ (show k < 9223372036854775807 by omega)]
      congr 4
      rw [er, List.set_append_right _ _ (by simp), List.range_succ, List.map_append, List.map_singleton, getD_of _ h2, List.length_map, List.length_range, Nat.sub_self, List.set_cons_zero, List.append_assoc]
      rfl
    · rintro s rfl
      refine ⟨_, ?_, rfl⟩
      unfold short_Read_l2
      simp only [List.length_replicate, dF (show ¬ (n : Int) < (n : Int) by omega), Bool.false_eq_true, if_false, Nat.sub_self, List.replicate_zero, List.append_nil]
  obtain ⟨t, h1, rfl⟩ := key
  exact h1
/-- what Read finds, if it finds any -/
theorem leads_of {c : api_Chart} {V : List Int} (hv : tchk c.Start V = 0) (h : c.Rows = rowsOf c.Start V) : leads c = V ∧ cnts c = V := by
  have hl : c.Rows.length = 2 * V.length := by rw [h, rowsOf_len]
  obtain ⟨_, _, _, hp⟩ := tchk_ok hv
  have get : ∀ i (hi : i < V.length), c.Rows.getD (2 * i) ⟨false, []⟩ = ⟨false, kn c.Start V[i]⟩ := by
    intro i hi
    have e : c.Rows[2 * i]? = some ⟨false, kn c.Start V[i]⟩ := by
      have := rowsOf_get c.Start V i
      rw [← h, List.getElem?_eq_getElem hi] at this
      exact this
    rw [List.getD_eq_getElem?_getD, e]; rfl
  constructor
  · unfold leads
    rw [hl, show 2 * V.length / 2 = V.length by omega]
    apply List.ext_getElem (by simp)
    intro i h1 h2
    simp only [List.getElem_map, List.getElem_range, get i h2, lead_kn]
    have := hp _ (List.getElem_mem h2)
    omega
  · unfold cnts
    rw [hl, show (2 * V.length + 1) / 2 = V.length by omega]
    apply List.ext_getElem (by simp)
    intro i h1 h2
    simp only [List.getElem_map, List.getElem_range, get i h2, cntK_kn]
    have := hp _ (List.getElem_mem h2)
    omega
open Classical in
noncomputable def readOf (c : api_Chart) : Int × List Int × Int := if tchk c.Start (leads c) = 0 ∧ c.Rows = rowsOf c.Start (leads c) then (c.Start, leads c, 0) else (0, [], 8)
theorem read_eq (c : api_Chart) (hl : c.Rows.length ≤ 1000000) (hc : ∀ r, r ∈ c.Rows → r.Cells.length ≤ 1000000) : F_short_Read c = some (readOf c) := by
  have hr : remI (c.Rows.length : Int) 2 = some ((c.Rows.length % 2 : Nat) : Int) := by
    unfold remI; rw [if_neg (by omega)]; rfl
  have hq : quoI (c.Rows.length : Int) 2 = some ((c.Rows.length / 2 : Nat) : Int) := by
    unfold quoI; rw [if_neg (by omega)]
    have : ((c.Rows.length : Int)).tdiv 2 = ((c.Rows.length / 2 : Nat) : Int) := rfl
    rw [this, w64_of (by omega) (by omega)]
  unfold F_short_Read readOf
  simp only [hr, hq, Option.bind_some]
  by_cases odd : c.Rows.length % 2 = 1
  · have : ¬ (tchk c.Start (leads c) = 0 ∧ c.Rows = rowsOf c.Start (leads c)) := fun h => by
      have := congrArg List.length h.2
      rw [rowsOf_len] at this
      omega
    simp only [bT (show ((c.Rows.length % 2 : Nat) : Int) = 1 by omega), if_true, if_neg this]
  simp only [bF (show ¬ ((c.Rows.length % 2 : Nat) : Int) = 1 by omega), Bool.false_eq_true, if_false, makeO_of (k := c.Rows.length / 2) (z := (0 : Int)) rfl (by omega), Option.bind_some, leads_loop c hl hc, chart_eq]
  unfold chartOf
  by_cases ht : tchk c.Start (leads c) = 0
  case neg => simp only [if_neg ht, nT ht, if_true, ht, false_and, if_false]
  simp only [ht, if_true, bne_self_eq_false, Bool.false_eq_true, if_false, true_and]
  have hlen : c.Rows.length = (rowsOf c.Start (leads c)).length := by
    rw [rowsOf_len]; unfold leads; simp; omega
  have key : ∃ t : Bool, (t = true ↔ c.Rows = (rowsOf c.Start (leads c))) ∧ whileO (short_Read_l3 c (⟨c.Start, rowsOf c.Start (leads c)⟩, 0)) 0 = some (if t = true then .inr () else .inl (0, [], 8)) := by
    refine loop_eq c.Rows (rowsOf c.Start (leads c)) hlen _ _ (fun k hk => ?_) ?_
    · have hk2 : k < (rowsOf c.Start (leads c)).length := by omega
      obtain ⟨t, t1, t2⟩ := same_eq c.Rows[k].Cells ((rowsOf c.Start (leads c))[k]).Cells (by have := hc _ (List.getElem_mem hk); omega)
      by_cases hb : c.Rows[k].Back = ((rowsOf c.Start (leads c))[k]).Back
      · refine ⟨t, t1.trans ⟨fun e => row_ext.2 ⟨hb, e⟩, fun e => (row_ext.1 e).2⟩, ?_⟩
        unfold short_Read_l3
        simp only [dT (show (k : Int) < (c.Rows.length : Int) by omega), if_true, idxO_nat hk, idxO_nat hk2, Option.bind_some, w64_succ (show k < 9223372036854775807 by omega), hb, bne_self_eq_false, Bool.false_eq_true, if_false, t2]
        cases t <;> rfl
      · refine ⟨false, ⟨fun h => (by cases h), fun e => absurd (row_ext.1 e).1 hb⟩, ?_⟩
        unfold short_Read_l3
        simp only [dT (show (k : Int) < (c.Rows.length : Int) by omega), if_true, idxO_nat hk, idxO_nat hk2, Option.bind_some, bne_iff_ne.2 hb, Bool.false_eq_true, if_false]
    · unfold short_Read_l3
      simp only [dF (show ¬ (c.Rows.length : Int) < (c.Rows.length : Int) by omega), Bool.false_eq_true, if_false]
  obtain ⟨t, t1, t2⟩ := key
  rw [t2]
  cases t with
  | true =>
    have hp : tchk c.Start (leads c) = 0 ∧ c.Rows = rowsOf c.Start (leads c) := ⟨ht, t1.1 rfl⟩
    rw [if_pos hp]; rfl
  | false =>
    have hn : ¬ (tchk c.Start (leads c) = 0 ∧ c.Rows = rowsOf c.Start (leads c)) := fun h => by cases t1.2 h.2
    rw [if_neg hn]; rfl

end Go.Proofs.YtoiehdlcfehmlaaDoor
namespace Go.Proofs.YtoiehdlcfehmlaaDoor
open Go.RowKit
set_option linter.unusedVariables false

/-- how many are v, and how many are greater than v -/
def ceq (v : Int) : List Int → Nat
  | [] => 0
  | p :: l => if p = v then ceq v l + 1 else ceq v l
def cgt (v : Int) : List Int → Nat
  | [] => 0
  | p :: l => if v < p then cgt v l + 1 else cgt v l
theorem ceq_app (v : Int) (a b : List Int) : ceq v (a ++ b) = ceq v a + ceq v b := by
  induction a with
  | nil => simp [ceq]
  | cons p a ih => simp only [List.cons_append, ceq, ih]; split <;> omega
theorem cgt_app (v : Int) (a b : List Int) : cgt v (a ++ b) = cgt v a + cgt v b := by
  induction a with
  | nil => simp [cgt]
  | cons p a ih => simp only [List.cons_append, cgt, ih]; split <;> omega
theorem ceq_le (v : Int) (l : List Int) : ceq v l ≤ l.length := by
  induction l with
  | nil => simp [ceq]
  | cons p l ih => simp only [ceq, List.length_cons]; split <;> omega
theorem cgt_le (v : Int) (l : List Int) : cgt v l ≤ l.length := by
  induction l with
  | nil => simp [cgt]
  | cons p l ih => simp only [cgt, List.length_cons]; split <;> omega
theorem cgt_step (v : Int) (l : List Int) : cgt v l = ceq (v + 1) l + cgt (v + 1) l := by
  induction l with
  | nil => rfl
  | cons p l ih =>
    simp only [cgt, ceq, ih]
    by_cases h1 : v < p
    · by_cases h2 : p = v + 1
      · rw [if_pos h1, if_pos h2, if_neg (by omega)]; omega
      · rw [if_pos h1, if_neg h2, if_pos (by omega)]; omega
    · rw [if_neg h1, if_neg (by omega), if_neg (by omega)]
theorem cgt_top {v : Int} {l : List Int} (h : ∀ p, p ∈ l → p ≤ v) : cgt v l = 0 := by
  induction l with
  | nil => rfl
  | cons p l ih =>
    simp only [cgt]
    rw [if_neg (by have := h p (by simp); omega)]
    exact ih fun q hq => h q (by simp [hq])
theorem cgt_all {v : Int} {l : List Int} (h : ∀ p, p ∈ l → v < p) : cgt v l = l.length := by
  induction l with
  | nil => rfl
  | cons p l ih =>
    simp only [cgt, List.length_cons]
    rw [if_pos (h p (by simp)), ih fun q hq => h q (by simp [hq])]
theorem cgt_mono {v u : Int} (h : v ≤ u) (l : List Int) : cgt u l ≤ cgt v l := by
  induction l with
  | nil => simp [cgt]
  | cons p l ih =>
    simp only [cgt]
    split
    · rw [if_pos (by omega)]; omega
    · split <;> omega
def hts (n : Int) (l : List Int) : List Int := (List.range n.toNat).map fun k : Nat => (cgt (k : Int) l : Int)
theorem hts_len (n : Int) (l : List Int) : (hts n l).length = n.toNat := by simp [hts]
theorem hts_get {n : Int} {l : List Int} {k : Nat} (hk : k < (hts n l).length) : (hts n l)[k] = (cgt (k : Int) l : Int) := by
  simp [hts]
theorem map_set {α : Type} (n : Nat) (f g : Nat → α) (k : Nat) (v : α) (h : ∀ j, j < n → g j = if j = k then v else f j) : ((List.range n).map f).set k v = (List.range n).map g := by
  apply List.ext_getElem?
  intro j
  rw [List.getElem?_set]
  simp only [List.length_map, List.length_range, List.getElem?_map]
  by_cases hj : j < n
  · rw [List.getElem?_range hj]
    simp only [Option.map_some]
    rw [h j hj]
    by_cases e : j = k
    · subst e; simp [hj]
    · rw [if_neg (fun x => e x.symm), if_neg e]
  · have e1 : (List.range n)[j]? = none := List.getElem?_eq_none (by simp; omega)
    rw [e1]
    by_cases e : k = j
    · subst e; simp [hj]
    · simp [e]
theorem heights_eq (n : Int) (l : List Int) : F_short_Heights n l = some (if tchk n l = 0 then (hts n l, 0) else ([], tchk n l)) := by
  unfold F_short_Heights
  rw [tcheck_eq]
  by_cases h : tchk n l = 0
  case neg => simp only [Option.bind_some, nT h, if_true, if_neg h]
  obtain ⟨n0, n1, hl, hp⟩ := tchk_ok h
  obtain ⟨m, rfl⟩ : ∃ m : Nat, n = m := ⟨n.toNat, by omega⟩
  have l1 : whileO (short_Heights_l1 l) (List.replicate m 0, 0) = some ((List.range m).map fun j : Nat => (ceq ((j : Int) + 1) l : Int)) := by
    have key : ∃ t, whileO (short_Heights_l1 l) (List.replicate m 0, 0) = some t ∧ t = (List.range m).map fun j : Nat => (ceq ((j : Int) + 1) l : Int) := by
      refine loop_st l.length (fun k s => s = (List.range m).map fun j : Nat => (ceq ((j : Int) + 1) (l.take k) : Int)) _ (by rw [← map_const]; simp [ceq]) ?_ ?_
      · rintro k s hk rfl
        refine .inl ⟨_, ?_, rfl⟩
        have hq := hp _ (List.getElem_mem hk)
        obtain ⟨q, hq2⟩ : ∃ q : Nat, l[k] = (q : Int) + 1 := ⟨(l[k] - 1).toNat, by omega⟩
        have e1 : w64 (l[k] - 1) = (q : Int) := by rw [hq2, w64_of (by omega) (by omega)]; omega
        have hqm : q < ((List.range m).map fun j : Nat => (ceq ((j : Int) + 1) (l.take k) : Int)).length := by simp; omega
        have hc := ceq_le ((q : Int) + 1) (l.take k)
        rw [List.length_take] at hc
        have e2 : ((List.range m).map fun j : Nat => (ceq ((j : Int) + 1) (l.take k) : Int))[q] = (ceq ((q : Int) + 1) (l.take k) : Int) := by simp
        unfold short_Heights_l1
        simp only [dT (show (k : Int) < (l.length : Int) by omega), if_true, idxO_nat hk, Option.bind_some, e1, idxO_nat hqm, e2, w64_succ (show ceq ((q : Int) + 1) (l.take k) < 9223372036854775807 by omega), setO_nat hqm, w64_succ (show k < 9223372036854775807 by omega)]
        congr 3
        refine map_set m _ _ q _ fun j hj => ?_
        rw [take_one l hk, ceq_app]
        simp only [ceq, hq2]
        by_cases e : j = q
        · subst e; rw [if_pos rfl, if_pos rfl]
        · rw [if_neg e, if_neg (by omega)]; simp
      · rintro s rfl
        refine ⟨_, ?_, rfl⟩
        unfold short_Heights_l1
        simp only [dF (show ¬ (l.length : Int) < (l.length : Int) by omega), Bool.false_eq_true, if_false, List.take_length]
    obtain ⟨t, h1, rfl⟩ := key
    exact h1
  have mid : ∀ i : Nat, i + 1 ≤ m → whileO short_Heights_l2 ((List.range m).map (fun j : Nat => if j < i then (ceq ((j : Int) + 1) l : Int) else (cgt (j : Int) l : Int)), (i : Int) - 1) = some (hts (m : Int) l) := by
    intro i
    induction i with
    | zero =>
      intro _
      have e : short_Heights_l2 ((List.range m).map (fun j : Nat => if j < 0 then (ceq ((j : Int) + 1) l : Int) else (cgt (j : Int) l : Int)), ((0 : Nat) : Int) - 1) = some (.inr (hts (m : Int) l)) := by
        unfold short_Heights_l2 hts
        simp only [dF (show ¬ (0 : Int) ≤ ((0 : Nat) : Int) - 1 by omega), Bool.false_eq_true, if_false, Nat.not_lt_zero, Int.toNat_natCast]
      rw [whileO_done e]
    | succ i ih =>
      intro hi
      have e0 : ((i + 1 : Nat) : Int) - 1 = (i : Int) := by omega
      have hlen : i < ((List.range m).map (fun j : Nat => if j < i + 1 then (ceq ((j : Int) + 1) l : Int) else (cgt (j : Int) l : Int))).length := by simp; omega
      have hlen2 : i + 1 < ((List.range m).map (fun j : Nat => if j < i + 1 then (ceq ((j : Int) + 1) l : Int) else (cgt (j : Int) l : Int))).length := by simp; omega
      have v1 : ((List.range m).map (fun j : Nat => if j < i + 1 then (ceq ((j : Int) + 1) l : Int) else (cgt (j : Int) l : Int)))[i] = (ceq ((i : Int) + 1) l : Int) := by simp
      have v2 : ((List.range m).map (fun j : Nat => if j < i + 1 then (ceq ((j : Int) + 1) l : Int) else (cgt (j : Int) l : Int)))[i + 1] = (cgt ((i : Int) + 1) l : Int) := by simp
      have b1 := ceq_le ((i : Int) + 1) l
      have b2 := cgt_le ((i : Int) + 1) l
      have b3 := cgt_step (i : Int) l
      have ew : w64 ((ceq ((i : Int) + 1) l : Int) + (cgt ((i : Int) + 1) l : Int)) = (cgt (i : Int) l : Int) := by rw [w64_of (by omega) (by omega)]; omega
      have es := map_set m (fun j : Nat => if j < i + 1 then (ceq ((j : Int) + 1) l : Int) else (cgt (j : Int) l : Int)) (fun j : Nat => if j < i then (ceq ((j : Int) + 1) l : Int) else (cgt (j : Int) l : Int)) i (cgt (i : Int) l : Int) (fun j hj => by
        by_cases e : j = i
        · subst e; rw [if_neg (by omega), if_pos rfl]
        · rw [if_neg e]
          by_cases h2 : j < i
          · rw [if_pos h2, if_pos (by omega)]
          · rw [if_neg h2, if_neg (by omega)])
      have e : short_Heights_l2 ((List.range m).map (fun j : Nat => if j < i + 1 then (ceq ((j : Int) + 1) l : Int) else (cgt (j : Int) l : Int)), (i : Int)) = some (.inl ((List.range m).map (fun j : Nat => if j < i then (ceq ((j : Int) + 1) l : Int) else (cgt (j : Int) l : Int)), (i : Int) - 1)) := by
        unfold short_Heights_l2
        simp only [dT (show (0 : Int) ≤ (i : Int) by omega), if_true, idxO_nat hlen, v1, Option.bind_some, w64_succ (show i < 9223372036854775807 by omega), idxO_nat hlen2, v2, ew, setO_nat hlen, es, w64_of (show (-9223372036854775808 : Int) ≤ (i : Int) - 1 by omega) (by omega)]
      rw [e0, whileO_step e]
      exact ih (by omega)
  have e2 : w64 ((m : Int) - 2) = ((m - 1 : Nat) : Int) - 1 := by rw [w64_of (by omega) (by omega)]; omega
  have top := cgt_top (v := (m : Int)) (l := l) fun p hq => (hp p hq).2
  have est : ((List.range m).map fun j : Nat => (ceq ((j : Int) + 1) l : Int)) = (List.range m).map (fun j : Nat => if j < m - 1 then (ceq ((j : Int) + 1) l : Int) else (cgt (j : Int) l : Int)) := by
    refine map_cong fun j hj => ?_
    by_cases h2 : j < m - 1
    · rw [if_pos h2]
    · rw [if_neg h2]
      have := cgt_step (j : Int) l
      rw [show (j : Int) + 1 = (m : Int) by omega] at this ⊢
      omega
  simp only [Option.bind_some, nF h, Bool.false_eq_true, if_false, makeO_of (n := (m : Int)) (z := (0 : Int)) (k := m) rfl (by omega), l1, e2, est, mid (m - 1) (by omega), if_pos h]
theorem worked_eq (n : Int) (l : List Int) : F_short_Worked n l = some (if tchk n l = 0 then (sm (fun p => 2 * p) l, 0) else (0, tchk n l)) := by
  unfold F_short_Worked
  rw [tcheck_eq]
  by_cases h : tchk n l = 0
  case neg => simp only [Option.bind_some, nT h, if_true, if_neg h]
  obtain ⟨n0, n1, hl, hp⟩ := tchk_ok h
  have bd : ∀ k, 0 ≤ sm (fun p => 2 * p) (l.take k) ∧ sm (fun p => 2 * p) (l.take k) ≤ 400 * ((l.take k).length : Int) := fun k => sm_bd fun x hx => by have := hp x (List.mem_of_mem_take hx); omega
  have key : ∃ t, whileO (short_Worked_l1 l) (0, 0) = some t ∧ t = sm (fun p => 2 * p) l := by
    refine loop_st l.length (fun k s => s = sm (fun p => 2 * p) (l.take k)) _ rfl ?_ ?_
    · rintro k s hk rfl
      refine .inl ⟨_, ?_, rfl⟩
      have hq := hp _ (List.getElem_mem hk)
      have b := bd k
      rw [List.length_take] at b
      unfold short_Worked_l1
      simp only [dT (show (k : Int) < (l.length : Int) by omega), if_true, idxO_nat hk, Option.bind_some, w64_of (show (-9223372036854775808 : Int) ≤ 2 * l[k] by omega) (by omega), w64_succ (show k < 9223372036854775807 by omega)]
      rw [w64_of (by omega) (by omega), sm_take _ _ hk]
    · rintro s rfl
      refine ⟨_, ?_, rfl⟩
      unfold short_Worked_l1
      simp only [dF (show ¬ (l.length : Int) < (l.length : Int) by omega), Bool.false_eq_true, if_false, List.take_length]
  obtain ⟨t, h1, rfl⟩ := key
  simp only [Option.bind_some, nF h, Bool.false_eq_true, if_false, h1, if_pos h]
/-- lists that are alike -/
theorem ints_same_eq (a b : List Int) (hl : a.length ≤ 1000000) : ∃ t : Bool, (t = true ↔ a = b) ∧ F_raddleref36_Same a b = some t := by
  unfold F_raddleref36_Same
  by_cases h : a.length = b.length
  case neg =>
    exact ⟨false, ⟨fun h => (by cases h), fun e => absurd (congrArg List.length e) h⟩, by simp only [nT (show ¬ (a.length : Int) = (b.length : Int) by omega), if_true]⟩
  simp only [nF (show (a.length : Int) = (b.length : Int) by omega), Bool.false_eq_true, if_false]
  have key : ∃ t : Bool, (t = true ↔ a = b) ∧ whileO (raddleref36_Same_l1 a b) 0 = some (if t = true then .inr () else .inl false) := by
    refine loop_eq a b h _ _ (fun k hk => ?_) ?_
    · by_cases e : a[k] = b[k]'(by omega)
      · refine ⟨true, ⟨fun _ => e, fun _ => rfl⟩, ?_⟩
        unfold raddleref36_Same_l1
        simp only [dT (show (k : Int) < (a.length : Int) by omega), if_true, idxO_nat hk, idxO_nat (show k < b.length by omega), Option.bind_some, nF e, Bool.false_eq_true, if_false, w64_succ (show k < 9223372036854775807 by omega)]
      · refine ⟨false, ⟨fun h => (by cases h), fun h => absurd h e⟩, ?_⟩
        unfold raddleref36_Same_l1
        simp only [dT (show (k : Int) < (a.length : Int) by omega), if_true, idxO_nat hk, idxO_nat (show k < b.length by omega), Option.bind_some, nT e, Bool.false_eq_true, if_false]
    · unfold raddleref36_Same_l1
      simp only [dF (show ¬ (a.length : Int) < (a.length : Int) by omega), Bool.false_eq_true, if_false]
  obtain ⟨t, t1, t2⟩ := key
  refine ⟨t, t1, ?_⟩
  rw [t2]
  cases t <;> rfl
theorem tchk_app (n : Int) (a b : List Int) : tchk n (a ++ b) = tchk n (b ++ a) := by
  unfold tchk
  have e1 : (a ++ b).length = (b ++ a).length := by simp; omega
  have e2 : (∀ p, p ∈ a ++ b → 1 ≤ p ∧ p ≤ n) ↔ (∀ p, p ∈ b ++ a → 1 ≤ p ∧ p ≤ n) := by
    simp only [List.mem_append]
    exact ⟨fun h p hp => h p hp.symm, fun h p hp => h p hp.symm⟩
  rw [e1]
  by_cases h : ∀ p, p ∈ a ++ b → 1 ≤ p ∧ p ≤ n
  · rw [if_pos h, if_pos (e2.1 h)]
  · rw [if_neg h, if_neg (fun x => h (e2.2 x))]
theorem tchk_two {n : Int} {a b : List Int} (ha : tchk n a = 0) : (tchk n (a ++ b) = 0 → tchk n b = 0) ∧ (tchk n (a ++ b) ≠ 0 → tchk n b ≠ 0 ∨ tchk n (a ++ b) = 4) := by
  obtain ⟨n0, n1, hl, hp⟩ := tchk_ok ha
  constructor
  · intro h
    obtain ⟨_, _, hl2, hp2⟩ := tchk_ok h
    unfold tchk
    rw [if_pos ⟨n0, n1⟩, if_neg (by simp at hl2; omega), if_pos fun p hq => hp2 p (by simp [hq])]
  · intro h
    by_cases hb : tchk n b = 0
    · right
      obtain ⟨_, _, hl2, hp2⟩ := tchk_ok hb
      unfold tchk at h ⊢
      rw [if_pos ⟨n0, n1⟩] at h ⊢
      by_cases h5 : 50 < (a ++ b).length
      · rw [if_pos h5]
      · rw [if_neg h5, if_pos (fun p hq => by
          rcases List.mem_append.1 hq with hq | hq
          · exact hp p hq
          · exact hp2 p hq)] at h
        exact absurd rfl h
    · exact .inl hb

end Go.Proofs.YtoiehdlcfehmlaaDoor
namespace Go.Proofs.YtoiehdlcfehmlaaDoor
open Go.RowKit
set_option linter.unusedVariables false

def anc_raddlelaw38_ShortNear_0 : List (List Nat) := [[], [], [0, 1], [0, 1, 2], [], [], [5], [4, 5, 6], [4, 5, 6, 7], [0, 1, 2, 3, 4, 5, 6, 7, 8]]
noncomputable def raddlelaw38_ShortNear_l1 (r6 : ((List Int) × Int)) : Int → Option (Int ⊕ (Bool ⊕ Unit)) := fun s0 => match s0 with
  | s38 =>
    if decide (s38 < (r6.1.length : Int)) then
      Option.bind (idxO r6.1 s38) fun x47 =>
      Option.bind (idxO r6.1 (w64 (s38 - 1))) fun x52 =>
      if decide (x52 ≤ x47) then
        some (.inr (.inl false))
      else
        some (.inl (w64 (s38 + 1)))
    else
      some (.inr (.inr ()))
noncomputable def raddlelaw38_ShortNear_l2 (p0 : Int) (r22 : ((List Int) × Int)) (p1 : Int) : Int → Option (Int ⊕ (Bool ⊕ Unit)) := fun s0 => match s0 with
  | s68 =>
    if decide (s68 < p0) then
      Option.bind (idxO r22.1 s68) fun x77 =>
      Option.bind (α := Bool) (
        if decide (p0 < (w64 ((w64 ((w64 (2 * p0)) * x77)) - (w64 (p1 * (w64 ((w64 ((w64 (2 * p0)) - (w64 (2 * s68)))) - 1))))))) then
          some true
        else
          some (decide ((w64 ((w64 ((w64 (2 * p0)) * x77)) - (w64 (p1 * (w64 ((w64 ((w64 (2 * p0)) - (w64 (2 * s68)))) - 1)))))) ≤ (w64 (0 - p0))))) fun o82 =>
      if o82 then
        some (.inr (.inl false))
      else
        some (.inl (w64 (s68 + 1)))
    else
      some (.inr (.inr ()))
noncomputable def F_raddlelaw38_ShortNear (p0 : Int) (p1 : Int) : Option Bool :=
  Option.bind (F_raddlelaw38_alive) fun r3 =>
  Option.bind (F_short_Turns p0 p1) fun r6 =>
  Option.bind (α := Bool) (
    if r6.2 != 0 then
      some true
    else
      some (!r3)) fun o12 =>
  if o12 then
    Option.bind (α := Bool) (
      if r3 then
        some (r6.2 == 2)
      else
        some false) fun o17 =>
    some o17
  else
    Option.bind (F_short_Heights p0 r6.1) fun r22 =>
    Option.bind (α := Bool) (
      if r22.2 != 0 then
        some true
      else
        if (r22.1.length : Int) != p0 then
          some true
        else
          some ((r6.1.length : Int) != p1)) fun o28 =>
    if o28 then
      some false
    else
      Option.bind (α := Unit ⊕ Bool) (
        Option.bind (whileO (raddlelaw38_ShortNear_l1 r6) 1) fun z0 => match z0 with
          | .inl z =>
            some (.inr z)
          | .inr _ =>
            some (.inl ())) fun z0 => match z0 with
        | .inl _ =>
          Option.bind (α := Unit ⊕ Bool) (
            Option.bind (whileO (raddlelaw38_ShortNear_l2 p0 r22 p1) 0) fun z0 => match z0 with
              | .inl z =>
                some (.inr z)
              | .inr _ =>
                some (.inl ())) fun z0 => match z0 with
            | .inl _ =>
              some r3
            | .inr z =>
              some z
        | .inr z =>
          some z
set_option maxHeartbeats 4000000 in
set_option maxRecDepth 100000 in
theorem c_raddlelaw38_ShortNear (E : Nat → Prop) (w0 : World) (p0 : Int) (p1 : Int) (r : Bool) (h : F_raddlelaw38_ShortNear p0 p1 = some r) (S : St0 E [] w0 w0 [] []) :
    Calls Tryd.prog 4 #[iv p0, iv p1] w0 (Ret (X := Unit) E [] w0 (fun _ => .bool r) (fun _ => []) (fun _ => [])) := by
  unfold F_raddlelaw38_ShortNear at h
  refine sEnter (args := [iv p0, iv p1]) 98 Tryd.func4 rfl rfl (by simp) S (fun a S => ?_)
  refine sSeq (fun K1 hK1 => ?_)
  refine sRegion ?_
  refine sMove (.bool false) S (wN rfl) (.inr rfl) rfl rfl (lb rfl) fun a S => ?_
  refine leafL (leafT (hK1 _ _ ?_))
  refine sSeq (fun K2 hK2 => ?_)
  refine sRegion ?_
  obtain ⟨r3, hx4, h⟩ := bindSome h
  have S1 := S.mem
  refine sCallQ (X := Unit) (f := 15) (vs := []) (val := fun _ => .bool r3) S (wN rfl) rfl callee15 rfl (S1.quiet [] rfl) (fun E1 w1 S1 => c_raddlelaw38_alive E1 w1  r3 hx4 S1) rfl (lb rfl) fun _ a w S => ?_
  refine sMove (.bool r3) S (wN rfl) (.inr rfl) rfl rfl (lb rfl) fun a S => ?_
  refine leafL (leafT (hK2 _ _ ?_))
  refine sSeq (fun K5 hK5 => ?_)
  refine sRegion ?_
  refine sMove (iv p0) S (wN rfl) (.inl rfl) rfl rfl (lb rfl) fun a S => ?_
  refine sMove (iv p1) S (wN rfl) (.inl rfl) rfl rfl (lb rfl) fun a S => ?_
  obtain ⟨r6, hx7, h⟩ := bindSome h
  refine sCall (X := Value) (f := 8) (vs := [iv p0, iv p1]) (val := c_short_Turns_val r6) (B' := fun _ => []) (D' := c_short_Turns_D r6) [] [] [] [] [] S (wN rfl) rfl callee8 rfl (by decide) rfl rfl (fun E1 w1 S1 => c_short_Turns E1 w1 p0 p1 r6 hx7 S1) rfl (lb rfl) fun u8 a w S => ?_
  obtain ⟨ad9, cp10, _, rfl, _⟩ := S.mem.know (i := 0) (e := fRep (rL (rI .i64)) (u8) r6.1) rfl
  refine sMove (.tuple #[.slice ad9 r6.1.length cp10, iv r6.2]) S (wN rfl) (.inl rfl) rfl rfl (lb rfl) fun a S => ?_
  refine sExtract (vs := [.slice ad9 r6.1.length cp10, iv r6.2]) (.slice ad9 r6.1.length cp10) S (wN rfl) rfl rfl rfl rfl (lb rfl) fun a S => ?_
  refine sExtract (vs := [.slice ad9 r6.1.length cp10, iv r6.2]) (iv r6.2) S (wN rfl) rfl rfl rfl rfl (lb rfl) fun a S => ?_
  refine sMove (.slice ad9 r6.1.length cp10) S (wN rfl) (.inr rfl) rfl rfl (lb rfl) fun a S => ?_
  refine sMove (iv r6.2) S (wN rfl) (.inr rfl) rfl rfl (lb rfl) fun a S => ?_
  refine leafL (leafT (hK5 _ _ ?_))
  refine sSeq (fun K11 hK11 => ?_)
  obtain ⟨t13, h, g14⟩ := bindSome h
  refine sCut (fun a w => ∃ o12, o12 = t13 ∧ St [] E [] w0 98 a w [(0, iv p0), (1, iv p1), (5, .bool r3), (6, .slice ad9 r6.1.length cp10), (7, iv r6.2), (25, .bool o12)] [] [fRep (rL (rI .i64)) (.slice ad9 r6.1.length cp10) r6.1]) ?_ (fun a w hI => ?_)
  · refine sRegion ?_
    refine sMove (iv r6.2) S (wN rfl) (.inl rfl) rfl rfl (lb rfl) fun a S => ?_
    refine sBin (.bool (r6.2 != 0)) S (wN rfl) rfl rfl rfl (bNe _ _ _ _ .i64 r6.2 0) rfl (lb rfl) fun a S => ?_
    refine sMove (.bool (r6.2 != 0)) S (wN rfl) (.inl rfl) rfl rfl (lb rfl) fun a S => ?_
    rcases iteSome h with ⟨hc15, h⟩ | ⟨hc15, h⟩
    · refine sSkip 2 false 22 23 S rfl rfl rfl hc15 rfl (lb rfl) fun a S => ?_
      refine sSkip 2 false 22 24 S rfl rfl rfl hc15 rfl (lb rfl) fun a S => ?_
      refine sPickT (.bool true) S (wN rfl) rfl rfl hc15 rfl rfl (lb rfl) fun a S => ?_
      exact leafL (leafT (⟨true, Option.some.inj h, S.fix [] [0] (by decide) rfl rfl rfl⟩))
    refine sMove (.bool r3) S (wG 2 false 22 rfl rfl rfl hc15) (.inl rfl) rfl rfl (lb rfl) fun a S => ?_
    refine sNot (b := r3) S (wG 2 false 22 rfl rfl rfl hc15) rfl rfl rfl (lb rfl) fun a S => ?_
    refine sPickF (.bool (!r3)) S (wN rfl) rfl rfl hc15 rfl rfl (lb rfl) fun a S => ?_
    exact leafL (leafT (⟨!r3, Option.some.inj h, S.fix [] [0] (by decide) rfl rfl rfl⟩))
  obtain ⟨o12, rfl, S⟩ := hI
  have h := g14
  clear g14
  try dsimp only at h
  rcases iteSome h with ⟨hc16, h⟩ | ⟨hc16, h⟩
  · refine sCondT S rfl hc16 ?_
    obtain ⟨t18, h, g19⟩ := bindSome h
    refine sCut (fun a w => ∃ o17, o17 = t18 ∧ St [] E [] w0 98 a w [(4, .bool o17)] [] []) ?_ (fun a w hI => ?_)
    rotate_left
    · obtain ⟨o17, rfl, S⟩ := hI
      have h := g19
      clear g19
      try dsimp only at h
      obtain rfl := Option.some.inj h
      exact wp_ret (rThen (sRet (.bool o17) S (rsl1 rfl (rvT (t := 4) (v := .bool o17) S rfl)) ⟨(), rfl, S.mem.sel [] [] (by decide) rfl rfl⟩))
    refine sRegion ?_
    refine sMove (.bool r3) S (wN rfl) (.inl rfl) rfl rfl (lb rfl) fun a S => ?_
    refine sMove (.bool r3) S (wN rfl) (.inl rfl) rfl rfl (lb rfl) fun a S => ?_
    rcases iteSome h with ⟨hc20, h⟩ | ⟨hc20, h⟩
    rotate_left
    · refine sSkip 1 true 27 28 S rfl rfl rfl hc20 rfl (lb rfl) fun a S => ?_
      refine sSkip 1 true 27 29 S rfl rfl rfl hc20 rfl (lb rfl) fun a S => ?_
      refine sPickF (.bool false) S (wN rfl) rfl rfl hc20 rfl rfl (lb rfl) fun a S => ?_
      refine sMove (.bool false) S (wN rfl) (.inr rfl) rfl rfl (lb rfl) fun a S => ?_
      exact leafL (leafT (⟨false, Option.some.inj h, S.fix [] [] (by decide) rfl rfl rfl⟩))
    refine sMove (iv r6.2) S (wG 1 true 27 rfl rfl rfl hc20) (.inl rfl) rfl rfl (lb rfl) fun a S => ?_
    refine sBin (.bool (r6.2 == 2)) S (wG 1 true 27 rfl rfl rfl hc20) rfl rfl rfl (bEq _ _ _ _ .i64 r6.2 2) rfl (lb rfl) fun a S => ?_
    refine sPickT (.bool (r6.2 == 2)) S (wN rfl) rfl rfl hc20 rfl rfl (lb rfl) fun a S => ?_
    refine sMove (.bool (r6.2 == 2)) S (wN rfl) (.inr rfl) rfl rfl (lb rfl) fun a S => ?_
    exact leafL (leafT (⟨r6.2 == 2, Option.some.inj h, S.fix [] [] (by decide) rfl rfl rfl⟩))
  refine sCondF S rfl hc16 ?_
  refine wp_skip (leafT (hK11 _ _ ?_))
  refine sSeq (fun K21 hK21 => ?_)
  refine sRegion ?_
  refine sMove (iv p0) S (wN rfl) (.inl rfl) rfl rfl (lb rfl) fun a S => ?_
  refine sMove (.slice ad9 r6.1.length cp10) S (wN rfl) (.inl rfl) rfl rfl (lb rfl) fun a S => ?_
  obtain ⟨r22, hx23, h⟩ := bindSome h
  refine sCall (X := Value) (f := 9) (vs := [iv p0, .slice ad9 r6.1.length cp10]) (val := c_short_Heights_val r22) (B' := fun _ => []) (D' := c_short_Heights_D r22) [] [] [fRep (rL (rI .i64)) (.slice ad9 r6.1.length cp10) r6.1] [] [0] S (wN rfl) rfl callee9 rfl (by decide) rfl rfl (fun E1 w1 S1 => c_short_Heights E1 w1 p0 r6.1 (.slice ad9 r6.1.length cp10) r22 hx23 S1) rfl (lb rfl) fun u24 a w S => ?_
  obtain ⟨ad25, cp26, _, rfl, _⟩ := S.mem.know (i := 0) (e := fRep (rL (rI .i64)) (u24) r22.1) rfl
  refine sMove (.tuple #[.slice ad25 r22.1.length cp26, iv r22.2]) S (wN rfl) (.inl rfl) rfl rfl (lb rfl) fun a S => ?_
  refine sExtract (vs := [.slice ad25 r22.1.length cp26, iv r22.2]) (.slice ad25 r22.1.length cp26) S (wN rfl) rfl rfl rfl rfl (lb rfl) fun a S => ?_
  refine sExtract (vs := [.slice ad25 r22.1.length cp26, iv r22.2]) (iv r22.2) S (wN rfl) rfl rfl rfl rfl (lb rfl) fun a S => ?_
  refine sMove (.slice ad25 r22.1.length cp26) S (wN rfl) (.inr rfl) rfl rfl (lb rfl) fun a S => ?_
  refine sMove (iv r22.2) S (wN rfl) (.inr rfl) rfl rfl (lb rfl) fun a S => ?_
  refine leafL (leafT (hK21 _ _ ?_))
  refine sSeq (fun K27 hK27 => ?_)
  obtain ⟨t29, h, g30⟩ := bindSome h
  refine sCut (fun a w => ∃ o28, o28 = t29 ∧ St [] E [] w0 98 a w [(0, iv p0), (1, iv p1), (5, .bool r3), (6, .slice ad9 r6.1.length cp10), (8, .slice ad25 r22.1.length cp26), (50, .bool o28)] [] [fRep (rL (rI .i64)) (.slice ad9 r6.1.length cp10) r6.1, fRep (rL (rI .i64)) (.slice ad25 r22.1.length cp26) r22.1]) ?_ (fun a w hI => ?_)
  · refine sRegion ?_
    refine sMove (iv r22.2) S (wN rfl) (.inl rfl) rfl rfl (lb rfl) fun a S => ?_
    refine sBin (.bool (r22.2 != 0)) S (wN rfl) rfl rfl rfl (bNe _ _ _ _ .i64 r22.2 0) rfl (lb rfl) fun a S => ?_
    refine sMove (.bool (r22.2 != 0)) S (wN rfl) (.inl rfl) rfl rfl (lb rfl) fun a S => ?_
    rcases iteSome h with ⟨hc31, h⟩ | ⟨hc31, h⟩
    · refine sSkip 2 false 39 40 S rfl rfl rfl hc31 rfl (lb rfl) fun a S => ?_
      refine sSkip 2 false 39 41 S rfl rfl rfl hc31 rfl (lb rfl) fun a S => ?_
      refine sSkip 2 false 39 42 S rfl rfl rfl hc31 rfl (lb rfl) fun a S => ?_
      refine sSkip 2 false 39 43 S rfl rfl rfl hc31 rfl (lb rfl) fun a S => ?_
      refine sPickT (.bool true) S (wN rfl) rfl rfl hc31 rfl rfl (lb rfl) fun a S => ?_
      refine sMove (.bool true) S (wN rfl) (.inl rfl) rfl rfl (lb rfl) fun a S => ?_
      refine sSkip 8 false 45 46 S rfl rfl rfl rfl rfl (lb rfl) fun a S => ?_
      refine sSkip 8 false 45 47 S rfl rfl rfl rfl rfl (lb rfl) fun a S => ?_
      refine sSkip 8 false 45 48 S rfl rfl rfl rfl rfl (lb rfl) fun a S => ?_
      refine sSkip 8 false 45 49 S rfl rfl rfl rfl rfl (lb rfl) fun a S => ?_
      refine sPickT (.bool true) S (wN rfl) rfl rfl rfl rfl rfl (lb rfl) fun a S => ?_
      exact leafL (leafT (⟨true, Option.some.inj h, S.fix [] [1, 0] (by decide) rfl rfl rfl⟩))
    refine sMove (.slice ad25 r22.1.length cp26) S (wG 2 false 39 rfl rfl rfl hc31) (.inl rfl) rfl rfl (lb rfl) fun a S => ?_
    refine sLen (ad := ad25) (m := r22.1.length) (c := cp26) S (wG 2 false 39 rfl rfl rfl hc31) rfl Tryd.underlying22 rfl rfl (lb rfl) fun a S => ?_
    refine sMove (iv p0) S (wG 2 false 39 rfl rfl rfl hc31) (.inl rfl) rfl rfl (lb rfl) fun a S => ?_
    refine sBin (.bool ((r22.1.length : Int) != p0)) S (wG 2 false 39 rfl rfl rfl hc31) rfl rfl rfl (bNe _ _ _ _ .i64 (r22.1.length : Int) p0) rfl (lb rfl) fun a S => ?_
    refine sPickF (.bool ((r22.1.length : Int) != p0)) S (wN rfl) rfl rfl hc31 rfl rfl (lb rfl) fun a S => ?_
    refine sMove (.bool ((r22.1.length : Int) != p0)) S (wN rfl) (.inl rfl) rfl rfl (lb rfl) fun a S => ?_
    rcases iteSome h with ⟨hc32, h⟩ | ⟨hc32, h⟩
    · refine sSkip 8 false 45 46 S rfl rfl rfl hc32 rfl (lb rfl) fun a S => ?_
      refine sSkip 8 false 45 47 S rfl rfl rfl hc32 rfl (lb rfl) fun a S => ?_
      refine sSkip 8 false 45 48 S rfl rfl rfl hc32 rfl (lb rfl) fun a S => ?_
      refine sSkip 8 false 45 49 S rfl rfl rfl hc32 rfl (lb rfl) fun a S => ?_
      refine sPickT (.bool true) S (wN rfl) rfl rfl hc32 rfl rfl (lb rfl) fun a S => ?_
      exact leafL (leafT (⟨true, Option.some.inj h, S.fix [] [1, 0] (by decide) rfl rfl rfl⟩))
    refine sMove (.slice ad9 r6.1.length cp10) S (wG 8 false 45 rfl rfl rfl hc32) (.inl rfl) rfl rfl (lb rfl) fun a S => ?_
    refine sLen (ad := ad9) (m := r6.1.length) (c := cp10) S (wG 8 false 45 rfl rfl rfl hc32) rfl Tryd.underlying22 rfl rfl (lb rfl) fun a S => ?_
    refine sMove (iv p1) S (wG 8 false 45 rfl rfl rfl hc32) (.inl rfl) rfl rfl (lb rfl) fun a S => ?_
    refine sBin (.bool ((r6.1.length : Int) != p1)) S (wG 8 false 45 rfl rfl rfl hc32) rfl rfl rfl (bNe _ _ _ _ .i64 (r6.1.length : Int) p1) rfl (lb rfl) fun a S => ?_
    refine sPickF (.bool ((r6.1.length : Int) != p1)) S (wN rfl) rfl rfl hc32 rfl rfl (lb rfl) fun a S => ?_
    exact leafL (leafT (⟨(r6.1.length : Int) != p1, Option.some.inj h, S.fix [] [1, 0] (by decide) rfl rfl rfl⟩))
  obtain ⟨o28, rfl, S⟩ := hI
  have h := g30
  clear g30
  try dsimp only at h
  rcases iteSome h with ⟨hc33, h⟩ | ⟨hc33, h⟩
  · refine sCondT S rfl hc33 ?_
    refine sSeq (fun K34 hK34 => ?_)
    refine sRegion ?_
    refine sMove (.bool false) S (wN rfl) (.inr rfl) rfl rfl (lb rfl) fun a S => ?_
    refine leafL (leafT (hK34 _ _ ?_))
    obtain rfl := Option.some.inj h
    exact wp_ret (rThen (sRet (.bool false) S (rsl1 rfl (rvT (t := 4) (v := .bool false) S rfl)) ⟨(), rfl, S.mem.sel [] [] (by decide) rfl rfl⟩))
  refine sCondF S rfl hc33 ?_
  refine wp_skip (leafT (hK27 _ _ ?_))
  obtain ⟨t35, h, g36⟩ := bindSome h
  refine sCut (fun a w => .inl () = t35 ∧ St [] E [] w0 98 a w [(0, iv p0), (1, iv p1), (5, .bool r3), (8, .slice ad25 r22.1.length cp26)] [] [fRep (rL (rI .i64)) (.slice ad25 r22.1.length cp26) r22.1]) ?_ (fun a w hI => ?_)
  · refine sSeq (fun K37 hK37 => ?_)
    refine sRegion ?_
    refine sMove (iv 1) S (wN rfl) (.inr rfl) rfl rfl (lb rfl) fun a S => ?_
    refine leafL (leafT (hK37 _ _ ?_))
    refine wp_block ?_
    obtain ⟨t41, hl, g40⟩ := bindSome h
    refine sLoop hl (fun s0 a w => match s0 with | s38 => St [] E [] w0 98 a w [(0, iv p0), (1, iv p1), (5, .bool r3), (6, .slice ad9 r6.1.length cp10), (8, .slice ad25 r22.1.length cp26), (10, iv s38)] [] [fRep (rL (rI .i64)) (.slice ad9 r6.1.length cp10) r6.1, fRep (rL (rI .i64)) (.slice ad25 r22.1.length cp26) r22.1]) (S.fix [] [0, 1] (by decide) rfl rfl rfl) ?_
    clear hl h
    intro s38 a w c0 hI h hu39
    unfold raddlelaw38_ShortNear_l1 at h
    dsimp only at h hI
    have S := hI
    refine sSeq (fun K42 hK42 => ?_)
    refine sSeq (fun K43 hK43 => ?_)
    refine sRegion ?_
    refine sMove (iv s38) S (wN rfl) (.inl rfl) rfl rfl (lb rfl) fun a S => ?_
    refine sMove (.slice ad9 r6.1.length cp10) S (wN rfl) (.inl rfl) rfl rfl (lb rfl) fun a S => ?_
    refine sLen (ad := ad9) (m := r6.1.length) (c := cp10) S (wN rfl) rfl Tryd.underlying22 rfl rfl (lb rfl) fun a S => ?_
    refine sBin (.bool (decide (s38 < (r6.1.length : Int)))) S (wN rfl) rfl rfl rfl (bLt _ _ _ _ .i64 s38 (r6.1.length : Int)) rfl (lb rfl) fun a S => ?_
    refine leafL (leafT (hK43 _ _ ?_))
    rcases iteSome h with ⟨hc44, h⟩ | ⟨hc44, h⟩
    rotate_left
    · refine sCondF S rfl hc44 ?_
      obtain rfl := Option.some.inj h
      obtain rfl := hu39 _ rfl
      have h := g40
      clear g40
      try dsimp only at h
      exact wp_exit (xThen (xThen (xHit (leafT (⟨Option.some.inj h, S.fix [] [1] (by decide) rfl rfl rfl⟩)))))
    refine sCondT S rfl hc44 ?_
    refine wp_skip (leafT (hK42 _ _ ?_))
    refine sSeq (fun K45 hK45 => ?_)
    refine wp_block ?_
    refine sSeq (fun K46 hK46 => ?_)
    obtain ⟨x47, hx48, h⟩ := bindSome h
    obtain ⟨x52, hx53, h⟩ := bindSome h
    obtain ⟨q57, hq58, S⟩ := pIdx (P := Tryd.prog) (r := (rI .i64)) (v := .slice ad9 r6.1.length cp10) (xs := r6.1) (j := s38) 22 3 0 S Tryd.underlying22 rfl rfl hx48
    obtain ⟨u59, S⟩ := pLoad (r := (rI .i64)) (q := q57) (x := x47) 0 S rfl
    obtain rfl : u59 = iv x47 := S.mem.know (i := 1) (e := fRep (rI .i64) (u59) x47) rfl
    obtain ⟨q60, hq61, S⟩ := pIdx (P := Tryd.prog) (r := (rI .i64)) (v := .slice ad9 r6.1.length cp10) (xs := r6.1) (j := w64 (s38 - 1)) 22 3 3 S Tryd.underlying22 rfl rfl hx53
    obtain ⟨u62, S⟩ := pLoad (r := (rI .i64)) (q := q60) (x := x52) 0 S rfl
    obtain rfl : u62 = iv x52 := S.mem.know (i := 1) (e := fRep (rI .i64) (u62) x52) rfl
    refine sDraw (nf := []) (W := [(0, 57, .slice ad9 r6.1.length cp10), (1, 58, iv s38), (2, 59, q57), (3, 60, iv x47), (4, 61, .slice ad9 r6.1.length cp10), (5, 62, iv s38), (6, 63, iv (w64 (s38 - 1))), (7, 64, q60), (8, 65, iv x52), (9, 66, .bool (decide (x52 ≤ x47)))]) rfl S ?_
    refine node_by (A := anc_raddlelaw38_ShortNear_0) (nf := []) (Y := []) (W := [(0, 57, .slice ad9 r6.1.length cp10), (1, 58, iv s38), (2, 59, q57), (3, 60, iv x47), (4, 61, .slice ad9 r6.1.length cp10), (5, 62, iv s38), (6, 63, iv (w64 (s38 - 1))), (7, 64, q60), (8, 65, iv x52), (9, 66, .bool (decide (x52 ≤ x47)))]) 10 (by kernel_rfl) (by kernel_rfl) (by kernel_rfl) (by kernel_rfl) (by kernel_rfl) [0, 1, 2, 3, 4, 5, 6, 7, 8, 9] (by kernel_rfl) (by decide) (by decide) (aF 0 9 (by decide) ?_ (aF 1 8 (by decide) ?_ (aF 2 7 (by decide) ?_ (aF 3 6 (by decide) ?_ (aF 4 5 (by decide) ?_ (aF 5 4 (by decide) ?_ (aF 6 3 (by decide) ?_ (aF 7 2 (by decide) ?_ (aF 8 1 (by decide) ?_ (aF 9 0 (by decide) ?_ (trivial))))))))))) [(0, iv p0), (1, iv p1), (5, .bool r3), (6, .slice ad9 r6.1.length cp10), (8, .slice ad25 r22.1.length cp26), (10, iv s38), (66, .bool (decide (x52 ≤ x47)))] (fin_of [none, none, none, none, none, none, some 9] rfl (by kernel_rfl) (by kernel_rfl)) (fun _ a w S => ?_)
    · refine fI 57 (.slice ad9 r6.1.length cp10) [(6, .slice ad9 r6.1.length cp10)] 0 [none] rfl rfl rfl rfl rfl rfl fun G a w S => ?_
      refine sMove (.slice ad9 r6.1.length cp10) S (wN rfl) (.inl rfl) rfl rfl (lb rfl) fun a S => ?_
      exact leafL ⟨rfl, S⟩
    · refine fI 58 (iv s38) [(10, iv s38)] 1 [none] rfl rfl rfl rfl rfl rfl fun G a w S => ?_
      refine sMove (iv s38) S (wN rfl) (.inl rfl) rfl rfl (lb rfl) fun a S => ?_
      exact leafL ⟨rfl, S⟩
    · refine fI 59 q57 [(57, .slice ad9 r6.1.length cp10), (58, iv s38)] 2 [some 0, some 1] rfl rfl rfl rfl rfl rfl fun G a w S => ?_
      refine sIdxV (v := .slice ad9 r6.1.length cp10) (k := .i64) (j := s38) S (wN rfl) rfl rfl rfl hq58 rfl (lb rfl) fun a S => ?_
      exact leafL ⟨rfl, S⟩
    · refine fI 60 (iv x47) [(59, q57)] 3 [some 2] rfl rfl rfl rfl rfl rfl fun G a w S => ?_
      refine sLoadV1 (vq := q57) 3 (iv x47) S (wN rfl) rfl rfl rfl rfl rfl (lb rfl) fun a S => ?_
      exact leafL ⟨rfl, S⟩
    · refine fI 61 (.slice ad9 r6.1.length cp10) [(6, .slice ad9 r6.1.length cp10)] 4 [none] rfl rfl rfl rfl rfl rfl fun G a w S => ?_
      refine sMove (.slice ad9 r6.1.length cp10) S (wN rfl) (.inl rfl) rfl rfl (lb rfl) fun a S => ?_
      exact leafL ⟨rfl, S⟩
    · refine fI 62 (iv s38) [(10, iv s38)] 5 [none] rfl rfl rfl rfl rfl rfl fun G a w S => ?_
      refine sMove (iv s38) S (wN rfl) (.inl rfl) rfl rfl (lb rfl) fun a S => ?_
      exact leafL ⟨rfl, S⟩
    · refine fI 63 (iv (w64 (s38 - 1))) [(62, iv s38)] 6 [some 5] rfl rfl rfl rfl rfl rfl fun G a w S => ?_
      refine sBin (iv (w64 (s38 - 1))) S (wN rfl) rfl rfl rfl (bSub _ _ _ _ s38 1) rfl (lb rfl) fun a S => ?_
      exact leafL ⟨rfl, S⟩
    · refine fI 64 q60 [(61, .slice ad9 r6.1.length cp10), (63, iv (w64 (s38 - 1)))] 7 [some 4, some 6] rfl rfl rfl rfl rfl rfl fun G a w S => ?_
      refine sIdxV (v := .slice ad9 r6.1.length cp10) (k := .i64) (j := w64 (s38 - 1)) S (wN rfl) rfl rfl rfl hq61 rfl (lb rfl) fun a S => ?_
      exact leafL ⟨rfl, S⟩
    · refine fI 65 (iv x52) [(64, q60)] 8 [some 7] rfl rfl rfl rfl rfl rfl fun G a w S => ?_
      refine sLoadV1 (vq := q60) 0 (iv x52) S (wN rfl) rfl rfl rfl rfl rfl (lb rfl) fun a S => ?_
      exact leafL ⟨rfl, S⟩
    · refine fI 66 (.bool (decide (x52 ≤ x47))) [(60, iv x47), (65, iv x52)] 9 [some 3, some 8] rfl rfl rfl rfl rfl rfl fun G a w S => ?_
      refine sBin (.bool (decide (x52 ≤ x47))) S (wN rfl) rfl rfl rfl (bGe _ _ _ _ .i64 x47 x52) rfl (lb rfl) fun a S => ?_
      exact leafL ⟨rfl, S⟩
    refine leafT (hK46 _ _ ?_)
    rcases iteSome h with ⟨hc63, h⟩ | ⟨hc63, h⟩
    rotate_left
    · refine sCondF S rfl hc63 ?_
      refine wp_skip (leafB (leafT (hK45 _ _ ?_)))
      refine sRegion ?_
      refine sMove (iv s38) S (wN rfl) (.inl rfl) rfl rfl (lb rfl) fun a S => ?_
      refine sBin (iv (w64 (s38 + 1))) S (wN rfl) rfl rfl rfl (bAdd _ _ _ _ s38 1) rfl (lb rfl) fun a S => ?_
      refine sMove (iv (w64 (s38 + 1))) S (wN rfl) (.inr rfl) rfl rfl (lb rfl) fun a S => ?_
      exact leafL (leafT (⟨w64 (s38 + 1), (Option.some.inj h).symm, (S.fix [] [6, 7] (by decide) rfl rfl rfl)⟩))
    refine sCondT S rfl hc63 ?_
    refine sSeq (fun K64 hK64 => ?_)
    refine sRegion ?_
    refine sMove (.bool false) S (wN rfl) (.inr rfl) rfl rfl (lb rfl) fun a S => ?_
    refine leafL (leafT (hK64 _ _ ?_))
    obtain rfl := Option.some.inj h
    obtain rfl := hu39 _ rfl
    have h := g40
    clear g40
    try dsimp only at h
    obtain rfl := Option.some.inj h
    have h := g36
    clear g36
    try dsimp only at h
    obtain rfl := Option.some.inj h
    exact wp_ret (rBlock (rThen (rThen (rBlock (rThen (sRet (.bool false) S (rsl1 rfl (rvT (t := 4) (v := .bool false) S rfl)) ⟨(), rfl, S.mem.sel [] [] (by decide) rfl rfl⟩))))))
  obtain ⟨rfl, S⟩ := hI
  have h := g36
  clear g36
  try dsimp only at h
  obtain ⟨t65, h, g66⟩ := bindSome h
  refine sCut (fun a w => .inl () = t65 ∧ St [] E [] w0 98 a w [(5, .bool r3)] [] []) ?_ (fun a w hI => ?_)
  rotate_left
  · obtain ⟨rfl, S⟩ := hI
    have h := g66
    clear g66
    try dsimp only at h
    refine sSeq (fun K88 hK88 => ?_)
    refine sRegion ?_
    refine sMove (.bool r3) S (wN rfl) (.inl rfl) rfl rfl (lb rfl) fun a S => ?_
    refine sMove (.bool r3) S (wN rfl) (.inr rfl) rfl rfl (lb rfl) fun a S => ?_
    refine leafL (leafT (hK88 _ _ ?_))
    obtain rfl := Option.some.inj h
    exact wp_ret (sRet (.bool r3) S (rsl1 rfl (rvT (t := 4) (v := .bool r3) S rfl)) ⟨(), rfl, S.mem.sel [] [] (by decide) rfl rfl⟩)
  refine sSeq (fun K67 hK67 => ?_)
  refine sRegion ?_
  refine sMove (iv 0) S (wN rfl) (.inr rfl) rfl rfl (lb rfl) fun a S => ?_
  refine leafL (leafT (hK67 _ _ ?_))
  refine wp_block ?_
  obtain ⟨t71, hl, g70⟩ := bindSome h
  refine sLoop hl (fun s0 a w => match s0 with | s68 => St [] E [] w0 98 a w [(0, iv p0), (1, iv p1), (5, .bool r3), (8, .slice ad25 r22.1.length cp26), (11, iv s68)] [] [fRep (rL (rI .i64)) (.slice ad25 r22.1.length cp26) r22.1]) (S.fix [] [0] (by decide) rfl rfl rfl) ?_
  clear hl h
  intro s68 a w c0 hI h hu69
  unfold raddlelaw38_ShortNear_l2 at h
  dsimp only at h hI
  have S := hI
  refine sSeq (fun K72 hK72 => ?_)
  refine sSeq (fun K73 hK73 => ?_)
  refine sRegion ?_
  refine sMove (iv s68) S (wN rfl) (.inl rfl) rfl rfl (lb rfl) fun a S => ?_
  refine sMove (iv p0) S (wN rfl) (.inl rfl) rfl rfl (lb rfl) fun a S => ?_
  refine sBin (.bool (decide (s68 < p0))) S (wN rfl) rfl rfl rfl (bLt _ _ _ _ .i64 s68 p0) rfl (lb rfl) fun a S => ?_
  refine leafL (leafT (hK73 _ _ ?_))
  rcases iteSome h with ⟨hc74, h⟩ | ⟨hc74, h⟩
  rotate_left
  · refine sCondF S rfl hc74 ?_
    obtain rfl := Option.some.inj h
    obtain rfl := hu69 _ rfl
    have h := g70
    clear g70
    try dsimp only at h
    exact wp_exit (xThen (xThen (xHit (leafT (⟨Option.some.inj h, S.fix [] [] (by decide) rfl rfl rfl⟩)))))
  refine sCondT S rfl hc74 ?_
  refine wp_skip (leafT (hK72 _ _ ?_))
  refine sSeq (fun K75 hK75 => ?_)
  refine wp_block ?_
  refine sSeq (fun K76 hK76 => ?_)
  refine sRegion ?_
  refine sMove (iv p0) S (wN rfl) (.inl rfl) rfl rfl (lb rfl) fun a S => ?_
  refine sBin (iv (w64 (2 * p0))) S (wN rfl) rfl rfl rfl (bMul _ _ _ _ 2 p0) rfl (lb rfl) fun a S => ?_
  refine sMove (.slice ad25 r22.1.length cp26) S (wN rfl) (.inl rfl) rfl rfl (lb rfl) fun a S => ?_
  refine sMove (iv s68) S (wN rfl) (.inl rfl) rfl rfl (lb rfl) fun a S => ?_
  obtain ⟨x77, hx78, h⟩ := bindSome h
  obtain ⟨q79, hq80, S⟩ := pIdx (P := Tryd.prog) (r := (rI .i64)) (v := .slice ad25 r22.1.length cp26) (xs := r22.1) (j := s68) 22 3 0 S Tryd.underlying22 rfl rfl hx78
  refine sIdxV (v := .slice ad25 r22.1.length cp26) (k := .i64) (j := s68) S (wN rfl) rfl rfl rfl hq80 rfl (lb rfl) fun a S => ?_
  obtain ⟨u81, S⟩ := pLoad (r := (rI .i64)) (q := q79) (x := x77) 0 S rfl
  obtain rfl : u81 = iv x77 := S.mem.know (i := 1) (e := fRep (rI .i64) (u81) x77) rfl
  refine sLoadV1 (vq := q79) 0 (iv x77) S (wN rfl) rfl rfl rfl rfl rfl (lb rfl) fun a S => ?_
  refine sBin (iv (w64 ((w64 (2 * p0)) * x77))) S (wN rfl) rfl rfl rfl (bMul _ _ _ _ (w64 (2 * p0)) x77) rfl (lb rfl) fun a S => ?_
  refine sMove (iv p1) S (wN rfl) (.inl rfl) rfl rfl (lb rfl) fun a S => ?_
  refine sMove (iv p0) S (wN rfl) (.inl rfl) rfl rfl (lb rfl) fun a S => ?_
  refine sBin (iv (w64 (2 * p0))) S (wN rfl) rfl rfl rfl (bMul _ _ _ _ 2 p0) rfl (lb rfl) fun a S => ?_
  refine sMove (iv s68) S (wN rfl) (.inl rfl) rfl rfl (lb rfl) fun a S => ?_
  refine sBin (iv (w64 (2 * s68))) S (wN rfl) rfl rfl rfl (bMul _ _ _ _ 2 s68) rfl (lb rfl) fun a S => ?_
  refine sBin (iv (w64 ((w64 (2 * p0)) - (w64 (2 * s68))))) S (wN rfl) rfl rfl rfl (bSub _ _ _ _ (w64 (2 * p0)) (w64 (2 * s68))) rfl (lb rfl) fun a S => ?_
  refine sBin (iv (w64 ((w64 ((w64 (2 * p0)) - (w64 (2 * s68)))) - 1))) S (wN rfl) rfl rfl rfl (bSub _ _ _ _ (w64 ((w64 (2 * p0)) - (w64 (2 * s68)))) 1) rfl (lb rfl) fun a S => ?_
  refine sBin (iv (w64 (p1 * (w64 ((w64 ((w64 (2 * p0)) - (w64 (2 * s68)))) - 1))))) S (wN rfl) rfl rfl rfl (bMul _ _ _ _ p1 (w64 ((w64 ((w64 (2 * p0)) - (w64 (2 * s68)))) - 1))) rfl (lb rfl) fun a S => ?_
  refine sBin (iv (w64 ((w64 ((w64 (2 * p0)) * x77)) - (w64 (p1 * (w64 ((w64 ((w64 (2 * p0)) - (w64 (2 * s68)))) - 1))))))) S (wN rfl) rfl rfl rfl (bSub _ _ _ _ (w64 ((w64 (2 * p0)) * x77)) (w64 (p1 * (w64 ((w64 ((w64 (2 * p0)) - (w64 (2 * s68)))) - 1))))) rfl (lb rfl) fun a S => ?_
  refine sMove (iv (w64 ((w64 ((w64 (2 * p0)) * x77)) - (w64 (p1 * (w64 ((w64 ((w64 (2 * p0)) - (w64 (2 * s68)))) - 1))))))) S (wN rfl) (.inr rfl) rfl rfl (lb rfl) fun a S => ?_
  refine leafL (leafT (hK76 _ _ ?_))
  obtain ⟨t83, h, g84⟩ := bindSome h
  refine sCut (fun a w => ∃ o82, o82 = t83 ∧ St [] E [] w0 98 a w [(0, iv p0), (1, iv p1), (5, .bool r3), (8, .slice ad25 r22.1.length cp26), (11, iv s68), (96, .bool o82)] [] [fRep (rL (rI .i64)) (.slice ad25 r22.1.length cp26) r22.1]) ?_ (fun a w hI => ?_)
  rotate_left
  · obtain ⟨o82, rfl, S⟩ := hI
    have h := g84
    clear g84
    try dsimp only at h
    rcases iteSome h with ⟨hc86, h⟩ | ⟨hc86, h⟩
    rotate_left
    · refine sCondF S rfl hc86 ?_
      refine wp_skip (leafB (leafT (hK75 _ _ ?_)))
      refine sRegion ?_
      refine sMove (iv s68) S (wN rfl) (.inl rfl) rfl rfl (lb rfl) fun a S => ?_
      refine sBin (iv (w64 (s68 + 1))) S (wN rfl) rfl rfl rfl (bAdd _ _ _ _ s68 1) rfl (lb rfl) fun a S => ?_
      refine sMove (iv (w64 (s68 + 1))) S (wN rfl) (.inr rfl) rfl rfl (lb rfl) fun a S => ?_
      exact leafL (leafT (⟨w64 (s68 + 1), (Option.some.inj h).symm, (S.fix [] [0] (by decide) rfl rfl rfl)⟩))
    refine sCondT S rfl hc86 ?_
    refine sSeq (fun K87 hK87 => ?_)
    refine sRegion ?_
    refine sMove (.bool false) S (wN rfl) (.inr rfl) rfl rfl (lb rfl) fun a S => ?_
    refine leafL (leafT (hK87 _ _ ?_))
    obtain rfl := Option.some.inj h
    obtain rfl := hu69 _ rfl
    have h := g70
    clear g70
    try dsimp only at h
    obtain rfl := Option.some.inj h
    have h := g66
    clear g66
    try dsimp only at h
    obtain rfl := Option.some.inj h
    exact wp_ret (rBlock (rThen (rThen (rBlock (rThen (sRet (.bool false) S (rsl1 rfl (rvT (t := 4) (v := .bool false) S rfl)) ⟨(), rfl, S.mem.sel [] [] (by decide) rfl rfl⟩))))))
  refine sRegion ?_
  refine sMove (iv (w64 ((w64 ((w64 (2 * p0)) * x77)) - (w64 (p1 * (w64 ((w64 ((w64 (2 * p0)) - (w64 (2 * s68)))) - 1))))))) S (wN rfl) (.inl rfl) rfl rfl (lb rfl) fun a S => ?_
  refine sMove (iv p0) S (wN rfl) (.inl rfl) rfl rfl (lb rfl) fun a S => ?_
  refine sBin (.bool (decide (p0 < (w64 ((w64 ((w64 (2 * p0)) * x77)) - (w64 (p1 * (w64 ((w64 ((w64 (2 * p0)) - (w64 (2 * s68)))) - 1))))))))) S (wN rfl) rfl rfl rfl (bGt _ _ _ _ .i64 (w64 ((w64 ((w64 (2 * p0)) * x77)) - (w64 (p1 * (w64 ((w64 ((w64 (2 * p0)) - (w64 (2 * s68)))) - 1)))))) p0) rfl (lb rfl) fun a S => ?_
  refine sMove (.bool (decide (p0 < (w64 ((w64 ((w64 (2 * p0)) * x77)) - (w64 (p1 * (w64 ((w64 ((w64 (2 * p0)) - (w64 (2 * s68)))) - 1))))))))) S (wN rfl) (.inl rfl) rfl rfl (lb rfl) fun a S => ?_
  rcases iteSome h with ⟨hc85, h⟩ | ⟨hc85, h⟩
  · refine sSkip 3 false 91 92 S rfl rfl rfl hc85 rfl (lb rfl) fun a S => ?_
    refine sSkip 3 false 91 93 S rfl rfl rfl hc85 rfl (lb rfl) fun a S => ?_
    refine sSkip 3 false 91 94 S rfl rfl rfl hc85 rfl (lb rfl) fun a S => ?_
    refine sSkip 3 false 91 95 S rfl rfl rfl hc85 rfl (lb rfl) fun a S => ?_
    refine sPickT (.bool true) S (wN rfl) rfl rfl hc85 rfl rfl (lb rfl) fun a S => ?_
    exact leafL (leafT (⟨true, Option.some.inj h, S.fix [] [3] (by decide) rfl rfl rfl⟩))
  refine sMove (iv (w64 ((w64 ((w64 (2 * p0)) * x77)) - (w64 (p1 * (w64 ((w64 ((w64 (2 * p0)) - (w64 (2 * s68)))) - 1))))))) S (wG 3 false 91 rfl rfl rfl hc85) (.inl rfl) rfl rfl (lb rfl) fun a S => ?_
  refine sMove (iv p0) S (wG 3 false 91 rfl rfl rfl hc85) (.inl rfl) rfl rfl (lb rfl) fun a S => ?_
  refine sNeg (b := p0) S (wG 3 false 91 rfl rfl rfl hc85) rfl rfl rfl (lb rfl) fun a S => ?_
  refine sBin (.bool (decide ((w64 ((w64 ((w64 (2 * p0)) * x77)) - (w64 (p1 * (w64 ((w64 ((w64 (2 * p0)) - (w64 (2 * s68)))) - 1)))))) ≤ (w64 (0 - p0))))) S (wG 3 false 91 rfl rfl rfl hc85) rfl rfl rfl (bLe _ _ _ _ .i64 (w64 ((w64 ((w64 (2 * p0)) * x77)) - (w64 (p1 * (w64 ((w64 ((w64 (2 * p0)) - (w64 (2 * s68)))) - 1)))))) (w64 (0 - p0))) rfl (lb rfl) fun a S => ?_
  refine sPickF (.bool (decide ((w64 ((w64 ((w64 (2 * p0)) * x77)) - (w64 (p1 * (w64 ((w64 ((w64 (2 * p0)) - (w64 (2 * s68)))) - 1)))))) ≤ (w64 (0 - p0))))) S (wN rfl) rfl rfl hc85 rfl rfl (lb rfl) fun a S => ?_
  exact leafL (leafT (⟨decide ((w64 ((w64 ((w64 (2 * p0)) * x77)) - (w64 (p1 * (w64 ((w64 ((w64 (2 * p0)) - (w64 (2 * s68)))) - 1)))))) ≤ (w64 (0 - p0))), Option.some.inj h, S.fix [] [3] (by decide) rfl rfl rfl⟩))

end Go.Proofs.YtoiehdlcfehmlaaDoor
namespace Go.Proofs.YtoiehdlcfehmlaaDoor
open Go.RowKit
set_option linter.unusedVariables false

/-- the turn of row i of a rise r -/
def trn (n r : Nat) (i : Nat) : Nat := (n * (2 * (r - i) - 1) + r) / (2 * r)
theorem trn_ge {n r i k : Nat} (hr : 0 < r) : k ≤ trn n r i ↔ k * (2 * r) ≤ n * (2 * (r - i) - 1) + r := by
  unfold trn
  exact Nat.le_div_iff_mul_le (by omega)
theorem trn_bd {n r i : Nat} (hr : i < r) (hn : r ≤ n) : 1 ≤ trn n r i ∧ trn n r i ≤ n := by
  constructor
  · rw [trn_ge (by omega)]
    have : n * 1 ≤ n * (2 * (r - i) - 1) := Nat.mul_le_mul_left n (by omega)
    omega
  · refine Nat.le_of_not_lt fun h => ?_
    have h1 := (trn_ge (by omega)).1 (show n + 1 ≤ trn n r i from h)
    have h2 : n * (2 * (r - i) - 1) ≤ n * (2 * r - 1) := Nat.mul_le_mul_left n (by omega)
    have h3 : n * (2 * r) = n * (2 * r - 1) + n := by
      rw [show 2 * r = (2 * r - 1) + 1 by omega, Nat.mul_add, Nat.mul_one]; simp
    rw [Nat.add_mul] at h1
    omega
theorem trn_lt {n r i : Nat} (hr : i + 1 < r) (hn : r ≤ n) : trn n r (i + 1) < trn n r i := by
  have h1 := (trn_ge (n := n) (r := r) (i := i + 1) (k := trn n r (i + 1)) (by omega)).1 (Nat.le_refl _)
  have : trn n r (i + 1) + 1 ≤ trn n r i := by
    rw [trn_ge (by omega), Nat.add_mul]
    have e : n * (2 * (r - i) - 1) = n * (2 * (r - (i + 1)) - 1) + 2 * n := by
      rw [show 2 * (r - i) - 1 = (2 * (r - (i + 1)) - 1) + 2 by omega, Nat.mul_add, Nat.mul_comm n 2]
    omega
  omega
theorem trn_dec {n r i j : Nat} (hij : i < j) (hj : j < r) (hn : r ≤ n) : trn n r j < trn n r i := by
  induction j with
  | zero => omega
  | succ j ih =>
    have h1 := trn_lt (n := n) (r := r) (i := j) hj hn
    by_cases e : i = j
    · subst e; exact h1
    · have := ih (by omega) (by omega)
      omega
def trns (n r : Nat) : List Int := (List.range r).map fun i => (trn n r i : Int)
theorem turns_eq (n r : Int) : F_short_Turns n r = some (if (1 ≤ n ∧ n ≤ 200) ∧ 0 ≤ r ∧ r ≤ n ∧ r ≤ 50 then (trns n.toNat r.toNat, 0) else ([], 2)) := by
  unfold F_short_Turns
  simp only [within_eq, Option.bind_some]
  by_cases h1 : 1 ≤ n ∧ n ≤ 200
  case neg => simp only [dF h1, Bool.not_false, if_true, Option.bind_some, if_neg (show ¬ ((1 ≤ n ∧ n ≤ 200) ∧ 0 ≤ r ∧ r ≤ n ∧ r ≤ 50) from fun h => h1 h.1)]
  have em : (0 ≤ r ∧ r ≤ (if (50 : Int) < n then 50 else n)) ↔ (0 ≤ r ∧ r ≤ n ∧ r ≤ 50) := by split <;> omega
  simp only [dT h1, Bool.not_true, Bool.false_eq_true, if_false]
  by_cases h2 : 0 ≤ r ∧ r ≤ n ∧ r ≤ 50
  case neg => simp only [dF (fun h => h2 (em.1 h)), Bool.not_false, if_true, Option.bind_some, if_neg (show ¬ ((1 ≤ n ∧ n ≤ 200) ∧ 0 ≤ r ∧ r ≤ n ∧ r ≤ 50) from fun h => h2 h.2)]
  obtain ⟨N, rfl⟩ : ∃ N : Nat, n = N := ⟨n.toNat, by omega⟩
  obtain ⟨R, rfl⟩ : ∃ R : Nat, r = R := ⟨r.toNat, by omega⟩
  have lp : whileO (short_Turns_l1 (R : Int) (N : Int)) (List.replicate R 0, 0) = some (trns N R) := by
    refine loop_set R (fun i => (trn N R i : Int)) 0 ?_ ?_
    · intro k s hk hs
      have hm : N * (2 * (R - k) - 1) ≤ 200 * 100 := Nat.mul_le_mul (by omega) (by omega)
      have e1 : w64 ((R : Int) - (k : Int)) = ((R - k : Nat) : Int) := by rw [w64_of (by omega) (by omega)]; omega
      have e2 : w64 (2 * ((R - k : Nat) : Int)) = ((2 * (R - k) : Nat) : Int) := by rw [w64_of (by omega) (by omega)]; omega
      have e3 : w64 (((2 * (R - k) : Nat) : Int) - 1) = ((2 * (R - k) - 1 : Nat) : Int) := by rw [w64_of (by omega) (by omega)]; omega
      have e4 : w64 ((N : Int) * ((2 * (R - k) - 1 : Nat) : Int)) = ((N * (2 * (R - k) - 1) : Nat) : Int) := by rw [← Int.natCast_mul, w64_of (by omega) (by omega)]
      have e5 : w64 (((N * (2 * (R - k) - 1) : Nat) : Int) + (R : Int)) = ((N * (2 * (R - k) - 1) + R : Nat) : Int) := by rw [w64_of (by omega) (by omega)]; omega
      have e6 : w64 (2 * (R : Int)) = ((2 * R : Nat) : Int) := by rw [w64_of (by omega) (by omega)]; omega
      have hb := trn_bd (n := N) (r := R) (i := k) hk (by omega)
      have e7 : quoI ((N * (2 * (R - k) - 1) + R : Nat) : Int) ((2 * R : Nat) : Int) = some (trn N R k : Int) := by
        unfold quoI
        rw [if_neg (by omega)]
        have : (((N * (2 * (R - k) - 1) + R : Nat) : Int)).tdiv ((2 * R : Nat) : Int) = (trn N R k : Int) := rfl
        rw [this, w64_of (by omega) (by omega)]
      unfold short_Turns_l1
      simp only [dT (show (k : Int) < (R : Int) by omega), if_true, e1, e2, e3, e4, e5, e6, e7, Option.bind_some, idxO_nat (show k < s.length by omega), setO_nat (show k < s.length by omega), w64_succ (show k < 9223372036854775807 by omega)]
    · unfold short_Turns_l1 trns
      simp only [dF (show ¬ (R : Int) < (R : Int) by omega), Bool.false_eq_true, if_false]
  simp only [dT (em.2 h2), Bool.not_true, Bool.false_eq_true, if_false, Option.bind_some, makeO_of (n := (R : Int)) (z := (0 : Int)) (k := R) rfl (by omega), lp, if_pos (And.intro h1 h2), Int.toNat_natCast]
/-- how many turns of a list that falls are greater than k -/
theorem cgt_dec (f : Nat → Nat) (r : Nat) (hd : ∀ i j, i < j → j < r → f j < f i) (k : Nat) : ∃ h, h ≤ r ∧ cgt (k : Int) ((List.range r).map fun i => (f i : Int)) = h ∧ (∀ i, i < h → k < f i) ∧ (h < r → f h ≤ k) := by
  induction r with
  | zero => exact ⟨0, Nat.le_refl _, rfl, fun i hi => absurd hi (Nat.not_lt_zero i), fun h => absurd h (Nat.not_lt_zero _)⟩
  | succ r ih =>
    obtain ⟨h, h1, h2, h3, h4⟩ := ih fun i j hij hj => hd i j hij (by omega)
    rw [List.range_succ, List.map_append, cgt_app, h2]
    by_cases hk : k < f r
    · have e : h = r := by
        refine Nat.le_antisymm h1 (Nat.le_of_not_lt fun hlt => ?_)
        have := h4 hlt
        have := hd h r hlt (by omega)
        omega
      refine ⟨r + 1, Nat.le_refl _, ?_, fun i hi => ?_, fun h => absurd h (Nat.lt_irrefl _)⟩
      · simp only [List.map_cons, List.map_nil, cgt]
        rw [if_pos (by omega)]; omega
      · by_cases e2 : i = r
        · subst e2; exact hk
        · exact h3 i (by omega)
    · refine ⟨h, by omega, ?_, h3, fun hlt => ?_⟩
      · simp only [List.map_cons, List.map_nil, cgt]
        rw [if_neg (by omega)]; omega
      · by_cases e : h = r
        · subst e; omega
        · exact h4 (by omega)
theorem law_ShortNear' (ha : F_raddlelaw38_alive = some true) (n r : Int) : F_raddlelaw38_ShortNear n r = some true := by
  unfold F_raddlelaw38_ShortNear
  simp only [ha, Option.bind_some, Bool.not_true, turns_eq]
  by_cases h : (1 ≤ n ∧ n ≤ 200) ∧ 0 ≤ r ∧ r ≤ n ∧ r ≤ 50
  case neg => simp only [if_neg h, nT (show ¬ (2 : Int) = 0 by omega), if_true, Option.bind_some, beq_self_eq_true]
  obtain ⟨N, rfl⟩ : ∃ N : Nat, n = N := ⟨n.toNat, by omega⟩
  obtain ⟨R, rfl⟩ : ∃ R : Nat, r = R := ⟨r.toNat, by omega⟩
  have hRN : R ≤ N := by omega
  have tl : (trns N R).length = R := by simp [trns]
  have tg : ∀ i (hi : i < (trns N R).length), (trns N R)[i] = (trn N R i : Int) := fun i hi => by simp [trns]
  have tc : tchk (N : Int) (trns N R) = 0 := by
    unfold tchk
    rw [if_pos h.1, tl, if_neg (by omega), if_pos]
    intro p hp
    unfold trns at hp
    obtain ⟨i, hi, rfl⟩ := List.mem_map.1 hp
    have := trn_bd (n := N) (r := R) (i := i) (List.mem_range.1 hi) hRN
    omega
  have l1 : whileO (raddlelaw38_ShortNear_l1 (trns N R, 0)) 1 = some (.inr ()) := by
    have key : ∀ m k : Nat, 1 ≤ k → k + m = R + 1 → whileO (raddlelaw38_ShortNear_l1 (trns N R, 0)) (k : Int) = some (.inr ()) := by
      intro m
      induction m with
      | zero =>
        intro k h1 h2
        refine whileO_done ?_
        unfold raddlelaw38_ShortNear_l1
        simp only [dF (show ¬ (k : Int) < ((trns N R).length : Int) by omega), Bool.false_eq_true, if_false]
      | succ m ih =>
        intro k h1 h2
        by_cases hk : k < R
        · have k1 : k < (trns N R).length := by omega
          have k2 : k - 1 < (trns N R).length := by omega
          have e1 : w64 ((k : Int) - 1) = ((k - 1 : Nat) : Int) := by rw [w64_of (by omega) (by omega)]; omega
          have hd := trn_dec (n := N) (r := R) (i := k - 1) (j := k) (by omega) hk hRN
          have e : raddlelaw38_ShortNear_l1 (trns N R, 0) (k : Int) = some (.inl ((k + 1 : Nat) : Int)) := by
            unfold raddlelaw38_ShortNear_l1
            simp only [dT (show (k : Int) < ((trns N R).length : Int) by omega), if_true, idxO_nat k1, Option.bind_some, e1, idxO_nat k2, tg, dF (show ¬ (trn N R (k - 1) : Int) ≤ (trn N R k : Int) by omega), Bool.false_eq_true, if_false, w64_succ (show k < 9223372036854775807 by omega)]
          rw [whileO_step e]
          exact ih (k + 1) (by omega) (by omega)
        · refine whileO_done ?_
          unfold raddlelaw38_ShortNear_l1
          simp only [dF (show ¬ (k : Int) < ((trns N R).length : Int) by omega), Bool.false_eq_true, if_false]
    exact key R 1 (by omega) (by omega)
  have l2 : whileO (raddlelaw38_ShortNear_l2 (N : Int) (hts (N : Int) (trns N R), 0) (R : Int)) 0 = some (.inr ()) := by
    have key : ∃ t, whileO (raddlelaw38_ShortNear_l2 (N : Int) (hts (N : Int) (trns N R), 0) (R : Int)) 0 = some t ∧ t = .inr () := by
      refine loop_ix N (fun _ => True) _ trivial ?_ ?_
      · intro k hk _
        refine .inl ⟨?_, trivial⟩
        have k1 : k < (hts (N : Int) (trns N R)).length := by rw [hts_len]; omega
        obtain ⟨hh, h1, h2, h3, h4⟩ := cgt_dec (trn N R) R (fun i j hij hj => trn_dec hij hj hRN) k
        have hc : (cgt (k : Int) (trns N R) : Int) = (hh : Int) := by unfold trns; rw [h2]
        have m1 : N * hh ≤ 200 * 50 := Nat.mul_le_mul (by omega) (by omega)
        have m2 : R * (2 * N - 2 * k - 1) ≤ 50 * 400 := Nat.mul_le_mul (by omega) (by omega)
        have e1 : w64 (2 * (N : Int)) = ((2 * N : Nat) : Int) := by rw [w64_of (by omega) (by omega)]; omega
        have e2 : w64 (((2 * N : Nat) : Int) * (hh : Int)) = ((2 * (N * hh) : Nat) : Int) := by rw [← Int.natCast_mul, Nat.mul_assoc, w64_of (by omega) (by omega)]
        have e3 : w64 (2 * (k : Int)) = ((2 * k : Nat) : Int) := by rw [w64_of (by omega) (by omega)]; omega
        have e4 : w64 (((2 * N : Nat) : Int) - ((2 * k : Nat) : Int)) = ((2 * N - 2 * k : Nat) : Int) := by rw [w64_of (by omega) (by omega)]; omega
        have e5 : w64 (((2 * N - 2 * k : Nat) : Int) - 1) = ((2 * N - 2 * k - 1 : Nat) : Int) := by rw [w64_of (by omega) (by omega)]; omega
        have e6 : w64 ((R : Int) * ((2 * N - 2 * k - 1 : Nat) : Int)) = ((R * (2 * N - 2 * k - 1) : Nat) : Int) := by rw [← Int.natCast_mul, w64_of (by omega) (by omega)]
        have e7 : w64 (((2 * (N * hh) : Nat) : Int) - ((R * (2 * N - 2 * k - 1) : Nat) : Int)) = ((2 * (N * hh) : Nat) : Int) - ((R * (2 * N - 2 * k - 1) : Nat) : Int) := w64_of (by omega) (by omega)
        have e8 : w64 (0 - (N : Int)) = -(N : Int) := by rw [w64_of (by omega) (by omega)]; omega
        -- R (2 N - 2 k - 1) + 2 R k + R = 2 R N
        have x1 : R * (2 * N - 2 * k - 1) + (2 * (R * k) + R) = 2 * (N * R) := by
          have : R * (2 * N - 2 * k - 1) + R * (2 * k + 1) = R * (2 * N) := by rw [← Nat.mul_add]; congr 1; omega
          rw [Nat.mul_add, Nat.mul_one] at this
          have a1 : R * (2 * k) = 2 * (R * k) := Nat.mul_left_comm _ _ _
          have a2 : R * (2 * N) = 2 * (N * R) := by rw [Nat.mul_left_comm, Nat.mul_comm R N]
          omega
        have up : 2 * (N * hh) ≤ R * (2 * N - 2 * k - 1) + N := by
          by_cases z : hh = 0
          · subst z; simp
          · have g := (trn_ge (n := N) (r := R) (i := hh - 1) (k := k + 1) (by omega)).1 (h3 (hh - 1) (by omega))
            have b1 : N * (2 * (R - (hh - 1)) - 1) + 2 * (N * hh) = 2 * (N * R) + N := by
              have : N * (2 * (R - (hh - 1)) - 1) + N * (2 * hh) = N * (2 * R + 1) := by rw [← Nat.mul_add]; congr 1; omega
              have a1 : N * (2 * hh) = 2 * (N * hh) := Nat.mul_left_comm _ _ _
              have a2 : N * (2 * R + 1) = 2 * (N * R) + N := by rw [Nat.mul_add, Nat.mul_one, Nat.mul_left_comm]
              omega
            have b2 : (k + 1) * (2 * R) = 2 * (R * k) + 2 * R := by rw [Nat.add_mul, Nat.one_mul, Nat.mul_left_comm, Nat.mul_comm k R]
            omega
        have lo : R * (2 * N - 2 * k - 1) < 2 * (N * hh) + N := by
          by_cases z : hh < R
          · have g : ¬ (k + 1 ≤ trn N R hh) := by have := h4 z; omega
            rw [trn_ge (by omega)] at g
            have b1 : N * (2 * (R - hh) - 1) + 2 * (N * hh) + N = 2 * (N * R) := by
              have : N * (2 * (R - hh) - 1) + N * (2 * hh + 1) = N * (2 * R) := by rw [← Nat.mul_add]; congr 1; omega
              have a1 : N * (2 * hh + 1) = 2 * (N * hh) + N := by rw [Nat.mul_add, Nat.mul_one, Nat.mul_left_comm]
              have a2 : N * (2 * R) = 2 * (N * R) := Nat.mul_left_comm _ _ _
              omega
            have b2 : (k + 1) * (2 * R) = 2 * (R * k) + 2 * R := by rw [Nat.add_mul, Nat.one_mul, Nat.mul_left_comm, Nat.mul_comm k R]
            omega
          · have e : hh = R := by omega
            subst e
            omega
        unfold raddlelaw38_ShortNear_l2
        simp only [dT (show (k : Int) < (N : Int) by omega), if_true, idxO_nat k1, hts_get, hc, Option.bind_some, e1, e2, e3, e4, e5, e6, e7, e8, dF (show ¬ (N : Int) < ((2 * (N * hh) : Nat) : Int) - ((R * (2 * N - 2 * k - 1) : Nat) : Int) by omega), dF (show ¬ ((2 * (N * hh) : Nat) : Int) - ((R * (2 * N - 2 * k - 1) : Nat) : Int) ≤ -(N : Int) by omega), Bool.false_eq_true, if_false, w64_succ (show k < 9223372036854775807 by omega)]
      · intro _
        refine ⟨_, ?_, rfl⟩
        unfold raddlelaw38_ShortNear_l2
        simp only [dF (show ¬ (N : Int) < (N : Int) by omega), Bool.false_eq_true, if_false]
    obtain ⟨t, h1, rfl⟩ := key
    exact h1
  simp only [if_pos h, Int.toNat_natCast, bne_self_eq_false, Bool.false_eq_true, if_false, Option.bind_some, heights_eq, if_pos tc, hts_len, tl, l1, l2]

end Go.Proofs.YtoiehdlcfehmlaaDoor
namespace Go.Proofs.YtoiehdlcfehmlaaDoor
open Go.RowKit
set_option linter.unusedVariables false

theorem law_ShortNear (n r : Int) (wn : InK .i64 n) (wr : InK .i64 r) : F_raddlelaw38_ShortNear n r = some true := law_ShortNear' k_raddlelaw38_alive n r

end Go.Proofs.YtoiehdlcfehmlaaDoor
namespace Go.Proofs.YtoiehdlcfehmlaaDoor
open Go.RowKit
set_option linter.unusedVariables false

namespace frameShortNear
open Go.ChangeShapes Go.WideShapes Go.ChangeAt Go.Joins
theorem own : ownKnob Tryd.prog.godebug = none := by kernel_rfl
theorem laidOut : laidOutB Tryd.prog = true := by kernel_rfl
set_option maxRecDepth 100000 in
theorem door_met (os : Os) (args : Array Value) : laidMetH Tryd.prog Rows.shortNearRow.laid ((World.doorLaid Tryd.prog 400 os).forCall (fun _ _ => 0) ⟨#[], args, []⟩).memory :=
  laidMetH_of_parts3 (fuel := 8) (laidMet_of_run' 8 (by kernel_rfl) (by kernel_rfl)) (by kernel_rfl) (by kernel_rfl)
set_option maxRecDepth 100000 in
theorem lifted (os : Os) (started : os.Started) (H : Type) (enc : TypeId × Value → H) :
    ReturnsInHanded {} Tryd.checked os 4 .any (fun w args => (Rows.shortNearSpec.pre enc Tryd.prog Tryd.f4 Rows.shortNearRow.domain false w args ∧ laidMetH Tryd.prog Rows.shortNearRow.laid w) ∧ sizedMet enc Tryd.prog Tryd.f4 (OpenSpec.ofChange Rows.shortNearSpec) false w args) (Rows.shortNearSpec.post enc Tryd.prog Tryd.f4 false true false false) := by
  refine returnsInHanded_of_change_and (C := Tryd.checked) (X := fun w _ => laidMetH Tryd.prog Rows.shortNearRow.laid w) (fun _ _ _ hh h => h.of_heap hh) own started (by kernel_rfl) Tryd.func4
    (ChangeSpec.witness_shaped (enc := enc) (C := Tryd.checked) (os := os) (X := fun w _ => laidMetH Tryd.prog Rows.shortNearRow.laid w) false (World.doorLaid Tryd.prog 400 os) #[.int .i64 0, .int .i64 0] 8 rfl (World.shaped_of_RefB (by kernel_rfl) (by kernel_rfl)) (by kernel_rfl) (by kernel_rfl) (by kernel_rfl) (door_met os _)) ?_
  intro W base args ds gs before hval0 hW _ _ _ _
  have hval : ∀ (j : Nat) t v, Tryd.f4.params[j]? = some t → args[j]? = some v → Value.okWide Tryd.prog W .any base t v := hval0
  have hW' := hW
  obtain ⟨p, q, hA0, hV, rfl, hfz, hnd⟩ := hW
  have hA : DataW.TrodAll enc Tryd.prog W 0 (fun _ => true) true Tryd.f4.params.toList args.toList ds p := hA0
  rw [Tryd.params4] at hA hval
  obtain ⟨v0, vs0, d0, ds0, p0, q0, hargs, rfl, rfl, h0, r0⟩ := trodAll_cons hA
  obtain ⟨v1, vs1, d1, ds1, p1, q1, rfl, rfl, rfl, h1, r1⟩ := trodAll_cons r0
  obtain ⟨rfl, rfl, rfl⟩ := trodAll_nil r1
  obtain rfl : args = #[v0, v1] := by cases args; simp_all
  obtain ⟨rfl, rfl⟩ := trodVars_none hV
  have k0 := h0
  have lt0 : ∀ x ∈ p0, x.block < W.heap.size := by obtain ⟨m, hm⟩ := k0; exact DataW.trod_lt m _ _ _ hm
  have k1 := h1
  have lt1 : ∀ x ∈ p1, x.block < W.heap.size := by obtain ⟨m, hm⟩ := k1; exact DataW.trod_lt m _ _ _ hm
  obtain ⟨x0, rfl, rfl, rfl, wf0⟩ := open_int Tryd.underlying3 (hval 0 _ v0 rfl rfl) h0
  obtain ⟨x1, rfl, rfl, rfl, wf1⟩ := open_int Tryd.underlying3 (hval 1 _ v1 rfl rfl) h1
  clear hA0 hval0
  refine (c_raddlelaw38_ShortNear (fun _ => False) W x0 x1 true (law_ShortNear x0 x1 wf0 wf1) (St0.start (by intro d hd; cases hd))).mono fun e W' hr => ?_
  obtain ⟨_, he, hS⟩ := hr
  have bel := hS.chg.below
  subst he
  exact ⟨_, rfl, _, _, _, [], _, [], hW', trodAll_mk1 (shut_bool Tryd.underlying4 _), (trodAll_cons_mk (Below.trod laidOut (by kernel_rfl) (of_decide_eq_true (by kernel_rfl)) k0 bel lt0) (trodAll_cons_mk (Below.trod laidOut (by kernel_rfl) (of_decide_eq_true (by kernel_rfl)) k1 bel lt1) trodAll_mk0)), rfl, bel.frame _, fun h => by cases h⟩
theorem over : Rows.shortNearRow.holds Tryd.pinned (OpenSpec.ofChange Rows.shortNearSpec) :=
  OpenClaim.holds_of_wide 4 Tryd.f4 rfl rfl rfl rfl rfl rfl rfl ⟨rfl, rfl, rfl, rfl, rfl⟩ rfl rfl rfl rfl rfl (by kernel_rfl) Tryd.func4 (by kernel_rfl)
    (of_decide_eq_true (by kernel_rfl)) (by unfold Func.isWrapper; first | (rw [if_pos (by decide +kernel)]; kernel_rfl) | (rw [if_neg (by decide +kernel)]; exact ⟨rfl, rfl⟩))
    (fun os started H enc _ => lifted os started H enc)
theorem card : Rows.ShortNearCardSaid :=
  Claim7.holds_tied_plain_at .later [] [.data, .data, .data] true (true, "dd224f09b7bd2d708e49c9d1e39fbd7694ddda389d105d38d20db584f451cd0f") false
    over (fun _ h => by cases h) (by kernel_rfl) (fun _ h => by cases h) shortNear_row_tie rfl ⟨rfl, rfl⟩ (by kernel_rfl) rfl
    (fun f fn hf hfn => by
      obtain rfl : f = 4 := Option.some.inj ((show Tryd.prog.funcNamed "raddle/raddlelaw38.ShortNear" = some 4 by kernel_rfl).symm.trans hf) |>.symm
      obtain rfl : fn = Tryd.f4 := (Option.some.inj (Tryd.func4.symm.trans hfn)).symm
      exact ⟨by kernel_rfl, fun j t ht => by
        rw [Tryd.params4] at ht
        have hm : t ∈ [3, 3] := by simpa using Array.mem_of_getElem? ht
        have hall : ([3, 3].all fun u => !Tryd.prog.wantsStandIn u) = true := by kernel_rfl
        exact (show Tryd.prog.wantsStandIn t = false by simpa using List.all_eq_true.1 hall t hm)⟩)
    (by kernel_rfl)
end frameShortNear
theorem shortNear_holds : Rows.ShortNearCardSaid := frameShortNear.card

end Go.Proofs.YtoiehdlcfehmlaaDoor
