/- Several texts in one: PlV PlH PlG G5 LFT LFTv FrShortFits -/
import Derived.WalkKit
import Derived.Maps.AppendAt
import Derived.Deep.AppendLies
import Derived.KernelRfl
import Derived.Laws.OwnMore
import Derived.Great.BuildSlice
import Derived.Orders
import Derived.Laws.StructEq
import Derived.ChangeKeysEq
import Derived.Defers
import Derived.Laws.BytesString
import Derived.RangeFuncNested
import Derived.RangeFuncBound
import Derived.RangeFuncCalls
import Derived.RangeFuncLeaves
import Derived.OrdersIn
import Derived.LoopNIn
import Derived.Test.YtoiehdlcfehmlaaDoorProg
import Derived.ProofKit
import Derived.OpenShut
import Derived.ChangeOld
import Derived.Deep.Slices
import Derived.Lib.SmallJoins
import Derived.JoinedOf
import Derived.JoinedAt
import Derived.Below
import Derived.Shelf.Strings.Builder1
import Derived.Shelf.Strings.Builder2
import Derived.Shelf.Strings.OnBuilder
import Derived.Test.YtoiehdlcfehmlaaDoorRows
import Derived.LaidMore
import Derived.SevenTiedAt
import Derived.Test.YtoiehdlcfehmlaaDoorCards
import Derived.Test.YtoiehdlcfehmlaaDoorTie
import Derived.Test.YtoiehdlcfehmlaaDoorMShortFits4
namespace Go.Proofs.YtoiehdlcfehmlaaDoor
open Go.RowKit
set_option linter.unusedVariables false

/-- a loop that compares two lists -/
theorem loop_eq {α τ : Type} {B : Int → Option (Int ⊕ τ)} (a b : List α) (hl : a.length = b.length) (good bad : τ)
    (h : ∀ k (hk : k < a.length), ∃ t : Bool, (t = true ↔ a[k] = b[k]'(by omega)) ∧ B (k : Int) = some (if t = true then .inl ((k + 1 : Nat) : Int) else .inr bad)) (hn : B (a.length : Int) = some (.inr good)) :
    ∃ t : Bool, (t = true ↔ a = b) ∧ whileO B 0 = some (if t = true then good else bad) := by
  have key : ∃ u, whileO B 0 = some u ∧ ∃ t : Bool, (t = true ↔ a = b) ∧ u = (if t = true then good else bad) := by
    refine loop_ix a.length (fun k => ∀ j, j < k → a[j]? = b[j]?) _ (fun j hj => absurd hj (Nat.not_lt_zero j)) ?_ ?_
    · intro k hk hI
      obtain ⟨t, h1, h2⟩ := h k hk
      cases t with
      | true =>
        refine .inl ⟨by rw [h2, if_pos rfl], fun j hj => ?_⟩
        by_cases e : j = k
        · subst e
          rw [List.getElem?_eq_getElem hk, List.getElem?_eq_getElem (by omega), h1.1 rfl]
        · exact hI j (by omega)
      | false =>
        refine .inr ⟨bad, by rw [h2]; rfl, false, ⟨fun h => (by cases h), fun h => ?_⟩, rfl⟩
        subst h
        exact absurd (h1.2 rfl) (by simp)
    · intro hI
      refine ⟨good, hn, true, ⟨fun _ => ?_, fun _ => rfl⟩, rfl⟩
      apply List.ext_getElem?
      intro j
      by_cases hj : j < a.length
      · exact hI j hj
      · rw [List.getElem?_eq_none (by omega), List.getElem?_eq_none (by omega)]
  obtain ⟨u, h1, t, h2, rfl⟩ := key
  exact ⟨t, h2, h1⟩
theorem eqS_iff (x y : api_Stitch) : ((x.Kind == y.Kind) && ((x.Purl == y.Purl) && ((x.A == y.A) && ((x.B == y.B) && true)))) = true ↔ x = y := by
  cases x; cases y; simp
theorem same_eq (a b : List api_Stitch) (hl : a.length ≤ 9223372036854775807) : ∃ t : Bool, (t = true ↔ a = b) ∧ F_stitch_Same a b = some t := by
  unfold F_stitch_Same F_slices_Equal___api_Stitch_api_Stitch_
  by_cases h : a.length = b.length
  case neg =>
    exact ⟨false, ⟨fun h => (by cases h), fun e => absurd (congrArg List.length e) h⟩, by simp only [nT (show ¬ (a.length : Int) = (b.length : Int) by omega), if_true, Option.bind_some]⟩
  simp only [nF (show (a.length : Int) = (b.length : Int) by omega), Bool.false_eq_true, if_false]
  have key : ∃ t : Bool, (t = true ↔ a = b) ∧ whileO (slices_Equal___api_Stitch_api_Stitch__l1 a b) 0 = some (if t = true then .inr () else .inl false) := by
    refine loop_eq a b h _ _ (fun k hk => ?_) ?_
    · refine ⟨_, eqS_iff a[k] (b[k]'(by omega)), ?_⟩
      unfold slices_Equal___api_Stitch_api_Stitch__l1
      simp only [dT (show (k : Int) < (a.length : Int) by omega), if_true, idxO_nat hk, idxO_nat (show k < b.length by omega), Option.bind_some, w64_succ (show k < 9223372036854775807 by omega)]
      cases ((a[k].Kind == (b[k]'(by omega)).Kind) && ((a[k].Purl == (b[k]'(by omega)).Purl) && ((a[k].A == (b[k]'(by omega)).A) && ((a[k].B == (b[k]'(by omega)).B) && true)))) <;> rfl
    · unfold slices_Equal___api_Stitch_api_Stitch__l1
      simp only [dF (show ¬ (a.length : Int) < (a.length : Int) by omega), Bool.false_eq_true, if_false]
  obtain ⟨t, t1, t2⟩ := key
  refine ⟨t, t1, ?_⟩
  rw [t2]
  cases t <;> rfl
theorem row_ext {x y : api_Row} : x = y ↔ x.Back = y.Back ∧ x.Cells = y.Cells := by cases x; cases y; simp

end Go.Proofs.YtoiehdlcfehmlaaDoor
namespace Go.Proofs.YtoiehdlcfehmlaaDoor
open Go.RowKit
set_option linter.unusedVariables false

def kS : api_Stitch := ⟨1, false, 0, 0⟩
def sS : api_Stitch := ⟨8, false, 0, 0⟩
def kn (n p : Int) : List api_Stitch := List.replicate p.toNat kS ++ List.replicate (n - p).toNat sS
def tchk (n : Int) (l : List Int) : Int := if 1 ≤ n ∧ n ≤ 200 then (if 50 < l.length then 4 else if (∀ p, p ∈ l → 1 ≤ p ∧ p ≤ n) then 0 else 2) else 2
theorem tchk_ok {n : Int} {l : List Int} (h : tchk n l = 0) : 1 ≤ n ∧ n ≤ 200 ∧ l.length ≤ 50 ∧ ∀ p, p ∈ l → 1 ≤ p ∧ p ≤ n := by
  unfold tchk at h
  by_cases h1 : 1 ≤ n ∧ n ≤ 200
  case neg => rw [if_neg h1] at h; cases h
  rw [if_pos h1] at h
  by_cases h2 : 50 < l.length
  · rw [if_pos h2] at h; cases h
  rw [if_neg h2] at h
  by_cases h3 : ∀ p, p ∈ l → 1 ≤ p ∧ p ≤ n
  case neg => rw [if_neg h3] at h; cases h
  exact ⟨h1.1, h1.2, by omega, h3⟩
theorem within_eq (x a b : Int) : F_short_within x a b = some (decide (a ≤ x ∧ x ≤ b)) := by
  unfold F_short_within
  by_cases h : a ≤ x <;> simp [h]
theorem range_mem {l : List Int} {n : Int} : (List.range l.length).all (fun k => decide (1 ≤ l.getD k 0 ∧ l.getD k 0 ≤ n)) = true ↔ ∀ p, p ∈ l → 1 ≤ p ∧ p ≤ n := by
  rw [List.all_eq_true]
  constructor
  · intro h p hp
    obtain ⟨k, hk, rfl⟩ := List.getElem_of_mem hp
    have := h k (List.mem_range.2 hk)
    rw [getD_of _ hk] at this
    exact of_decide_eq_true this
  · intro h k hk
    have hk := List.mem_range.1 hk
    rw [getD_of _ hk]
    exact decide_eq_true (h _ (List.getElem_mem hk))
theorem tcheck_eq (n : Int) (l : List Int) : F_short_check n l = some (tchk n l) := by
  unfold F_short_check tchk
  rw [within_eq]
  by_cases h1 : 1 ≤ n ∧ n ≤ 200
  case neg => simp only [Option.bind_some, dF h1, Bool.not_false, if_true, if_neg h1]
  simp only [Option.bind_some, dT h1, Bool.not_true, Bool.false_eq_true, if_false, if_pos h1]
  by_cases h2 : 50 < l.length
  · simp only [dT (show (50 : Int) < (l.length : Int) by omega), if_true, if_pos h2]
  simp only [dF (show ¬ (50 : Int) < (l.length : Int) by omega), Bool.false_eq_true, if_false, if_neg h2]
  rw [loop_all (B := short_check_l1 l n) l.length (fun k => decide (1 ≤ l.getD k 0 ∧ l.getD k 0 ≤ n)) (.inr ()) (.inl 2) ?_ ?_]
  · by_cases h3 : ∀ p, p ∈ l → 1 ≤ p ∧ p ≤ n
    · rw [if_pos (range_mem.2 h3), if_pos h3]; rfl
    · rw [if_neg (fun h => h3 (range_mem.1 h)), if_neg h3]; rfl
  · intro k hk
    unfold short_check_l1
    simp only [dT (show (k : Int) < (l.length : Int) by omega), if_true, idxO_nat hk, Option.bind_some, within_eq, getD_of _ hk, w64_succ (show k < 9223372036854775807 by omega)]
    by_cases h : 1 ≤ l[k] ∧ l[k] ≤ n
    · simp only [dT h, Bool.not_true, Bool.false_eq_true, if_false, if_true]
    · simp only [dF h, Bool.not_false, Bool.false_eq_true, if_false, if_true]
  · unfold short_check_l1
    simp only [dF (show ¬ (l.length : Int) < (l.length : Int) by omega), Bool.false_eq_true, if_false]
theorem map_const {α : Type} (n : Nat) (c : α) : (List.range n).map (fun _ => c) = List.replicate n c := by
  rw [List.map_const', List.length_range]
theorem several_eq (kind x : Int) (h0 : 0 ≤ x) (h1 : x ≤ 1000000) : F_short_several kind x = some (List.replicate x.toNat ⟨kind, false, 0, 0⟩) := by
  obtain ⟨n, rfl⟩ : ∃ n : Nat, x = n := ⟨x.toNat, by omega⟩
  have hl : whileO (short_several_l1 (n : Int) kind) ([], 0) = some ((List.range n).map fun _ => (⟨kind, false, 0, 0⟩ : api_Stitch)) := by
    refine loop_map n (fun _ => (⟨kind, false, 0, 0⟩ : api_Stitch)) ?_ ?_
    · rintro k s hk rfl
      unfold short_several_l1
      simp only [dT (show (k : Int) < (n : Int) by omega), if_true, appO_of (show ((List.range k).map fun _ => (⟨kind, false, 0, 0⟩ : api_Stitch)).length + [(api_Stitch.mk kind false 0 0)].length ≤ 68719476736 by simp; omega), Option.bind_some, w64_succ (show k < 9223372036854775807 by omega)]
    · unfold short_several_l1
      simp only [dF (show ¬ (n : Int) < (n : Int) by omega), Bool.false_eq_true, if_false]
  unfold F_short_several
  rw [capO_of (k := n) rfl (by omega), hl, map_const]
  rfl
theorem joined_eq (a b : List api_Stitch) (h : a.length + b.length ≤ 1000000) : F_short_joined [a, b] = some (a ++ b) := by
  have i0 : idxO [a, b] 0 = some a := rfl
  have i1 : idxO [a, b] 1 = some b := rfl
  have w1 : w64 (0 + 1) = 1 := rfl
  have w2 : w64 (1 + 1) = 2 := rfl
  have s0 : short_joined_l1 [a, b] ([], 0) = some (.inl (a, 1)) := by
    unfold short_joined_l1
    simp only [dT (show (0 : Int) < (([a, b] : List (List api_Stitch)).length : Int) by simp), if_true, i0, Option.bind_some, appO_of (show ([] : List api_Stitch).length + a.length ≤ 68719476736 by simp; omega), List.nil_append, w1]
  have s1 : short_joined_l1 [a, b] (a, 1) = some (.inl (a ++ b, 2)) := by
    unfold short_joined_l1
    simp only [dT (show (1 : Int) < (([a, b] : List (List api_Stitch)).length : Int) by simp), if_true, i1, Option.bind_some, appO_of (show a.length + b.length ≤ 68719476736 by omega), w2]
  have s2 : short_joined_l1 [a, b] (a ++ b, 2) = some (.inr (a ++ b)) := by
    unfold short_joined_l1
    simp only [dF (show ¬ (2 : Int) < (([a, b] : List (List api_Stitch)).length : Int) by simp), Bool.false_eq_true, if_false]
  unfold F_short_joined
  rw [whileO_step s0, whileO_step s1, whileO_done s2]
  rfl
theorem sm_rep {α : Type} (f : α → Int) (n : Nat) (x : α) : sm f (List.replicate n x) = f x * (n : Int) := by
  induction n with
  | zero => simp [sm]
  | succ n ih =>
    rw [List.replicate_succ]
    simp only [sm, ih]
    rw [Int.natCast_add, Int.mul_add]
    simp
    omega
theorem kn_len {n p : Int} (h0 : 0 ≤ p) (h1 : p ≤ n) : (kn n p).length = n.toNat := by
  unfold kn; simp; omega
theorem kn_ok {n p : Int} (h0 : 0 ≤ p) (h1 : p ≤ n) (h2 : n ≤ 200) : allS (kn n p) = 0 ∧ sm usedS (kn n p) = n ∧ sm madeS (kn n p) = n := by
  have u : sm usedS (kn n p) = n := by
    unfold kn; rw [sm_append, sm_rep, sm_rep]
    have a1 : usedS kS = 1 := rfl
    have a2 : usedS sS = 1 := rfl
    rw [a1, a2]; omega
  have m : sm madeS (kn n p) = n := by
    unfold kn; rw [sm_append, sm_rep, sm_rep]
    have a1 : madeS kS = 1 := rfl
    have a2 : madeS sS = 1 := rfl
    rw [a1, a2]; omega
  have hl := kn_len h0 h1
  have hok : allOk (kn n p) := by
    intro x hx
    unfold kn at hx
    rw [List.mem_append, List.mem_replicate, List.mem_replicate] at hx
    rcases hx with ⟨_, rfl⟩ | ⟨_, rfl⟩ <;> decide
  refine ⟨?_, u, m⟩
  unfold allS
  rw [if_neg (by omega), if_pos hok, u, m, if_neg (by omega)]
theorem kn_wf {n p : Int} : ∀ x, x ∈ kn n p → wfS x := by
  intro x hx
  unfold kn at hx
  rw [List.mem_append, List.mem_replicate, List.mem_replicate] at hx
  rcases hx with ⟨_, rfl⟩ | ⟨_, rfl⟩ <;> simp [wfS, kS, sS]
def rowsOf (n : Int) : List Int → List api_Row
  | [] => []
  | p :: l => ⟨false, kn n p⟩ :: ⟨true, ((kn n p).map othS).reverse⟩ :: rowsOf n l
theorem rowsOf_len (n : Int) (l : List Int) : (rowsOf n l).length = 2 * l.length := by
  induction l with
  | nil => rfl
  | cons p l ih => simp only [rowsOf, List.length_cons, ih]; omega
theorem rowsOf_app (n : Int) (l k : List Int) : rowsOf n (l ++ k) = rowsOf n l ++ rowsOf n k := by
  induction l with
  | nil => rfl
  | cons p l ih => simp only [rowsOf, List.cons_append, ih]
theorem rowsOf_get (n : Int) (l : List Int) (i : Nat) : (rowsOf n l)[2 * i]? = l[i]?.map fun p => (⟨false, kn n p⟩ : api_Row) := by
  induction l generalizing i with
  | nil => simp [rowsOf]
  | cons p l ih =>
    cases i with
    | zero => rfl
    | succ i =>
      rw [show 2 * (i + 1) = 2 * i + 1 + 1 by omega]
      simp only [rowsOf, List.getElem?_cons_succ]
      exact ih i
def chartOf (n : Int) (l : List Int) : api_Chart × Int := if tchk n l = 0 then (⟨n, rowsOf n l⟩, 0) else (⟨0, []⟩, tchk n l)
theorem rows_step {n : Int} {l : List Int} (hl : l.length ≤ 50) {k : Nat} (hk : k < l.length) : appO (rowsOf n (l.take k)) [⟨false, kn n l[k]⟩, ⟨true, ((kn n l[k]).map othS).reverse⟩] = some (rowsOf n (l.take (k + 1))) := by
  rw [appO_of (by rw [rowsOf_len, List.length_take]; simp; omega), take_one l hk, rowsOf_app]
  rfl
theorem chart_eq (n : Int) (l : List Int) : F_short_Chart n l = some (chartOf n l) := by
  unfold F_short_Chart chartOf
  rw [tcheck_eq]
  by_cases h : tchk n l = 0
  case neg => simp only [Option.bind_some, nT h, if_true, if_neg h]
  obtain ⟨n0, n1, hl, hp⟩ := tchk_ok h
  have key : ∃ t, whileO (short_Chart_l1 l n) (0, []) = some t ∧ t = rowsOf n l := by
    refine loop_at (σ := Unit) l.length (fun k _ => ((k : Int), rowsOf n (l.take k))) (fun _ _ => True) _ (s0 := ()) trivial ?_ ?_
    · intro k _ hk _
      refine .inl ⟨(), ?_, trivial⟩
      have hq := hp _ (List.getElem_mem hk)
      have hko := kn_ok (n := n) (p := l[k]) (by omega) hq.2 n1
      have hkl := kn_len (n := n) (p := l[k]) (by omega) hq.2
      have ew : w64 (n - l[k]) = n - l[k] := w64_of (by omega) (by omega)
      have ej : F_short_joined [List.replicate l[k].toNat (⟨1, false, 0, 0⟩ : api_Stitch), List.replicate (n - l[k]).toNat (⟨8, false, 0, 0⟩ : api_Stitch)] = some (kn n l[k]) := joined_eq _ _ (by simp; omega)
      have et : F_stitch_Turn (kn n l[k]) = some (((kn n l[k]).map othS).reverse, 0) := by rw [turn_eq kn_wf, if_pos hko.1]
      unfold short_Chart_l1
      simp only [dT (show (k : Int) < (l.length : Int) by omega), if_true, idxO_nat hk, Option.bind_some, several_eq 1 l[k] (by omega) (by omega), ew, several_eq 8 (n - l[k]) (by omega) (by omega), ej, et, rows_step hl hk, w64_succ (show k < 9223372036854775807 by omega)]
    · intro _ _
      refine ⟨_, ?_, rfl⟩
      unfold short_Chart_l1
      simp only [dF (show ¬ (l.length : Int) < (l.length : Int) by omega), Bool.false_eq_true, if_false, List.take_length]
  obtain ⟨t, h1, rfl⟩ := key
  simp only [Option.bind_some, nF h, Bool.false_eq_true, if_false, h1, if_pos h]
theorem kn_map {n p : Int} (h0 : 0 ≤ p) (h1 : p ≤ n) : (List.range n.toNat).map (fun k : Nat => if (k : Int) < p then kS else sS) = kn n p := by
  apply List.ext_getElem?
  intro j
  unfold kn
  rw [List.getElem?_append]
  simp only [List.length_replicate, List.getElem?_map, List.getElem?_replicate]
  by_cases hj : j < n.toNat
  · rw [List.getElem?_range hj]
    by_cases hp : j < p.toNat
    · simp only [Option.map_some, hp, if_true, if_pos (show (j : Int) < p by omega)]
    · simp only [Option.map_some, hp, if_false, if_neg (show ¬ (j : Int) < p by omega), if_pos (show j - p.toNat < (n - p).toNat by omega)]
  · rw [List.getElem?_eq_none (by simp; omega), if_neg (show ¬ j < p.toNat by omega), if_neg (show ¬ j - p.toNat < (n - p).toNat by omega)]
    rfl
/-- how many stitches are knit: at the start of a row, and in all -/
def lead : List api_Stitch → Nat
  | [] => 0
  | p :: l => if p.Kind = 1 then lead l + 1 else 0
def cntK : List api_Stitch → Nat
  | [] => 0
  | p :: l => if p.Kind = 1 then cntK l + 1 else cntK l
theorem lead_le (l : List api_Stitch) : lead l ≤ l.length := by
  induction l with
  | nil => simp [lead]
  | cons p l ih => simp only [lead]; split <;> simp <;> omega
theorem lead_lt {l : List api_Stitch} {j : Nat} (h : j < lead l) : ∃ hj : j < l.length, l[j].Kind = 1 := by
  induction l generalizing j with
  | nil => simp [lead] at h
  | cons p l ih =>
    simp only [lead] at h
    split at h
    · rename_i hp
      cases j with
      | zero => exact ⟨by simp, hp⟩
      | succ j =>
        obtain ⟨hj, h1⟩ := ih (show j < lead l by omega)
        exact ⟨by simp; omega, by simpa using h1⟩
    · omega
theorem lead_at {l : List api_Stitch} (h : lead l < l.length) : l[lead l].Kind ≠ 1 := by
  have key : ∀ j (hj : j < l.length), j = lead l → l[j].Kind ≠ 1 := by
    clear h
    induction l with
    | nil => intro j hj; simp at hj
    | cons p l ih =>
      intro j hj e
      simp only [lead] at e
      split at e
      · subst e
        simp only [List.getElem_cons_succ]
        exact ih _ (by simpa using hj) rfl
      · subst e
        simpa using ‹¬ p.Kind = 1›
  exact key _ h rfl
theorem lead_kn {n p : Int} : lead (kn n p) = p.toNat := by
  unfold kn
  induction p.toNat with
  | zero =>
    rw [List.replicate_zero, List.nil_append]
    cases (n - p).toNat with
    | zero => rfl
    | succ m => rfl
  | succ m ih => rw [List.replicate_succ, List.cons_append]; simp only [lead, kS, if_true] at ih ⊢; rw [ih]
theorem cntK_kn {n p : Int} : cntK (kn n p) = p.toNat := by
  have z : ∀ m, cntK (List.replicate m sS) = 0 := by
    intro m
    induction m with
    | zero => rfl
    | succ m ih => rw [List.replicate_succ]; show (if sS.Kind = 1 then _ else _) = 0; rw [if_neg (by decide)]; exact ih
  unfold kn
  induction p.toNat with
  | zero => rw [List.replicate_zero, List.nil_append, z]
  | succ m ih => rw [List.replicate_succ, List.cons_append]; simp only [cntK, kS, if_true] at ih ⊢; rw [ih]
theorem cntK_take (l : List api_Stitch) {k : Nat} (hk : k < l.length) : cntK (l.take (k + 1)) = cntK (l.take k) + (if l[k].Kind = 1 then 1 else 0) := by
  have app : ∀ a b : List api_Stitch, cntK (a ++ b) = cntK a + cntK b := by
    intro a b
    induction a with
    | nil => simp [cntK]
    | cons p a ih => simp only [cntK, List.cons_append, ih]; split <;> omega
  rw [take_one l hk, app]
  simp only [cntK]
theorem lead_loop (x : api_Row) (hx : x.Cells.length ≤ 1000000) (i : Nat) : ∀ (m j : Nat) (s : List Int), lead x.Cells = j + m → s[i]? = some (j : Int) → whileO (short_Read_l1 (i : Int) x) s = some (s.set i (lead x.Cells : Int)) := by
  intro m
  have hle := lead_le x.Cells
  induction m with
  | zero =>
    intro j s e hs
    have hi := (List.getElem?_eq_some_iff.1 hs).1
    have hv := (List.getElem?_eq_some_iff.1 hs).2
    have e1 : short_Read_l1 (i : Int) x s = some (.inr s) := by
      unfold short_Read_l1
      simp only [idxO_nat hi, hv, Option.bind_some]
      by_cases hj : j < x.Cells.length
      · have hk : x.Cells[j].Kind ≠ 1 := by
          have := lead_at (l := x.Cells) (by omega)
          simpa [e] using this
        simp only [dT (show (j : Int) < (x.Cells.length : Int) by omega), if_true, idxO_nat hj, Option.bind_some, bF hk, Bool.false_eq_true, if_false]
      · simp only [dF (show ¬ (j : Int) < (x.Cells.length : Int) by omega), Bool.false_eq_true, if_false, Option.bind_some]
    rw [whileO_done e1, show (lead x.Cells : Int) = s[i] by rw [hv]; omega, List.set_getElem_self]
  | succ m ih =>
    intro j s e hs
    have hi := (List.getElem?_eq_some_iff.1 hs).1
    have hv := (List.getElem?_eq_some_iff.1 hs).2
    obtain ⟨hj, hk⟩ := lead_lt (l := x.Cells) (j := j) (by omega)
    have e1 : short_Read_l1 (i : Int) x s = some (.inl (s.set i ((j + 1 : Nat) : Int))) := by
      unfold short_Read_l1
      simp only [idxO_nat hi, hv, Option.bind_some, dT (show (j : Int) < (x.Cells.length : Int) by omega), if_true, idxO_nat hj, bT hk, w64_succ (show j < 9223372036854775807 by omega), setO_nat hi]
    rw [whileO_step e1, ih (j + 1) _ (by omega) (by simp [hi]), List.set_set]
/-- the list of turns that Read looks at -/
def leads (c : api_Chart) : List Int := (List.range (c.Rows.length / 2)).map fun i => (lead (c.Rows.getD (2 * i) ⟨false, []⟩).Cells : Int)
def cnts (c : api_Chart) : List Int := (List.range ((c.Rows.length + 1) / 2)).map fun i => (cntK (c.Rows.getD (2 * i) ⟨false, []⟩).Cells : Int)
theorem leads_loop (c : api_Chart) (hl : c.Rows.length ≤ 1000000) (hc : ∀ r, r ∈ c.Rows → r.Cells.length ≤ 1000000) : whileO (short_Read_l2 (List.replicate (c.Rows.length / 2) 0) c) (List.replicate (c.Rows.length / 2) 0, 0) = some (leads c) := by
  unfold leads
  generalize hn : c.Rows.length / 2 = n
  have key : ∃ t, whileO (short_Read_l2 (List.replicate n 0) c) (List.replicate n 0, 0) = some t ∧ t = (List.range n).map fun i => (lead (c.Rows.getD (2 * i) ⟨false, []⟩).Cells : Int) := by
    refine loop_st n (fun k s => s = ((List.range k).map fun i => (lead (c.Rows.getD (2 * i) ⟨false, []⟩).Cells : Int)) ++ List.replicate (n - k) 0) _ (by simp) ?_ ?_
    · rintro k s hk rfl
      refine .inl ⟨_, ?_, rfl⟩
      have h2 : 2 * k < c.Rows.length := by omega
      have e2 : w64 (2 * (k : Int)) = ((2 * k : Nat) : Int) := by rw [w64_of (by omega) (by omega)]; omega
      have er : List.replicate (n - k) (0 : Int) = 0 :: List.replicate (n - (k + 1)) 0 := by rw [show n - k = (n - (k + 1)) + 1 by omega, List.replicate_succ]
      have hlp := lead_loop c.Rows[2 * k] (hc _ (List.getElem_mem h2)) k (lead c.Rows[2 * k].Cells) 0 (((List.range k).map fun i => (lead (c.Rows.getD (2 * i) ⟨false, []⟩).Cells : Int)) ++ List.replicate (n - k) 0) (by omega) (by rw [er, List.getElem?_append_right (by simp)]; simp)
      unfold short_Read_l2
      simp only [List.length_replicate, dT (show (k : Int) < (n : Int) by omega), if_true, e2, idxO_nat h2, Option.bind_some, hlp, w64_succ (show k < 9223372036854775807 by omega)]
      congr 4
      rw [er, List.set_append_right _ _ (by simp), List.range_succ, List.map_append, List.map_singleton, getD_of _ h2, List.length_map, List.length_range, Nat.sub_self, List.set_cons_zero, List.append_assoc]
      rfl
    · rintro s rfl
      refine ⟨_, ?_, rfl⟩
      unfold short_Read_l2
      simp only [List.length_replicate, dF (show ¬ (n : Int) < (n : Int) by omega), Bool.false_eq_true, if_false, Nat.sub_self, List.replicate_zero, List.append_nil]
  obtain ⟨t, h1, rfl⟩ := key
  exact h1
/-- what Read finds, if it finds any -/
theorem leads_of {c : api_Chart} {V : List Int} (hv : tchk c.Start V = 0) (h : c.Rows = rowsOf c.Start V) : leads c = V ∧ cnts c = V := by
  have hl : c.Rows.length = 2 * V.length := by rw [h, rowsOf_len]
  obtain ⟨_, _, _, hp⟩ := tchk_ok hv
  have get : ∀ i (hi : i < V.length), c.Rows.getD (2 * i) ⟨false, []⟩ = ⟨false, kn c.Start V[i]⟩ := by
    intro i hi
    have e : c.Rows[2 * i]? = some ⟨false, kn c.Start V[i]⟩ := by
      have := rowsOf_get c.Start V i
      rw [← h, List.getElem?_eq_getElem hi] at this
      exact this
    rw [List.getD_eq_getElem?_getD, e]; rfl
  constructor
  · unfold leads
    rw [hl, show 2 * V.length / 2 = V.length by omega]
    apply List.ext_getElem (by simp)
    intro i h1 h2
    simp only [List.getElem_map, List.getElem_range, get i h2, lead_kn]
    have := hp _ (List.getElem_mem h2)
    omega
  · unfold cnts
    rw [hl, show (2 * V.length + 1) / 2 = V.length by omega]
    apply List.ext_getElem (by simp)
    intro i h1 h2
    simp only [List.getElem_map, List.getElem_range, get i h2, cntK_kn]
    have := hp _ (List.getElem_mem h2)
    omega
open Classical in
noncomputable def readOf (c : api_Chart) : Int × List Int × Int := if tchk c.Start (leads c) = 0 ∧ c.Rows = rowsOf c.Start (leads c) then (c.Start, leads c, 0) else (0, [], 8)
theorem read_eq (c : api_Chart) (hl : c.Rows.length ≤ 1000000) (hc : ∀ r, r ∈ c.Rows → r.Cells.length ≤ 1000000) : F_short_Read c = some (readOf c) := by
  have hr : remI (c.Rows.length : Int) 2 = some ((c.Rows.length % 2 : Nat) : Int) := by
    unfold remI; rw [if_neg (by omega)]; rfl
  have hq : quoI (c.Rows.length : Int) 2 = some ((c.Rows.length / 2 : Nat) : Int) := by
    unfold quoI; rw [if_neg (by omega)]
    have : ((c.Rows.length : Int)).tdiv 2 = ((c.Rows.length / 2 : Nat) : Int) := rfl
    rw [this, w64_of (by omega) (by omega)]
  unfold F_short_Read readOf
  simp only [hr, hq, Option.bind_some]
  by_cases odd : c.Rows.length % 2 = 1
  · have : ¬ (tchk c.Start (leads c) = 0 ∧ c.Rows = rowsOf c.Start (leads c)) := fun h => by
      have := congrArg List.length h.2
      rw [rowsOf_len] at this
      omega
    simp only [bT (show ((c.Rows.length % 2 : Nat) : Int) = 1 by omega), if_true, if_neg this]
  simp only [bF (show ¬ ((c.Rows.length % 2 : Nat) : Int) = 1 by omega), Bool.false_eq_true, if_false, makeO_of (k := c.Rows.length / 2) (z := (0 : Int)) rfl (by omega), Option.bind_some, leads_loop c hl hc, chart_eq]
  unfold chartOf
  by_cases ht : tchk c.Start (leads c) = 0
  case neg => simp only [if_neg ht, nT ht, if_true, ht, false_and, if_false]
  simp only [ht, if_true, bne_self_eq_false, Bool.false_eq_true, if_false, true_and]
  have hlen : c.Rows.length = (rowsOf c.Start (leads c)).length := by
    rw [rowsOf_len]; unfold leads; simp; omega
  have key : ∃ t : Bool, (t = true ↔ c.Rows = (rowsOf c.Start (leads c))) ∧ whileO (short_Read_l3 c (⟨c.Start, rowsOf c.Start (leads c)⟩, 0)) 0 = some (if t = true then .inr () else .inl (0, [], 8)) := by
    refine loop_eq c.Rows (rowsOf c.Start (leads c)) hlen _ _ (fun k hk => ?_) ?_
    · have hk2 : k < (rowsOf c.Start (leads c)).length := by omega
      obtain ⟨t, t1, t2⟩ := same_eq c.Rows[k].Cells ((rowsOf c.Start (leads c))[k]).Cells (by have := hc _ (List.getElem_mem hk); omega)
      by_cases hb : c.Rows[k].Back = ((rowsOf c.Start (leads c))[k]).Back
      · refine ⟨t, t1.trans ⟨fun e => row_ext.2 ⟨hb, e⟩, fun e => (row_ext.1 e).2⟩, ?_⟩
        unfold short_Read_l3
        simp only [dT (show (k : Int) < (c.Rows.length : Int) by omega), if_true, idxO_nat hk, idxO_nat hk2, Option.bind_some, w64_succ (show k < 9223372036854775807 by omega), hb, bne_self_eq_false, Bool.false_eq_true, if_false, t2]
        cases t <;> rfl
      · refine ⟨false, ⟨fun h => (by cases h), fun e => absurd (row_ext.1 e).1 hb⟩, ?_⟩
        unfold short_Read_l3
        simp only [dT (show (k : Int) < (c.Rows.length : Int) by omega), if_true, idxO_nat hk, idxO_nat hk2, Option.bind_some, bne_iff_ne.2 hb, Bool.false_eq_true, if_false]
    · unfold short_Read_l3
      simp only [dF (show ¬ (c.Rows.length : Int) < (c.Rows.length : Int) by omega), Bool.false_eq_true, if_false]
  obtain ⟨t, t1, t2⟩ := key
  rw [t2]
  cases t with
  | true =>
    have hp : tchk c.Start (leads c) = 0 ∧ c.Rows = rowsOf c.Start (leads c) := ⟨ht, t1.1 rfl⟩
    rw [if_pos hp]; rfl
  | false =>
    have hn : ¬ (tchk c.Start (leads c) = 0 ∧ c.Rows = rowsOf c.Start (leads c)) := fun h => by cases t1.2 h.2
    rw [if_neg hn]; rfl

end Go.Proofs.YtoiehdlcfehmlaaDoor
namespace Go.Proofs.YtoiehdlcfehmlaaDoor
open Go.RowKit
set_option linter.unusedVariables false

/-- how many are v, and how many are greater than v -/
def ceq (v : Int) : List Int → Nat
  | [] => 0
  | p :: l => if p = v then ceq v l + 1 else ceq v l
def cgt (v : Int) : List Int → Nat
  | [] => 0
  | p :: l => if v < p then cgt v l + 1 else cgt v l
theorem ceq_app (v : Int) (a b : List Int) : ceq v (a ++ b) = ceq v a + ceq v b := by
  induction a with
  | nil => simp [ceq]
  | cons p a ih => simp only [List.cons_append, ceq, ih]; split <;> omega
theorem cgt_app (v : Int) (a b : List Int) : cgt v (a ++ b) = cgt v a + cgt v b := by
  induction a with
  | nil => simp [cgt]
  | cons p a ih => simp only [List.cons_append, cgt, ih]; split <;> omega
theorem ceq_le (v : Int) (l : List Int) : ceq v l ≤ l.length := by
  induction l with
  | nil => simp [ceq]
  | cons p l ih => simp only [ceq, List.length_cons]; split <;> omega
theorem cgt_le (v : Int) (l : List Int) : cgt v l ≤ l.length := by
  induction l with
  | nil => simp [cgt]
  | cons p l ih => simp only [cgt, List.length_cons]; split <;> omega
theorem cgt_step (v : Int) (l : List Int) : cgt v l = ceq (v + 1) l + cgt (v + 1) l := by
  induction l with
  | nil => rfl
  | cons p l ih =>
    simp only [cgt, ceq, ih]
    by_cases h1 : v < p
    · by_cases h2 : p = v + 1
      · rw [if_pos h1, if_pos h2, if_neg (by omega)]; omega
      · rw [if_pos h1, if_neg h2, if_pos (by omega)]; omega
    · rw [if_neg h1, if_neg (by omega), if_neg (by omega)]
theorem cgt_top {v : Int} {l : List Int} (h : ∀ p, p ∈ l → p ≤ v) : cgt v l = 0 := by
  induction l with
  | nil => rfl
  | cons p l ih =>
    simp only [cgt]
    rw [if_neg (by have := h p (by simp); omega)]
    exact ih fun q hq => h q (by simp [hq])
theorem cgt_all {v : Int} {l : List Int} (h : ∀ p, p ∈ l → v < p) : cgt v l = l.length := by
  induction l with
  | nil => rfl
  | cons p l ih =>
    simp only [cgt, List.length_cons]
    rw [if_pos (h p (by simp)), ih fun q hq => h q (by simp [hq])]
theorem cgt_mono {v u : Int} (h : v ≤ u) (l : List Int) : cgt u l ≤ cgt v l := by
  induction l with
  | nil => simp [cgt]
  | cons p l ih =>
    simp only [cgt]
    split
    · rw [if_pos (by omega)]; omega
    · split <;> omega
def hts (n : Int) (l : List Int) : List Int := (List.range n.toNat).map fun k : Nat => (cgt (k : Int) l : Int)
theorem hts_len (n : Int) (l : List Int) : (hts n l).length = n.toNat := by simp [hts]
theorem hts_get {n : Int} {l : List Int} {k : Nat} (hk : k < (hts n l).length) : (hts n l)[k] = (cgt (k : Int) l : Int) := by
  simp [hts]
theorem map_set {α : Type} (n : Nat) (f g : Nat → α) (k : Nat) (v : α) (h : ∀ j, j < n → g j = if j = k then v else f j) : ((List.range n).map f).set k v = (List.range n).map g := by
  apply List.ext_getElem?
  intro j
  rw [List.getElem?_set]
  simp only [List.length_map, List.length_range, List.getElem?_map]
  by_cases hj : j < n
  · rw [List.getElem?_range hj]
    simp only [Option.map_some]
    rw [h j hj]
    by_cases e : j = k
    · subst e; simp [hj]
    · rw [if_neg (fun x => e x.symm), if_neg e]
  · have e1 : (List.range n)[j]? = none := List.getElem?_eq_none (by simp; omega)
    rw [e1]
    by_cases e : k = j
    · subst e; simp [hj]
    · simp [e]
theorem heights_eq (n : Int) (l : List Int) : F_short_Heights n l = some (if tchk n l = 0 then (hts n l, 0) else ([], tchk n l)) := by
  unfold F_short_Heights
  rw [tcheck_eq]
  by_cases h : tchk n l = 0
  case neg => simp only [Option.bind_some, nT h, if_true, if_neg h]
  obtain ⟨n0, n1, hl, hp⟩ := tchk_ok h
  obtain ⟨m, rfl⟩ : ∃ m : Nat, n = m := ⟨n.toNat, by omega⟩
  have l1 : whileO (short_Heights_l1 l) (List.replicate m 0, 0) = some ((List.range m).map fun j : Nat => (ceq ((j : Int) + 1) l : Int)) := by
    have key : ∃ t, whileO (short_Heights_l1 l) (List.replicate m 0, 0) = some t ∧ t = (List.range m).map fun j : Nat => (ceq ((j : Int) + 1) l : Int) := by
      refine loop_st l.length (fun k s => s = (List.range m).map fun j : Nat => (ceq ((j : Int) + 1) (l.take k) : Int)) _ (by rw [← map_const]; simp [ceq]) ?_ ?_
      · rintro k s hk rfl
        refine .inl ⟨_, ?_, rfl⟩
        have hq := hp _ (List.getElem_mem hk)
        obtain ⟨q, hq2⟩ : ∃ q : Nat, l[k] = (q : Int) + 1 := ⟨(l[k] - 1).toNat, by omega⟩
        have e1 : w64 (l[k] - 1) = (q : Int) := by rw [hq2, w64_of (by omega) (by omega)]; omega
        have hqm : q < ((List.range m).map fun j : Nat => (ceq ((j : Int) + 1) (l.take k) : Int)).length := by simp; omega
        have hc := ceq_le ((q : Int) + 1) (l.take k)
        rw [List.length_take] at hc
        have e2 : ((List.range m).map fun j : Nat => (ceq ((j : Int) + 1) (l.take k) : Int))[q] = (ceq ((q : Int) + 1) (l.take k) : Int) := by simp
        unfold short_Heights_l1
        simp only [dT (show (k : Int) < (l.length : Int) by omega), if_true, idxO_nat hk, Option.bind_some, e1, idxO_nat hqm, e2, w64_succ (show ceq ((q : Int) + 1) (l.take k) < 9223372036854775807 by omega), setO_nat hqm, w64_succ (show k < 9223372036854775807 by omega)]
        congr 3
        refine map_set m _ _ q _ fun j hj => ?_
        rw [take_one l hk, ceq_app]
        simp only [ceq, hq2]
        by_cases e : j = q
        · subst e; rw [if_pos rfl, if_pos rfl]
        · rw [if_neg e, if_neg (by omega)]; simp
      · rintro s rfl
        refine ⟨_, ?_, rfl⟩
        unfold short_Heights_l1
        simp only [dF (show ¬ (l.length : Int) < (l.length : Int) by omega), Bool.false_eq_true, if_false, List.take_length]
    obtain ⟨t, h1, rfl⟩ := key
    exact h1
  have mid : ∀ i : Nat, i + 1 ≤ m → whileO short_Heights_l2 ((List.range m).map (fun j : Nat => if j < i then (ceq ((j : Int) + 1) l : Int) else (cgt (j : Int) l : Int)), (i : Int) - 1) = some (hts (m : Int) l) := by
    intro i
    induction i with
    | zero =>
      intro _
      have e : short_Heights_l2 ((List.range m).map (fun j : Nat => if j < 0 then (ceq ((j : Int) + 1) l : Int) else (cgt (j : Int) l : Int)), ((0 : Nat) : Int) - 1) = some (.inr (hts (m : Int) l)) := by
        unfold short_Heights_l2 hts
        simp only [dF (show ¬ (0 : Int) ≤ ((0 : Nat) : Int) - 1 by omega), Bool.false_eq_true, if_false, Nat.not_lt_zero, Int.toNat_natCast]
      rw [whileO_done e]
    | succ i ih =>
      intro hi
      have e0 : ((i + 1 : Nat) : Int) - 1 = (i : Int) := by omega
      have hlen : i < ((List.range m).map (fun j : Nat => if j < i + 1 then (ceq ((j : Int) + 1) l : Int) else (cgt (j : Int) l : Int))).length := by simp; omega
      have hlen2 : i + 1 < ((List.range m).map (fun j : Nat => if j < i + 1 then (ceq ((j : Int) + 1) l : Int) else (cgt (j : Int) l : Int))).length := by simp; omega
      have v1 : ((List.range m).map (fun j : Nat => if j < i + 1 then (ceq ((j : Int) + 1) l : Int) else (cgt (j : Int) l : Int)))[i] = (ceq ((i : Int) + 1) l : Int) := by simp
      have v2 : ((List.range m).map (fun j : Nat => if j < i + 1 then (ceq ((j : Int) + 1) l : Int) else (cgt (j : Int) l : Int)))[i + 1] = (cgt ((i : Int) + 1) l : Int) := by simp
      have b1 := ceq_le ((i : Int) + 1) l
      have b2 := cgt_le ((i : Int) + 1) l
      have b3 := cgt_step (i : Int) l
      have ew : w64 ((ceq ((i : Int) + 1) l : Int) + (cgt ((i : Int) + 1) l : Int)) = (cgt (i : Int) l : Int) := by rw [w64_of (by omega) (by omega)]; omega
      have es := map_set m (fun j : Nat => if j < i + 1 then (ceq ((j : Int) + 1) l : Int) else (cgt (j : Int) l : Int)) (fun j : Nat => if j < i then (ceq ((j : Int) + 1) l : Int) else (cgt (j : Int) l : Int)) i (cgt (i : Int) l : Int) (fun j hj => by
        by_cases e : j = i
        · subst e; rw [if_neg (by omega), if_pos rfl]
        · rw [if_neg e]
          by_cases h2 : j < i
          · rw [if_pos h2, if_pos (by omega)]
          · rw [if_neg h2, if_neg (by omega)])
      have e : short_Heights_l2 ((List.range m).map (fun j : Nat => if j < i + 1 then (ceq ((j : Int) + 1) l : Int) else (cgt (j : Int) l : Int)), (i : Int)) = some (.inl ((List.range m).map (fun j : Nat => if j < i then (ceq ((j : Int) + 1) l : Int) else (cgt (j : Int) l : Int)), (i : Int) - 1)) := by
        unfold short_Heights_l2
        simp only [dT (show (0 : Int) ≤ (i : Int) by omega), if_true, idxO_nat hlen, v1, Option.bind_some, w64_succ (show i < 9223372036854775807 by omega), idxO_nat hlen2, v2, ew, setO_nat hlen, es, w64_of (show (-9223372036854775808 : Int) ≤ (i : Int) - 1 by omega) (by omega)]
      rw [e0, whileO_step e]
      exact ih (by omega)
  have e2 : w64 ((m : Int) - 2) = ((m - 1 : Nat) : Int) - 1 := by rw [w64_of (by omega) (by omega)]; omega
  have top := cgt_top (v := (m : Int)) (l := l) fun p hq => (hp p hq).2
  have est : ((List.range m).map fun j : Nat => (ceq ((j : Int) + 1) l : Int)) = (List.range m).map (fun j : Nat => if j < m - 1 then (ceq ((j : Int) + 1) l : Int) else (cgt (j : Int) l : Int)) := by
    refine map_cong fun j hj => ?_
    by_cases h2 : j < m - 1
    · rw [if_pos h2]
    · rw [if_neg h2]
      have := cgt_step (j : Int) l
      rw [show (j : Int) + 1 = (m : Int) by omega] at this ⊢
      omega
  simp only [Option.bind_some, nF h, Bool.false_eq_true, if_false, makeO_of (n := (m : Int)) (z := (0 : Int)) (k := m) rfl (by omega), l1, e2, est, mid (m - 1) (by omega), if_pos h]
theorem worked_eq (n : Int) (l : List Int) : F_short_Worked n l = some (if tchk n l = 0 then (sm (fun p => 2 * p) l, 0) else (0, tchk n l)) := by
  unfold F_short_Worked
  rw [tcheck_eq]
  by_cases h : tchk n l = 0
  case neg => simp only [Option.bind_some, nT h, if_true, if_neg h]
  obtain ⟨n0, n1, hl, hp⟩ := tchk_ok h
  have bd : ∀ k, 0 ≤ sm (fun p => 2 * p) (l.take k) ∧ sm (fun p => 2 * p) (l.take k) ≤ 400 * ((l.take k).length : Int) := fun k => sm_bd fun x hx => by have := hp x (List.mem_of_mem_take hx); omega
  have key : ∃ t, whileO (short_Worked_l1 l) (0, 0) = some t ∧ t = sm (fun p => 2 * p) l := by
    refine loop_st l.length (fun k s => s = sm (fun p => 2 * p) (l.take k)) _ rfl ?_ ?_
    · rintro k s hk rfl
      refine .inl ⟨_, ?_, rfl⟩
      have hq := hp _ (List.getElem_mem hk)
      have b := bd k
      rw [List.length_take] at b
      unfold short_Worked_l1
      simp only [dT (show (k : Int) < (l.length : Int) by omega), if_true, idxO_nat hk, Option.bind_some, w64_of (show (-9223372036854775808 : Int) ≤ 2 * l[k] by omega) (by omega), w64_succ (show k < 9223372036854775807 by omega)]
      rw [w64_of (by omega) (by omega), sm_take _ _ hk]
    · rintro s rfl
      refine ⟨_, ?_, rfl⟩
      unfold short_Worked_l1
      simp only [dF (show ¬ (l.length : Int) < (l.length : Int) by omega), Bool.false_eq_true, if_false, List.take_length]
  obtain ⟨t, h1, rfl⟩ := key
  simp only [Option.bind_some, nF h, Bool.false_eq_true, if_false, h1, if_pos h]
/-- lists that are alike -/
theorem ints_same_eq (a b : List Int) (hl : a.length ≤ 1000000) : ∃ t : Bool, (t = true ↔ a = b) ∧ F_raddleref36_Same a b = some t := by
  unfold F_raddleref36_Same
  by_cases h : a.length = b.length
  case neg =>
    exact ⟨false, ⟨fun h => (by cases h), fun e => absurd (congrArg List.length e) h⟩, by simp only [nT (show ¬ (a.length : Int) = (b.length : Int) by omega), if_true]⟩
  simp only [nF (show (a.length : Int) = (b.length : Int) by omega), Bool.false_eq_true, if_false]
  have key : ∃ t : Bool, (t = true ↔ a = b) ∧ whileO (raddleref36_Same_l1 a b) 0 = some (if t = true then .inr () else .inl false) := by
    refine loop_eq a b h _ _ (fun k hk => ?_) ?_
    · by_cases e : a[k] = b[k]'(by omega)
      · refine ⟨true, ⟨fun _ => e, fun _ => rfl⟩, ?_⟩
        unfold raddleref36_Same_l1
        simp only [dT (show (k : Int) < (a.length : Int) by omega), if_true, idxO_nat hk, idxO_nat (show k < b.length by omega), Option.bind_some, nF e, Bool.false_eq_true, if_false, w64_succ (show k < 9223372036854775807 by omega)]
      · refine ⟨false, ⟨fun h => (by cases h), fun h => absurd h e⟩, ?_⟩
        unfold raddleref36_Same_l1
        simp only [dT (show (k : Int) < (a.length : Int) by omega), if_true, idxO_nat hk, idxO_nat (show k < b.length by omega), Option.bind_some, nT e, Bool.false_eq_true, if_false]
    · unfold raddleref36_Same_l1
      simp only [dF (show ¬ (a.length : Int) < (a.length : Int) by omega), Bool.false_eq_true, if_false]
  obtain ⟨t, t1, t2⟩ := key
  refine ⟨t, t1, ?_⟩
  rw [t2]
  cases t <;> rfl
theorem tchk_app (n : Int) (a b : List Int) : tchk n (a ++ b) = tchk n (b ++ a) := by
  unfold tchk
  have e1 : (a ++ b).length = (b ++ a).length := by simp; omega
  have e2 : (∀ p, p ∈ a ++ b → 1 ≤ p ∧ p ≤ n) ↔ (∀ p, p ∈ b ++ a → 1 ≤ p ∧ p ≤ n) := by
    simp only [List.mem_append]
    exact ⟨fun h p hp => h p hp.symm, fun h p hp => h p hp.symm⟩
  rw [e1]
  by_cases h : ∀ p, p ∈ a ++ b → 1 ≤ p ∧ p ≤ n
  · rw [if_pos h, if_pos (e2.1 h)]
  · rw [if_neg h, if_neg (fun x => h (e2.2 x))]
theorem tchk_two {n : Int} {a b : List Int} (ha : tchk n a = 0) : (tchk n (a ++ b) = 0 → tchk n b = 0) ∧ (tchk n (a ++ b) ≠ 0 → tchk n b ≠ 0 ∨ tchk n (a ++ b) = 4) := by
  obtain ⟨n0, n1, hl, hp⟩ := tchk_ok ha
  constructor
  · intro h
    obtain ⟨_, _, hl2, hp2⟩ := tchk_ok h
    unfold tchk
    rw [if_pos ⟨n0, n1⟩, if_neg (by simp at hl2; omega), if_pos fun p hq => hp2 p (by simp [hq])]
  · intro h
    by_cases hb : tchk n b = 0
    · right
      obtain ⟨_, _, hl2, hp2⟩ := tchk_ok hb
      unfold tchk at h ⊢
      rw [if_pos ⟨n0, n1⟩] at h ⊢
      by_cases h5 : 50 < (a ++ b).length
      · rw [if_pos h5]
      · rw [if_neg h5, if_pos (fun p hq => by
          rcases List.mem_append.1 hq with hq | hq
          · exact hp p hq
          · exact hp2 p hq)] at h
        exact absurd rfl h
    · exact .inl hb

end Go.Proofs.YtoiehdlcfehmlaaDoor
namespace Go.Proofs.YtoiehdlcfehmlaaDoor
open Go.RowKit
set_option linter.unusedVariables false

def anc_raddlelaw38_ShortFits_0 : List (List Nat) := [[], [], [0, 1], [0, 1, 2], [], [], [4, 5], [4, 5, 6], [0, 1, 2, 3, 4, 5, 6, 7]]
def anc_raddlelaw38_ShortFits_1 : List (List Nat) := [[], [], [0, 1], [0, 1, 2], [0, 1, 2, 3], [0, 1, 2, 3, 4], [0, 1, 2, 3, 4, 5], [0, 1, 2, 3, 4, 5, 6], [0, 1, 2, 3, 4, 5, 6], [0, 1, 2, 3, 4, 5, 6, 7, 8], [0, 1, 2, 3, 4, 5, 6, 7, 8, 9], [0, 1, 2, 3, 4, 5, 6], [0, 1, 2, 3, 4, 5, 6], [0, 1, 2, 3, 4, 5, 6, 12], [0, 1, 2, 3, 4, 5, 6, 11, 12, 13], [0, 1, 2, 3, 4, 5, 6, 11, 12, 13, 14], [0, 1, 2, 3, 4, 5, 6, 7, 8, 9, 10, 11, 12, 13, 14, 15], [0, 1, 2, 3, 4, 5, 6, 7, 8, 9, 10, 11, 12, 13, 14, 15, 16], [0, 1, 2, 3, 4, 5, 6, 7, 8, 9, 10, 11, 12, 13, 14, 15, 16, 17]]
noncomputable def raddlelaw38_ShortFits_l1 (r52 : ((List Int) × Int)) (s67 : Int) (p2 : (List Int)) : (Int × Int × Int) → Option ((Int × Int × Int) ⊕ (Int × Int)) := fun s0 => match s0 with
  | (s82, s83, s84) =>
    if decide (s84 < (r52.1.length : Int)) then
      Option.bind (α := (Int × Int)) (
        Option.bind (α := Int) (
          Option.bind (idxO r52.1 s84) fun x101 =>
          Option.bind (idxO r52.1 s67) fun x106 =>
          if x101 == x106 then
            some (w64 (s82 + 1))
          else
            some s82) fun o97 =>
        Option.bind (idxO p2 s84) fun x119 =>
        Option.bind (idxO r52.1 s67) fun x124 =>
        if x119 == x124 then
          some (o97, w64 (s83 + 1))
        else
          some (o97, s83)) fun (o93, o94) =>
      some (.inl (o93, o94, w64 (s84 + 1)))
    else
      some (.inr (s82, s83))
noncomputable def raddlelaw38_ShortFits_l2 (r52 : ((List Int) × Int)) (p2 : (List Int)) : Int → Option (Int ⊕ (Bool ⊕ Unit)) := fun s0 => match s0 with
  | s67 =>
    if decide (s67 < (r52.1.length : Int)) then
      Option.bind (α := Unit ⊕ Bool) (
        Option.bind (α := (Int × Int)) (
          Option.bind (whileO (raddlelaw38_ShortFits_l1 r52 s67 p2) (0, 0, 0)) fun (e88, e89) =>
            some (e88, e89)) fun (o77, o78) =>
        Option.bind (α := Bool) (
          if o77 != o78 then
            some true
          else
            if decide (0 < s67) then
              Option.bind (idxO r52.1 s67) fun x141 =>
              Option.bind (idxO r52.1 (w64 (s67 - 1))) fun x146 =>
              some (decide (x146 < x141))
            else
              some false) fun o136 =>
        if o136 then
          some (.inr false)
        else
          some (.inl ())) fun z0 => match z0 with
        | .inl _ =>
          some (.inl (w64 (s67 + 1)))
        | .inr z =>
          some (.inr (.inl z))
    else
      some (.inr (.inr ()))
noncomputable def F_raddlelaw38_ShortFits (p0 : (List Int)) (p1 : Int) (p2 : (List Int)) : Option Bool :=
  Option.bind (F_raddlelaw38_alive) fun r7 =>
  Option.bind (α := Bool) (
    if decide (200 < (p0.length : Int)) then
      some true
    else
      if decide (60 < (p2.length : Int)) then
        some true
      else
        some (!r7)) fun o10 =>
  if o10 then
    some r7
  else
    Option.bind (F_short_Fit p0) fun r18 =>
    Option.bind (α := Unit ⊕ Bool) (
      if r18.2 == 0 then
        Option.bind (F_short_Heights (p0.length : Int) r18.1) fun r28 =>
        Option.bind (α := Bool) (
          if r28.2 != 0 then
            some true
          else
            Option.bind (F_raddleref36_Same r28.1 p0) fun r37 =>
            some (!r37)) fun o33 =>
        if o33 then
          some (.inr false)
        else
          some (.inl ())
      else
        some (.inl ())) fun z0 => match z0 with
      | .inl _ =>
        Option.bind (F_short_Heights p1 p2) fun r42 =>
        if r42.2 != 0 then
          some r7
        else
          Option.bind (F_short_Fit r42.1) fun r52 =>
          Option.bind (α := Bool) (
            if r52.2 != 0 then
              some true
            else
              some ((r52.1.length : Int) != (p2.length : Int))) fun o58 =>
          if o58 then
            some false
          else
            Option.bind (α := Unit ⊕ Bool) (
              Option.bind (whileO (raddlelaw38_ShortFits_l2 r52 p2) 0) fun z0 => match z0 with
                | .inl z =>
                  some (.inr z)
                | .inr _ =>
                  some (.inl ())) fun z0 => match z0 with
              | .inl _ =>
                some r7
              | .inr z =>
                some z
      | .inr z =>
        some z
set_option maxHeartbeats 4000000 in
set_option maxRecDepth 100000 in
theorem c_raddlelaw38_ShortFits (E : Nat → Prop) (w0 : World) (p0 : (List Int)) (v0 : Value) (p1 : Int) (p2 : (List Int)) (v2 : Value) (r : Bool) (h : F_raddlelaw38_ShortFits p0 p1 p2 = some r) (S : St0 E [] w0 w0 [] [fRep (rL (rI .i64)) (v0) p0, fRep (rL (rI .i64)) (v2) p2]) :
    Calls Tryd.prog 5 #[v0, iv p1, v2] w0 (Ret (X := Unit) E [] w0 (fun _ => .bool r) (fun _ => []) (fun _ => [])) := by
  unfold F_raddlelaw38_ShortFits at h
  obtain ⟨ad1, cp2, _, rfl, _⟩ := S.know (i := 0) (e := fRep (rL (rI .i64)) (v0) p0) rfl
  obtain ⟨ad3, cp4, _, rfl, _⟩ := S.know (i := 1) (e := fRep (rL (rI .i64)) (v2) p2) rfl
  refine sEnter (args := [.slice ad1 p0.length cp2, iv p1, .slice ad3 p2.length cp4]) 133 Tryd.func5 rfl rfl (by simp) S (fun a S => ?_)
  refine sSeq (fun K5 hK5 => ?_)
  refine sRegion ?_
  refine sMove (.bool false) S (wN rfl) (.inr rfl) rfl rfl (lb rfl) fun a S => ?_
  refine leafL (leafT (hK5 _ _ ?_))
  refine sSeq (fun K6 hK6 => ?_)
  refine sRegion ?_
  obtain ⟨r7, hx8, h⟩ := bindSome h
  have S1 := S.mem
  refine sCallQ (X := Unit) (f := 15) (vs := []) (val := fun _ => .bool r7) S (wN rfl) rfl callee15 rfl (S1.quiet [] rfl) (fun E1 w1 S1 => c_raddlelaw38_alive E1 w1  r7 hx8 S1) rfl (lb rfl) fun _ a w S => ?_
  refine sMove (.bool r7) S (wN rfl) (.inr rfl) rfl rfl (lb rfl) fun a S => ?_
  refine leafL (leafT (hK6 _ _ ?_))
  refine sSeq (fun K9 hK9 => ?_)
  obtain ⟨t11, h, g12⟩ := bindSome h
  refine sCut (fun a w => ∃ o10, o10 = t11 ∧ St [] E [] w0 133 a w [(0, .slice ad1 p0.length cp2), (1, iv p1), (2, .slice ad3 p2.length cp4), (7, .bool r7), (32, .bool o10)] [] [fRep (rL (rI .i64)) (.slice ad1 p0.length cp2) p0, fRep (rL (rI .i64)) (.slice ad3 p2.length cp4) p2]) ?_ (fun a w hI => ?_)
  · refine sRegion ?_
    refine sMove (.slice ad1 p0.length cp2) S (wN rfl) (.inl rfl) rfl rfl (lb rfl) fun a S => ?_
    refine sLen (ad := ad1) (m := p0.length) (c := cp2) S (wN rfl) rfl Tryd.underlying22 rfl rfl (lb rfl) fun a S => ?_
    refine sBin (.bool (decide (200 < (p0.length : Int)))) S (wN rfl) rfl rfl rfl (bGt _ _ _ _ .i64 (p0.length : Int) 200) rfl (lb rfl) fun a S => ?_
    refine sMove (.bool (decide (200 < (p0.length : Int)))) S (wN rfl) (.inl rfl) rfl rfl (lb rfl) fun a S => ?_
    rcases iteSome h with ⟨hc13, h⟩ | ⟨hc13, h⟩
    · refine sSkip 3 false 24 25 S rfl rfl rfl hc13 rfl (lb rfl) fun a S => ?_
      refine sSkip 3 false 24 26 S rfl rfl rfl hc13 rfl (lb rfl) fun a S => ?_
      refine sSkip 3 false 24 27 S rfl rfl rfl hc13 rfl (lb rfl) fun a S => ?_
      refine sPickT (.bool true) S (wN rfl) rfl rfl hc13 rfl rfl (lb rfl) fun a S => ?_
      refine sMove (.bool true) S (wN rfl) (.inl rfl) rfl rfl (lb rfl) fun a S => ?_
      refine sSkip 8 false 29 30 S rfl rfl rfl rfl rfl (lb rfl) fun a S => ?_
      refine sSkip 8 false 29 31 S rfl rfl rfl rfl rfl (lb rfl) fun a S => ?_
      refine sPickT (.bool true) S (wN rfl) rfl rfl rfl rfl rfl (lb rfl) fun a S => ?_
      exact leafL (leafT (⟨true, Option.some.inj h, S.fix [] [0, 1] (by decide) rfl rfl rfl⟩))
    refine sMove (.slice ad3 p2.length cp4) S (wG 3 false 24 rfl rfl rfl hc13) (.inl rfl) rfl rfl (lb rfl) fun a S => ?_
    refine sLen (ad := ad3) (m := p2.length) (c := cp4) S (wG 3 false 24 rfl rfl rfl hc13) rfl Tryd.underlying22 rfl rfl (lb rfl) fun a S => ?_
    refine sBin (.bool (decide (60 < (p2.length : Int)))) S (wG 3 false 24 rfl rfl rfl hc13) rfl rfl rfl (bGt _ _ _ _ .i64 (p2.length : Int) 60) rfl (lb rfl) fun a S => ?_
    refine sPickF (.bool (decide (60 < (p2.length : Int)))) S (wN rfl) rfl rfl hc13 rfl rfl (lb rfl) fun a S => ?_
    refine sMove (.bool (decide (60 < (p2.length : Int)))) S (wN rfl) (.inl rfl) rfl rfl (lb rfl) fun a S => ?_
    rcases iteSome h with ⟨hc14, h⟩ | ⟨hc14, h⟩
    · refine sSkip 8 false 29 30 S rfl rfl rfl hc14 rfl (lb rfl) fun a S => ?_
      refine sSkip 8 false 29 31 S rfl rfl rfl hc14 rfl (lb rfl) fun a S => ?_
      refine sPickT (.bool true) S (wN rfl) rfl rfl hc14 rfl rfl (lb rfl) fun a S => ?_
      exact leafL (leafT (⟨true, Option.some.inj h, S.fix [] [0, 1] (by decide) rfl rfl rfl⟩))
    refine sMove (.bool r7) S (wG 8 false 29 rfl rfl rfl hc14) (.inl rfl) rfl rfl (lb rfl) fun a S => ?_
    refine sNot (b := r7) S (wG 8 false 29 rfl rfl rfl hc14) rfl rfl rfl (lb rfl) fun a S => ?_
    refine sPickF (.bool (!r7)) S (wN rfl) rfl rfl hc14 rfl rfl (lb rfl) fun a S => ?_
    exact leafL (leafT (⟨!r7, Option.some.inj h, S.fix [] [0, 1] (by decide) rfl rfl rfl⟩))
  obtain ⟨o10, rfl, S⟩ := hI
  have h := g12
  clear g12
  try dsimp only at h
  rcases iteSome h with ⟨hc15, h⟩ | ⟨hc15, h⟩
  · refine sCondT S rfl hc15 ?_
    refine sSeq (fun K16 hK16 => ?_)
    refine sRegion ?_
    refine sMove (.bool r7) S (wN rfl) (.inl rfl) rfl rfl (lb rfl) fun a S => ?_
    refine sMove (.bool r7) S (wN rfl) (.inr rfl) rfl rfl (lb rfl) fun a S => ?_
    refine leafL (leafT (hK16 _ _ ?_))
    obtain rfl := Option.some.inj h
    exact wp_ret (rThen (sRet (.bool r7) S (rsl1 rfl (rvT (t := 6) (v := .bool r7) S rfl)) ⟨(), rfl, S.mem.sel [] [] (by decide) rfl rfl⟩))
  refine sCondF S rfl hc15 ?_
  refine wp_skip (leafT (hK9 _ _ ?_))
  refine sSeq (fun K17 hK17 => ?_)
  refine sRegion ?_
  refine sMove (.slice ad1 p0.length cp2) S (wN rfl) (.inl rfl) rfl rfl (lb rfl) fun a S => ?_
  obtain ⟨r18, hx19, h⟩ := bindSome h
  refine sCall (X := Value) (f := 10) (vs := [.slice ad1 p0.length cp2]) (val := c_short_Fit_val r18) (B' := fun _ => []) (D' := c_short_Fit_D r18) [] [] [fRep (rL (rI .i64)) (.slice ad1 p0.length cp2) p0] [] [0] S (wN rfl) rfl callee10 rfl (by decide) rfl rfl (fun E1 w1 S1 => c_short_Fit E1 w1 p0 (.slice ad1 p0.length cp2) r18 hx19 S1) rfl (lb rfl) fun u20 a w S => ?_
  obtain ⟨ad21, cp22, _, rfl, _⟩ := S.mem.know (i := 0) (e := fRep (rL (rI .i64)) (u20) r18.1) rfl
  refine sMove (.tuple #[.slice ad21 r18.1.length cp22, iv r18.2]) S (wN rfl) (.inl rfl) rfl rfl (lb rfl) fun a S => ?_
  refine sExtract (vs := [.slice ad21 r18.1.length cp22, iv r18.2]) (.slice ad21 r18.1.length cp22) S (wN rfl) rfl rfl rfl rfl (lb rfl) fun a S => ?_
  refine sExtract (vs := [.slice ad21 r18.1.length cp22, iv r18.2]) (iv r18.2) S (wN rfl) rfl rfl rfl rfl (lb rfl) fun a S => ?_
  refine sMove (.slice ad21 r18.1.length cp22) S (wN rfl) (.inr rfl) rfl rfl (lb rfl) fun a S => ?_
  refine sMove (iv r18.2) S (wN rfl) (.inr rfl) rfl rfl (lb rfl) fun a S => ?_
  refine leafL (leafT (hK17 _ _ ?_))
  obtain ⟨t23, h, g24⟩ := bindSome h
  refine sCut (fun a w => .inl () = t23 ∧ St [] E [] w0 133 a w [(1, iv p1), (2, .slice ad3 p2.length cp4), (7, .bool r7)] [] [fRep (rL (rI .i64)) (.slice ad3 p2.length cp4) p2]) ?_ (fun a w hI => ?_)
  · refine sSeq (fun K25 hK25 => ?_)
    refine sRegion ?_
    refine sMove (iv r18.2) S (wN rfl) (.inl rfl) rfl rfl (lb rfl) fun a S => ?_
    refine sBin (.bool (r18.2 == 0)) S (wN rfl) rfl rfl rfl (bEq _ _ _ _ .i64 r18.2 0) rfl (lb rfl) fun a S => ?_
    refine leafL (leafT (hK25 _ _ ?_))
    rcases iteSome h with ⟨hc26, h⟩ | ⟨hc26, h⟩
    rotate_left
    · refine sCondF S rfl hc26 ?_
      exact wp_skip (leafT (⟨Option.some.inj h, S.fix [] [2] (by decide) rfl rfl rfl⟩))
    refine sCondT S rfl hc26 ?_
    refine sSeq (fun K27 hK27 => ?_)
    refine sRegion ?_
    refine sMove (.slice ad1 p0.length cp2) S (wN rfl) (.inl rfl) rfl rfl (lb rfl) fun a S => ?_
    refine sLen (ad := ad1) (m := p0.length) (c := cp2) S (wN rfl) rfl Tryd.underlying22 rfl rfl (lb rfl) fun a S => ?_
    refine sMove (.slice ad21 r18.1.length cp22) S (wN rfl) (.inl rfl) rfl rfl (lb rfl) fun a S => ?_
    obtain ⟨r28, hx29, h⟩ := bindSome h
    refine sCall (X := Value) (f := 9) (vs := [iv (p0.length : Int), .slice ad21 r18.1.length cp22]) (val := c_short_Heights_val r28) (B' := fun _ => []) (D' := c_short_Heights_D r28) [] [] [fRep (rL (rI .i64)) (.slice ad21 r18.1.length cp22) r18.1] [] [0] S (wN rfl) rfl callee9 rfl (by decide) rfl rfl (fun E1 w1 S1 => c_short_Heights E1 w1 (p0.length : Int) r18.1 (.slice ad21 r18.1.length cp22) r28 hx29 S1) rfl (lb rfl) fun u30 a w S => ?_
    obtain ⟨ad31, cp32, _, rfl, _⟩ := S.mem.know (i := 0) (e := fRep (rL (rI .i64)) (u30) r28.1) rfl
    refine sMove (.tuple #[.slice ad31 r28.1.length cp32, iv r28.2]) S (wN rfl) (.inl rfl) rfl rfl (lb rfl) fun a S => ?_
    refine sExtract (vs := [.slice ad31 r28.1.length cp32, iv r28.2]) (.slice ad31 r28.1.length cp32) S (wN rfl) rfl rfl rfl rfl (lb rfl) fun a S => ?_
    refine sExtract (vs := [.slice ad31 r28.1.length cp32, iv r28.2]) (iv r28.2) S (wN rfl) rfl rfl rfl rfl (lb rfl) fun a S => ?_
    refine sMove (.slice ad31 r28.1.length cp32) S (wN rfl) (.inr rfl) rfl rfl (lb rfl) fun a S => ?_
    refine sMove (iv r28.2) S (wN rfl) (.inr rfl) rfl rfl (lb rfl) fun a S => ?_
    refine leafL (leafT (hK27 _ _ ?_))
    obtain ⟨t34, h, g35⟩ := bindSome h
    refine sCut (fun a w => ∃ o33, o33 = t34 ∧ St [] E [] w0 133 a w [(1, iv p1), (2, .slice ad3 p2.length cp4), (7, .bool r7), (55, .bool o33)] [] [fRep (rL (rI .i64)) (.slice ad3 p2.length cp4) p2]) ?_ (fun a w hI => ?_)
    rotate_left
    · obtain ⟨o33, rfl, S⟩ := hI
      have h := g35
      clear g35
      try dsimp only at h
      rcases iteSome h with ⟨hc39, h⟩ | ⟨hc39, h⟩
      rotate_left
      · refine sCondF S rfl hc39 ?_
        exact wp_skip (leafT (⟨Option.some.inj h, S.fix [] [0] (by decide) rfl rfl rfl⟩))
      refine sCondT S rfl hc39 ?_
      refine sSeq (fun K40 hK40 => ?_)
      refine sRegion ?_
      refine sMove (.bool false) S (wN rfl) (.inr rfl) rfl rfl (lb rfl) fun a S => ?_
      refine leafL (leafT (hK40 _ _ ?_))
      obtain rfl := Option.some.inj h
      have h := g24
      clear g24
      try dsimp only at h
      obtain rfl := Option.some.inj h
      exact wp_ret (rThen (sRet (.bool false) S (rsl1 rfl (rvT (t := 6) (v := .bool false) S rfl)) ⟨(), rfl, S.mem.sel [] [] (by decide) rfl rfl⟩))
    refine sRegion ?_
    refine sMove (iv r28.2) S (wN rfl) (.inl rfl) rfl rfl (lb rfl) fun a S => ?_
    refine sBin (.bool (r28.2 != 0)) S (wN rfl) rfl rfl rfl (bNe _ _ _ _ .i64 r28.2 0) rfl (lb rfl) fun a S => ?_
    refine sMove (.bool (r28.2 != 0)) S (wN rfl) (.inl rfl) rfl rfl (lb rfl) fun a S => ?_
    rcases iteSome h with ⟨hc36, h⟩ | ⟨hc36, h⟩
    · refine sSkip 2 false 50 51 S rfl rfl rfl hc36 rfl (lb rfl) fun a S => ?_
      refine sSkip 2 false 50 52 S rfl rfl rfl hc36 rfl (lb rfl) fun a S => ?_
      refine sSkip 2 false 50 53 S rfl rfl rfl hc36 rfl (lb rfl) fun a S => ?_
      refine sSkip 2 false 50 54 S rfl rfl rfl hc36 rfl (lb rfl) fun a S => ?_
      refine sPickT (.bool true) S (wN rfl) rfl rfl hc36 rfl rfl (lb rfl) fun a S => ?_
      exact leafL (leafT (⟨true, Option.some.inj h, S.fix [] [3] (by decide) rfl rfl rfl⟩))
    refine sMove (.slice ad31 r28.1.length cp32) S (wG 2 false 50 rfl rfl rfl hc36) (.inl rfl) rfl rfl (lb rfl) fun a S => ?_
    refine sMove (.slice ad1 p0.length cp2) S (wG 2 false 50 rfl rfl rfl hc36) (.inl rfl) rfl rfl (lb rfl) fun a S => ?_
    obtain ⟨r37, hx38, h⟩ := bindSome h
    have S1 := S.mem
    refine sCallQ (X := Unit) (f := 14) (vs := [.slice ad31 r28.1.length cp32, .slice ad1 p0.length cp2]) (val := fun _ => .bool r37) S (wG 2 false 50 rfl rfl rfl hc36) rfl callee14 rfl (S1.quiet [0, 2] rfl) (fun E1 w1 S1 => c_raddleref36_Same E1 w1 r28.1 (.slice ad31 r28.1.length cp32) p0 (.slice ad1 p0.length cp2) r37 hx38 S1) rfl (lb rfl) fun _ a w S => ?_
    refine sNot (b := r37) S (wG 2 false 50 rfl rfl rfl hc36) rfl rfl rfl (lb rfl) fun a S => ?_
    refine sPickF (.bool (!r37)) S (wN rfl) rfl rfl hc36 rfl rfl (lb rfl) fun a S => ?_
    exact leafL (leafT (⟨!r37, Option.some.inj h, S.fix [] [3] (by decide) rfl rfl rfl⟩))
  obtain ⟨rfl, S⟩ := hI
  have h := g24
  clear g24
  try dsimp only at h
  refine sSeq (fun K41 hK41 => ?_)
  refine sRegion ?_
  refine sMove (iv p1) S (wN rfl) (.inl rfl) rfl rfl (lb rfl) fun a S => ?_
  refine sMove (.slice ad3 p2.length cp4) S (wN rfl) (.inl rfl) rfl rfl (lb rfl) fun a S => ?_
  obtain ⟨r42, hx43, h⟩ := bindSome h
  refine sCall (X := Value) (f := 9) (vs := [iv p1, .slice ad3 p2.length cp4]) (val := c_short_Heights_val r42) (B' := fun _ => []) (D' := c_short_Heights_D r42) [] [] [fRep (rL (rI .i64)) (.slice ad3 p2.length cp4) p2] [] [0] S (wN rfl) rfl callee9 rfl (by decide) rfl rfl (fun E1 w1 S1 => c_short_Heights E1 w1 p1 p2 (.slice ad3 p2.length cp4) r42 hx43 S1) rfl (lb rfl) fun u44 a w S => ?_
  obtain ⟨ad45, cp46, _, rfl, _⟩ := S.mem.know (i := 0) (e := fRep (rL (rI .i64)) (u44) r42.1) rfl
  refine sMove (.tuple #[.slice ad45 r42.1.length cp46, iv r42.2]) S (wN rfl) (.inl rfl) rfl rfl (lb rfl) fun a S => ?_
  refine sExtract (vs := [.slice ad45 r42.1.length cp46, iv r42.2]) (.slice ad45 r42.1.length cp46) S (wN rfl) rfl rfl rfl rfl (lb rfl) fun a S => ?_
  refine sExtract (vs := [.slice ad45 r42.1.length cp46, iv r42.2]) (iv r42.2) S (wN rfl) rfl rfl rfl rfl (lb rfl) fun a S => ?_
  refine sMove (.slice ad45 r42.1.length cp46) S (wN rfl) (.inr rfl) rfl rfl (lb rfl) fun a S => ?_
  refine sMove (iv r42.2) S (wN rfl) (.inr rfl) rfl rfl (lb rfl) fun a S => ?_
  refine leafL (leafT (hK41 _ _ ?_))
  refine sSeq (fun K47 hK47 => ?_)
  refine sSeq (fun K48 hK48 => ?_)
  refine sRegion ?_
  refine sMove (iv r42.2) S (wN rfl) (.inl rfl) rfl rfl (lb rfl) fun a S => ?_
  refine sBin (.bool (r42.2 != 0)) S (wN rfl) rfl rfl rfl (bNe _ _ _ _ .i64 r42.2 0) rfl (lb rfl) fun a S => ?_
  refine leafL (leafT (hK48 _ _ ?_))
  rcases iteSome h with ⟨hc49, h⟩ | ⟨hc49, h⟩
  · refine sCondT S rfl hc49 ?_
    refine sSeq (fun K50 hK50 => ?_)
    refine sRegion ?_
    refine sMove (.bool r7) S (wN rfl) (.inl rfl) rfl rfl (lb rfl) fun a S => ?_
    refine sMove (.bool r7) S (wN rfl) (.inr rfl) rfl rfl (lb rfl) fun a S => ?_
    refine leafL (leafT (hK50 _ _ ?_))
    obtain rfl := Option.some.inj h
    exact wp_ret (rThen (sRet (.bool r7) S (rsl1 rfl (rvT (t := 6) (v := .bool r7) S rfl)) ⟨(), rfl, S.mem.sel [] [] (by decide) rfl rfl⟩))
  refine sCondF S rfl hc49 ?_
  refine wp_skip (leafT (hK47 _ _ ?_))
  refine sSeq (fun K51 hK51 => ?_)
  refine sRegion ?_
  refine sMove (.slice ad45 r42.1.length cp46) S (wN rfl) (.inl rfl) rfl rfl (lb rfl) fun a S => ?_
  obtain ⟨r52, hx53, h⟩ := bindSome h
  refine sCall (X := Value) (f := 10) (vs := [.slice ad45 r42.1.length cp46]) (val := c_short_Fit_val r52) (B' := fun _ => []) (D' := c_short_Fit_D r52) [] [] [fRep (rL (rI .i64)) (.slice ad45 r42.1.length cp46) r42.1] [] [0] S (wN rfl) rfl callee10 rfl (by decide) rfl rfl (fun E1 w1 S1 => c_short_Fit E1 w1 r42.1 (.slice ad45 r42.1.length cp46) r52 hx53 S1) rfl (lb rfl) fun u54 a w S => ?_
  obtain ⟨ad55, cp56, _, rfl, _⟩ := S.mem.know (i := 0) (e := fRep (rL (rI .i64)) (u54) r52.1) rfl
  refine sMove (.tuple #[.slice ad55 r52.1.length cp56, iv r52.2]) S (wN rfl) (.inl rfl) rfl rfl (lb rfl) fun a S => ?_
  refine sExtract (vs := [.slice ad55 r52.1.length cp56, iv r52.2]) (.slice ad55 r52.1.length cp56) S (wN rfl) rfl rfl rfl rfl (lb rfl) fun a S => ?_
  refine sExtract (vs := [.slice ad55 r52.1.length cp56, iv r52.2]) (iv r52.2) S (wN rfl) rfl rfl rfl rfl (lb rfl) fun a S => ?_
  refine sMove (.slice ad55 r52.1.length cp56) S (wN rfl) (.inr rfl) rfl rfl (lb rfl) fun a S => ?_
  refine sMove (iv r52.2) S (wN rfl) (.inr rfl) rfl rfl (lb rfl) fun a S => ?_
  refine leafL (leafT (hK51 _ _ ?_))
  refine sSeq (fun K57 hK57 => ?_)
  obtain ⟨t59, h, g60⟩ := bindSome h
  refine sCut (fun a w => ∃ o58, o58 = t59 ∧ St [] E [] w0 133 a w [(2, .slice ad3 p2.length cp4), (7, .bool r7), (14, .slice ad55 r52.1.length cp56), (78, .bool o58)] [] [fRep (rL (rI .i64)) (.slice ad3 p2.length cp4) p2, fRep (rL (rI .i64)) (.slice ad55 r52.1.length cp56) r52.1]) ?_ (fun a w hI => ?_)
  · refine sRegion ?_
    refine sMove (iv r52.2) S (wN rfl) (.inl rfl) rfl rfl (lb rfl) fun a S => ?_
    refine sBin (.bool (r52.2 != 0)) S (wN rfl) rfl rfl rfl (bNe _ _ _ _ .i64 r52.2 0) rfl (lb rfl) fun a S => ?_
    refine sMove (.bool (r52.2 != 0)) S (wN rfl) (.inl rfl) rfl rfl (lb rfl) fun a S => ?_
    rcases iteSome h with ⟨hc61, h⟩ | ⟨hc61, h⟩
    · refine sSkip 2 false 72 73 S rfl rfl rfl hc61 rfl (lb rfl) fun a S => ?_
      refine sSkip 2 false 72 74 S rfl rfl rfl hc61 rfl (lb rfl) fun a S => ?_
      refine sSkip 2 false 72 75 S rfl rfl rfl hc61 rfl (lb rfl) fun a S => ?_
      refine sSkip 2 false 72 76 S rfl rfl rfl hc61 rfl (lb rfl) fun a S => ?_
      refine sSkip 2 false 72 77 S rfl rfl rfl hc61 rfl (lb rfl) fun a S => ?_
      refine sPickT (.bool true) S (wN rfl) rfl rfl hc61 rfl rfl (lb rfl) fun a S => ?_
      exact leafL (leafT (⟨true, Option.some.inj h, S.fix [] [2, 0] (by decide) rfl rfl rfl⟩))
    refine sMove (.slice ad55 r52.1.length cp56) S (wG 2 false 72 rfl rfl rfl hc61) (.inl rfl) rfl rfl (lb rfl) fun a S => ?_
    refine sLen (ad := ad55) (m := r52.1.length) (c := cp56) S (wG 2 false 72 rfl rfl rfl hc61) rfl Tryd.underlying22 rfl rfl (lb rfl) fun a S => ?_
    refine sMove (.slice ad3 p2.length cp4) S (wG 2 false 72 rfl rfl rfl hc61) (.inl rfl) rfl rfl (lb rfl) fun a S => ?_
    refine sLen (ad := ad3) (m := p2.length) (c := cp4) S (wG 2 false 72 rfl rfl rfl hc61) rfl Tryd.underlying22 rfl rfl (lb rfl) fun a S => ?_
    refine sBin (.bool ((r52.1.length : Int) != (p2.length : Int))) S (wG 2 false 72 rfl rfl rfl hc61) rfl rfl rfl (bNe _ _ _ _ .i64 (r52.1.length : Int) (p2.length : Int)) rfl (lb rfl) fun a S => ?_
    refine sPickF (.bool ((r52.1.length : Int) != (p2.length : Int))) S (wN rfl) rfl rfl hc61 rfl rfl (lb rfl) fun a S => ?_
    exact leafL (leafT (⟨(r52.1.length : Int) != (p2.length : Int), Option.some.inj h, S.fix [] [2, 0] (by decide) rfl rfl rfl⟩))
  obtain ⟨o58, rfl, S⟩ := hI
  have h := g60
  clear g60
  try dsimp only at h
  rcases iteSome h with ⟨hc62, h⟩ | ⟨hc62, h⟩
  · refine sCondT S rfl hc62 ?_
    refine sSeq (fun K63 hK63 => ?_)
    refine sRegion ?_
    refine sMove (.bool false) S (wN rfl) (.inr rfl) rfl rfl (lb rfl) fun a S => ?_
    refine leafL (leafT (hK63 _ _ ?_))
    obtain rfl := Option.some.inj h
    exact wp_ret (rThen (sRet (.bool false) S (rsl1 rfl (rvT (t := 6) (v := .bool false) S rfl)) ⟨(), rfl, S.mem.sel [] [] (by decide) rfl rfl⟩))
  refine sCondF S rfl hc62 ?_
  refine wp_skip (leafT (hK57 _ _ ?_))
  obtain ⟨t64, h, g65⟩ := bindSome h
  refine sCut (fun a w => .inl () = t64 ∧ St [] E [] w0 133 a w [(7, .bool r7)] [] []) ?_ (fun a w hI => ?_)
  rotate_left
  · obtain ⟨rfl, S⟩ := hI
    have h := g65
    clear g65
    try dsimp only at h
    refine sSeq (fun K159 hK159 => ?_)
    refine sRegion ?_
    refine sMove (.bool r7) S (wN rfl) (.inl rfl) rfl rfl (lb rfl) fun a S => ?_
    refine sMove (.bool r7) S (wN rfl) (.inr rfl) rfl rfl (lb rfl) fun a S => ?_
    refine leafL (leafT (hK159 _ _ ?_))
    obtain rfl := Option.some.inj h
    exact wp_ret (sRet (.bool r7) S (rsl1 rfl (rvT (t := 6) (v := .bool r7) S rfl)) ⟨(), rfl, S.mem.sel [] [] (by decide) rfl rfl⟩)
  refine sSeq (fun K66 hK66 => ?_)
  refine sRegion ?_
  refine sMove (iv 0) S (wN rfl) (.inr rfl) rfl rfl (lb rfl) fun a S => ?_
  refine leafL (leafT (hK66 _ _ ?_))
  refine wp_block ?_
  obtain ⟨t70, hl, g69⟩ := bindSome h
  refine sLoop hl (fun s0 a w => match s0 with | s67 => St [] E [] w0 133 a w [(2, .slice ad3 p2.length cp4), (7, .bool r7), (14, .slice ad55 r52.1.length cp56), (16, iv s67)] [] [fRep (rL (rI .i64)) (.slice ad3 p2.length cp4) p2, fRep (rL (rI .i64)) (.slice ad55 r52.1.length cp56) r52.1]) (S.fix [] [0, 1] (by decide) rfl rfl rfl) ?_
  clear hl h
  intro s67 a w c0 hI h hu68
  unfold raddlelaw38_ShortFits_l2 at h
  dsimp only at h hI
  have S := hI
  refine sSeq (fun K71 hK71 => ?_)
  refine sSeq (fun K72 hK72 => ?_)
  refine sRegion ?_
  refine sMove (iv s67) S (wN rfl) (.inl rfl) rfl rfl (lb rfl) fun a S => ?_
  refine sMove (.slice ad55 r52.1.length cp56) S (wN rfl) (.inl rfl) rfl rfl (lb rfl) fun a S => ?_
  refine sLen (ad := ad55) (m := r52.1.length) (c := cp56) S (wN rfl) rfl Tryd.underlying22 rfl rfl (lb rfl) fun a S => ?_
  refine sBin (.bool (decide (s67 < (r52.1.length : Int)))) S (wN rfl) rfl rfl rfl (bLt _ _ _ _ .i64 s67 (r52.1.length : Int)) rfl (lb rfl) fun a S => ?_
  refine leafL (leafT (hK72 _ _ ?_))
  rcases iteSome h with ⟨hc73, h⟩ | ⟨hc73, h⟩
  rotate_left
  · refine sCondF S rfl hc73 ?_
    obtain rfl := Option.some.inj h
    obtain rfl := hu68 _ rfl
    have h := g69
    clear g69
    try dsimp only at h
    exact wp_exit (xThen (xThen (xHit (leafT (⟨Option.some.inj h, S.fix [] [] (by decide) rfl rfl rfl⟩)))))
  refine sCondT S rfl hc73 ?_
  refine wp_skip (leafT (hK71 _ _ ?_))
  obtain ⟨t74, h, g75⟩ := bindSome h
  refine sCut (fun a w => .inl () = t74 ∧ St [] E [] w0 133 a w [(2, .slice ad3 p2.length cp4), (7, .bool r7), (14, .slice ad55 r52.1.length cp56), (16, iv s67)] [] [fRep (rL (rI .i64)) (.slice ad3 p2.length cp4) p2, fRep (rL (rI .i64)) (.slice ad55 r52.1.length cp56) r52.1]) ?_ (fun a w hI => ?_)
  rotate_left
  · obtain ⟨rfl, S⟩ := hI
    have h := g75
    clear g75
    try dsimp only at h
    refine sRegion ?_
    refine sMove (iv s67) S (wN rfl) (.inl rfl) rfl rfl (lb rfl) fun a S => ?_
    refine sBin (iv (w64 (s67 + 1))) S (wN rfl) rfl rfl rfl (bAdd _ _ _ _ s67 1) rfl (lb rfl) fun a S => ?_
    refine sMove (iv (w64 (s67 + 1))) S (wN rfl) (.inr rfl) rfl rfl (lb rfl) fun a S => ?_
    exact leafL (leafT (⟨w64 (s67 + 1), (Option.some.inj h).symm, (S.fix [] [0, 1] (by decide) rfl rfl rfl)⟩))
  refine wp_block ?_
  refine sSeq (fun K76 hK76 => ?_)
  refine sRegion ?_
  refine sMove (iv 0) S (wN rfl) (.inr rfl) rfl rfl (lb rfl) fun a S => ?_
  refine sMove (iv 0) S (wN rfl) (.inr rfl) rfl rfl (lb rfl) fun a S => ?_
  refine leafL (leafT (hK76 _ _ ?_))
  obtain ⟨t79, h, g80⟩ := bindSome h
  refine sCut (fun a w => ∃ o77, ∃ o78, (o77, o78) = t79 ∧ St [] E [] w0 133 a w [(2, .slice ad3 p2.length cp4), (7, .bool r7), (14, .slice ad55 r52.1.length cp56), (16, iv s67), (17, iv o77), (18, iv o78)] [] [fRep (rL (rI .i64)) (.slice ad3 p2.length cp4) p2, fRep (rL (rI .i64)) (.slice ad55 r52.1.length cp56) r52.1]) ?_ (fun a w hI => ?_)
  · refine sSeq (fun K81 hK81 => ?_)
    refine sRegion ?_
    refine sMove (iv 0) S (wN rfl) (.inr rfl) rfl rfl (lb rfl) fun a S => ?_
    refine leafL (leafT (hK81 _ _ ?_))
    refine wp_block ?_
    obtain ⟨t87, hl, g86⟩ := bindSome h
    refine sLoop hl (fun s0 a w => match s0 with | (s82, s83, s84) => St [] E [] w0 133 a w [(2, .slice ad3 p2.length cp4), (7, .bool r7), (14, .slice ad55 r52.1.length cp56), (16, iv s67), (17, iv s82), (18, iv s83), (19, iv s84)] [] [fRep (rL (rI .i64)) (.slice ad3 p2.length cp4) p2, fRep (rL (rI .i64)) (.slice ad55 r52.1.length cp56) r52.1]) (S.fix [] [0, 1] (by decide) rfl rfl rfl) ?_
    clear hl h
    intro s0 a w c0 hI h hu85
    obtain ⟨s82, s83, s84⟩ := s0
    unfold raddlelaw38_ShortFits_l1 at h
    dsimp only at h hI
    have S := hI
    refine sSeq (fun K90 hK90 => ?_)
    refine sSeq (fun K91 hK91 => ?_)
    refine sRegion ?_
    refine sMove (iv s84) S (wN rfl) (.inl rfl) rfl rfl (lb rfl) fun a S => ?_
    refine sMove (.slice ad55 r52.1.length cp56) S (wN rfl) (.inl rfl) rfl rfl (lb rfl) fun a S => ?_
    refine sLen (ad := ad55) (m := r52.1.length) (c := cp56) S (wN rfl) rfl Tryd.underlying22 rfl rfl (lb rfl) fun a S => ?_
    refine sBin (.bool (decide (s84 < (r52.1.length : Int)))) S (wN rfl) rfl rfl rfl (bLt _ _ _ _ .i64 s84 (r52.1.length : Int)) rfl (lb rfl) fun a S => ?_
    refine leafL (leafT (hK91 _ _ ?_))
    rcases iteSome h with ⟨hc92, h⟩ | ⟨hc92, h⟩
    rotate_left
    · refine sCondF S rfl hc92 ?_
      obtain rfl := Option.some.inj h
      obtain rfl := hu85 _ rfl
      have h := g86
      clear g86
      try dsimp only at h
      exact wp_exit (xThen (xThen (xHit (leafT (⟨s82, s83, Option.some.inj h, S.fix [] [0, 1] (by decide) rfl rfl rfl⟩)))))
    refine sCondT S rfl hc92 ?_
    refine wp_skip (leafT (hK90 _ _ ?_))
    obtain ⟨t95, h, g96⟩ := bindSome h
    refine sCut (fun a w => ∃ o93, ∃ o94, (o93, o94) = t95 ∧ St [] E [] w0 133 a w [(2, .slice ad3 p2.length cp4), (7, .bool r7), (14, .slice ad55 r52.1.length cp56), (16, iv s67), (17, iv o93), (18, iv o94), (19, iv s84)] [] [fRep (rL (rI .i64)) (.slice ad3 p2.length cp4) p2, fRep (rL (rI .i64)) (.slice ad55 r52.1.length cp56) r52.1]) ?_ (fun a w hI => ?_)
    rotate_left
    · obtain ⟨o93, o94, rfl, S⟩ := hI
      have h := g96
      clear g96
      try dsimp only at h
      refine sRegion ?_
      refine sMove (iv s84) S (wN rfl) (.inl rfl) rfl rfl (lb rfl) fun a S => ?_
      refine sBin (iv (w64 (s84 + 1))) S (wN rfl) rfl rfl rfl (bAdd _ _ _ _ s84 1) rfl (lb rfl) fun a S => ?_
      refine sMove (iv (w64 (s84 + 1))) S (wN rfl) (.inr rfl) rfl rfl (lb rfl) fun a S => ?_
      exact leafL (leafT (⟨(o93, o94, w64 (s84 + 1)), (Option.some.inj h).symm, (S.fix [] [0, 1] (by decide) rfl rfl rfl)⟩))
    refine wp_block ?_
    obtain ⟨t98, h, g99⟩ := bindSome h
    refine sCut (fun a w => ∃ o97, o97 = t98 ∧ St [] E [] w0 133 a w [(2, .slice ad3 p2.length cp4), (7, .bool r7), (14, .slice ad55 r52.1.length cp56), (16, iv s67), (17, iv o97), (18, iv s83), (19, iv s84)] [] [fRep (rL (rI .i64)) (.slice ad3 p2.length cp4) p2, fRep (rL (rI .i64)) (.slice ad55 r52.1.length cp56) r52.1]) ?_ (fun a w hI => ?_)
    · refine sSeq (fun K100 hK100 => ?_)
      obtain ⟨x101, hx102, h⟩ := bindSome h
      obtain ⟨x106, hx107, h⟩ := bindSome h
      obtain ⟨q111, hq112, S⟩ := pIdx (P := Tryd.prog) (r := (rI .i64)) (v := .slice ad55 r52.1.length cp56) (xs := r52.1) (j := s84) 22 3 1 S Tryd.underlying22 rfl rfl hx102
      obtain ⟨u113, S⟩ := pLoad (r := (rI .i64)) (q := q111) (x := x101) 0 S rfl
      obtain rfl : u113 = iv x101 := S.mem.know (i := 1) (e := fRep (rI .i64) (u113) x101) rfl
      obtain ⟨q114, hq115, S⟩ := pIdx (P := Tryd.prog) (r := (rI .i64)) (v := .slice ad55 r52.1.length cp56) (xs := r52.1) (j := s67) 22 3 4 S Tryd.underlying22 rfl rfl hx107
      obtain ⟨u116, S⟩ := pLoad (r := (rI .i64)) (q := q114) (x := x106) 0 S rfl
      obtain rfl : u116 = iv x106 := S.mem.know (i := 1) (e := fRep (rI .i64) (u116) x106) rfl
      refine sDraw (nf := []) (W := [(0, 91, .slice ad55 r52.1.length cp56), (1, 92, iv s84), (2, 93, q111), (3, 94, iv x101), (4, 95, .slice ad55 r52.1.length cp56), (5, 96, iv s67), (6, 97, q114), (7, 98, iv x106), (8, 99, .bool (x101 == x106))]) rfl S ?_
      refine node_by (A := anc_raddlelaw38_ShortFits_0) (nf := []) (Y := []) (W := [(0, 91, .slice ad55 r52.1.length cp56), (1, 92, iv s84), (2, 93, q111), (3, 94, iv x101), (4, 95, .slice ad55 r52.1.length cp56), (5, 96, iv s67), (6, 97, q114), (7, 98, iv x106), (8, 99, .bool (x101 == x106))]) 9 (by kernel_rfl) (by kernel_rfl) (by kernel_rfl) (by kernel_rfl) (by kernel_rfl) [0, 1, 2, 3, 4, 5, 6, 7, 8] (by kernel_rfl) (by decide) (by decide) (aF 0 8 (by decide) ?_ (aF 1 7 (by decide) ?_ (aF 2 6 (by decide) ?_ (aF 3 5 (by decide) ?_ (aF 4 4 (by decide) ?_ (aF 5 3 (by decide) ?_ (aF 6 2 (by decide) ?_ (aF 7 1 (by decide) ?_ (aF 8 0 (by decide) ?_ (trivial)))))))))) [(2, .slice ad3 p2.length cp4), (7, .bool r7), (14, .slice ad55 r52.1.length cp56), (16, iv s67), (17, iv s82), (18, iv s83), (19, iv s84), (99, .bool (x101 == x106))] (fin_of [none, none, none, none, none, none, none, some 8] rfl (by kernel_rfl) (by kernel_rfl)) (fun _ a w S => ?_)
      · refine fI 91 (.slice ad55 r52.1.length cp56) [(14, .slice ad55 r52.1.length cp56)] 0 [none] rfl rfl rfl rfl rfl rfl fun G a w S => ?_
        refine sMove (.slice ad55 r52.1.length cp56) S (wN rfl) (.inl rfl) rfl rfl (lb rfl) fun a S => ?_
        exact leafL ⟨rfl, S⟩
      · refine fI 92 (iv s84) [(19, iv s84)] 1 [none] rfl rfl rfl rfl rfl rfl fun G a w S => ?_
        refine sMove (iv s84) S (wN rfl) (.inl rfl) rfl rfl (lb rfl) fun a S => ?_
        exact leafL ⟨rfl, S⟩
      · refine fI 93 q111 [(91, .slice ad55 r52.1.length cp56), (92, iv s84)] 2 [some 0, some 1] rfl rfl rfl rfl rfl rfl fun G a w S => ?_
        refine sIdxV (v := .slice ad55 r52.1.length cp56) (k := .i64) (j := s84) S (wN rfl) rfl rfl rfl hq112 rfl (lb rfl) fun a S => ?_
        exact leafL ⟨rfl, S⟩
      · refine fI 94 (iv x101) [(93, q111)] 3 [some 2] rfl rfl rfl rfl rfl rfl fun G a w S => ?_
        refine sLoadV1 (vq := q111) 3 (iv x101) S (wN rfl) rfl rfl rfl rfl rfl (lb rfl) fun a S => ?_
        exact leafL ⟨rfl, S⟩
      · refine fI 95 (.slice ad55 r52.1.length cp56) [(14, .slice ad55 r52.1.length cp56)] 4 [none] rfl rfl rfl rfl rfl rfl fun G a w S => ?_
        refine sMove (.slice ad55 r52.1.length cp56) S (wN rfl) (.inl rfl) rfl rfl (lb rfl) fun a S => ?_
        exact leafL ⟨rfl, S⟩
      · refine fI 96 (iv s67) [(16, iv s67)] 5 [none] rfl rfl rfl rfl rfl rfl fun G a w S => ?_
        refine sMove (iv s67) S (wN rfl) (.inl rfl) rfl rfl (lb rfl) fun a S => ?_
        exact leafL ⟨rfl, S⟩
      · refine fI 97 q114 [(95, .slice ad55 r52.1.length cp56), (96, iv s67)] 6 [some 4, some 5] rfl rfl rfl rfl rfl rfl fun G a w S => ?_
        refine sIdxV (v := .slice ad55 r52.1.length cp56) (k := .i64) (j := s67) S (wN rfl) rfl rfl rfl hq115 rfl (lb rfl) fun a S => ?_
        exact leafL ⟨rfl, S⟩
      · refine fI 98 (iv x106) [(97, q114)] 7 [some 6] rfl rfl rfl rfl rfl rfl fun G a w S => ?_
        refine sLoadV1 (vq := q114) 0 (iv x106) S (wN rfl) rfl rfl rfl rfl rfl (lb rfl) fun a S => ?_
        exact leafL ⟨rfl, S⟩
      · refine fI 99 (.bool (x101 == x106)) [(94, iv x101), (98, iv x106)] 8 [some 3, some 7] rfl rfl rfl rfl rfl rfl fun G a w S => ?_
        refine sBin (.bool (x101 == x106)) S (wN rfl) rfl rfl rfl (bEq _ _ _ _ .i64 x101 x106) rfl (lb rfl) fun a S => ?_
        exact leafL ⟨rfl, S⟩
      refine leafT (hK100 _ _ ?_)
      rcases iteSome h with ⟨hc117, h⟩ | ⟨hc117, h⟩
      rotate_left
      · refine sCondF S rfl hc117 ?_
        exact wp_skip (leafT (⟨s82, Option.some.inj h, S.fix [] [6, 7] (by decide) rfl rfl rfl⟩))
      refine sCondT S rfl hc117 ?_
      refine sRegion ?_
      refine sMove (iv s82) S (wN rfl) (.inl rfl) rfl rfl (lb rfl) fun a S => ?_
      refine sBin (iv (w64 (s82 + 1))) S (wN rfl) rfl rfl rfl (bAdd _ _ _ _ s82 1) rfl (lb rfl) fun a S => ?_
      refine sMove (iv (w64 (s82 + 1))) S (wN rfl) (.inr rfl) rfl rfl (lb rfl) fun a S => ?_
      exact leafL (leafT (⟨w64 (s82 + 1), Option.some.inj h, S.fix [] [6, 7] (by decide) rfl rfl rfl⟩))
    obtain ⟨o97, rfl, S⟩ := hI
    have h := g99
    clear g99
    try dsimp only at h
    refine sSeq (fun K118 hK118 => ?_)
    obtain ⟨x119, hx120, h⟩ := bindSome h
    obtain ⟨x124, hx125, h⟩ := bindSome h
    obtain ⟨q129, hq130, S⟩ := pIdx (P := Tryd.prog) (r := (rI .i64)) (v := .slice ad3 p2.length cp4) (xs := p2) (j := s84) 22 3 0 S Tryd.underlying22 rfl rfl hx120
    obtain ⟨u131, S⟩ := pLoad (r := (rI .i64)) (q := q129) (x := x119) 0 S rfl
    obtain rfl : u131 = iv x119 := S.mem.know (i := 1) (e := fRep (rI .i64) (u131) x119) rfl
    obtain ⟨q132, hq133, S⟩ := pIdx (P := Tryd.prog) (r := (rI .i64)) (v := .slice ad55 r52.1.length cp56) (xs := r52.1) (j := s67) 22 3 4 S Tryd.underlying22 rfl rfl hx125
    obtain ⟨u134, S⟩ := pLoad (r := (rI .i64)) (q := q132) (x := x124) 0 S rfl
    obtain rfl : u134 = iv x124 := S.mem.know (i := 1) (e := fRep (rI .i64) (u134) x124) rfl
    refine sDraw (nf := []) (W := [(0, 102, .slice ad3 p2.length cp4), (1, 103, iv s84), (2, 104, q129), (3, 105, iv x119), (4, 106, .slice ad55 r52.1.length cp56), (5, 107, iv s67), (6, 108, q132), (7, 109, iv x124), (8, 110, .bool (x119 == x124))]) rfl S ?_
    refine node_by (A := anc_raddlelaw38_ShortFits_0) (nf := []) (Y := []) (W := [(0, 102, .slice ad3 p2.length cp4), (1, 103, iv s84), (2, 104, q129), (3, 105, iv x119), (4, 106, .slice ad55 r52.1.length cp56), (5, 107, iv s67), (6, 108, q132), (7, 109, iv x124), (8, 110, .bool (x119 == x124))]) 9 (by kernel_rfl) (by kernel_rfl) (by kernel_rfl) (by kernel_rfl) (by kernel_rfl) [0, 1, 2, 3, 4, 5, 6, 7, 8] (by kernel_rfl) (by decide) (by decide) (aF 0 8 (by decide) ?_ (aF 1 7 (by decide) ?_ (aF 2 6 (by decide) ?_ (aF 3 5 (by decide) ?_ (aF 4 4 (by decide) ?_ (aF 5 3 (by decide) ?_ (aF 6 2 (by decide) ?_ (aF 7 1 (by decide) ?_ (aF 8 0 (by decide) ?_ (trivial)))))))))) [(2, .slice ad3 p2.length cp4), (7, .bool r7), (14, .slice ad55 r52.1.length cp56), (16, iv s67), (17, iv o97), (18, iv s83), (19, iv s84), (110, .bool (x119 == x124))] (fin_of [none, none, none, none, none, none, none, some 8] rfl (by kernel_rfl) (by kernel_rfl)) (fun _ a w S => ?_)
    · refine fI 102 (.slice ad3 p2.length cp4) [(2, .slice ad3 p2.length cp4)] 0 [none] rfl rfl rfl rfl rfl rfl fun G a w S => ?_
      refine sMove (.slice ad3 p2.length cp4) S (wN rfl) (.inl rfl) rfl rfl (lb rfl) fun a S => ?_
      exact leafL ⟨rfl, S⟩
    · refine fI 103 (iv s84) [(19, iv s84)] 1 [none] rfl rfl rfl rfl rfl rfl fun G a w S => ?_
      refine sMove (iv s84) S (wN rfl) (.inl rfl) rfl rfl (lb rfl) fun a S => ?_
      exact leafL ⟨rfl, S⟩
    · refine fI 104 q129 [(102, .slice ad3 p2.length cp4), (103, iv s84)] 2 [some 0, some 1] rfl rfl rfl rfl rfl rfl fun G a w S => ?_
      refine sIdxV (v := .slice ad3 p2.length cp4) (k := .i64) (j := s84) S (wN rfl) rfl rfl rfl hq130 rfl (lb rfl) fun a S => ?_
      exact leafL ⟨rfl, S⟩
    · refine fI 105 (iv x119) [(104, q129)] 3 [some 2] rfl rfl rfl rfl rfl rfl fun G a w S => ?_
      refine sLoadV1 (vq := q129) 3 (iv x119) S (wN rfl) rfl rfl rfl rfl rfl (lb rfl) fun a S => ?_
      exact leafL ⟨rfl, S⟩
    · refine fI 106 (.slice ad55 r52.1.length cp56) [(14, .slice ad55 r52.1.length cp56)] 4 [none] rfl rfl rfl rfl rfl rfl fun G a w S => ?_
      refine sMove (.slice ad55 r52.1.length cp56) S (wN rfl) (.inl rfl) rfl rfl (lb rfl) fun a S => ?_
      exact leafL ⟨rfl, S⟩
    · refine fI 107 (iv s67) [(16, iv s67)] 5 [none] rfl rfl rfl rfl rfl rfl fun G a w S => ?_
      refine sMove (iv s67) S (wN rfl) (.inl rfl) rfl rfl (lb rfl) fun a S => ?_
      exact leafL ⟨rfl, S⟩
    · refine fI 108 q132 [(106, .slice ad55 r52.1.length cp56), (107, iv s67)] 6 [some 4, some 5] rfl rfl rfl rfl rfl rfl fun G a w S => ?_
      refine sIdxV (v := .slice ad55 r52.1.length cp56) (k := .i64) (j := s67) S (wN rfl) rfl rfl rfl hq133 rfl (lb rfl) fun a S => ?_
      exact leafL ⟨rfl, S⟩
    · refine fI 109 (iv x124) [(108, q132)] 7 [some 6] rfl rfl rfl rfl rfl rfl fun G a w S => ?_
      refine sLoadV1 (vq := q132) 0 (iv x124) S (wN rfl) rfl rfl rfl rfl rfl (lb rfl) fun a S => ?_
      exact leafL ⟨rfl, S⟩
    · refine fI 110 (.bool (x119 == x124)) [(105, iv x119), (109, iv x124)] 8 [some 3, some 7] rfl rfl rfl rfl rfl rfl fun G a w S => ?_
      refine sBin (.bool (x119 == x124)) S (wN rfl) rfl rfl rfl (bEq _ _ _ _ .i64 x119 x124) rfl (lb rfl) fun a S => ?_
      exact leafL ⟨rfl, S⟩
    refine leafT (hK118 _ _ ?_)
    rcases iteSome h with ⟨hc135, h⟩ | ⟨hc135, h⟩
    rotate_left
    · refine sCondF S rfl hc135 ?_
      exact wp_skip (leafB (leafT (⟨o97, s83, Option.some.inj h, S.fix [] [6, 7] (by decide) rfl rfl rfl⟩)))
    refine sCondT S rfl hc135 ?_
    refine sRegion ?_
    refine sMove (iv s83) S (wN rfl) (.inl rfl) rfl rfl (lb rfl) fun a S => ?_
    refine sBin (iv (w64 (s83 + 1))) S (wN rfl) rfl rfl rfl (bAdd _ _ _ _ s83 1) rfl (lb rfl) fun a S => ?_
    refine sMove (iv (w64 (s83 + 1))) S (wN rfl) (.inr rfl) rfl rfl (lb rfl) fun a S => ?_
    exact leafL (leafB (leafT (⟨o97, w64 (s83 + 1), Option.some.inj h, S.fix [] [6, 7] (by decide) rfl rfl rfl⟩)))
  obtain ⟨o77, o78, rfl, S⟩ := hI
  have h := g80
  clear g80
  try dsimp only at h
  obtain ⟨t137, h, g138⟩ := bindSome h
  refine sCut (fun a w => ∃ o136, o136 = t137 ∧ St [] E [] w0 133 a w [(2, .slice ad3 p2.length cp4), (7, .bool r7), (14, .slice ad55 r52.1.length cp56), (16, iv s67), (131, .bool o136)] [] [fRep (rL (rI .i64)) (.slice ad3 p2.length cp4) p2, fRep (rL (rI .i64)) (.slice ad55 r52.1.length cp56) r52.1]) ?_ (fun a w hI => ?_)
  rotate_left
  · obtain ⟨o136, rfl, S⟩ := hI
    have h := g138
    clear g138
    try dsimp only at h
    rcases iteSome h with ⟨hc157, h⟩ | ⟨hc157, h⟩
    rotate_left
    · refine sCondF S rfl hc157 ?_
      exact wp_skip (leafB (leafT (⟨Option.some.inj h, S.fix [] [0, 1] (by decide) rfl rfl rfl⟩)))
    refine sCondT S rfl hc157 ?_
    refine sSeq (fun K158 hK158 => ?_)
    refine sRegion ?_
    refine sMove (.bool false) S (wN rfl) (.inr rfl) rfl rfl (lb rfl) fun a S => ?_
    refine leafL (leafT (hK158 _ _ ?_))
    obtain rfl := Option.some.inj h
    have h := g75
    clear g75
    try dsimp only at h
    obtain rfl := Option.some.inj h
    obtain rfl := hu68 _ rfl
    have h := g69
    clear g69
    try dsimp only at h
    obtain rfl := Option.some.inj h
    have h := g65
    clear g65
    try dsimp only at h
    obtain rfl := Option.some.inj h
    exact wp_ret (rBlock (rThen (rThen (rBlock (rThen (sRet (.bool false) S (rsl1 rfl (rvT (t := 6) (v := .bool false) S rfl)) ⟨(), rfl, S.mem.sel [] [] (by decide) rfl rfl⟩))))))
  rcases iteSome h with ⟨hc139, h⟩ | ⟨hc139, h⟩
  · refine sDraw (nf := []) (W := [(0, 113, iv o77), (1, 114, iv o78), (2, 115, .bool (o77 != o78)), (3, 116, .bool (o77 != o78)), (4, 117, undef), (5, 118, undef), (6, 119, undef), (7, 120, undef), (8, 121, undef), (9, 122, undef), (10, 123, undef), (11, 124, undef), (12, 125, undef), (13, 126, undef), (14, 127, undef), (15, 128, undef), (16, 129, undef), (17, 130, undef), (18, 131, .bool true)]) rfl S ?_
    refine node_by (A := anc_raddlelaw38_ShortFits_1) (nf := []) (Y := []) (W := [(0, 113, iv o77), (1, 114, iv o78), (2, 115, .bool (o77 != o78)), (3, 116, .bool (o77 != o78)), (4, 117, undef), (5, 118, undef), (6, 119, undef), (7, 120, undef), (8, 121, undef), (9, 122, undef), (10, 123, undef), (11, 124, undef), (12, 125, undef), (13, 126, undef), (14, 127, undef), (15, 128, undef), (16, 129, undef), (17, 130, undef), (18, 131, .bool true)]) 19 (by kernel_rfl) (by kernel_rfl) (by kernel_rfl) (by kernel_rfl) (by kernel_rfl) [0, 1, 2, 3, 4, 5, 6, 7, 8, 9, 10, 11, 12, 13, 14, 15, 16, 17, 18] (by kernel_rfl) (by decide) (by decide) (aF 0 18 (by decide) ?_ (aF 1 17 (by decide) ?_ (aF 2 16 (by decide) ?_ (aF 3 15 (by decide) ?_ (aF 4 14 (by decide) ?_ (aF 5 13 (by decide) ?_ (aF 6 12 (by decide) ?_ (aF 7 11 (by decide) ?_ (aF 8 10 (by decide) ?_ (aF 9 9 (by decide) ?_ (aF 10 8 (by decide) ?_ (aF 11 7 (by decide) ?_ (aF 12 6 (by decide) ?_ (aF 13 5 (by decide) ?_ (aF 14 4 (by decide) ?_ (aF 15 3 (by decide) ?_ (aF 16 2 (by decide) ?_ (aF 17 1 (by decide) ?_ (aF 18 0 (by decide) ?_ (trivial)))))))))))))))))))) [(2, .slice ad3 p2.length cp4), (7, .bool r7), (14, .slice ad55 r52.1.length cp56), (16, iv s67), (117, undef), (118, undef), (119, undef), (120, undef), (121, undef), (122, undef), (123, undef), (124, undef), (125, undef), (126, undef), (127, undef), (128, undef), (129, undef), (130, undef), (131, .bool true)] (fin_of [none, none, none, none, some 4, some 5, some 6, some 7, some 8, some 9, some 10, some 11, some 12, some 13, some 14, some 15, some 16, some 17, some 18] rfl (by kernel_rfl) (by kernel_rfl)) (fun _ a w S => ?_)
    · refine fI 113 (iv o77) [(17, iv o77)] 0 [none] rfl rfl rfl rfl rfl rfl fun G a w S => ?_
      refine sMove (iv o77) S (wN rfl) (.inl rfl) rfl rfl (lb rfl) fun a S => ?_
      exact leafL ⟨rfl, S⟩
    · refine fI 114 (iv o78) [(18, iv o78)] 1 [none] rfl rfl rfl rfl rfl rfl fun G a w S => ?_
      refine sMove (iv o78) S (wN rfl) (.inl rfl) rfl rfl (lb rfl) fun a S => ?_
      exact leafL ⟨rfl, S⟩
    · refine fI 115 (.bool (o77 != o78)) [(113, iv o77), (114, iv o78)] 2 [some 0, some 1] rfl rfl rfl rfl rfl rfl fun G a w S => ?_
      refine sBin (.bool (o77 != o78)) S (wN rfl) rfl rfl rfl (bNe _ _ _ _ .i64 o77 o78) rfl (lb rfl) fun a S => ?_
      exact leafL ⟨rfl, S⟩
    · refine fI 116 (.bool (o77 != o78)) [(115, .bool (o77 != o78))] 3 [some 2] rfl rfl rfl rfl rfl rfl fun G a w S => ?_
      refine sMove (.bool (o77 != o78)) S (wN rfl) (.inl rfl) rfl rfl (lb rfl) fun a S => ?_
      exact leafL ⟨rfl, S⟩
    · refine fI 117 undef [(16, iv s67), (116, .bool (o77 != o78))] 4 [none, some 3] rfl rfl rfl rfl rfl rfl fun G a w S => ?_
      refine sSkip 3 false 116 117 S rfl rfl rfl hc139 rfl (lb rfl) fun a S => ?_
      exact leafL ⟨rfl, S⟩
    · refine fI 118 undef [(117, undef), (116, .bool (o77 != o78))] 5 [some 4, some 3] rfl rfl rfl rfl rfl rfl fun G a w S => ?_
      refine sSkip 3 false 116 118 S rfl rfl rfl hc139 rfl (lb rfl) fun a S => ?_
      exact leafL ⟨rfl, S⟩
    · refine fI 119 undef [(118, undef), (116, .bool (o77 != o78))] 6 [some 5, some 3] rfl rfl rfl rfl rfl rfl fun G a w S => ?_
      refine sSkip 3 false 116 119 S rfl rfl rfl hc139 rfl (lb rfl) fun a S => ?_
      exact leafL ⟨rfl, S⟩
    · refine fI 120 undef [(14, .slice ad55 r52.1.length cp56), (119, undef)] 7 [none, some 6] rfl rfl rfl rfl rfl rfl fun G a w S => ?_
      refine sSkipU 6 true 119 120 S rfl rfl rfl rfl (lb rfl) fun a S => ?_
      exact leafL ⟨rfl, S⟩
    · refine fI 121 undef [(16, iv s67), (119, undef)] 8 [none, some 6] rfl rfl rfl rfl rfl rfl fun G a w S => ?_
      refine sSkipU 6 true 119 121 S rfl rfl rfl rfl (lb rfl) fun a S => ?_
      exact leafL ⟨rfl, S⟩
    · refine fI 122 undef [(120, undef), (121, undef), (119, undef)] 9 [some 7, some 8, some 6] rfl rfl rfl rfl rfl rfl fun G a w S => ?_
      refine sSkipU 6 true 119 122 S rfl rfl rfl rfl (lb rfl) fun a S => ?_
      exact leafL ⟨rfl, S⟩
    · refine fI 123 undef [(122, undef), (119, undef)] 10 [some 9, some 6] rfl rfl rfl rfl rfl rfl fun G a w S => ?_
      refine sSkipU 6 true 119 123 S rfl rfl rfl rfl (lb rfl) fun a S => ?_
      exact leafL ⟨rfl, S⟩
    · refine fI 124 undef [(14, .slice ad55 r52.1.length cp56), (119, undef)] 11 [none, some 6] rfl rfl rfl rfl rfl rfl fun G a w S => ?_
      refine sSkipU 6 true 119 124 S rfl rfl rfl rfl (lb rfl) fun a S => ?_
      exact leafL ⟨rfl, S⟩
    · refine fI 125 undef [(16, iv s67), (119, undef)] 12 [none, some 6] rfl rfl rfl rfl rfl rfl fun G a w S => ?_
      refine sSkipU 6 true 119 125 S rfl rfl rfl rfl (lb rfl) fun a S => ?_
      exact leafL ⟨rfl, S⟩
    · refine fI 126 undef [(125, undef), (119, undef)] 13 [some 12, some 6] rfl rfl rfl rfl rfl rfl fun G a w S => ?_
      refine sSkipU 6 true 119 126 S rfl rfl rfl rfl (lb rfl) fun a S => ?_
      exact leafL ⟨rfl, S⟩
    · refine fI 127 undef [(124, undef), (126, undef), (119, undef)] 14 [some 11, some 13, some 6] rfl rfl rfl rfl rfl rfl fun G a w S => ?_
      refine sSkipU 6 true 119 127 S rfl rfl rfl rfl (lb rfl) fun a S => ?_
      exact leafL ⟨rfl, S⟩
    · refine fI 128 undef [(127, undef), (119, undef)] 15 [some 14, some 6] rfl rfl rfl rfl rfl rfl fun G a w S => ?_
      refine sSkipU 6 true 119 128 S rfl rfl rfl rfl (lb rfl) fun a S => ?_
      exact leafL ⟨rfl, S⟩
    · refine fI 129 undef [(123, undef), (128, undef), (119, undef)] 16 [some 10, some 15, some 6] rfl rfl rfl rfl rfl rfl fun G a w S => ?_
      refine sSkipU 6 true 119 129 S rfl rfl rfl rfl (lb rfl) fun a S => ?_
      exact leafL ⟨rfl, S⟩
    · refine fI 130 undef [(119, undef), (129, undef), (116, .bool (o77 != o78))] 17 [some 6, some 16, some 3] rfl rfl rfl rfl rfl rfl fun G a w S => ?_
      refine sSkip 3 false 116 130 S rfl rfl rfl hc139 rfl (lb rfl) fun a S => ?_
      exact leafL ⟨rfl, S⟩
    · refine fI 131 (.bool true) [(116, .bool (o77 != o78)), (130, undef)] 18 [some 3, some 17] rfl rfl rfl rfl rfl rfl fun G a w S => ?_
      refine sPickT (.bool true) S (wN rfl) rfl rfl hc139 rfl rfl (lb rfl) fun a S => ?_
      exact leafL ⟨rfl, S⟩
    exact leafT (⟨true, Option.some.inj h, S.fix [] [0, 1] (by decide) rfl rfl rfl⟩)
  rcases iteSome h with ⟨hc140, h⟩ | ⟨hc140, h⟩
  rotate_left
  · refine sDraw (nf := []) (W := [(0, 113, iv o77), (1, 114, iv o78), (2, 115, .bool (o77 != o78)), (3, 116, .bool (o77 != o78)), (4, 117, iv s67), (5, 118, .bool (decide (0 < s67))), (6, 119, .bool (decide (0 < s67))), (7, 120, undef), (8, 121, undef), (9, 122, undef), (10, 123, undef), (11, 124, undef), (12, 125, undef), (13, 126, undef), (14, 127, undef), (15, 128, undef), (16, 129, undef), (17, 130, .bool false), (18, 131, .bool false)]) rfl S ?_
    refine node_by (A := anc_raddlelaw38_ShortFits_1) (nf := []) (Y := []) (W := [(0, 113, iv o77), (1, 114, iv o78), (2, 115, .bool (o77 != o78)), (3, 116, .bool (o77 != o78)), (4, 117, iv s67), (5, 118, .bool (decide (0 < s67))), (6, 119, .bool (decide (0 < s67))), (7, 120, undef), (8, 121, undef), (9, 122, undef), (10, 123, undef), (11, 124, undef), (12, 125, undef), (13, 126, undef), (14, 127, undef), (15, 128, undef), (16, 129, undef), (17, 130, .bool false), (18, 131, .bool false)]) 19 (by kernel_rfl) (by kernel_rfl) (by kernel_rfl) (by kernel_rfl) (by kernel_rfl) [0, 1, 2, 3, 4, 5, 6, 7, 8, 9, 10, 11, 12, 13, 14, 15, 16, 17, 18] (by kernel_rfl) (by decide) (by decide) (aF 0 18 (by decide) ?_ (aF 1 17 (by decide) ?_ (aF 2 16 (by decide) ?_ (aF 3 15 (by decide) ?_ (aF 4 14 (by decide) ?_ (aF 5 13 (by decide) ?_ (aF 6 12 (by decide) ?_ (aF 7 11 (by decide) ?_ (aF 8 10 (by decide) ?_ (aF 9 9 (by decide) ?_ (aF 10 8 (by decide) ?_ (aF 11 7 (by decide) ?_ (aF 12 6 (by decide) ?_ (aF 13 5 (by decide) ?_ (aF 14 4 (by decide) ?_ (aF 15 3 (by decide) ?_ (aF 16 2 (by decide) ?_ (aF 17 1 (by decide) ?_ (aF 18 0 (by decide) ?_ (trivial)))))))))))))))))))) [(2, .slice ad3 p2.length cp4), (7, .bool r7), (14, .slice ad55 r52.1.length cp56), (16, iv s67), (117, iv s67), (118, .bool (decide (0 < s67))), (119, .bool (decide (0 < s67))), (120, undef), (121, undef), (122, undef), (123, undef), (124, undef), (125, undef), (126, undef), (127, undef), (128, undef), (129, undef), (130, .bool false), (131, .bool false)] (fin_of [none, none, none, none, some 4, some 5, some 6, some 7, some 8, some 9, some 10, some 11, some 12, some 13, some 14, some 15, some 16, some 17, some 18] rfl (by kernel_rfl) (by kernel_rfl)) (fun _ a w S => ?_)
    · refine fI 113 (iv o77) [(17, iv o77)] 0 [none] rfl rfl rfl rfl rfl rfl fun G a w S => ?_
      refine sMove (iv o77) S (wN rfl) (.inl rfl) rfl rfl (lb rfl) fun a S => ?_
      exact leafL ⟨rfl, S⟩
    · refine fI 114 (iv o78) [(18, iv o78)] 1 [none] rfl rfl rfl rfl rfl rfl fun G a w S => ?_
      refine sMove (iv o78) S (wN rfl) (.inl rfl) rfl rfl (lb rfl) fun a S => ?_
      exact leafL ⟨rfl, S⟩
    · refine fI 115 (.bool (o77 != o78)) [(113, iv o77), (114, iv o78)] 2 [some 0, some 1] rfl rfl rfl rfl rfl rfl fun G a w S => ?_
      refine sBin (.bool (o77 != o78)) S (wN rfl) rfl rfl rfl (bNe _ _ _ _ .i64 o77 o78) rfl (lb rfl) fun a S => ?_
      exact leafL ⟨rfl, S⟩
    · refine fI 116 (.bool (o77 != o78)) [(115, .bool (o77 != o78))] 3 [some 2] rfl rfl rfl rfl rfl rfl fun G a w S => ?_
      refine sMove (.bool (o77 != o78)) S (wN rfl) (.inl rfl) rfl rfl (lb rfl) fun a S => ?_
      exact leafL ⟨rfl, S⟩
    · refine fI 117 (iv s67) [(16, iv s67), (116, .bool (o77 != o78))] 4 [none, some 3] rfl rfl rfl rfl rfl rfl fun G a w S => ?_
      refine sMove (iv s67) S (wG 3 false 116 rfl rfl rfl hc139) (.inl rfl) rfl rfl (lb rfl) fun a S => ?_
      exact leafL ⟨rfl, S⟩
    · refine fI 118 (.bool (decide (0 < s67))) [(117, iv s67), (116, .bool (o77 != o78))] 5 [some 4, some 3] rfl rfl rfl rfl rfl rfl fun G a w S => ?_
      refine sBin (.bool (decide (0 < s67))) S (wG 3 false 116 rfl rfl rfl hc139) rfl rfl rfl (bGt _ _ _ _ .i64 s67 0) rfl (lb rfl) fun a S => ?_
      exact leafL ⟨rfl, S⟩
    · refine fI 119 (.bool (decide (0 < s67))) [(118, .bool (decide (0 < s67))), (116, .bool (o77 != o78))] 6 [some 5, some 3] rfl rfl rfl rfl rfl rfl fun G a w S => ?_
      refine sMove (.bool (decide (0 < s67))) S (wG 3 false 116 rfl rfl rfl hc139) (.inl rfl) rfl rfl (lb rfl) fun a S => ?_
      exact leafL ⟨rfl, S⟩
    · refine fI 120 undef [(14, .slice ad55 r52.1.length cp56), (119, .bool (decide (0 < s67)))] 7 [none, some 6] rfl rfl rfl rfl rfl rfl fun G a w S => ?_
      refine sSkip 6 true 119 120 S rfl rfl rfl hc140 rfl (lb rfl) fun a S => ?_
      exact leafL ⟨rfl, S⟩
    · refine fI 121 undef [(16, iv s67), (119, .bool (decide (0 < s67)))] 8 [none, some 6] rfl rfl rfl rfl rfl rfl fun G a w S => ?_
      refine sSkip 6 true 119 121 S rfl rfl rfl hc140 rfl (lb rfl) fun a S => ?_
      exact leafL ⟨rfl, S⟩
    · refine fI 122 undef [(120, undef), (121, undef), (119, .bool (decide (0 < s67)))] 9 [some 7, some 8, some 6] rfl rfl rfl rfl rfl rfl fun G a w S => ?_
      refine sSkip 6 true 119 122 S rfl rfl rfl hc140 rfl (lb rfl) fun a S => ?_
      exact leafL ⟨rfl, S⟩
    · refine fI 123 undef [(122, undef), (119, .bool (decide (0 < s67)))] 10 [some 9, some 6] rfl rfl rfl rfl rfl rfl fun G a w S => ?_
      refine sSkip 6 true 119 123 S rfl rfl rfl hc140 rfl (lb rfl) fun a S => ?_
      exact leafL ⟨rfl, S⟩
    · refine fI 124 undef [(14, .slice ad55 r52.1.length cp56), (119, .bool (decide (0 < s67)))] 11 [none, some 6] rfl rfl rfl rfl rfl rfl fun G a w S => ?_
      refine sSkip 6 true 119 124 S rfl rfl rfl hc140 rfl (lb rfl) fun a S => ?_
      exact leafL ⟨rfl, S⟩
    · refine fI 125 undef [(16, iv s67), (119, .bool (decide (0 < s67)))] 12 [none, some 6] rfl rfl rfl rfl rfl rfl fun G a w S => ?_
      refine sSkip 6 true 119 125 S rfl rfl rfl hc140 rfl (lb rfl) fun a S => ?_
      exact leafL ⟨rfl, S⟩
    · refine fI 126 undef [(125, undef), (119, .bool (decide (0 < s67)))] 13 [some 12, some 6] rfl rfl rfl rfl rfl rfl fun G a w S => ?_
      refine sSkip 6 true 119 126 S rfl rfl rfl hc140 rfl (lb rfl) fun a S => ?_
      exact leafL ⟨rfl, S⟩
    · refine fI 127 undef [(124, undef), (126, undef), (119, .bool (decide (0 < s67)))] 14 [some 11, some 13, some 6] rfl rfl rfl rfl rfl rfl fun G a w S => ?_
      refine sSkip 6 true 119 127 S rfl rfl rfl hc140 rfl (lb rfl) fun a S => ?_
      exact leafL ⟨rfl, S⟩
    · refine fI 128 undef [(127, undef), (119, .bool (decide (0 < s67)))] 15 [some 14, some 6] rfl rfl rfl rfl rfl rfl fun G a w S => ?_
      refine sSkip 6 true 119 128 S rfl rfl rfl hc140 rfl (lb rfl) fun a S => ?_
      exact leafL ⟨rfl, S⟩
    · refine fI 129 undef [(123, undef), (128, undef), (119, .bool (decide (0 < s67)))] 16 [some 10, some 15, some 6] rfl rfl rfl rfl rfl rfl fun G a w S => ?_
      refine sSkip 6 true 119 129 S rfl rfl rfl hc140 rfl (lb rfl) fun a S => ?_
      exact leafL ⟨rfl, S⟩
    · refine fI 130 (.bool false) [(119, .bool (decide (0 < s67))), (129, undef), (116, .bool (o77 != o78))] 17 [some 6, some 16, some 3] rfl rfl rfl rfl rfl rfl fun G a w S => ?_
      refine sPickF (.bool false) S (wG 3 false 116 rfl rfl rfl hc139) rfl rfl hc140 rfl rfl (lb rfl) fun a S => ?_
      exact leafL ⟨rfl, S⟩
    · refine fI 131 (.bool false) [(116, .bool (o77 != o78)), (130, .bool false)] 18 [some 3, some 17] rfl rfl rfl rfl rfl rfl fun G a w S => ?_
      refine sPickF (.bool false) S (wN rfl) rfl rfl hc139 rfl rfl (lb rfl) fun a S => ?_
      exact leafL ⟨rfl, S⟩
    exact leafT (⟨false, Option.some.inj h, S.fix [] [0, 1] (by decide) rfl rfl rfl⟩)
  obtain ⟨x141, hx142, h⟩ := bindSome h
  obtain ⟨x146, hx147, h⟩ := bindSome h
  obtain ⟨q151, hq152, S⟩ := pIdx (P := Tryd.prog) (r := (rI .i64)) (v := .slice ad55 r52.1.length cp56) (xs := r52.1) (j := s67) 22 3 1 S Tryd.underlying22 rfl rfl hx142
  obtain ⟨u153, S⟩ := pLoad (r := (rI .i64)) (q := q151) (x := x141) 0 S rfl
  obtain rfl : u153 = iv x141 := S.mem.know (i := 1) (e := fRep (rI .i64) (u153) x141) rfl
  obtain ⟨q154, hq155, S⟩ := pIdx (P := Tryd.prog) (r := (rI .i64)) (v := .slice ad55 r52.1.length cp56) (xs := r52.1) (j := w64 (s67 - 1)) 22 3 4 S Tryd.underlying22 rfl rfl hx147
  obtain ⟨u156, S⟩ := pLoad (r := (rI .i64)) (q := q154) (x := x146) 0 S rfl
  obtain rfl : u156 = iv x146 := S.mem.know (i := 1) (e := fRep (rI .i64) (u156) x146) rfl
  refine sDraw (nf := []) (W := [(0, 113, iv o77), (1, 114, iv o78), (2, 115, .bool (o77 != o78)), (3, 116, .bool (o77 != o78)), (4, 117, iv s67), (5, 118, .bool (decide (0 < s67))), (6, 119, .bool (decide (0 < s67))), (7, 120, .slice ad55 r52.1.length cp56), (8, 121, iv s67), (9, 122, q151), (10, 123, iv x141), (11, 124, .slice ad55 r52.1.length cp56), (12, 125, iv s67), (13, 126, iv (w64 (s67 - 1))), (14, 127, q154), (15, 128, iv x146), (16, 129, .bool (decide (x146 < x141))), (17, 130, .bool (decide (x146 < x141))), (18, 131, .bool (decide (x146 < x141)))]) rfl S ?_
  refine node_by (A := anc_raddlelaw38_ShortFits_1) (nf := []) (Y := []) (W := [(0, 113, iv o77), (1, 114, iv o78), (2, 115, .bool (o77 != o78)), (3, 116, .bool (o77 != o78)), (4, 117, iv s67), (5, 118, .bool (decide (0 < s67))), (6, 119, .bool (decide (0 < s67))), (7, 120, .slice ad55 r52.1.length cp56), (8, 121, iv s67), (9, 122, q151), (10, 123, iv x141), (11, 124, .slice ad55 r52.1.length cp56), (12, 125, iv s67), (13, 126, iv (w64 (s67 - 1))), (14, 127, q154), (15, 128, iv x146), (16, 129, .bool (decide (x146 < x141))), (17, 130, .bool (decide (x146 < x141))), (18, 131, .bool (decide (x146 < x141)))]) 19 (by kernel_rfl) (by kernel_rfl) (by kernel_rfl) (by kernel_rfl) (by kernel_rfl) [0, 1, 2, 3, 4, 5, 6, 7, 8, 9, 10, 11, 12, 13, 14, 15, 16, 17, 18] (by kernel_rfl) (by decide) (by decide) (aF 0 18 (by decide) ?_ (aF 1 17 (by decide) ?_ (aF 2 16 (by decide) ?_ (aF 3 15 (by decide) ?_ (aF 4 14 (by decide) ?_ (aF 5 13 (by decide) ?_ (aF 6 12 (by decide) ?_ (aF 7 11 (by decide) ?_ (aF 8 10 (by decide) ?_ (aF 9 9 (by decide) ?_ (aF 10 8 (by decide) ?_ (aF 11 7 (by decide) ?_ (aF 12 6 (by decide) ?_ (aF 13 5 (by decide) ?_ (aF 14 4 (by decide) ?_ (aF 15 3 (by decide) ?_ (aF 16 2 (by decide) ?_ (aF 17 1 (by decide) ?_ (aF 18 0 (by decide) ?_ (trivial)))))))))))))))))))) [(2, .slice ad3 p2.length cp4), (7, .bool r7), (14, .slice ad55 r52.1.length cp56), (16, iv s67), (117, iv s67), (118, .bool (decide (0 < s67))), (119, .bool (decide (0 < s67))), (120, .slice ad55 r52.1.length cp56), (121, iv s67), (122, q151), (123, iv x141), (124, .slice ad55 r52.1.length cp56), (125, iv s67), (126, iv (w64 (s67 - 1))), (127, q154), (128, iv x146), (129, .bool (decide (x146 < x141))), (130, .bool (decide (x146 < x141))), (131, .bool (decide (x146 < x141)))] (fin_of [none, none, none, none, some 4, some 5, some 6, some 7, some 8, some 9, some 10, some 11, some 12, some 13, some 14, some 15, some 16, some 17, some 18] rfl (by kernel_rfl) (by kernel_rfl)) (fun _ a w S => ?_)
  · refine fI 113 (iv o77) [(17, iv o77)] 0 [none] rfl rfl rfl rfl rfl rfl fun G a w S => ?_
    refine sMove (iv o77) S (wN rfl) (.inl rfl) rfl rfl (lb rfl) fun a S => ?_
    exact leafL ⟨rfl, S⟩
  · refine fI 114 (iv o78) [(18, iv o78)] 1 [none] rfl rfl rfl rfl rfl rfl fun G a w S => ?_
    refine sMove (iv o78) S (wN rfl) (.inl rfl) rfl rfl (lb rfl) fun a S => ?_
    exact leafL ⟨rfl, S⟩
  · refine fI 115 (.bool (o77 != o78)) [(113, iv o77), (114, iv o78)] 2 [some 0, some 1] rfl rfl rfl rfl rfl rfl fun G a w S => ?_
    refine sBin (.bool (o77 != o78)) S (wN rfl) rfl rfl rfl (bNe _ _ _ _ .i64 o77 o78) rfl (lb rfl) fun a S => ?_
    exact leafL ⟨rfl, S⟩
  · refine fI 116 (.bool (o77 != o78)) [(115, .bool (o77 != o78))] 3 [some 2] rfl rfl rfl rfl rfl rfl fun G a w S => ?_
    refine sMove (.bool (o77 != o78)) S (wN rfl) (.inl rfl) rfl rfl (lb rfl) fun a S => ?_
    exact leafL ⟨rfl, S⟩
  · refine fI 117 (iv s67) [(16, iv s67), (116, .bool (o77 != o78))] 4 [none, some 3] rfl rfl rfl rfl rfl rfl fun G a w S => ?_
    refine sMove (iv s67) S (wG 3 false 116 rfl rfl rfl hc139) (.inl rfl) rfl rfl (lb rfl) fun a S => ?_
    exact leafL ⟨rfl, S⟩
  · refine fI 118 (.bool (decide (0 < s67))) [(117, iv s67), (116, .bool (o77 != o78))] 5 [some 4, some 3] rfl rfl rfl rfl rfl rfl fun G a w S => ?_
    refine sBin (.bool (decide (0 < s67))) S (wG 3 false 116 rfl rfl rfl hc139) rfl rfl rfl (bGt _ _ _ _ .i64 s67 0) rfl (lb rfl) fun a S => ?_
    exact leafL ⟨rfl, S⟩
  · refine fI 119 (.bool (decide (0 < s67))) [(118, .bool (decide (0 < s67))), (116, .bool (o77 != o78))] 6 [some 5, some 3] rfl rfl rfl rfl rfl rfl fun G a w S => ?_
    refine sMove (.bool (decide (0 < s67))) S (wG 3 false 116 rfl rfl rfl hc139) (.inl rfl) rfl rfl (lb rfl) fun a S => ?_
    exact leafL ⟨rfl, S⟩
  · refine fI 120 (.slice ad55 r52.1.length cp56) [(14, .slice ad55 r52.1.length cp56), (119, .bool (decide (0 < s67)))] 7 [none, some 6] rfl rfl rfl rfl rfl rfl fun G a w S => ?_
    refine sMove (.slice ad55 r52.1.length cp56) S (wG 6 true 119 rfl rfl rfl hc140) (.inl rfl) rfl rfl (lb rfl) fun a S => ?_
    exact leafL ⟨rfl, S⟩
  · refine fI 121 (iv s67) [(16, iv s67), (119, .bool (decide (0 < s67)))] 8 [none, some 6] rfl rfl rfl rfl rfl rfl fun G a w S => ?_
    refine sMove (iv s67) S (wG 6 true 119 rfl rfl rfl hc140) (.inl rfl) rfl rfl (lb rfl) fun a S => ?_
    exact leafL ⟨rfl, S⟩
  · refine fI 122 q151 [(120, .slice ad55 r52.1.length cp56), (121, iv s67), (119, .bool (decide (0 < s67)))] 9 [some 7, some 8, some 6] rfl rfl rfl rfl rfl rfl fun G a w S => ?_
    refine sIdxV (v := .slice ad55 r52.1.length cp56) (k := .i64) (j := s67) S (wG 6 true 119 rfl rfl rfl hc140) rfl rfl rfl hq152 rfl (lb rfl) fun a S => ?_
    exact leafL ⟨rfl, S⟩
  · refine fI 123 (iv x141) [(122, q151), (119, .bool (decide (0 < s67)))] 10 [some 9, some 6] rfl rfl rfl rfl rfl rfl fun G a w S => ?_
    refine sLoadV1 (vq := q151) 3 (iv x141) S (wG 6 true 119 rfl rfl rfl hc140) rfl rfl rfl rfl rfl (lb rfl) fun a S => ?_
    exact leafL ⟨rfl, S⟩
  · refine fI 124 (.slice ad55 r52.1.length cp56) [(14, .slice ad55 r52.1.length cp56), (119, .bool (decide (0 < s67)))] 11 [none, some 6] rfl rfl rfl rfl rfl rfl fun G a w S => ?_
    refine sMove (.slice ad55 r52.1.length cp56) S (wG 6 true 119 rfl rfl rfl hc140) (.inl rfl) rfl rfl (lb rfl) fun a S => ?_
    exact leafL ⟨rfl, S⟩
  · refine fI 125 (iv s67) [(16, iv s67), (119, .bool (decide (0 < s67)))] 12 [none, some 6] rfl rfl rfl rfl rfl rfl fun G a w S => ?_
    refine sMove (iv s67) S (wG 6 true 119 rfl rfl rfl hc140) (.inl rfl) rfl rfl (lb rfl) fun a S => ?_
    exact leafL ⟨rfl, S⟩
  · refine fI 126 (iv (w64 (s67 - 1))) [(125, iv s67), (119, .bool (decide (0 < s67)))] 13 [some 12, some 6] rfl rfl rfl rfl rfl rfl fun G a w S => ?_
    refine sBin (iv (w64 (s67 - 1))) S (wG 6 true 119 rfl rfl rfl hc140) rfl rfl rfl (bSub _ _ _ _ s67 1) rfl (lb rfl) fun a S => ?_
    exact leafL ⟨rfl, S⟩
  · refine fI 127 q154 [(124, .slice ad55 r52.1.length cp56), (126, iv (w64 (s67 - 1))), (119, .bool (decide (0 < s67)))] 14 [some 11, some 13, some 6] rfl rfl rfl rfl rfl rfl fun G a w S => ?_
    refine sIdxV (v := .slice ad55 r52.1.length cp56) (k := .i64) (j := w64 (s67 - 1)) S (wG 6 true 119 rfl rfl rfl hc140) rfl rfl rfl hq155 rfl (lb rfl) fun a S => ?_
    exact leafL ⟨rfl, S⟩
  · refine fI 128 (iv x146) [(127, q154), (119, .bool (decide (0 < s67)))] 15 [some 14, some 6] rfl rfl rfl rfl rfl rfl fun G a w S => ?_
    refine sLoadV1 (vq := q154) 0 (iv x146) S (wG 6 true 119 rfl rfl rfl hc140) rfl rfl rfl rfl rfl (lb rfl) fun a S => ?_
    exact leafL ⟨rfl, S⟩
  · refine fI 129 (.bool (decide (x146 < x141))) [(123, iv x141), (128, iv x146), (119, .bool (decide (0 < s67)))] 16 [some 10, some 15, some 6] rfl rfl rfl rfl rfl rfl fun G a w S => ?_
    refine sBin (.bool (decide (x146 < x141))) S (wG 6 true 119 rfl rfl rfl hc140) rfl rfl rfl (bGt _ _ _ _ .i64 x141 x146) rfl (lb rfl) fun a S => ?_
    exact leafL ⟨rfl, S⟩
  · refine fI 130 (.bool (decide (x146 < x141))) [(119, .bool (decide (0 < s67))), (129, .bool (decide (x146 < x141))), (116, .bool (o77 != o78))] 17 [some 6, some 16, some 3] rfl rfl rfl rfl rfl rfl fun G a w S => ?_
    refine sPickT (.bool (decide (x146 < x141))) S (wG 3 false 116 rfl rfl rfl hc139) rfl rfl hc140 rfl rfl (lb rfl) fun a S => ?_
    exact leafL ⟨rfl, S⟩
  · refine fI 131 (.bool (decide (x146 < x141))) [(116, .bool (o77 != o78)), (130, .bool (decide (x146 < x141)))] 18 [some 3, some 17] rfl rfl rfl rfl rfl rfl fun G a w S => ?_
    refine sPickF (.bool (decide (x146 < x141))) S (wN rfl) rfl rfl hc139 rfl rfl (lb rfl) fun a S => ?_
    exact leafL ⟨rfl, S⟩
  exact leafT (⟨decide (x146 < x141), Option.some.inj h, S.fix [] [6, 7] (by decide) rfl rfl rfl⟩)

end Go.Proofs.YtoiehdlcfehmlaaDoor
namespace Go.Proofs.YtoiehdlcfehmlaaDoor
open Go.RowKit
set_option linter.unusedVariables false

def dsc (l : List Int) : Prop := l.Pairwise (fun x y => y ≤ x)
theorem conj_iff {l : List Int} (hd : dsc l) {k : Nat} (hk : k < l.length) (i : Int) : k < cgt i l ↔ i < l[k] := by
  induction l generalizing k with
  | nil => simp at hk
  | cons p l ih =>
    obtain ⟨h1, h2⟩ := List.pairwise_cons.1 hd
    simp only [cgt]
    by_cases hp : i < p
    · rw [if_pos hp]
      cases k with
      | zero => simp [hp]
      | succ k =>
        have := ih h2 (k := k) (by simpa using hk)
        simp only [List.getElem_cons_succ]
        omega
    · rw [if_neg hp, cgt_top (v := i) fun q hq => by have := h1 q hq; omega]
      cases k with
      | zero => simp; omega
      | succ k =>
        have := h1 _ (List.getElem_mem (show k < l.length by simpa using hk))
        simp only [List.getElem_cons_succ]
        omega
theorem cgt_cut (f : Nat → Int) (k : Int) (m : Nat) (H : Nat) (h : ∀ i, i < m → (k < f i ↔ i < H)) : cgt k ((List.range m).map f) = min m H := by
  induction m with
  | zero => simp [cgt]
  | succ m ih =>
    rw [List.range_succ, List.map_append, cgt_app, ih fun i hi => h i (by omega)]
    have := h m (by omega)
    simp only [List.map_cons, List.map_nil, cgt]
    by_cases e : m < H
    · rw [if_pos (this.2 e)]; omega
    · rw [if_neg (fun x => e (this.1 x))]; omega
def fok (l : List Int) : Prop := (∀ x, x ∈ l → 0 ≤ x ∧ x ≤ 50) ∧ ∀ k (hk : k < l.length), 0 < k → l[k] ≤ l[k - 1]'(by omega)
theorem fok_dsc {l : List Int} (h : fok l) : dsc l := by
  have step : ∀ j i (hj : j < l.length) (hij : i < j), l[j] ≤ l[i]'(by omega) := by
    intro j
    induction j with
    | zero => intro i _ hi; omega
    | succ j ih =>
      intro i hj hij
      have h1 := h.2 (j + 1) hj (by omega)
      simp only [Nat.add_sub_cancel] at h1
      by_cases e : i = j
      · subst e; exact h1
      · have := ih i (by omega) (by omega)
        omega
  exact List.pairwise_iff_getElem.2 fun i j hi hj hij => step j i hj hij
open Classical in
theorem fit_eq (l : List Int) : ∃ r, F_short_Fit l = some r ∧ (r.2 = 0 ∨ r.2 ≠ 0) ∧ ((l.length ≤ 200 ∧ 0 < l.length ∧ fok l) → r = (hts (l.getD 0 0) l, 0)) ∧ (r.2 = 0 → l.length ≤ 200 ∧ 0 < l.length ∧ fok l) := by
  unfold F_short_Fit
  by_cases h1 : 200 < l.length
  · exact ⟨([], 4), by simp only [dT (show (200 : Int) < (l.length : Int) by omega), if_true], .inr (by simp), fun h => (by omega), fun h => (by cases h)⟩
  simp only [dF (show ¬ (200 : Int) < (l.length : Int) by omega), Bool.false_eq_true, if_false]
  by_cases h2 : l.length = 0
  · exact ⟨([], 2), by simp only [bT (show (l.length : Int) = 0 by omega), if_true], .inr (by simp), fun h => (by omega), fun h => (by cases h)⟩
  simp only [bF (show ¬ (l.length : Int) = 0 by omega), Bool.false_eq_true, if_false]
  have l1 : whileO (short_Fit_l1 l) 0 = some (if (List.range l.length).all (fun k => decide ((0 ≤ l.getD k 0 ∧ l.getD k 0 ≤ 50) ∧ (0 < k → l.getD k 0 ≤ l.getD (k - 1) 0))) = true then .inr () else .inl ([], 2)) := by
    refine loop_all l.length _ _ _ ?_ ?_
    · intro k hk
      unfold short_Fit_l1
      simp only [dT (show (k : Int) < (l.length : Int) by omega), if_true, idxO_nat hk, Option.bind_some, within_eq, getD_of _ hk, w64_succ (show k < 9223372036854775807 by omega)]
      by_cases c1 : 0 ≤ l[k] ∧ l[k] ≤ 50
      case neg => simp only [dF c1, Bool.not_false, if_true, Option.bind_some, dF (show ¬ ((0 ≤ l[k] ∧ l[k] ≤ 50) ∧ (0 < k → l[k] ≤ l.getD (k - 1) 0)) from fun h => c1 h.1), Bool.false_eq_true, if_false]
      simp only [dT c1, Bool.not_true, Bool.false_eq_true, if_false]
      by_cases c2 : 0 < k
      case neg => simp only [dF (show ¬ (0 : Int) < (k : Int) by omega), Bool.false_eq_true, if_false, Option.bind_some, dT (show ((0 ≤ l[k] ∧ l[k] ≤ 50) ∧ (0 < k → l[k] ≤ l.getD (k - 1) 0)) from ⟨c1, fun h => absurd h c2⟩), if_true]
      have e1 : w64 ((k : Int) - 1) = ((k - 1 : Nat) : Int) := by rw [w64_of (by omega) (by omega)]; omega
      simp only [dT (show (0 : Int) < (k : Int) by omega), if_true, e1, idxO_nat (show k - 1 < l.length by omega), Option.bind_some, getD_of 0 (show k - 1 < l.length by omega)]
      by_cases c3 : l[k - 1] < l[k]
      · simp only [dT c3, if_true, dF (show ¬ ((0 ≤ l[k] ∧ l[k] ≤ 50) ∧ (0 < k → l[k] ≤ l[k - 1])) from fun h => by have := h.2 c2; omega), Bool.false_eq_true, if_false]
      · simp only [dF c3, if_true, dT (show ((0 ≤ l[k] ∧ l[k] ≤ 50) ∧ (0 < k → l[k] ≤ l[k - 1])) from ⟨c1, fun _ => by omega⟩), Bool.false_eq_true, if_false]
    · unfold short_Fit_l1
      simp only [dF (show ¬ (l.length : Int) < (l.length : Int) by omega), Bool.false_eq_true, if_false]
  have hall : (List.range l.length).all (fun k => decide ((0 ≤ l.getD k 0 ∧ l.getD k 0 ≤ 50) ∧ (0 < k → l.getD k 0 ≤ l.getD (k - 1) 0))) = true ↔ fok l := by
    rw [List.all_eq_true]
    constructor
    · intro h
      refine ⟨fun x hx => ?_, fun k hk hk0 => ?_⟩
      · obtain ⟨k, hk, rfl⟩ := List.getElem_of_mem hx
        have := of_decide_eq_true (h k (List.mem_range.2 hk))
        rw [getD_of _ hk] at this
        exact this.1
      · have := of_decide_eq_true (h k (List.mem_range.2 hk))
        rw [getD_of _ hk, getD_of _ (show k - 1 < l.length by omega)] at this
        exact this.2 hk0
    · intro h k hk
      have hk := List.mem_range.1 hk
      rw [getD_of _ hk]
      refine decide_eq_true ⟨h.1 _ (List.getElem_mem hk), fun h0 => ?_⟩
      rw [getD_of _ (show k - 1 < l.length by omega)]
      exact h.2 k hk h0
  rw [l1]
  by_cases hf : fok l
  case neg =>
    rw [if_neg (fun h => hf (hall.1 h))]
    exact ⟨_, rfl, .inr (by simp), fun h => absurd h.2.2 hf, fun h => by cases h⟩
  rw [if_pos (hall.2 hf)]
  have hd := fok_dsc hf
  have h0 := hf.1 _ (List.getElem_mem (show 0 < l.length by omega))
  obtain ⟨H, hH⟩ : ∃ H : Nat, l[0]'(by omega) = H := ⟨(l[0]'(by omega)).toNat, by omega⟩
  have cpos : ∀ i : Nat, i < H → 0 < cgt (i : Int) l := fun i hi => (conj_iff hd (by omega) _).2 (by omega)
  have l2 : ∀ (i : Nat), i < H → whileO (short_Fit_l2 l ((i : Int) + 1)) (l.length : Int) = some (cgt (i : Int) l : Int) := by
    intro i hi
    have hc := cpos i hi
    have hcl := cgt_le (i : Int) l
    have key : ∀ m p : Nat, p = cgt (i : Int) l + m → p ≤ l.length → whileO (short_Fit_l2 l ((i : Int) + 1)) (p : Int) = some (cgt (i : Int) l : Int) := by
      intro m
      induction m with
      | zero =>
        intro p hp hpl
        have e1 : w64 ((p : Int) - 1) = ((p - 1 : Nat) : Int) := by rw [w64_of (by omega) (by omega)]; omega
        have hx := (conj_iff hd (k := p - 1) (by omega) (i : Int)).1 (by omega)
        refine whileO_done ?_
        unfold short_Fit_l2
        simp only [e1, idxO_nat (show p - 1 < l.length by omega), Option.bind_some, dF (show ¬ l[p - 1] < (i : Int) + 1 by omega), Bool.false_eq_true, if_false]
        rw [hp]; rfl
      | succ m ih =>
        intro p hp hpl
        have e1 : w64 ((p : Int) - 1) = ((p - 1 : Nat) : Int) := by rw [w64_of (by omega) (by omega)]; omega
        have hx : ¬ (i : Int) < l[p - 1]'(by omega) := fun h => by have := (conj_iff hd (k := p - 1) (by omega) (i : Int)).2 h; omega
        have e : short_Fit_l2 l ((i : Int) + 1) (p : Int) = some (.inl ((p - 1 : Nat) : Int)) := by
          unfold short_Fit_l2
          simp only [e1, idxO_nat (show p - 1 < l.length by omega), Option.bind_some, dT (show l[p - 1] < (i : Int) + 1 by omega), if_true]
        rw [whileO_step e]
        exact ih (p - 1) (by omega) (by omega)
    exact key (l.length - cgt (i : Int) l) l.length (by omega) (Nat.le_refl _)
  have l3 : ∀ i : Nat, i ≤ H → whileO (short_Fit_l3 l) ((hts (H : Int) l).drop i, (i : Int)) = some (hts (H : Int) l) := by
    intro i
    induction i with
    | zero =>
      intro _
      refine whileO_done ?_
      unfold short_Fit_l3
      simp only [dF (show ¬ (0 : Int) < ((0 : Nat) : Int) by omega), Bool.false_eq_true, if_false, List.drop_zero]
    | succ i ih =>
      intro hi
      have e1 : w64 (((i + 1 : Nat) : Int) - 1) = (i : Int) := by rw [w64_of (by omega) (by omega)]; omega
      have e0 : ((i + 1 : Nat) : Int) = (i : Int) + 1 := by omega
      have hil : i < (hts (H : Int) l).length := by rw [hts_len]; omega
      have ed : [(cgt (i : Int) l : Int)] ++ (hts (H : Int) l).drop (i + 1) = (hts (H : Int) l).drop i := by
        rw [List.drop_eq_getElem_cons hil, hts_get]; rfl
      have e : short_Fit_l3 l ((hts (H : Int) l).drop (i + 1), ((i + 1 : Nat) : Int)) = some (.inl ((hts (H : Int) l).drop i, (i : Int))) := by
        unfold short_Fit_l3
        simp only [dT (show (0 : Int) < ((i + 1 : Nat) : Int) by omega), if_true, e1]
        rw [e0, l2 i (by omega)]
        simp only [Option.bind_some]
        rw [appO_of (by simp [hts_len]; omega), ed]
        rfl
      rw [whileO_step e]
      exact ih (by omega)
  have l3' := l3 H (Nat.le_refl _)
  rw [List.drop_eq_nil_of_le (by rw [hts_len]; omega)] at l3'
  have i0 : idxO l 0 = some (H : Int) := by rw [← hH]; exact idxO_nat (k := 0) (by omega)
  have g0 : l.getD 0 0 = (H : Int) := by rw [getD_of _ (show 0 < l.length by omega), hH]
  refine ⟨(hts (H : Int) l, 0), ?_, .inl rfl, fun _ => by rw [g0], fun _ => ⟨by omega, by omega, hf⟩⟩
  simp only [Option.bind_some, i0, l3']
/-- heights are as Fit wants them -/
theorem hts_fok {n : Nat} {l : List Int} (hl : l.length ≤ 50) : fok (hts (n : Int) l) := by
  refine ⟨fun x hx => ?_, fun k hk h0 => ?_⟩
  · unfold hts at hx
    obtain ⟨k, _, rfl⟩ := List.mem_map.1 hx
    have := cgt_le (k : Int) l
    omega
  · rw [hts_get, hts_get]
    have := cgt_mono (v := ((k - 1 : Nat) : Int)) (u := (k : Int)) (by omega) l
    omega
theorem conj_hts {l : List Int} (hd : dsc l) {j : Nat} (hj : j < l.length) {m : Nat} (hm : l[j] ≤ (m : Int)) (h0 : 0 ≤ l[j]) : (cgt (j : Int) (hts (m : Int) l) : Int) = l[j] := by
  have := cgt_cut (fun i : Nat => (cgt (i : Int) l : Int)) (j : Int) m l[j].toNat (fun i hi => by
    have := conj_iff hd hj (i : Int)
    omega)
  unfold hts
  rw [Int.toNat_natCast, this]
  omega
theorem fits_loop (b t : List Int) (i : Nat) (hi : i < b.length) (hbt : b.length = t.length) (hl : b.length ≤ 1000) : whileO (raddlelaw38_ShortFits_l1 (b, 0) (i : Int) t) (0, 0, 0) = some ((ceq b[i] b : Int), (ceq b[i] t : Int)) := by
  have key : ∃ u, whileO (raddlelaw38_ShortFits_l1 (b, 0) (i : Int) t) (0, 0, 0) = some u ∧ u = ((ceq b[i] b : Int), (ceq b[i] t : Int)) := by
    refine loop_at (σ := Unit) b.length (fun k _ => ((ceq b[i] (b.take k) : Int), (ceq b[i] (t.take k) : Int), (k : Int))) (fun _ _ => True) _ (s0 := ()) trivial ?_ ?_
    · intro k _ hk _
      refine .inl ⟨(), ?_, trivial⟩
      have hk2 : k < t.length := by omega
      have b1 := ceq_le b[i] (b.take k)
      have b2 := ceq_le b[i] (t.take k)
      rw [List.length_take] at b1 b2
      unfold raddlelaw38_ShortFits_l1
      simp only [dT (show (k : Int) < (b.length : Int) by omega), if_true, idxO_nat hk, idxO_nat hi, idxO_nat hk2, Option.bind_some, w64_succ (show ceq b[i] (b.take k) < 9223372036854775807 by omega), w64_succ (show ceq b[i] (t.take k) < 9223372036854775807 by omega), w64_succ (show k < 9223372036854775807 by omega), take_one b hk, take_one t hk2, ceq_app, ceq]
      by_cases c1 : b[k] = b[i]
      · by_cases c2 : t[k] = b[i]
        · simp only [bT c1, bT c2, if_true, if_pos c1, if_pos c2, Option.bind_some]; try rfl
        · simp only [bT c1, bF c2, if_true, Bool.false_eq_true, if_false, if_pos c1, if_neg c2, Option.bind_some]; try rfl
      · by_cases c2 : t[k] = b[i]
        · simp only [bF c1, bT c2, if_true, Bool.false_eq_true, if_false, if_neg c1, if_pos c2, Option.bind_some]; try rfl
        · simp only [bF c1, bF c2, Bool.false_eq_true, if_false, if_neg c1, if_neg c2, Option.bind_some]; try rfl
    · intro _ _
      refine ⟨_, ?_, rfl⟩
      unfold raddlelaw38_ShortFits_l1
      simp only [dF (show ¬ (b.length : Int) < (b.length : Int) by omega), Bool.false_eq_true, if_false, List.take_length]
      rw [hbt, List.take_length]
  obtain ⟨u, h1, rfl⟩ := key
  exact h1
theorem law_ShortFits' (ha : F_raddlelaw38_alive = some true) (h : List Int) (n : Int) (l : List Int) : F_raddlelaw38_ShortFits h n l = some true := by
  unfold F_raddlelaw38_ShortFits
  simp only [ha, Option.bind_some, Bool.not_true]
  by_cases h1 : 200 < h.length
  · simp only [dT (show (200 : Int) < (h.length : Int) by omega), if_true, Option.bind_some]
  by_cases h2 : 60 < l.length
  · simp only [dF (show ¬ (200 : Int) < (h.length : Int) by omega), dT (show (60 : Int) < (l.length : Int) by omega), Bool.false_eq_true, if_true, if_false, Option.bind_some]
  simp only [dF (show ¬ (200 : Int) < (h.length : Int) by omega), dF (show ¬ (60 : Int) < (l.length : Int) by omega), Bool.false_eq_true, if_false, Option.bind_some]
  obtain ⟨r, r1, _, r2, r3⟩ := fit_eq h
  have first : (if (r.2 == 0) = true then
      Option.bind (F_short_Heights (h.length : Int) r.1) fun r28 => Option.bind (α := Bool) (if (r28.2 != 0) = true then some true else Option.bind (F_raddleref36_Same r28.1 h) fun r37 => some (!r37)) fun o33 => if o33 = true then some (.inr false) else some (.inl ())
    else some (.inl ())) = some (Sum.inl () : Unit ⊕ Bool) := by
    by_cases hr : r.2 = 0
    case neg => simp only [bF hr, Bool.false_eq_true, if_false]
    obtain ⟨hl, hp, hf⟩ := r3 hr
    have hd := fok_dsc hf
    have e := r2 ⟨hl, hp, hf⟩
    have h0 := hf.1 _ (List.getElem_mem hp)
    rw [getD_of _ hp] at e
    obtain ⟨H, hH⟩ : ∃ H : Nat, h[0] = H := ⟨h[0].toNat, by omega⟩
    rw [hH] at e
    have tc : tchk (h.length : Int) (hts (H : Int) h) = 0 := by
      unfold tchk
      rw [if_pos (by omega), hts_len, if_neg (by omega), if_pos]
      intro p hq
      unfold hts at hq
      obtain ⟨i, hi, rfl⟩ := List.mem_map.1 hq
      have hi := List.mem_range.1 hi
      have a1 := cgt_le (i : Int) h
      have a2 := (conj_iff hd hp (i : Int)).2 (by omega)
      omega
    have back : hts (h.length : Int) (hts (H : Int) h) = h := by
      apply List.ext_getElem (by rw [hts_len]; omega)
      intro j a1 a2
      rw [hts_get]
      have hj := hf.1 _ (List.getElem_mem a2)
      refine conj_hts hd a2 ?_ hj.1
      rw [← hH]
      by_cases e : j = 0
      · subst e; exact Int.le_refl _
      · exact List.pairwise_iff_getElem.1 hd 0 j hp a2 (by omega)
    obtain ⟨t, t1, t2⟩ := ints_same_eq h h (by omega)
    obtain rfl : t = true := t1.2 rfl
    simp only [e, beq_self_eq_true, if_true, heights_eq, if_pos tc, Option.bind_some, bne_self_eq_false, Bool.false_eq_true, if_false, back, t2, Bool.not_true]
  simp only [r1, Option.bind_some, first]
  simp only [heights_eq, Option.bind_some]
  by_cases ht : tchk n l = 0
  case neg => simp only [if_neg ht, nT ht, if_true]
  obtain ⟨n0, n1, hl, hp⟩ := tchk_ok ht
  obtain ⟨m, rfl⟩ : ∃ m : Nat, n = m := ⟨n.toNat, by omega⟩
  obtain ⟨s, s1, _, s2, _⟩ := fit_eq (hts (m : Int) l)
  have hf := hts_fok (n := m) hl
  have hd := fok_dsc hf
  have hlen : (hts (m : Int) l).length = m := by rw [hts_len]; omega
  have e := s2 ⟨by omega, by omega, hf⟩
  have hz : (hts (m : Int) l).getD 0 0 = (l.length : Int) := by
    rw [getD_of _ (show 0 < (hts (m : Int) l).length by omega), hts_get]
    have := cgt_all (v := ((0 : Nat) : Int)) (l := l) fun p hq => by have := hp p hq; omega
    rw [this]
  rw [hz] at e
  subst e
  have bl : (hts (l.length : Int) (hts (m : Int) l)).length = l.length := by rw [hts_len]; omega
  have same : ∀ v : Nat, v ≤ m → cgt (v : Int) (hts (l.length : Int) (hts (m : Int) l)) = cgt (v : Int) l := by
    intro v hv
    by_cases hvm : v < m
    · have hc := cgt_le (v : Int) l
      have := conj_hts hd (j := v) (by omega) (m := l.length) (by rw [hts_get]; omega) (by rw [hts_get]; omega)
      rw [hts_get] at this
      omega
    · obtain rfl : v = m := by omega
      rw [cgt_top (v := (v : Int)) (l := l) fun p hq => (hp p hq).2]
      refine cgt_top fun p hq => ?_
      unfold hts at hq
      obtain ⟨i, _, rfl⟩ := List.mem_map.1 hq
      have := cgt_le (i : Int) ((List.range (v : Int).toNat).map fun k : Nat => (cgt (k : Int) l : Int))
      simp only [List.length_map, List.length_range, Int.toNat_natCast] at this
      simp only [Int.toNat_natCast]
      omega
  have l2 : whileO (raddlelaw38_ShortFits_l2 (hts (l.length : Int) (hts (m : Int) l), 0) l) 0 = some (.inr ()) := by
    have key : ∃ t, whileO (raddlelaw38_ShortFits_l2 (hts (l.length : Int) (hts (m : Int) l), 0) l) 0 = some t ∧ t = .inr () := by
      refine loop_ix l.length (fun _ => True) _ trivial ?_ ?_
      · intro k hk _
        refine .inl ⟨?_, trivial⟩
        have k1 : k < (hts (l.length : Int) (hts (m : Int) l)).length := by omega
        have lp := fits_loop (hts (l.length : Int) (hts (m : Int) l)) l k k1 bl (by omega)
        have gk := hts_get (n := (l.length : Int)) (l := hts (m : Int) l) k1
        have a1 := cgt_le (k : Int) (hts (m : Int) l)
        have a2 := (conj_iff hd (k := 0) (by omega) (k : Int)).2 (by
          rw [hts_get]
          have := cgt_all (v := ((0 : Nat) : Int)) (l := l) fun p hq => by have := hp p hq; omega
          rw [this]; omega)
        have hcq : ceq (hts (l.length : Int) (hts (m : Int) l))[k] (hts (l.length : Int) (hts (m : Int) l)) = ceq (hts (l.length : Int) (hts (m : Int) l))[k] l := by
          rw [gk]
          obtain ⟨c, hc⟩ : ∃ c : Nat, cgt (k : Int) (hts (m : Int) l) = c + 1 := ⟨cgt (k : Int) (hts (m : Int) l) - 1, by omega⟩
          have b1 := cgt_step (c : Int) (hts (l.length : Int) (hts (m : Int) l))
          have b2 := cgt_step (c : Int) l
          have b3 := same c (by omega)
          have b4 := same (c + 1) (by omega)
          have e5 : ((c + 1 : Nat) : Int) = (c : Int) + 1 := by omega
          rw [e5] at b4
          rw [hc, e5]
          omega
        rw [hcq] at lp
        unfold raddlelaw38_ShortFits_l2
        simp only [dT (show (k : Int) < ((hts (l.length : Int) (hts (m : Int) l)).length : Int) by omega), if_true, lp, Option.bind_some, bne_self_eq_false, Bool.false_eq_true, if_false, w64_succ (show k < 9223372036854775807 by omega)]
        by_cases c0 : 0 < k
        case neg => simp only [dF (show ¬ (0 : Int) < (k : Int) by omega), Bool.false_eq_true, if_false, Option.bind_some]
        have e1 : w64 ((k : Int) - 1) = ((k - 1 : Nat) : Int) := by rw [w64_of (by omega) (by omega)]; omega
        have k2 : k - 1 < (hts (l.length : Int) (hts (m : Int) l)).length := by omega
        have mono := cgt_mono (v := ((k - 1 : Nat) : Int)) (u := (k : Int)) (by omega) (hts (m : Int) l)
        simp only [dT (show (0 : Int) < (k : Int) by omega), if_true, idxO_nat k1, e1, idxO_nat k2, gk, hts_get, Option.bind_some, dF (show ¬ (cgt ((k - 1 : Nat) : Int) (hts (m : Int) l) : Int) < (cgt (k : Int) (hts (m : Int) l) : Int) by omega), Bool.false_eq_true, if_false]
      · intro _
        refine ⟨_, ?_, rfl⟩
        unfold raddlelaw38_ShortFits_l2
        simp only [bl, dF (show ¬ (l.length : Int) < (l.length : Int) by omega), Bool.false_eq_true, if_false]
    obtain ⟨t, h1, rfl⟩ := key
    exact h1
  simp only [if_pos ht, bne_self_eq_false, Bool.false_eq_true, if_false, s1, Option.bind_some, bl, l2]

end Go.Proofs.YtoiehdlcfehmlaaDoor
namespace Go.Proofs.YtoiehdlcfehmlaaDoor
open Go.RowKit
set_option linter.unusedVariables false

theorem law_ShortFits (h : List Int) (n : Int) (l : List Int) (wh : Wl (InK .i64) h) (wn : InK .i64 n) (wl : Wl (InK .i64) l) : F_raddlelaw38_ShortFits h n l = some true := law_ShortFits' k_raddlelaw38_alive h n l

end Go.Proofs.YtoiehdlcfehmlaaDoor
namespace Go.Proofs.YtoiehdlcfehmlaaDoor
open Go.RowKit
set_option linter.unusedVariables false

namespace frameShortFits
open Go.ChangeShapes Go.WideShapes Go.ChangeAt Go.Joins
theorem own : ownKnob Tryd.prog.godebug = none := by kernel_rfl
theorem laidOut : laidOutB Tryd.prog = true := by kernel_rfl
set_option maxRecDepth 100000 in
theorem door_met (os : Os) (args : Array Value) : laidMetH Tryd.prog Rows.shortFitsRow.laid ((World.doorLaid Tryd.prog 400 os).forCall (fun _ _ => 0) ⟨#[], args, []⟩).memory :=
  laidMetH_of_parts3 (fuel := 8) (laidMet_of_run' 8 (by kernel_rfl) (by kernel_rfl)) (by kernel_rfl) (by kernel_rfl)
set_option maxRecDepth 100000 in
theorem lifted (os : Os) (started : os.Started) (H : Type) (enc : TypeId × Value → H) :
    ReturnsInHanded {} Tryd.checked os 5 .any (fun w args => (Rows.shortFitsSpec.pre enc Tryd.prog Tryd.f5 Rows.shortFitsRow.domain false w args ∧ laidMetH Tryd.prog Rows.shortFitsRow.laid w) ∧ sizedMet enc Tryd.prog Tryd.f5 (OpenSpec.ofChange Rows.shortFitsSpec) false w args) (Rows.shortFitsSpec.post enc Tryd.prog Tryd.f5 false true false false) := by
  refine returnsInHanded_of_change_and (C := Tryd.checked) (X := fun w _ => laidMetH Tryd.prog Rows.shortFitsRow.laid w) (fun _ _ _ hh h => h.of_heap hh) own started (by kernel_rfl) Tryd.func5
    (ChangeSpec.witness_shaped (enc := enc) (C := Tryd.checked) (os := os) (X := fun w _ => laidMetH Tryd.prog Rows.shortFitsRow.laid w) false (World.doorLaid Tryd.prog 400 os) #[.slice none 0 0, .int .i64 0, .slice none 0 0] 8 rfl (World.shaped_of_RefB (by kernel_rfl) (by kernel_rfl)) (by kernel_rfl) (by kernel_rfl) (by kernel_rfl) (door_met os _)) ?_
  intro W base args ds gs before hval0 hW _ _ _ _
  have hval : ∀ (j : Nat) t v, Tryd.f5.params[j]? = some t → args[j]? = some v → Value.okWide Tryd.prog W .any base t v := hval0
  have hW' := hW
  obtain ⟨p, q, hA0, hV, rfl, hfz, hnd⟩ := hW
  have hA : DataW.TrodAll enc Tryd.prog W 0 (fun _ => true) true Tryd.f5.params.toList args.toList ds p := hA0
  rw [Tryd.params5] at hA hval
  obtain ⟨v0, vs0, d0, ds0, p0, q0, hargs, rfl, rfl, h0, r0⟩ := trodAll_cons hA
  obtain ⟨v1, vs1, d1, ds1, p1, q1, rfl, rfl, rfl, h1, r1⟩ := trodAll_cons r0
  obtain ⟨v2, vs2, d2, ds2, p2, q2, rfl, rfl, rfl, h2, r2⟩ := trodAll_cons r1
  obtain ⟨rfl, rfl, rfl⟩ := trodAll_nil r2
  obtain rfl : args = #[v0, v1, v2] := by cases args; simp_all
  obtain ⟨rfl, rfl⟩ := trodVars_none hV
  have k0 := h0
  have lt0 : ∀ x ∈ p0, x.block < W.heap.size := by obtain ⟨m, hm⟩ := k0; exact DataW.trod_lt m _ _ _ hm
  have k1 := h1
  have lt1 : ∀ x ∈ p1, x.block < W.heap.size := by obtain ⟨m, hm⟩ := k1; exact DataW.trod_lt m _ _ _ hm
  have k2 := h2
  have lt2 : ∀ x ∈ p2, x.block < W.heap.size := by obtain ⟨m, hm⟩ := k2; exact DataW.trod_lt m _ _ _ hm
  obtain ⟨x0, rep0, wf0⟩ := top_slice Tryd.underlying22 (op_slice (r := (rI .i64)) Tryd.underlying22 (by kernel_rfl) (op_int .i64 Tryd.underlying3)) (hval 0 _ v0 rfl rfl) h0
  obtain ⟨x1, rfl, rfl, rfl, wf1⟩ := open_int Tryd.underlying3 (hval 1 _ v1 rfl rfl) h1
  obtain ⟨x2, rep2, wf2⟩ := top_slice Tryd.underlying22 (op_slice (r := (rI .i64)) Tryd.underlying22 (by kernel_rfl) (op_int .i64 Tryd.underlying3)) (hval 2 _ v2 rfl rfl) h2
  clear hA0 hval0
  refine (c_raddlelaw38_ShortFits (fun _ => False) W x0 v0 x1 x2 v2 true (law_ShortFits x0 x1 x2 wf0 wf1 wf2) (St0.start (by intro d hd; simp only [List.mem_cons, List.not_mem_nil, or_false] at hd; rcases hd with rfl | rfl; exact rep0; exact rep2))).mono fun e W' hr => ?_
  obtain ⟨_, he, hS⟩ := hr
  have bel := hS.chg.below
  subst he
  exact ⟨_, rfl, _, _, _, [], _, [], hW', trodAll_mk1 (shut_bool Tryd.underlying4 _), (trodAll_cons_mk (Below.trod laidOut (by kernel_rfl) (of_decide_eq_true (by kernel_rfl)) k0 bel lt0) (trodAll_cons_mk (Below.trod laidOut (by kernel_rfl) (of_decide_eq_true (by kernel_rfl)) k1 bel lt1) (trodAll_cons_mk (Below.trod laidOut (by kernel_rfl) (of_decide_eq_true (by kernel_rfl)) k2 bel lt2) trodAll_mk0))), rfl, bel.frame _, fun h => by cases h⟩
theorem over : Rows.shortFitsRow.holds Tryd.pinned (OpenSpec.ofChange Rows.shortFitsSpec) :=
  OpenClaim.holds_of_wide 5 Tryd.f5 rfl rfl rfl rfl rfl rfl rfl ⟨rfl, rfl, rfl, rfl, rfl⟩ rfl rfl rfl rfl rfl (by kernel_rfl) Tryd.func5 (by kernel_rfl)
    (of_decide_eq_true (by kernel_rfl)) (by unfold Func.isWrapper; first | (rw [if_pos (by decide +kernel)]; kernel_rfl) | (rw [if_neg (by decide +kernel)]; exact ⟨rfl, rfl⟩))
    (fun os started H enc _ => lifted os started H enc)
theorem card : Rows.ShortFitsCardSaid :=
  Claim7.holds_tied_plain_at .later [] [.data, .data, .data] true (true, "dd224f09b7bd2d708e49c9d1e39fbd7694ddda389d105d38d20db584f451cd0f") false
    over (fun _ h => by cases h) (by kernel_rfl) (fun _ h => by cases h) shortFits_row_tie rfl ⟨rfl, rfl⟩ (by kernel_rfl) rfl
    (fun f fn hf hfn => by
      obtain rfl : f = 5 := Option.some.inj ((show Tryd.prog.funcNamed "raddle/raddlelaw38.ShortFits" = some 5 by kernel_rfl).symm.trans hf) |>.symm
      obtain rfl : fn = Tryd.f5 := (Option.some.inj (Tryd.func5.symm.trans hfn)).symm
      exact ⟨by kernel_rfl, fun j t ht => by
        rw [Tryd.params5] at ht
        have hm : t ∈ [22, 3, 22] := by simpa using Array.mem_of_getElem? ht
        have hall : ([22, 3, 22].all fun u => !Tryd.prog.wantsStandIn u) = true := by kernel_rfl
        exact (show Tryd.prog.wantsStandIn t = false by simpa using List.all_eq_true.1 hall t hm)⟩)
    (by kernel_rfl)
end frameShortFits
theorem shortFits_holds : Rows.ShortFitsCardSaid := frameShortFits.card

end Go.Proofs.YtoiehdlcfehmlaaDoor
