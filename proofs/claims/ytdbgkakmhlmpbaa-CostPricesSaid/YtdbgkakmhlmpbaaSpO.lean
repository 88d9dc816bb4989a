/- What a statement's arguments read as, in the calculus' words. -/
import Derived.ProofKit
import Derived.OpenShut
import Derived.ChangeOld
import Derived.Deep.Slices
import Derived.Lib.SmallJoins
import Derived.JoinedOf
import Derived.JoinedAt
import Derived.Below
import Derived.Test.YtdbgkakmhlmpbaaSpK
namespace Go.Proofs.Ytdbgkakmhlmpbaa
open Go.RowKit
set_option linter.unusedVariables false

open Go.ChangeShapes Go.WideShapes Go.ChangeAt Go.Joins
def InK (k : IntKind) (x : Int) : Prop := (Lit.int k x).wf = true
theorem inK_64 {x : Int} (h : InK .i64 x) : -9223372036854775808 ≤ x ∧ x ≤ 9223372036854775807 := by
  simpa [InK, Lit.wf, IntKind.min, IntKind.max, IntKind.signed, IntKind.bits] using h
theorem inK_u8 {x : Int} (h : InK .u8 x) : 0 ≤ x ∧ x ≤ 255 := by
  simpa [InK, Lit.wf, IntKind.min, IntKind.max, IntKind.signed, IntKind.bits] using h
def Wl {α : Type} (p : α → Prop) (xs : List α) : Prop := xs.length ≤ 9223372036854775807 ∧ ∀ x, x ∈ xs → p x
/-- cells of a type read, well formed -/
def OpC {α : Type} (P : Program) (t : TypeId) (r : R α) (p : α → Prop) : Prop :=
  ∀ (H : Type) (enc : TypeId × Value → H) (w : World) (base : Nat) (spare : Nat → Bool) (held : Bool) (fuel : Nat) (cs : List Value) (x : DataW H × List MemPlace),
    DataW.trod enc P w base spare held fuel t cs = some x → ∃ v y, v.cells.toList = cs ∧ r.rep (fun _ => False) w v y ∧ p y
section
variable {P : Program}
theorem op_int {t : TypeId} (k : IntKind) (ht : P.underlying t = some (.int k)) : OpC P t (rI k) (InK k) := fun H enc w base spare held fuel cs x h => by
  obtain ⟨n, rfl, _, hw⟩ := DataW.trod_int ht h
  exact ⟨_, n, rfl, rfl, hw⟩
theorem op_bool {t : TypeId} (ht : P.underlying t = some .bool) : OpC P t rB (fun _ => True) := fun H enc w base spare held fuel cs x h => by
  obtain ⟨n, rfl, _⟩ := DataW.trod_bool ht h
  exact ⟨_, n, rfl, rfl, trivial⟩
theorem op_string {t : TypeId} (ht : P.underlying t = some .string) : OpC P t rS (fun s => s.size ≤ 9223372036854775807) := fun H enc w base spare held fuel cs x h => by
  obtain ⟨n, rfl, _, hw⟩ := DataW.trod_string ht h
  exact ⟨_, n, rfl, rfl, by simpa [maxLen] using hw⟩
theorem choose_list {α : Type} {n : Nat} {p : Nat → α → Prop} (h : ∀ i, i < n → ∃ x, p i x) : ∃ l : List α, l.length = n ∧ ∀ i x, l[i]? = some x → p i x := by
  induction n with
  | zero => exact ⟨[], rfl, fun i x hi => by simp at hi⟩
  | succ n ih =>
    obtain ⟨l, hl, hp⟩ := ih fun i hi => h i (by omega)
    obtain ⟨x, hx⟩ := h n (by omega)
    refine ⟨l ++ [x], by simp [hl], fun i y hi => ?_⟩
    by_cases e : i < l.length
    · rw [List.getElem?_append_left e] at hi; exact hp i y hi
    · rw [List.getElem?_append_right (by omega)] at hi
      have : i - l.length = 0 := by
        have := (List.getElem?_eq_some_iff.1 hi).1
        simp at this; omega
      rw [this] at hi
      simp at hi; subst hi
      have : i = n := by omega
      subst this; exact hx
theorem op_slice {α : Type} {t e : TypeId} {r : R α} {p : α → Prop} (ht : P.underlying t = some (.slice e)) (hc : P.cellsOf e = r.sz) (he : OpC P e r p) : OpC P t (rL r) (Wl p) := fun H enc w base spare held fuel cs x h => by
  rcases Go.Deep.open_slice ht h with ⟨rfl, _⟩ | ⟨a, len, cap, m, n, D, Pl, rfl, _, hl, hm, hmm, _, hx⟩
  · exact ⟨_, [], rfl, rL_nil _ _ _, by simp, fun x hx => by simp at hx⟩
  · have hlm : len ≤ m := by rw [hmm]; split <;> omega
    obtain ⟨b, off, spot⟩ := a
    have hcell : ∀ i, i < len → ∃ vy : Value × α, (∀ j, j < r.sz → w.cell? ((⟨b, off, spot⟩ : Addr).add (i * r.sz + j)) = vy.1.cells.toList[j]?) ∧ r.rep (fun _ => False) w vy.1 vy.2 ∧ p vy.2 := fun i hi => by
      obtain ⟨cs, h1, h2⟩ := hx i (by omega)
      obtain ⟨_, h3, h4⟩ := World.cells?_some h1
      obtain ⟨v, y, h5, h6, h7⟩ := he _ _ _ _ _ _ _ _ _ h2
      refine ⟨(v, y), fun j hj => ?_, h6, h7⟩
      have := h4 j (by rw [hc]; exact hj)
      rw [Addr.add_add, hc] at this
      rw [this, h5]
    obtain ⟨l, hll, hlp⟩ := choose_list hcell
    subst hll
    have hA : All r (fun _ => False) w (l.map (·.1)) (l.map (·.2)) := ⟨by simp, fun k v x hv hx => by
      rw [List.getElem?_map] at hv hx
      cases hk : l[k]? with
      | none => rw [hk] at hv; cases hv
      | some q => rw [hk] at hv hx; simp at hv hx; subst hv hx; exact (hlp k q hk).2.1⟩
    refine ⟨.slice (some ⟨b, off, spot⟩) l.length cap, l.map (·.2), rfl, ?_, by simp [maxLen] at hm ⊢; omega, fun x hx => ?_⟩
    · refine ⟨some ⟨b, off, spot⟩, cap, l.map (·.1), by simp, by simpa using hl, by simp [maxLen] at hm ⊢; omega, hA, fun k u hu => ?_⟩
      have hsz := fun v hv => (hA.cells v hv).1
      have hk := (List.getElem?_eq_some_iff.1 hu).1
      rw [flat_length hsz] at hk
      simp only [List.length_map] at hk
      have hi : k / r.sz < l.length := Nat.div_lt_of_lt_mul (by rw [Nat.mul_comm]; exact hk)
      have hj := Nat.mod_lt k r.pos
      have hq : l[k / r.sz]? = some l[k / r.sz] := List.getElem?_eq_getElem hi
      have h1 := (hlp _ _ hq).1 (k % r.sz) hj
      have h2 := flat_get hsz (k := k / r.sz) (v := l[k / r.sz].1) (by rw [List.getElem?_map, hq]; rfl) hj
      rw [Nat.mul_comm, Nat.div_add_mod] at h1 h2
      rw [hu] at h2
      rw [← h2] at h1
      have hspot : spot = none := by
        have h0 : 0 < l.length := Nat.lt_of_le_of_lt (Nat.zero_le _) hi
        have hq0 : l[0]? = some l[0] := List.getElem?_eq_getElem h0
        have h3 := (hlp 0 _ hq0).1 0 r.pos
        have hs0 := r.size (hlp 0 _ hq0).2.1
        rw [List.getElem?_eq_getElem (by rw [Array.length_toList, hs0]; exact r.pos)] at h3
        simpa [Addr.add] using World.cell?_spot h3
      subst hspot
      rw [add_addr] at h1
      exact ⟨b, off, rfl, not_false, World.block_lt_of_cell? w _ h1, h1⟩
    · obtain ⟨q, hq, rfl⟩ := List.mem_map.1 hx
      obtain ⟨k, hk, rfl⟩ := List.getElem_of_mem hq
      exact (hlp k _ (List.getElem?_eq_getElem hk)).2.2
/-- an argument that is a slice; a struct; numbers -/
theorem top_slice {α : Type} {H : Type} {enc : TypeId × Value → H} {w : World} {base b0 : Nat} {spare : Nat → Bool} {held : Bool} {rr : Reach} {v : Value} {d : DataW H} {p : List MemPlace} {t e : TypeId} {r : R α} {q : List α → Prop} (ht : P.underlying t = some (.slice e)) (ho : OpC P t (rL r) q)
    (hv : Value.okWide P w rr b0 t v) (h : DataW.Trod enc P w base spare held t v d p) : ∃ y, (rL r).rep (fun _ => False) w v y ∧ q y := by
  obtain ⟨a, n, c, rfl⟩ := okWide_slice ht hv
  obtain ⟨fuel, hf⟩ := h
  obtain ⟨v, y, h1, h2, h3⟩ := ho _ _ _ _ _ _ _ _ _ hf
  have hs := scal_L _ _ _ _ _ h2
  rw [hs] at h1
  simp [Value.cells] at h1
  subst h1
  exact ⟨y, h2, h3⟩
theorem top_agg {α : Type} {H : Type} {enc : TypeId × Value → H} {w : World} {base b0 : Nat} {spare : Nat → Bool} {held : Bool} {rr : Reach} {v : Value} {d : DataW H} {p : List MemPlace} {t : TypeId} {fs : Array Field} {r : R α} {q : α → Prop} (ht : P.underlying t = some (.struct fs)) (hr : Aggr r) (ho : OpC P t r q)
    (hv : Value.okWide P w rr b0 t v) (h : DataW.Trod enc P w base spare held t v d p) : ∃ y, r.rep (fun _ => False) w v y ∧ q y := by
  obtain ⟨cs, rfl, hsz⟩ := okWide_struct ht hv
  obtain ⟨fuel, hf⟩ := h
  obtain ⟨v, y, h1, h2, h3⟩ := ho _ _ _ _ _ _ _ _ _ hf
  obtain ⟨ds, rfl⟩ := hr _ _ _ _ h2
  simp [Value.cells] at h1
  subst h1
  exact ⟨y, h2, h3⟩
theorem St0.start {w : World} {D : List Fact} (h : ∀ d, d ∈ D → d.p (fun _ => False) w) : St0 (fun _ => False) [] w w [] D := by
  have hE : tot (fun _ => False) [] = (fun _ => False) := by funext b; simp [tot, keysL]
  exact ⟨Chg.refl _ _, by simp, fun d hd => by rw [hE]; exact h d hd, by simp [keysL], by simp [keysL], fun _ h => h.elim⟩
theorem Chg.below {w w' : World} (h : Chg [] w w') : Below w.heap.size w w' := ⟨h.os, h.tape, h.output, h.size, fun k hk => h.block k hk (by simp)⟩
theorem len1 {α : Type} {l : List α} (h : l.length = 1) : ∃ a, l = [a] := by match l, h with | [a], _ => exact ⟨a, rfl⟩
theorem len2 {α : Type} {l : List α} (h : l.length = 2) : ∃ a b, l = [a, b] := by match l, h with | [a, b], _ => exact ⟨a, b, rfl⟩
theorem len3 {α : Type} {l : List α} (h : l.length = 3) : ∃ a b c, l = [a, b, c] := by match l, h with | [a, b, c], _ => exact ⟨a, b, c, rfl⟩
theorem len4 {α : Type} {l : List α} (h : l.length = 4) : ∃ a b c d, l = [a, b, c, d] := by match l, h with | [a, b, c, d], _ => exact ⟨a, b, c, d, rfl⟩
theorem len5 {α : Type} {l : List α} (h : l.length = 5) : ∃ a b c d e, l = [a, b, c, d, e] := by match l, h with | [a, b, c, d, e], _ => exact ⟨a, b, c, d, e, rfl⟩
theorem len6 {α : Type} {l : List α} (h : l.length = 6) : ∃ a b c d e f, l = [a, b, c, d, e, f] := by match l, h with | [a, b, c, d, e, f], _ => exact ⟨a, b, c, d, e, f, rfl⟩
end
theorem fld {α : Type} {x : Option α} {ys : List α} {i : Nat} (h : x = ys[i]?) (hi : i < ys.length) : ∃ z, x = some z := ⟨ys[i], by rw [h]; exact List.getElem?_eq_getElem hi⟩

end Go.Proofs.Ytdbgkakmhlmpbaa
