/- What a row's arguments read as: slices of one-cell elements, numbers, yes or no. -/
import Derived.ProofKit
import Derived.OpenShut
import Derived.ChangeOld
import Derived.Deep.Slices
import Derived.Lib.SmallJoins
import Derived.JoinedOf
import Derived.JoinedAt
import Derived.Test.YtoiehdlcfehmlaaKit
namespace Go.Proofs.Ytoiehdlcfehmlaa
open Go.RowKit
set_option linter.unusedVariables false

section
variable {H : Type} {enc : TypeId × Value → H} {P : Program} {w : World} {base : Nat} {spare : Nat → Bool} {held : Bool}

/-- a slice of one-cell elements: its cells, and that each reads -/
theorem open_row {t e : TypeId} {fuel : Nat} {v : Value} {x : DataW H × List MemPlace} (ht : P.underlying t = some (.slice e)) (hc : P.cellsOf e = 1) (h : DataW.trod enc P w base spare held fuel t [v] = some x) :
    ∃ a n c V, v = .slice a n c ∧ n ≤ c ∧ c ≤ maxLen ∧ Row w a n V ∧ ∀ i, i < n → ∃ fuel' y, DataW.trod enc P w base spare held fuel' e [V i] = some y := by
  rcases Go.Deep.open_slice1 ht hc h with ⟨h0, _⟩ | ⟨a, len, cap, m, n, V, D, Pl, h0, _, hl, hm, hmm, _, hx⟩
  · cases h0
    exact ⟨none, 0, 0, fun _ => undef, rfl, Nat.le_refl _, Nat.zero_le _, Row.nil _ _ _, fun i hi => absurd hi (Nat.not_lt_zero i)⟩
  · cases h0
    have hlm : len ≤ m := by rw [hmm]; split <;> omega
    refine ⟨some a, len, cap, V, rfl, hl, hm, ?_, fun i hi => ⟨n, _, (hx i (by omega)).2⟩⟩
    intro k hk
    obtain ⟨h1, _⟩ := hx k (by omega)
    obtain ⟨b, off, spot⟩ := a
    have hs : spot = none := by simpa [Addr.add] using World.cell?_spot (hx 0 (by omega)).1
    subst hs
    rw [Addr.add_lit] at h1
    exact ⟨b, off, rfl, World.block_lt_of_cell? w _ h1, h1⟩
/-- a choice of what each element is -/
theorem choose_row {α : Type} [Inhabited α] {n : Nat} {p : Nat → α → Prop} (h : ∀ i, i < n → ∃ x, p i x) : ∃ l : List α, l.length = n ∧ ∀ i (hi : i < l.length), p i l[i] := by
  induction n with
  | zero => exact ⟨[], rfl, fun i hi => absurd hi (Nat.not_lt_zero i)⟩
  | succ n ih =>
    obtain ⟨l, hl, hp⟩ := ih fun i hi => h i (by omega)
    obtain ⟨x, hx⟩ := h n (by omega)
    refine ⟨l ++ [x], by simp [hl], fun i hi => ?_⟩
    by_cases e : i < l.length
    · rw [List.getElem_append_left e]; exact hp i e
    · have : i = n := by simp at hi; omega
      subst this
      rw [List.getElem_append_right (by omega)]
      simpa [hl] using hx
theorem open_bools {t e : TypeId} {fuel : Nat} {v : Value} {x : DataW H × List MemPlace} (ht : P.underlying t = some (.slice e)) (he : P.underlying e = some .bool) (hc : P.cellsOf e = 1) (h : DataW.trod enc P w base spare held fuel t [v] = some x) :
    ∃ a xs c, v = .slice a (List.length xs) c ∧ xs.length ≤ c ∧ c ≤ maxLen ∧ Row w a xs.length (fB xs) := by
  obtain ⟨a, n, c, V, rfl, hn, hm, hr, hv⟩ := open_row ht hc h
  obtain ⟨l, hl, hp⟩ := choose_row (α := Bool) (n := n) (p := fun i b => V i = .bool b) fun i hi => by
    obtain ⟨fuel', y, hy⟩ := hv i hi
    obtain ⟨b, hb, _⟩ := DataW.trod_bool he hy
    exact ⟨b, by simpa using hb⟩
  subst hl
  exact ⟨a, l, c, rfl, hn, hm, hr.congr fun k hk => by rw [hp k hk, fB_eq, gB_lt hk]⟩
theorem open_numbers {t e : TypeId} {fuel : Nat} {v : Value} {x : DataW H × List MemPlace} (ht : P.underlying t = some (.slice e)) (he : P.underlying e = some (.int .i64)) (hc : P.cellsOf e = 1) (h : DataW.trod enc P w base spare held fuel t [v] = some x) :
    ∃ a xs c, v = .slice a (List.length xs) c ∧ xs.length ≤ c ∧ c ≤ maxLen ∧ Row w a xs.length (fI xs) ∧ ∀ k, k < xs.length → -9223372036854775808 ≤ gI xs k ∧ gI xs k ≤ 9223372036854775807 := by
  obtain ⟨a, n, c, V, rfl, hn, hm, hr, hv⟩ := open_row ht hc h
  obtain ⟨l, hl, hp⟩ := choose_row (α := Int) (n := n) (p := fun i b => V i = .int .i64 b ∧ (Lit.int .i64 b).wf = true) fun i hi => by
    obtain ⟨fuel', y, hy⟩ := hv i hi
    obtain ⟨b, hb, _, hw⟩ := DataW.trod_int he hy
    exact ⟨b, by simpa using hb, hw⟩
  subst hl
  refine ⟨a, l, c, rfl, hn, hm, hr.congr fun k hk => by rw [(hp k hk).1, fI_eq, gI_lt hk], fun k hk => ?_⟩
  have := (hp k hk).2
  rw [gI_lt hk]
  simpa [Lit.wf, IntKind.min, IntKind.max, IntKind.signed, IntKind.bits] using this
theorem int_bounds {a : Int} (w0 : (Lit.int .i64 a).wf = true) : -9223372036854775808 ≤ a ∧ a ≤ 9223372036854775807 := by
  simpa [Lit.wf, IntKind.min, IntKind.max, IntKind.signed, IntKind.bits] using w0
end

end Go.Proofs.Ytoiehdlcfehmlaa
