/- A map from numbers to numbers that the call itself made, as a function. -/
import Derived.Maps.OwnOps
import Derived.Maps.Views
import Derived.Test.YtapohhkdpkapoaaOwn
namespace Go.Proofs.Ytapohhkdpkapoaa
open Go.RowKit
set_option linter.unusedVariables false

/-- block b is a map of at most n entries that reads as m (what is not there reads 0) -/
def OwnsII (P : Program) (K : TypeId) (w : World) (b n : Nat) (m : Int → Int) : Prop :=
  ∃ D : DataW Unit, Go.Maps.IsMap D ∧ w.ownsMap P K (plainElem P K) b n D ∧ ∀ k, D.atKey (.int .i64 k) (.lit (.int .i64 0)) = .lit (.int .i64 (m k))

theorem OwnsII.made (P : Program) (K : TypeId) (w : World) : OwnsII P K (w.alloc (.map #[] 0)) w.heap.size 0 (fun _ => 0) :=
  ⟨.map [], Go.Maps.isMap_empty, World.ownsMap_made _ _ _ _, fun k => rfl⟩
theorem OwnsII.lt {P : Program} {K : TypeId} {w : World} {b n : Nat} {m : Int → Int} (h : OwnsII P K w b n m) : b < w.heap.size := by
  obtain ⟨D, _, h2, _⟩ := h
  exact h2.lt
theorem OwnsII.kept {P : Program} {K : TypeId} {w w' : World} {b n : Nat} {m : Int → Int} {row : Option Nat} (h : OwnsII P K w b n m) (hg : w.grownBy w' row) (hne : some b ≠ row) : OwnsII P K w' b n m := by
  obtain ⟨D, h1, h2, h3⟩ := h
  exact ⟨D, h1, h2.kept hg hne, h3⟩
theorem OwnsII.alloc {P : Program} {K : TypeId} {w : World} {b n : Nat} {m : Int → Int} (h : OwnsII P K w b n m) (o : Obj) : OwnsII P K (w.alloc o) b n m := h.kept (World.grownBy_alloc w o none) (by simp)
theorem OwnsII.block {P : Program} {K : TypeId} {w w' : World} {b n : Nat} {m : Int → Int} (h : OwnsII P K w b n m) (hb : w'.heap[b]? = w.heap[b]?) : OwnsII P K w' b n m := by
  obtain ⟨D, h1, ⟨es, clock, h2, r⟩, h3⟩ := h
  exact ⟨D, h1, ⟨es, clock, hb.trans h2, r⟩, h3⟩
theorem OwnsII.mono {P : Program} {K : TypeId} {w : World} {b n n' : Nat} {m : Int → Int} (h : OwnsII P K w b n m) (hn : n ≤ n') : OwnsII P K w b n' m := by
  obtain ⟨D, h1, h2, h3⟩ := h
  exact ⟨D, h1, h2.mono hn, h3⟩
theorem OwnsII.congr {P : Program} {K : TypeId} {w : World} {b n : Nat} {m m' : Int → Int} (h : OwnsII P K w b n m) (e : ∀ k, m k = m' k) : OwnsII P K w b n m' := by
  obtain ⟨D, h1, h2, h3⟩ := h
  exact ⟨D, h1, h2, fun k => by rw [h3, e]⟩

theorem wpList_lookup_ii {P : Program} {w : World} {ops : Array Oper} {rest : List Oper} {o : Oper} {a : Act} {Q : Exit → Act → World → Prop}
    (hg : o.guard = none) (mo x : Operand) (t : TypeId) (hop : o.op = Op.lookup t mo x false) (k : TypeId) (ht : P.underlying t = some (.map k k)) (hk : P.underlying k = some (.int .i64)) (hz : (zeroValue k).run P w = .ok (.int .i64 0) w)
    (b n : Nat) (m : Int → Int) (key : Int) (hm : a.eval mo = .map (some b)) (hx : a.eval x = .int .i64 key) (hwf : -9223372036854775808 ≤ key ∧ key ≤ 9223372036854775807) (hown : OwnsII P k w b n m)
    (hK : wpList P ops Q rest (a.put o.dst (.int .i64 (m key))) w) : wpList P ops Q (o :: rest) a w := by
  obtain ⟨D, h1, h2, h3⟩ := hown
  refine wpList_lookup_own_int w hg mo x t hop k k .i64 (Go.Maps.int_keyed hk) ht hk hz b n D hm h2 (.int .i64 key) (.int .i64 key) hx (Go.Maps.keyOf_int_mk hk (WalkArith.wf_i64 hwf)) ?_
  intro c hat _
  rw [h3] at hat
  cases hat
  exact hK

theorem wpList_update_ii {P : Program} {w : World} {ops : Array Oper} {rest : List Oper} {o : Oper} {a : Act} {Q : Exit → Act → World → Prop}
    (hg : o.guard = none) (mo x v : Operand) (t : TypeId) (hop : o.op = Op.mapUpdate t mo x v) (k : TypeId) (ht : P.underlying t = some (.map k k)) (hk : P.underlying k = some (.int .i64))
    (b n : Nat) (m : Int → Int) (key val : Int) (hm : a.eval mo = .map (some b)) (hx : a.eval x = .int .i64 key) (hv : a.eval v = .int .i64 val) (hwf : -9223372036854775808 ≤ key ∧ key ≤ 9223372036854775807) (hwv : -9223372036854775808 ≤ val ∧ val ≤ 9223372036854775807)
    (hn : n < maxLen) (hown : OwnsII P k w b n m) (m' : Int → Int) (hm' : ∀ j, m' j = if j = key then val else m j)
    (hK : ∀ w', OwnsII P k w' b (n + 1) m' → w.grownBy w' (some b) → wpList P ops Q rest (a.put o.dst undef) w') : wpList P ops Q (o :: rest) a w := by
  obtain ⟨D, h1, h2, h3⟩ := hown
  refine wpList_mapUpdate_own w hg mo x v t hop k k (Go.Maps.int_keyed hk) ht _ b n D hm h2 hn (.int .i64 key) (.int .i64 val) (.int .i64 key) hx hv (Go.Maps.keyOf_int_mk hk (WalkArith.wf_i64 hwf)) (.lit (.int .i64 val)) [] (plainElem_int hk (WalkArith.wf_i64 hwv)) ?_
  intro w' r1 r2
  refine hK w' ⟨_, h1.put _ _, r1, fun j => ?_⟩ r2
  rw [hm']
  by_cases e : j = key
  · subst e
    rw [if_pos rfl, Go.Maps.atKey_put_same h1 (by simp [WideAt.IsKeyLit])]
  · rw [if_neg e, Go.Maps.atKey_put_other (by simpa using e), h3]

end Go.Proofs.Ytapohhkdpkapoaa
