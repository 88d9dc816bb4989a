/- Rows of cells as functions of the index; boxes of structs as facts on cells; a loop's world as a class. -/
import Derived.WalkKit
import Derived.BigQuiet
import Derived.Deep.QuietTactic
import Derived.Lib.Hide
import Derived.WalkSmall
namespace Go.Proofs.Ytoiehdlcfehmlaa
open Go.RowKit
set_option linter.unusedVariables false

/-- m cells from the address on hold f 0, f 1 and so on. -/
def Row (w : World) (a : Option Addr) (m : Nat) (f : Nat → Value) : Prop :=
  ∀ k, k < m → ∃ b off, a = some ⟨b, off, none⟩ ∧ b < w.heap.size ∧ w.cell? ⟨b, off + k, none⟩ = some (f k)

theorem Row.nil (w : World) (a : Option Addr) (f : Nat → Value) : Row w a 0 f := fun k h => absurd h (Nat.not_lt_zero k)

theorem Row.below {w w' : World} {a : Option Addr} {m : Nat} {f : Nat → Value} (h : Row w a m f) (hb : Below w.heap.size w w') : Row w' a m f := fun k hk => by
  obtain ⟨b, off, h1, h2, h3⟩ := h k hk
  exact ⟨b, off, h1, Nat.lt_of_lt_of_le h2 hb.size, by rw [hb.cell (p := ⟨b, off + k, none⟩) h2]; exact h3⟩

theorem Row.congr {w : World} {a : Option Addr} {m : Nat} {f g : Nat → Value} (h : Row w a m f) (e : ∀ k, k < m → f k = g k) : Row w a m g := fun k hk => by
  obtain ⟨b, off, h1, h2, h3⟩ := h k hk
  exact ⟨b, off, h1, h2, by rw [h3, e k hk]⟩

theorem Row.take {w : World} {a : Option Addr} {m n : Nat} {f : Nat → Value} (h : Row w a m f) (hn : n ≤ m) : Row w a n f := fun k hk => h k (by omega)

theorem bcell {W w1 : World} (hb : Below W.heap.size W w1) : (∀ b o, b < W.heap.size → w1.cell? ⟨b, o, none⟩ = W.cell? ⟨b, o, none⟩) ∧ (∀ b o, b < W.heap.size → w1.frozen? ⟨b, o, none⟩ = W.frozen? ⟨b, o, none⟩) :=
  ⟨fun b o h => hb.cell (p := ⟨b, o, none⟩) h, fun b o h => hb.frozen (p := ⟨b, o, none⟩) h⟩

theorem gtrans {a b c : World} (h : Below a.heap.size a b) (k : Below b.heap.size b c) : Below a.heap.size a c := h.trans (k.mono h.size)
theorem galloc {a b : World} (h : Below a.heap.size a b) (o : Obj) : Below a.heap.size a (b.alloc o) := h.alloc h.size o
theorem gdrew {a b : World} (h : Below a.heap.size a b) : Below a.heap.size a b.drew := h.drew
theorem gdraws {a b : World} (h : Below a.heap.size a b) (n : Nat) : Below a.heap.size a (b.drewN n) := ⟨h.os, h.tape, h.output, h.size, h.block⟩

/-- a draw before does not matter -/
theorem undrew {w w' : World} (h : Below w.drew.heap.size w.drew w') : Below w.heap.size w w' := ⟨h.os, h.tape, h.output, h.size, h.block⟩
theorem undraws {w w' : World} {n : Nat} (h : Below (w.drewN n).heap.size (w.drewN n) w') : Below w.heap.size w w' := ⟨h.os, h.tape, h.output, h.size, h.block⟩

theorem ret_int {k : IntKind} {a b : Int} (h : a = b) : Ending.returned (.int k a) = .returned (.int k b) := by rw [h]
theorem ret_bool {a b : Bool} (h : a = b) : Ending.returned (.bool a) = .returned (.bool b) := by rw [h]

/-- element k of a list of bools, of ints -/
def gB (l : List Bool) (k : Nat) : Bool := l.getD k false
def gI (l : List Int) (k : Nat) : Int := l.getD k 0
def fB (l : List Bool) (k : Nat) : Value := .bool (gB l k)
def fI (l : List Int) (k : Nat) : Value := .int .i64 (gI l k)
theorem fB_eq (l : List Bool) (k : Nat) : fB l k = .bool (gB l k) := rfl
theorem fI_eq (l : List Int) (k : Nat) : fI l k = .int .i64 (gI l k) := rfl

theorem gB_lt {l : List Bool} {k : Nat} (h : k < l.length) : gB l k = l[k] := by simp [gB, h]
theorem gI_lt {l : List Int} {k : Nat} (h : k < l.length) : gI l k = l[k] := by simp [gI, h]

theorem ext_gB {l r : List Bool} (hl : l.length = r.length) (h : ∀ k, k < l.length → gB l k = gB r k) : l = r :=
  List.ext_getElem hl fun k h1 h2 => by rw [← gB_lt h1, ← gB_lt h2]; exact h k h1
theorem ext_gI {l r : List Int} (hl : l.length = r.length) (h : ∀ k, k < l.length → gI l k = gI r k) : l = r :=
  List.ext_getElem hl fun k h1 h2 => by rw [← gI_lt h1, ← gI_lt h2]; exact h k h1

/-- block p holds these three cells -/
def Box3 (w : World) (p : Nat) (x y z : Value) : Prop :=
  w.cell? ⟨p, 0, none⟩ = some x ∧ w.cell? ⟨p, 1, none⟩ = some y ∧ w.cell? ⟨p, 2, none⟩ = some z ∧ p < w.heap.size

theorem Box3.below {w w' : World} {p : Nat} {x y z : Value} (h : Box3 w p x y z) {B : Nat} (hb : Below B w w') (hp : p < B) : Box3 w' p x y z := by
  obtain ⟨h0, h1, h2, hs⟩ := h
  refine ⟨?_, ?_, ?_, Nat.lt_of_lt_of_le hs hb.size⟩
  · rw [hb.cell (p := ⟨p, 0, none⟩) hp]; exact h0
  · rw [hb.cell (p := ⟨p, 1, none⟩) hp]; exact h1
  · rw [hb.cell (p := ⟨p, 2, none⟩) hp]; exact h2

theorem Box3.new (w : World) (x y z : Value) (T : TypeId) : Box3 (w.alloc (.cells #[x, y, z] T)) w.heap.size x y z := by simp [Box3]
theorem Box3.keep {w w' : World} {p : Nat} {x y z : Value} (h : Box3 w p x y z) (hb : Below w.heap.size w w') : Box3 w' p x y z := h.below hb h.2.2.2
theorem below_draws {B : Nat} {a w : World} (h : Below B a w) (n : Nat) : Below B a (w.drewN n) := ⟨h.os, h.tape, h.output, h.size, h.block⟩
theorem Box3.draws {w : World} {p : Nat} {x y z : Value} (h : Box3 w p x y z) (n : Nat) : Box3 (w.drewN n) p x y z := h
theorem Row.draws {w : World} {a : Option Addr} {m : Nat} {f : Nat → Value} (h : Row w a m f) (n : Nat) : Row (w.drewN n) a m f := h

/-- The world of a walk, known by what it says alone. -/
theorem wp_world {P : Program} {c : Code} {Q : Exit → Act → World → Prop} {a : Act} {w : World} (I : World → Prop) (h0 : I w) (h : ∀ w', I w' → c.wp P Q a w') : c.wp P Q a w := h w h0

theorem nat_of_beq {a b : Nat} (h : ((a : Int) != (b : Int)) = false) : a = b := by
  have : (a : Int) = b := by simpa using h
  omega
theorem nat_of_bne {a b : Nat} (h : ((a : Int) != (b : Int)) = true) : a ≠ b := by
  have : ¬ (a : Int) = b := by simpa using h
  omega
theorem beq_of_nat {a b : Nat} (h : a = b) : ((a : Int) != (b : Int)) = false := by subst h; simp
theorem bne_of_nat {a b : Nat} (h : ¬ a = b) : ((a : Int) != (b : Int)) = true := by
  have : ¬ (a : Int) = (b : Int) := by omega
  simpa using this
theorem bool_eq_of {a b : Bool} (h : (!a == b) = false) : a = b := by cases a <;> cases b <;> simp_all
theorem bool_ne_of {a b : Bool} (h : (!a == b) = true) : (a != b) = true := by cases a <;> cases b <;> simp_all
theorem not_lt_zero {p : Nat → Prop} : ∀ j, j < 0 → p j := fun j h => absurd h (Nat.not_lt_zero j)
theorem all_succ {p : Nat → Prop} {k : Nat} (h : ∀ j, j < k → p j) (hk : p k) : ∀ j, j < k + 1 → p j := fun j hj => by
  by_cases e : j = k
  · subst e; exact hk
  · exact h j (by omega)

theorem below_alloc {B : Nat} {a w : World} (h : Below B a w) (o : Obj) : Below B a (w.alloc o) ∨ w.heap.size < B := by
  by_cases hB : B ≤ w.heap.size
  · exact .inl (h.alloc hB o)
  · exact .inr (by omega)

end Go.Proofs.Ytoiehdlcfehmlaa
