/- Several texts in one: SpA SpB SpC SpD SpE SpF SpG SpH SpI SpJ SpK SpL SpM SpR SpS SpU SpV SpW SpX SpY SpZ SpT SpTn SpN SpSr SpGv GTy SpO GOp GSh PlA PlB G10 G11 G4 G12 G13 -/
import Derived.WalkKit
import Derived.Maps.AppendAt
import Derived.Deep.AppendLies
import Derived.KernelRfl
import Derived.Laws.OwnMore
import Derived.Great.BuildSlice
import Derived.Orders
import Derived.Laws.StructEq
import Derived.ChangeKeysEq
import Derived.Defers
import Derived.Laws.BytesString
import Derived.RangeFuncNested
import Derived.RangeFuncBound
import Derived.RangeFuncCalls
import Derived.RangeFuncLeaves
import Derived.OrdersIn
import Derived.LoopNIn
import Derived.ArgAppend
import Derived.Lib.AppendZeros
import Derived.Lib.OthersKept
import Derived.Laws.RangeString
import Derived.Lib.LaidTab
import Derived.Test.YtdfjcpnflmgdoaaDoorProg
import Derived.ProofKit
import Derived.OpenShut
import Derived.ChangeOld
import Derived.Deep.Slices
import Derived.Lib.SmallJoins
import Derived.JoinedOf
import Derived.JoinedAt
import Derived.Below
import Derived.Shelf.Small.Wraps
import Derived.Shelf.Strconv.Itoa0
import Derived.Shelf.Strconv.Itoa1
import Derived.Shelf.LaysM
import Derived.Shelf.Strconv.Itoa2
import Derived.Shelf.Strconv.Itoa3
import Derived.Shelf.Strconv.Itoa4
import Derived.Shelf.Strings.Search1
import Derived.Shelf.Strings.Search2
import Derived.Shelf.Strings.Cut
import Derived.Shelf.Strings.Shaped
import Derived.Shelf.Strings.Prefix
import Derived.Lib.ItoaLen
import Derived.Lib.TrimUEq
import Derived.Test.YtdfjcpnflmgdoaaDoorRows
import Derived.LaidSub
import Derived.MakeChecks
import Derived.Shelf.Vars
import Derived.Deep.DeepHandedRow
import Derived.LaidMore
import Derived.SevenTiedAt
import Derived.Test.YtdfjcpnflmgdoaaDoorCards
import Derived.Test.YtdfjcpnflmgdoaaDoorTie
import Derived.ChangeMaps5
namespace Go.Proofs.YtdfjcpnflmgdoaaDoor
open Go.RowKit
set_option linter.unusedVariables false

/-- memory has grown; outside the blocks of K nothing has changed -/
structure Chg (K : List Nat) (w w' : World) : Prop where
  os : w'.os = w.os
  tape : w'.tape = w.tape
  output : w'.output = w.output
  size : w.heap.size ≤ w'.heap.size
  block : ∀ k, k < w.heap.size → k ∉ K → w'.heap[k]? = w.heap[k]?
theorem Chg.refl (K : List Nat) (w : World) : Chg K w w := ⟨rfl, rfl, rfl, Nat.le_refl _, fun _ _ _ => rfl⟩
theorem Chg.alloc (K : List Nat) (w : World) (o : Obj) : Chg K w (w.alloc o) := ⟨rfl, rfl, rfl, by simp, fun i h _ => heap_alloc_old w o h⟩
theorem Chg.drew {K : List Nat} {w w' : World} (h : Chg K w w') : Chg K w w'.drew := ⟨h.os, h.tape, h.output, h.size, h.block⟩
theorem Chg.grown {w w' : World} {row : Option Nat} {K : List Nat} (h : w.grownBy w' row) (hr : ∀ k, row = some k → k ∈ K) : Chg K w w' :=
  ⟨h.os, h.tape, h.output, h.size, fun k hk hn => h.block k hk (fun e => hn (hr k e.symm))⟩
theorem Chg.mono {K K' : List Nat} {w w' : World} (h : Chg K w w') (hs : ∀ k, k ∈ K → k ∈ K') : Chg K' w w' := ⟨h.os, h.tape, h.output, h.size, fun k hk hn => h.block k hk (fun e => hn (hs k e))⟩
/-- two steps: the second one may change what is new besides -/
theorem Chg.trans {K K' : List Nat} {a b c : World} (h : Chg K a b) (k : Chg K' b c) (hs : ∀ j, j ∈ K' → j ∈ K ∨ a.heap.size ≤ j) : Chg K a c :=
  ⟨k.os.trans h.os, k.tape.trans h.tape, k.output.trans h.output, Nat.le_trans h.size k.size, fun i hi hn => (k.block i (Nat.lt_of_lt_of_le hi h.size) (fun e => by
    rcases hs i e with h1 | h1
    · exact hn h1
    · omega)).trans (h.block i hi hn)⟩

/-- A step of memory, seen by what lies outside the excluded blocks. -/
structure Ext (E E' : Nat → Prop) (w w' : World) : Prop where
  size : w.heap.size ≤ w'.heap.size
  same : ∀ b, b < w.heap.size → ¬ E b → (∃ o u, w.cell? ⟨b, o, none⟩ = some u) → w'.heap[b]? = w.heap[b]?
  excl : ∀ b, b < w.heap.size → E' b → E b

/-- How a value reads: sz cells; outside the excluded blocks. -/
structure R (α : Type) where
  sz : Nat
  rep : (Nat → Prop) → World → Value → α → Prop
  pos : 0 < sz
  size : ∀ {E w v x}, rep E w v x → v.cells.size = sz
  one : ∀ {E w v x}, rep E w v x → ∀ u, u ∈ v.cells.toList → u.oneCell' = true
  mono : ∀ {E E' w w' v x}, Ext E E' w w' → rep E w v x → rep E' w' v x

def rI (k : IntKind) : R Int where
  sz := 1
  rep := fun _ _ v x => v = .int k x
  pos := by decide
  size := by rintro _ _ _ _ rfl; rfl
  one := by rintro _ _ _ _ rfl u hu; simp [Value.cells] at hu; subst hu; rfl
  mono := fun _ h => h
/-- the cells of values, one behind the other -/
def flat (vs : List Value) : List Value := (vs.map fun v => v.cells.toList).flatten
/-- values read as a list's elements -/
def All {α : Type} (r : R α) (E : Nat → Prop) (w : World) (vs : List Value) (xs : List α) : Prop := vs.length = xs.length ∧ ∀ (k : Nat) (v : Value) (x : α), vs[k]? = some v → xs[k]? = some x → r.rep E w v x
theorem All.mono {α : Type} {r : R α} {E E' : Nat → Prop} {w w' : World} {vs : List Value} {xs : List α} (h : Ext E E' w w') (a : All r E w vs xs) : All r E' w' vs xs :=
  ⟨a.1, fun k v x hv hx => r.mono h (a.2 k v x hv hx)⟩
theorem All.nil {α : Type} (r : R α) (E : Nat → Prop) (w : World) : All r E w [] [] := ⟨rfl, fun k v x hv _ => by simp at hv⟩
theorem All.append {α : Type} {r : R α} {E : Nat → Prop} {w : World} {vs us : List Value} {xs ys : List α} (a : All r E w vs xs) (b : All r E w us ys) : All r E w (vs ++ us) (xs ++ ys) := by
  refine ⟨by simp [a.1, b.1], fun k v x hv hx => ?_⟩
  by_cases hk : k < vs.length
  · rw [List.getElem?_append_left hk] at hv
    rw [List.getElem?_append_left (by rw [← a.1]; exact hk)] at hx
    exact a.2 k v x hv hx
  · rw [List.getElem?_append_right (by omega)] at hv
    rw [List.getElem?_append_right (by rw [← a.1]; omega)] at hx
    rw [← a.1] at hx
    exact b.2 _ v x hv hx
theorem All.one {α : Type} {r : R α} {E : Nat → Prop} {w : World} {v : Value} {x : α} (h : r.rep E w v x) : All r E w [v] [x] := by
  refine ⟨rfl, fun k v' x' hv hx => ?_⟩
  match k, hv, hx with
  | 0, hv, hx => simp at hv hx; subst hv hx; exact h
  | k + 1, hv, _ => simp at hv
theorem All.cells {α : Type} {r : R α} {E : Nat → Prop} {w : World} {vs : List Value} {xs : List α} (a : All r E w vs xs) : ∀ v, v ∈ vs → v.cells.size = r.sz ∧ ∀ u, u ∈ v.cells.toList → u.oneCell' = true := by
  intro v hv
  obtain ⟨k, hk, rfl⟩ := List.getElem_of_mem hv
  have h1 : vs[k]? = some vs[k] := List.getElem?_eq_getElem hk
  have h2 : xs[k]? = some (xs[k]'(by rw [← a.1]; exact hk)) := List.getElem?_eq_getElem _
  exact ⟨r.size (a.2 k _ _ h1 h2), r.one (a.2 k _ _ h1 h2)⟩
theorem flat_length {sz : Nat} {vs : List Value} (h : ∀ v, v ∈ vs → v.cells.size = sz) : (flat vs).length = vs.length * sz := by
  induction vs with
  | nil => simp [flat]
  | cons v vs ih =>
    have h1 := h v (by simp)
    have h2 := ih (fun u hu => h u (by simp [hu]))
    simp only [flat, List.map_cons, List.flatten_cons, List.length_append, Array.length_toList] at h2 ⊢
    rw [h1, h2, List.length_cons, Nat.add_mul, Nat.one_mul, Nat.add_comm]
/-- the cells of value k -/
theorem flat_get {sz : Nat} {vs : List Value} (h : ∀ v, v ∈ vs → v.cells.size = sz) {k j : Nat} {v : Value} (hv : vs[k]? = some v) (hj : j < sz) : (flat vs)[k * sz + j]? = v.cells.toList[j]? := by
  induction vs generalizing k with
  | nil => simp at hv
  | cons u vs ih =>
    have h1 := h u (by simp)
    have h2 := fun v hv => h v (List.mem_cons_of_mem u hv)
    cases k with
    | zero =>
      simp at hv; subst hv
      simp only [flat, List.map_cons, List.flatten_cons, Nat.zero_mul, Nat.zero_add]
      rw [List.getElem?_append_left (by simpa [h1] using hj)]
    | succ k =>
      simp at hv
      have := ih h2 hv
      simp only [flat, List.map_cons, List.flatten_cons] at this ⊢
      rw [List.getElem?_append_right (by simp [h1, Nat.add_mul]; omega), ← this]
      congr 1
      simp [h1, Nat.add_mul]
      omega
/-- A slice that is read: its cells lie outside the excluded blocks. -/
def rL {α : Type} (r : R α) : R (List α) where
  sz := 1
  rep := fun E w v xs => ∃ a c vs, v = .slice a xs.length c ∧ xs.length ≤ c ∧ xs.length ≤ 9223372036854775807 ∧ All r E w vs xs ∧
    ∀ k u, (flat vs)[k]? = some u → ∃ b off, a = some ⟨b, off, none⟩ ∧ ¬ E b ∧ b < w.heap.size ∧ w.cell? ⟨b, off + k, none⟩ = some u
  pos := by decide
  size := by rintro _ _ _ _ ⟨a, c, vs, rfl, _⟩; rfl
  one := by rintro _ _ _ _ ⟨a, c, vs, rfl, _⟩ u hu; simp [Value.cells] at hu; subst hu; rfl
  mono := by
    rintro E E' w w' v xs h ⟨a, c, vs, hv, hc, hm, ha, hcells⟩
    refine ⟨a, c, vs, hv, hc, hm, ha.mono h, fun k u hu => ?_⟩
    obtain ⟨b, off, h1, h2, h3, h4⟩ := hcells k u hu
    refine ⟨b, off, h1, fun e => h2 (h.excl b h3 e), Nat.lt_of_lt_of_le h3 h.size, ?_⟩
    rw [World.cell?_of_block (w := w) (h.same b h3 h2 ⟨_, _, h4⟩)]
    exact h4

/-- what is known of memory outside the excluded blocks -/
structure Fact where
  p : (Nat → Prop) → World → Prop
  mono : ∀ {E E' w w'}, Ext E E' w w' → p E w → p E' w'
def fRep {α : Type} (r : R α) (v : Value) (x : α) : Fact := ⟨fun E w => r.rep E w v x, fun h k => r.mono h k⟩

/-- what a call owns: the blocks, what they hold -/
structure Ent where
  keys : List Nat
  p : (Nat → Prop) → World → Prop
  mono : ∀ {E E' w w'}, Ext E E' w w' → (∀ b, b ∈ keys → w'.heap[b]? = w.heap[b]?) → p E w → p E' w'
  lt : ∀ {E w}, p E w → ∀ b, b ∈ keys → b < w.heap.size
/-- a block of cells (a variable in memory) -/
def eBox (b : Nat) (T : TypeId) (vs : List Value) : Ent where
  keys := [b]
  p := fun _ w => w.heap[b]? = some (.cells vs.toArray T (0, 0))
  mono := fun _ hs h => by rw [hs b (by simp)]; exact h
  lt := fun h k hk => by
    simp at hk; subst hk
    exact (Array.getElem?_eq_some_iff.1 h).1
def vkeys : Value → List Nat
  | .slice (some a) _ _ => [a.block]
  | _ => []
/-- a slice of the call's own -/
def eRow {α : Type} (r : R α) (T : TypeId) (v : Value) (xs : List α) : Ent where
  keys := vkeys v
  p := fun E w => ∃ vs, All r E w vs xs ∧ xs.length ≤ 68719476736 ∧ w.ownsRow 0 T r.sz v xs.length (flat vs)
  mono := by
    rintro E E' w w' h hs ⟨vs, ha, hm, hl, ho⟩
    refine ⟨vs, ha.mono h, hm, hl, ?_⟩
    rcases ho with ho | ⟨g, cap, cur, hv, hg, hh, hr⟩
    · exact .inl ho
    · subst hv
      exact .inr ⟨g, cap, cur, rfl, hg, by rw [hs g (by simp [vkeys])]; exact hh, hr⟩
  lt := by
    rintro E w ⟨vs, ha, _, hl, ho⟩ b hb
    rcases ho with ⟨ho, _⟩ | ⟨g, cap, cur, hv, hg, hh, hr⟩
    · subst ho; simp [vkeys] at hb
    · subst hv
      simp [vkeys] at hb; subst hb
      exact (Array.getElem?_eq_some_iff.1 hh).1

def keysL (L : List Ent) : List Nat := (L.map (·.keys)).flatten
theorem keysL_append (A B : List Ent) : keysL (A ++ B) = keysL A ++ keysL B := by simp [keysL]
theorem keysL_mem {L : List Ent} {b : Nat} : b ∈ keysL L ↔ ∃ e, e ∈ L ∧ b ∈ e.keys := by
  simp only [keysL, List.mem_flatten, List.mem_map]
  exact ⟨fun ⟨l, ⟨e, h1, h2⟩, h3⟩ => ⟨e, h1, h2 ▸ h3⟩, fun ⟨e, h1, h2⟩ => ⟨_, ⟨e, h1, rfl⟩, h2⟩⟩
def tot (E : Nat → Prop) (L : List Ent) (b : Nat) : Prop := E b ∨ b ∈ keysL L

/-- The state of memory: of what was there at w0 only the blocks of M have changed; L is owned; D is known. E: the blocks that are not ours to read. -/
structure St0 (E : Nat → Prop) (M : List Nat) (w0 w : World) (L : List Ent) (D : List Fact) : Prop where
  chg : Chg M w0 w
  ent : ∀ e, e ∈ L → e.p (tot E L) w
  fact : ∀ d, d ∈ D → d.p (tot E L) w
  nodup : (keysL L).Nodup
  key : ∀ b, b ∈ keysL L → (w0.heap.size ≤ b ∨ b ∈ M) ∧ ¬ E b
  bnd : ∀ b, E b → b < w0.heap.size

theorem St0.lt {E : Nat → Prop} {M : List Nat} {w0 w : World} {L : List Ent} {D : List Fact} (S : St0 E M w0 w L D) : ∀ b, b ∈ keysL L → b < w.heap.size := by
  intro b hb
  obtain ⟨e, he, hk⟩ := keysL_mem.1 hb
  exact e.lt (S.ent e he) b hk

/-- THE STEP: the owned things of B become those of B'; the rest R and the facts stay. -/
theorem St0.upd {E : Nat → Prop} {M : List Nat} {w0 w w' : World} {B Rs : List Ent} {D : List Fact} (S : St0 E M w0 w (B ++ Rs) D) (hk : Chg (keysL B) w w') (B' : List Ent) (D' : List Fact)
    (h : St0 (tot E Rs) (keysL B) w w' B' D') : St0 E M w0 w' (B' ++ Rs) (D' ++ D) := by
  have hlt := S.lt
  have hnd := S.nodup
  rw [keysL_append, List.nodup_append] at hnd
  obtain ⟨_, n2, n3⟩ := hnd
  have hE : ∀ b, tot (tot E Rs) B' b ↔ tot E (B' ++ Rs) b := by
    intro b
    simp only [tot, keysL_append, List.mem_append]
    constructor
    · rintro ((h | h) | h)
      · exact .inl h
      · exact .inr (.inr h)
      · exact .inr (.inl h)
    · rintro (h | h | h)
      · exact .inl (.inl h)
      · exact .inr h
      · exact .inl (.inr h)
  have hEq : tot (tot E Rs) B' = tot E (B' ++ Rs) := funext fun b => propext (hE b)
  have hext : Ext (tot E (B ++ Rs)) (tot E (B' ++ Rs)) w w' := by
    refine ⟨hk.size, fun b hb hn _ => hk.block b hb (fun e => hn (.inr (by rw [keysL_append]; exact List.mem_append_left _ e))), fun b hb he => ?_⟩
    rcases he with he | he
    · exact .inl he
    · rw [keysL_append, List.mem_append] at he
      rcases he with he | he
      · rcases (h.key b he).1 with h1 | h1
        · omega
        · exact .inr (by rw [keysL_append]; exact List.mem_append_left _ h1)
      · exact .inr (by rw [keysL_append]; exact List.mem_append_right _ he)
  refine ⟨?_, ?_, ?_, ?_, ?_, S.bnd⟩
  · refine S.chg.trans hk (fun j hj => ?_)
    rcases (S.key j (by rw [keysL_append]; exact List.mem_append_left _ hj)).1 with h1 | h1
    · exact .inr h1
    · exact .inl h1
  · intro e he
    rcases List.mem_append.1 he with he | he
    · rw [← hEq]; exact h.ent e he
    · refine e.mono hext (fun b hb => ?_) (S.ent e (List.mem_append_right _ he))
      have hb2 : b ∈ keysL Rs := keysL_mem.2 ⟨e, he, hb⟩
      exact hk.block b (hlt b (by rw [keysL_append]; exact List.mem_append_right _ hb2)) (fun h1 => n3 b h1 b hb2 rfl)
  · intro d hd
    rcases List.mem_append.1 hd with hd | hd
    · rw [← hEq]; exact h.fact d hd
    · exact d.mono hext (S.fact d hd)
  · rw [keysL_append, List.nodup_append]
    refine ⟨h.nodup, n2, fun b hb c hc e => ?_⟩
    subst e
    exact (h.key b hb).2 (.inr hc)
  · intro b hb
    rw [keysL_append, List.mem_append] at hb
    rcases hb with hb | hb
    · refine ⟨?_, fun e => (h.key b hb).2 (.inl e)⟩
      rcases (h.key b hb).1 with h1 | h1
      · exact .inl (Nat.le_trans S.chg.size h1)
      · exact (S.key b (by rw [keysL_append]; exact List.mem_append_left _ h1)).1
    · exact S.key b (by rw [keysL_append]; exact List.mem_append_right _ hb)

/-- another order, or fewer, of the owned things; fewer facts -/
theorem St0.sub {E : Nat → Prop} {M : List Nat} {w0 w : World} {L L' : List Ent} {D D' : List Fact} (S : St0 E M w0 w L D) (hL : ∀ e, e ∈ L' → e ∈ L) (hn : (keysL L').Nodup) (hD : ∀ d, d ∈ D' → d ∈ D) : St0 E M w0 w L' D' := by
  have hk : ∀ b, b ∈ keysL L' → b ∈ keysL L := fun b hb => by
    obtain ⟨e, he, h⟩ := keysL_mem.1 hb
    exact keysL_mem.2 ⟨e, hL e he, h⟩
  have hext : Ext (tot E L) (tot E L') w w := ⟨Nat.le_refl _, fun _ _ _ _ => rfl, fun b _ h => h.imp id (hk b)⟩
  exact ⟨S.chg, fun e he => e.mono hext (fun _ _ => rfl) (S.ent e (hL e he)), fun d hd => d.mono hext (S.fact d (hD d hd)), hn, fun b hb => S.key b (hk b hb), S.bnd⟩
theorem nodup_sub {L L' : List Ent} (h : L'.Sublist L) (hn : (keysL L).Nodup) : (keysL L').Nodup := by
  have hs : (keysL L').Sublist (keysL L) := by
    clear hn
    induction h with
    | slnil => exact List.Sublist.refl _
    | cons e _ ih => exact ih.trans (by simp [keysL])
    | cons_cons e _ ih => simpa [keysL] using ih
  exact hn.sublist hs
theorem keysL_perm {L L' : List Ent} (h : L'.Perm L) (hn : (keysL L).Nodup) : (keysL L').Nodup := by
  unfold keysL at *
  exact (List.Perm.flatten (h.map _)).nodup_iff.2 hn
theorem St0.perm {E : Nat → Prop} {M : List Nat} {w0 w : World} {L L' : List Ent} {D : List Fact} (S : St0 E M w0 w L D) (h : L'.Perm L) : St0 E M w0 w L' D :=
  S.sub (fun _ he => h.mem_iff.1 he) (keysL_perm h S.nodup) (fun _ h => h)
theorem St0.drew {E : Nat → Prop} {M : List Nat} {w0 w : World} {L : List Ent} {D : List Fact} (S : St0 E M w0 w L D) : St0 E M w0 w.drew L D := by
  have hext : Ext (tot E L) (tot E L) w w.drew := ⟨Nat.le_refl _, fun _ _ _ _ => rfl, fun b _ h => h⟩
  exact ⟨S.chg.drew, fun e he => e.mono hext (fun _ _ => rfl) (S.ent e he), fun d hd => d.mono hext (S.fact d hd), S.nodup, S.key, S.bnd⟩
/-- what is owned becomes read-only: the facts on it follow -/
theorem St0.enter {E : Nat → Prop} {w : World} {B : List Ent} {D : List Fact} {M : List Nat} {w0 : World} {Rs : List Ent} {D0 : List Fact} (S : St0 E M w0 w (B ++ Rs) D0) (hD : ∀ d, d ∈ D → d ∈ D0) : St0 (tot E Rs) (keysL B) w w B D := by
  have hnd := S.nodup
  rw [keysL_append, List.nodup_append] at hnd
  obtain ⟨n1, n2, n3⟩ := hnd
  have hEq : tot (tot E Rs) B = tot E (B ++ Rs) := by
    funext b
    simp only [tot, keysL_append, List.mem_append]
    exact propext ⟨fun h => by rcases h with (h | h) | h; exact .inl h; exact .inr (.inr h); exact .inr (.inl h), fun h => by rcases h with h | h | h; exact .inl (.inl h); exact .inr h; exact .inl (.inr h)⟩
  refine ⟨Chg.refl _ _, fun e he => by rw [hEq]; exact S.ent e (List.mem_append_left _ he), fun d hd => by rw [hEq]; exact S.fact d (hD d hd), n1, fun b hb => ⟨.inr hb, fun h => ?_⟩, fun b hb => ?_⟩
  · rcases h with h | h
    · exact (S.key b (by rw [keysL_append]; exact List.mem_append_left _ hb)).2 h
    · exact n3 b hb b h rfl
  · rcases hb with hb | hb
    · exact Nat.lt_of_lt_of_le (S.bnd b hb) S.chg.size
    · exact S.lt b (by rw [keysL_append]; exact List.mem_append_right _ hb)

end Go.Proofs.YtdfjcpnflmgdoaaDoor
namespace Go.Proofs.YtdfjcpnflmgdoaaDoor
open Go.RowKit
set_option linter.unusedVariables false

def look : List (Nat × Value) → Nat → Option Value
  | [], _ => none
  | (d, v) :: F, t => if d = t then some v else look F t
structure Frm (dq : List Deferred) (n : Nat) (a : Act) (F : List (Nat × Value)) : Prop where
  defers : a.defers = dq
  size : a.tmps.size = n
  get : ∀ t v, look F t = some v → a.tmps[t]? = some v
theorem Frm.put {dq : List Deferred} {n : Nat} {a : Act} {F : List (Nat × Value)} (h : Frm dq n a F) {d : Nat} (hd : d < n) (v : Value) : Frm dq n (a.put (some d) v) ((d, v) :: F) := by
  refine ⟨h.defers, by simp [Act.put, h.size], fun t u ht => ?_⟩
  simp only [look] at ht
  show (a.tmps.setIfInBounds d v)[t]? = some u
  rw [Array.getElem?_setIfInBounds]
  split at ht
  · rename_i e
    subst e
    rw [if_pos rfl, if_pos (by rw [h.size]; exact hd)]
    exact ht
  · rename_i e
    rw [if_neg e]
    exact h.get t u ht
def lookO (F : List (Nat × Value)) : Operand → Option Value
  | .tmp t => look F t
  | .const v => some v
  | .global g => some (.pointer (some ⟨g, 0, none⟩))
  | .func f => some (.func (.func f) #[] #[])
theorem Frm.eval {dq : List Deferred} {n : Nat} {a : Act} {F : List (Nat × Value)} (h : Frm dq n a F) {x : Operand} {v : Value} (hx : lookO F x = some v) : a.eval x = v := by
  cases x with
  | tmp t => simp only [lookO] at hx; simp [Act.eval, Array.getD_eq_getD_getElem?, h.get t v hx]
  | const u => simpa [lookO, Act.eval] using hx
  | global g => simpa [lookO, Act.eval] using hx
  | func f => simpa [lookO, Act.eval] using hx
theorem Frm.sub {dq : List Deferred} {n : Nat} {a : Act} {F F' : List (Nat × Value)} (h : Frm dq n a F) (hs : F'.map (fun q => look F q.1) = F'.map (fun q => some q.2)) : Frm dq n a F' := by
  refine ⟨h.defers, h.size, fun t v ht => h.get t v ?_⟩
  induction F' with
  | nil => simp [look] at ht
  | cons q F' ih =>
    simp only [List.map_cons, List.cons.injEq] at hs
    simp only [look] at ht
    split at ht
    · rename_i e
      rw [← e, hs.1]
      exact ht
    · exact ih hs.2 ht

/-- the whole state of a walk -/
structure St (dq : List Deferred) (E : Nat → Prop) (M : List Nat) (w0 : World) (n : Nat) (a : Act) (w : World) (F : List (Nat × Value)) (L : List Ent) (D : List Fact) : Prop where
  frm : Frm dq n a F
  mem : St0 E M w0 w L D
/-- select: what is wanted of a state, by the places in the lists -/
theorem getList_mem {α : Type} {l l' : List α} {is : List Nat} (h : is.map (fun i => l[i]?) = l'.map some) : ∀ x, x ∈ l' → x ∈ l := by
  induction l' generalizing is with
  | nil => intro x hx; simp at hx
  | cons y l' ih =>
    cases is with
    | nil => simp at h
    | cons i is =>
      simp only [List.map_cons, List.cons.injEq] at h
      intro x hx
      rcases List.mem_cons.1 hx with rfl | hx
      · exact List.mem_of_getElem? h.1
      · exact ih h.2 x hx
theorem getList_perm {l : List Ent} {is : List Nat} {l' : List Ent} (hn : is.Nodup) (h : is.map (fun i => l[i]?) = l'.map some) (hk : (keysL l).Nodup) : (keysL l').Nodup := by
  have hkey : ∀ (i j : Nat) (e f : Ent) (b : Nat), l[i]? = some e → l[j]? = some f → b ∈ e.keys → b ∈ f.keys → i = j := by
    clear h hn
    induction l with
    | nil => intro i j e f b hi; simp at hi
    | cons x l ih =>
      unfold keysL at hk ih
      simp only [List.map_cons, List.flatten_cons, List.nodup_append] at hk
      intro i j e f b hi hj h1 h2
      cases i with
      | zero =>
        simp at hi; subst hi
        cases j with
        | zero => rfl
        | succ j =>
          simp at hj
          exact absurd rfl (hk.2.2 b h1 b (by simp only [List.mem_flatten, List.mem_map]; exact ⟨_, ⟨f, List.mem_of_getElem? hj, rfl⟩, h2⟩))
      | succ i =>
        simp at hi
        cases j with
        | zero =>
          simp at hj; subst hj
          exact absurd rfl (hk.2.2 b h2 b (by simp only [List.mem_flatten, List.mem_map]; exact ⟨_, ⟨e, List.mem_of_getElem? hi, rfl⟩, h1⟩))
        | succ j =>
          simp at hj
          rw [ih hk.2.1 i j e f b hi hj h1 h2]
  have hself : ∀ (i : Nat) (e : Ent), l[i]? = some e → e.keys.Nodup := by
    intro i e hi
    exact hk.sublist (by
      unfold keysL
      have hm := List.mem_of_getElem? hi
      clear hi hk h hkey hn
      induction l with
      | nil => simp at hm
      | cons x l ih =>
        rcases List.mem_cons.1 hm with rfl | hm
        · simp
        · exact (ih hm).trans (by simp))
  clear hk
  induction l' generalizing is with
  | nil => simp [keysL]
  | cons e l' ih =>
    cases is with
    | nil => simp at h
    | cons i is =>
      simp only [List.map_cons, List.cons.injEq] at h
      rw [List.nodup_cons] at hn
      have h2 := ih hn.2 h.2
      unfold keysL at h2 ⊢
      simp only [List.map_cons, List.flatten_cons, List.nodup_append]
      refine ⟨hself i e h.1, h2, fun b hb c hc he => ?_⟩
      subst he
      simp only [List.mem_flatten, List.mem_map] at hc
      obtain ⟨k, ⟨f, hf, rfl⟩, hbf⟩ := hc
      -- f stands at a place j of is
      have : ∃ j, j ∈ is ∧ l[j]? = some f := by
        have h3 := h.2
        clear ih h2 h hkey hself hn
        induction l' generalizing is with
        | nil => simp at hf
        | cons y l' ih =>
          cases is with
          | nil => simp at h3
          | cons j is =>
            simp only [List.map_cons, List.cons.injEq] at h3
            rcases List.mem_cons.1 hf with rfl | hf
            · exact ⟨j, by simp, h3.1⟩
            · obtain ⟨j', h4, h5⟩ := ih is hf h3.2
              exact ⟨j', List.mem_cons_of_mem _ h4, h5⟩
      obtain ⟨j, hj, hl⟩ := this
      have := hkey i j e f b h.1 hl hb hbf
      subst this
      exact hn.1 hj
theorem St0.sel {E : Nat → Prop} {M : List Nat} {w0 w : World} {L L' : List Ent} {D D' : List Fact} (S : St0 E M w0 w L D) (is js : List Nat) (hn : is.Nodup)
    (hL : is.map (fun i => L[i]?) = L'.map some) (hD : js.map (fun i => D[i]?) = D'.map some) : St0 E M w0 w L' D' :=
  S.sub (getList_mem hL) (getList_perm hn hL S.nodup) (getList_mem hD)
theorem St.fix {dq : List Deferred} {E : Nat → Prop} {M : List Nat} {w0 : World} {n : Nat} {a : Act} {w : World} {F F' : List (Nat × Value)} {L L' : List Ent} {D D' : List Fact} (S : St dq E M w0 n a w F L D) (is js : List Nat) (hn : is.Nodup)
    (hF : F'.map (fun q => look F q.1) = F'.map (fun q => some q.2)) (hL : is.map (fun i => L[i]?) = L'.map some) (hD : js.map (fun i => D[i]?) = D'.map some) : St dq E M w0 n a w F' L' D' :=
  ⟨S.frm.sub hF, S.mem.sel is js hn hL hD⟩

section
variable {P : Program} {dq : List Deferred} {E : Nat → Prop} {M : List Nat} {w0 : World} {n : Nat} {a : Act} {w : World} {F : List (Nat × Value)} {L : List Ent} {D : List Fact}

/-- the entry of a function -/
theorem sEnter {f : FuncId} {fn : Func} {c : Code} {args : List Value} {Rt : Ending → World → Prop} (m : Nat) (hf : P.funcs[f]? = some fn) (hb : fn.body = some c) (hm : fn.ntmps = m) (ha : args.length ≤ m) (S : St0 E M w0 w L D)
    (h : ∀ a, St [] E M w0 m a w ((List.range args.length).zip args) L D → c.wp P (bodyPost P fn Rt) a w) : Calls P f args.toArray w Rt := by
  refine calls_of_wp hf hb (h _ ⟨⟨rfl, ?_, ?_⟩, S⟩)
  · simp [hm]; omega
  · intro t v ht
    have key : ∀ (l : List Value) (k : Nat), look ((List.range' k l.length).zip l) t = some v → k ≤ t ∧ l[t - k]? = some v := by
      intro l
      induction l with
      | nil => intro k h; simp [look] at h
      | cons u l ih =>
        intro k h
        simp only [List.length_cons, List.range'_succ, List.zip_cons_cons, look] at h
        split at h
        · rename_i e; subst e; simpa using h
        · rename_i e
          have := ih (k + 1) h
          refine ⟨by omega, ?_⟩
          rw [show t - k = (t - (k + 1)) + 1 by omega]
          simpa using this.2
    rw [List.range_eq_range'] at ht
    have := (key args 0 ht).2
    simp at this
    have hlt : t < args.length := (List.getElem?_eq_some_iff.1 this).1
    rw [Array.getElem?_append_left (by simpa using hlt)]
    simpa using this

/-- a guard that says yes -/
theorem wN {ops : Array Oper} {o : Oper} (h : o.guard = none) : ∀ a, Frm dq n a F → Region.wanted o (yielded ops a.tmps) = true := fun _ _ => by simp [Region.wanted, h]
theorem wG {ops : Array Oper} {o : Oper} {c : Bool} (j : Nat) (want : Bool) (d : Nat) (hg : o.guard = some (j, want)) (hd : (ops[j]?).bind (·.dst) = some d) (hl : look F d = some (.bool c)) (hc : c = want) :
    ∀ a, Frm dq n a F → Region.wanted o (yielded ops a.tmps) = true := fun a h => by
  subst hc
  simp [Region.wanted, hg, yielded, hd, h.get d _ hl]
/-- an operation that is not wanted -/
theorem sSkip {ops : Array Oper} {rest : List Oper} {o : Oper} {Q : Exit → Act → World → Prop} {c : Bool} (j : Nat) (want : Bool) (d : Nat) (t : Nat) (S : St dq E M w0 n a w F L D) (hg : o.guard = some (j, want)) (hd : (ops[j]?).bind (·.dst) = some d)
    (hl : look F d = some (.bool c)) (hc : c = !want) (ht : o.dst = some t) (hn : t < n) (k : ∀ a, St dq E M w0 n a w ((t, undef) :: F) L D → wpList P ops Q rest a w) : wpList P ops Q (o :: rest) a w := by
  subst hc
  refine wpList_skip (by simp [Region.wanted, hg, yielded, hd, S.frm.get d _ hl]) ?_
  rw [ht]
  exact k _ ⟨S.frm.put hn _, S.mem⟩
/-- an operation that is not wanted because its guard was not wanted -/
theorem sSkipU {ops : Array Oper} {rest : List Oper} {o : Oper} {Q : Exit → Act → World → Prop} (j : Nat) (want : Bool) (d : Nat) (t : Nat) (S : St dq E M w0 n a w F L D) (hg : o.guard = some (j, want)) (hd : (ops[j]?).bind (·.dst) = some d)
    (hl : look F d = some undef) (ht : o.dst = some t) (hn : t < n) (k : ∀ a, St dq E M w0 n a w ((t, undef) :: F) L D → wpList P ops Q rest a w) : wpList P ops Q (o :: rest) a w := by
  refine wpList_skip (by simp [Region.wanted, hg, yielded, hd, S.frm.get d _ hl, undef]) ?_
  rw [ht]
  exact k _ ⟨S.frm.put hn _, S.mem⟩

theorem sVal {ops : Array Oper} {rest : List Oper} {o : Oper} {Q : Exit → Act → World → Prop} {v : Value} {w' : World} {L' : List Ent} {D' : List Fact} {d : Nat} (S : St dq E M w0 n a w F L D)
    (hw : ∀ a, Frm dq n a F → Region.wanted o (yielded ops a.tmps) = true) (hd : o.dst = some d) (hn : d < n)
    (hrun : (execOp a.eval o).run P w = .ok (.value v) w') (hm : St0 E M w0 w' L' D')
    (k : ∀ a, St dq E M w0 n a w' ((d, v) :: F) L' D' → wpList P ops Q rest a w') : wpList P ops Q (o :: rest) a w := by
  refine wpList_step fun K hK => ?_
  rw [if_pos (hw a S.frm)]
  unfold Oper.wp
  rw [hrun]
  show K (a.put o.dst v) w'
  rw [hd]
  exact hK _ _ (k _ ⟨S.frm.put hn _, hm⟩)
/-- an operation without a result (a store) -/
theorem sUnit {ops : Array Oper} {rest : List Oper} {o : Oper} {Q : Exit → Act → World → Prop} {w' : World} {L' : List Ent} {D' : List Fact} (S : St dq E M w0 n a w F L D)
    (hw : ∀ a, Frm dq n a F → Region.wanted o (yielded ops a.tmps) = true) (hd : o.dst = none)
    (hrun : (execOp a.eval o).run P w = .ok .skip w') (hm : St0 E M w0 w' L' D')
    (k : ∀ a, St dq E M w0 n a w' F L' D' → wpList P ops Q rest a w') : wpList P ops Q (o :: rest) a w := by
  refine wpList_step fun K hK => ?_
  rw [if_pos (hw a S.frm)]
  unfold Oper.wp
  rw [hrun]
  show K (a.put o.dst undef) w'
  rw [hd]
  exact hK _ _ (k _ ⟨S.frm, hm⟩)
/-- move, assign -/
theorem sMove {ops : Array Oper} {rest : List Oper} {o : Oper} {Q : Exit → Act → World → Prop} {x : Operand} {d : Nat} (v : Value) (S : St dq E M w0 n a w F L D)
    (hw : ∀ a, Frm dq n a F → Region.wanted o (yielded ops a.tmps) = true) (ho : o.op = .move x ∨ o.op = .assign x) (hx : lookO F x = some v) (hd : o.dst = some d) (hn : d < n)
    (k : ∀ a, St dq E M w0 n a w ((d, v) :: F) L D → wpList P ops Q rest a w) : wpList P ops Q (o :: rest) a w := by
  have he := S.frm.eval hx
  refine sVal S hw hd hn ?_ S.mem k
  rcases ho with ho | ho <;> simp [execOp, ho, he, pure]
theorem sPickT {ops : Array Oper} {rest : List Oper} {o : Oper} {Q : Exit → Act → World → Prop} {c x y : Operand} {b : Bool} {d : Nat} (v : Value) (S : St dq E M w0 n a w F L D)
    (hw : ∀ a, Frm dq n a F → Region.wanted o (yielded ops a.tmps) = true) (ho : o.op = .pick c x y) (hc : lookO F c = some (.bool b)) (hb : b = true) (hx : lookO F x = some v) (hd : o.dst = some d) (hn : d < n)
    (k : ∀ a, St dq E M w0 n a w ((d, v) :: F) L D → wpList P ops Q rest a w) : wpList P ops Q (o :: rest) a w := by
  subst hb
  have he := S.frm.eval hx
  have hec := S.frm.eval hc
  exact sVal S hw hd hn (by simp [execOp, ho, he, hec, asBool, pure, bind, Sem.bind]) S.mem k
theorem sPickF {ops : Array Oper} {rest : List Oper} {o : Oper} {Q : Exit → Act → World → Prop} {c x y : Operand} {b : Bool} {d : Nat} (v : Value) (S : St dq E M w0 n a w F L D)
    (hw : ∀ a, Frm dq n a F → Region.wanted o (yielded ops a.tmps) = true) (ho : o.op = .pick c x y) (hc : lookO F c = some (.bool b)) (hb : b = false) (hy : lookO F y = some v) (hd : o.dst = some d) (hn : d < n)
    (k : ∀ a, St dq E M w0 n a w ((d, v) :: F) L D → wpList P ops Q rest a w) : wpList P ops Q (o :: rest) a w := by
  subst hb
  have he := S.frm.eval hy
  have hec := S.frm.eval hc
  exact sVal S hw hd hn (by simp [execOp, ho, he, hec, asBool, pure, bind, Sem.bind]) S.mem k
/-- an operation of two operands -/
theorem sBin {ops : Array Oper} {rest : List Oper} {o : Oper} {Q : Exit → Act → World → Prop} {op : BinOp} {t u : TypeId} {x y : Operand} {vx vy : Value} {d : Nat} (v : Value) (S : St dq E M w0 n a w F L D)
    (hw : ∀ a, Frm dq n a F → Region.wanted o (yielded ops a.tmps) = true) (ho : o.op = .binOp op t x y u) (hx : lookO F x = some vx) (hy : lookO F y = some vy)
    (hb : ∀ w, (eqGuard op t x y vx vy).run P w = .ok () w ∧ (binOp op t vx vy).run P w = .ok v w) (hd : o.dst = some d) (hn : d < n)
    (k : ∀ a, St dq E M w0 n a w ((d, v) :: F) L D → wpList P ops Q rest a w) : wpList P ops Q (o :: rest) a w := by
  have hex := S.frm.eval hx
  have hey := S.frm.eval hy
  refine sVal S hw hd hn ?_ S.mem k
  simp only [execOp, ho, hex, hey, Sem.run_bind, (hb w).1, (hb w).2, Result.andThen_ok, Sem.run_pure]
end

end Go.Proofs.YtdfjcpnflmgdoaaDoor
namespace Go.Proofs.YtdfjcpnflmgdoaaDoor
open Go.RowKit
set_option linter.unusedVariables false

/-- a loop as a partial function: .inl s: another round; .inr t: left with t -/
def iterO {σ τ : Type} (B : σ → Option (σ ⊕ τ)) : Nat → σ → Option τ
  | 0, _ => none
  | n + 1, s => (B s).bind fun c => match c with | .inl s' => iterO B n s' | .inr t => some t
theorem iterO_mono {σ τ : Type} {B : σ → Option (σ ⊕ τ)} {n : Nat} {s : σ} {t : τ} (h : iterO B n s = some t) : iterO B (n + 1) s = some t := by
  induction n generalizing s with
  | zero => simp [iterO] at h
  | succ n ih =>
    unfold iterO at h ⊢
    cases hb : B s with
    | none => rw [hb] at h; simp at h
    | some c =>
      rw [hb] at h
      cases c with
      | inl s' => simp only [Option.bind_some] at h ⊢; exact ih h
      | inr u => simpa using h
theorem iterO_le {σ τ : Type} {B : σ → Option (σ ⊕ τ)} {n m : Nat} {s : σ} {t : τ} (h : iterO B n s = some t) (hm : n ≤ m) : iterO B m s = some t := by
  induction hm with
  | refl => exact h
  | step _ ih => exact iterO_mono ih
open Classical in
noncomputable def whileO {σ τ : Type} (B : σ → Option (σ ⊕ τ)) (s : σ) : Option τ :=
  if h : ∃ t n, iterO B n s = some t then some h.choose else none
theorem whileO_of {σ τ : Type} {B : σ → Option (σ ⊕ τ)} {s : σ} {t : τ} {n : Nat} (h : iterO B n s = some t) : whileO B s = some t := by
  have hx : ∃ t n, iterO B n s = some t := ⟨t, n, h⟩
  unfold whileO
  rw [dif_pos hx]
  obtain ⟨m, hm⟩ := hx.choose_spec
  have h1 := iterO_le h (Nat.le_max_left n m)
  have h2 := iterO_le hm (Nat.le_max_right n m)
  rw [h1] at h2
  exact h2.symm
theorem whileO_some {σ τ : Type} {B : σ → Option (σ ⊕ τ)} {s : σ} {t : τ} (h : whileO B s = some t) : ∃ n, iterO B n s = some t := by
  unfold whileO at h
  split at h
  · rename_i hx
    have := hx.choose_spec
    simp only [Option.some.injEq] at h
    rw [h] at this
    exact this
  · cases h
theorem whileO_step {σ τ : Type} {B : σ → Option (σ ⊕ τ)} {s s' : σ} (h : B s = some (.inl s')) : whileO B s = whileO B s' := by
  have hi : ∀ n, iterO B (n + 1) s = iterO B n s' := fun n => by rw [iterO, h]; rfl
  cases hx : whileO B s' with
  | some t =>
    obtain ⟨n, hn⟩ := whileO_some hx
    exact whileO_of (n := n + 1) (by rw [hi]; exact hn)
  | none =>
    cases hy : whileO B s with
    | none => rfl
    | some t =>
      obtain ⟨n, hn⟩ := whileO_some hy
      cases n with
      | zero => simp [iterO] at hn
      | succ n => rw [hi] at hn; rw [whileO_of hn] at hx; cases hx
theorem whileO_done {σ τ : Type} {B : σ → Option (σ ⊕ τ)} {s : σ} {t : τ} (h : B s = some (.inr t)) : whileO B s = some t :=
  whileO_of (n := 1) (by rw [iterO, h]; rfl)
/-- THE LAW OF LOOPS for plain proofs: what holds at the head holds on, a measure goes down -/
theorem whileO_inv {σ τ : Type} {B : σ → Option (σ ⊕ τ)} (I : σ → Prop) (μ : σ → Nat) (Pt : τ → Prop) {s : σ} (h0 : I s)
    (hr : ∀ s, I s → (∃ s', B s = some (.inl s') ∧ I s' ∧ μ s' < μ s) ∨ (∃ t, B s = some (.inr t) ∧ Pt t)) : ∃ t, whileO B s = some t ∧ Pt t := by
  have key : ∀ n s, μ s = n → I s → ∃ t, whileO B s = some t ∧ Pt t := by
    intro n
    induction n using Nat.strongRecOn with
    | _ n ih =>
      intro s hn hI
      rcases hr s hI with ⟨s', h1, h2, h3⟩ | ⟨t, h1, h2⟩
      · rw [whileO_step h1]
        exact ih _ (hn ▸ h3) _ rfl h2
      · exact ⟨t, whileO_done h1, h2⟩
  exact key _ s rfl h0

theorem bindSome {α β : Type} {x : Option α} {f : α → Option β} {r : β} (h : x.bind f = some r) : ∃ y, x = some y ∧ f y = some r := by
  cases x with
  | none => simp at h
  | some y => exact ⟨y, rfl, by simpa using h⟩
theorem iteSome {α : Type} {c : Bool} {x y : Option α} {r : α} (h : (if c = true then x else y) = some r) : (c = true ∧ x = some r) ∨ (c = false ∧ y = some r) := by
  cases c
  · exact .inr ⟨rfl, by simpa using h⟩
  · exact .inl ⟨rfl, by simpa using h⟩

section
variable {P : Program} {dq : List Deferred} {E : Nat → Prop} {M : List Nat} {w0 : World} {n : Nat} {a : Act} {w : World} {F : List (Nat × Value)} {L : List Ent} {D : List Fact} {Q : Exit → Act → World → Prop}

theorem sSeq {x y : Code} (h : ∀ K : Act → World → Prop, (∀ a w, y.wp P Q a w → K a w) → x.wp P (Exit.then K Q) a w) : (Code.seq x y).wp P Q a w := wp_seq_k h
/-- a cut: I holds between x and y -/
theorem sCut {x y : Code} (I : Act → World → Prop) (h1 : x.wp P (Exit.then I Q) a w) (h2 : ∀ a w, I a w → y.wp P Q a w) : (Code.seq x y).wp P Q a w :=
  wp_seq (wp_mono h1 fun e a w hq => by
    cases e with
    | normal => exact h2 a w hq
    | _ => exact hq)
theorem sRegion {id : Nat} {l : List Oper} (h : wpList P l.toArray Q l a w) : (Code.region id l.toArray false).wp P Q a w := wp_region_lit h
theorem sCondT {c : Operand} {b : Bool} {x y : Code} (S : St dq E M w0 n a w F L D) (hc : lookO F c = some (.bool b)) (hb : b = true) (h : x.wp P Q a w) : (Code.cond c x y).wp P Q a w :=
  wp_cond_true (by rw [S.frm.eval hc, hb]) h
theorem sCondF {c : Operand} {b : Bool} {x y : Code} (S : St dq E M w0 n a w F L D) (hc : lookO F c = some (.bool b)) (hb : b = false) (h : y.wp P Q a w) : (Code.cond c x y).wp P Q a w :=
  wp_cond_false (by rw [S.frm.eval hc, hb]) h
theorem sLoop {σ τ : Type} {c : Code} {B : σ → Option (σ ⊕ τ)} {s : σ} {t : τ} (hw : whileO B s = some t) (I : σ → Act → World → Prop) (h0 : I s a w)
    (round : ∀ s a w r, I s a w → B s = some r → (∀ u, r = .inr u → u = t) → c.wp P (Exit.then (fun a' w' => ∃ s', r = .inl s' ∧ I s' a' w') Q) a w) : (Code.loop c).wp P Q a w := by
  obtain ⟨m, hm⟩ := whileO_some hw
  clear hw
  intro b k cs
  have key : ∀ m s a w, iterO B m s = some t → I s a w →
      ∃ e a' w', Q e a' w' ∧ Arrives P (lone (b.at a (.code c :: .inLoop c :: k)) cs w) b k cs e a' w' := by
    intro m
    induction m with
    | zero => intro s a w hm; simp [iterO] at hm
    | succ m ih =>
      intro s a w hm hI
      rw [iterO] at hm
      obtain ⟨r, hr, hm⟩ := bindSome hm
      obtain ⟨e, a₁, w₁, hq, harr⟩ := round s a w r hI hr (by rintro u rfl; simpa using hm) b (.inLoop c :: k) cs
      cases e with
      | normal =>
        obtain ⟨s', rfl, hI'⟩ := hq
        obtain ⟨e₂, a₂, w₂, hq₂, harr₂⟩ := ih s' a₁ w₁ hm hI'
        exact ⟨e₂, a₂, w₂, hq₂, .of_steps (Steps.trans harr (.one step_inLoop)) harr₂⟩
      | exit id => exact ⟨_, a₁, w₁, hq, .pass (x := .inLoop c) rfl (fun _ _ => .inl (by simp)) harr⟩
      | goto l => exact ⟨_, a₁, w₁, hq, .pass (x := .inLoop c) rfl (fun _ _ => .inl (by simp)) harr⟩
      | ret => exact ⟨_, a₁, w₁, hq, .pass (x := .inLoop c) rfl (fun _ _ => .inl (by simp)) harr⟩
      | panic ch => exact ⟨_, a₁, w₁, hq, .pass (x := .inLoop c) rfl (fun _ _ => .inl (by simp)) harr⟩
      | outgrown => exact ⟨_, a₁, w₁, hq, .pass (x := .inLoop c) rfl (fun _ _ => .inl (by simp)) harr⟩
  obtain ⟨e, a', w', hq, harr⟩ := key m s a w hm h0
  exact ⟨e, a', w', hq, .of_steps (.one step_loop) harr⟩

/-- what is left at the end of a body -/
theorem sRet {fn : Func} {Rt : Ending → World → Prop} (v : Value) (S : St [] E M w0 n a w F L D) (hr : (results fn a.tmps).run P w = .ok v w) (h : Rt (.returned v) w) : bodyPost P fn Rt .ret a w := ⟨S.frm.defers, v, hr, h⟩
/-- Go's sums on 64 bits, and on other kinds -/
def w64 (x : Int) : Int := IntKind.i64.wrap x
theorem w64_id {x : Int} (h : -9223372036854775808 ≤ x ∧ x ≤ 9223372036854775807) : w64 x = x := by
  simp [w64, IntKind.wrap, IntKind.bits, IntKind.signed]
  omega
def quoI (x y : Int) : Option Int := if y = 0 then none else some (w64 (x.tdiv y))
def remI (x y : Int) : Option Int := if y = 0 then none else some (x.tmod y)
theorem bAdd (t u : TypeId) (p q : Operand) (x y : Int) : ∀ w, (eqGuard .add t p q (.int .i64 x) (.int .i64 y)).run P w = .ok () w ∧ (binOp .add u (.int .i64 x) (.int .i64 y)).run P w = .ok (.int .i64 (w64 (x + y))) w := fun w => ⟨rfl, rfl⟩
theorem bMul (t u : TypeId) (p q : Operand) (x y : Int) : ∀ w, (eqGuard .mul t p q (.int .i64 x) (.int .i64 y)).run P w = .ok () w ∧ (binOp .mul u (.int .i64 x) (.int .i64 y)).run P w = .ok (.int .i64 (w64 (x * y))) w := fun w => ⟨rfl, rfl⟩
theorem bQuo (t u : TypeId) (p q : Operand) {x y z : Int} (h : quoI x y = some z) : ∀ w, (eqGuard .quo t p q (.int .i64 x) (.int .i64 y)).run P w = .ok () w ∧ (binOp .quo u (.int .i64 x) (.int .i64 y)).run P w = .ok (.int .i64 z) w := fun w => by
  unfold quoI at h
  split at h
  · cases h
  · rename_i hy
    cases h
    refine ⟨rfl, ?_⟩
    simp [binOp, Op.intDiv, hy, w64]
theorem bRem (t u : TypeId) (p q : Operand) {x y z : Int} (h : remI x y = some z) : ∀ w, (eqGuard .rem t p q (.int .i64 x) (.int .i64 y)).run P w = .ok () w ∧ (binOp .rem u (.int .i64 x) (.int .i64 y)).run P w = .ok (.int .i64 z) w := fun w => by
  unfold remI at h
  split at h
  · cases h
  · rename_i hy
    cases h
    refine ⟨rfl, ?_⟩
    simp [binOp, Op.intDiv, hy]
theorem bEq (t u : TypeId) (p q : Operand) (k : IntKind) (x y : Int) : ∀ w, (eqGuard .eql t p q (.int k x) (.int k y)).run P w = .ok () w ∧ (binOp .eql u (.int k x) (.int k y)).run P w = .ok (.bool (x == y)) w := fun w => ⟨rfl, by simp [binOp, Op.intCmp]⟩
theorem bNe (t u : TypeId) (p q : Operand) (k : IntKind) (x y : Int) : ∀ w, (eqGuard .neq t p q (.int k x) (.int k y)).run P w = .ok () w ∧ (binOp .neq u (.int k x) (.int k y)).run P w = .ok (.bool (x != y)) w := fun w => ⟨rfl, by simp [binOp, Op.intCmp]⟩
theorem bLt (t u : TypeId) (p q : Operand) (k : IntKind) (x y : Int) : ∀ w, (eqGuard .lss t p q (.int k x) (.int k y)).run P w = .ok () w ∧ (binOp .lss u (.int k x) (.int k y)).run P w = .ok (.bool (decide (x < y))) w := fun w => ⟨rfl, by simp [binOp, Op.intCmp]⟩
theorem bGt (t u : TypeId) (p q : Operand) (k : IntKind) (x y : Int) : ∀ w, (eqGuard .gtr t p q (.int k x) (.int k y)).run P w = .ok () w ∧ (binOp .gtr u (.int k x) (.int k y)).run P w = .ok (.bool (decide (y < x))) w := fun w => ⟨rfl, by simp [binOp, Op.intCmp]⟩
theorem run_equalIn_bool (d : Nat) {u : TypeId} (hu : P.underlying u = some .bool) (x y : Bool) (w : World) : (Op.equalIn (d + 1) u (.bool x) (.bool y)).run P w = .ok (x == y) w := by
  simp [Op.equalIn, run_underlying hu]
theorem bNeB (t u : TypeId) (p q : Operand) (hu : P.underlying u = some .bool) (x y : Bool) : ∀ w, (eqGuard .neq t p q (.bool x) (.bool y)).run P w = .ok () w ∧ (binOp .neq u (.bool x) (.bool y)).run P w = .ok (.bool (x != y)) w := fun w => ⟨rfl, by
  simp only [binOp]
  simp [Op.equal, Op.maxDepth, run_equalIn_bool 9999 hu, bne]⟩

theorem sNot {ops : Array Oper} {rest : List Oper} {o : Oper} {t : TypeId} {x : Operand} {b : Bool} {d : Nat} (S : St dq E M w0 n a w F L D)
    (hw : ∀ a, Frm dq n a F → Region.wanted o (yielded ops a.tmps) = true) (ho : o.op = .unOp .not t x) (hx : lookO F x = some (.bool b)) (hd : o.dst = some d) (hn : d < n)
    (k : ∀ a, St dq E M w0 n a w ((d, .bool (!b)) :: F) L D → wpList P ops Q rest a w) : wpList P ops Q (o :: rest) a w := by
  have he := S.frm.eval hx
  exact sVal S hw hd hn (by simp [execOp, ho, he, Op.unary]) S.mem k
theorem sNeg {ops : Array Oper} {rest : List Oper} {o : Oper} {t : TypeId} {x : Operand} {b : Int} {d : Nat} (S : St dq E M w0 n a w F L D)
    (hw : ∀ a, Frm dq n a F → Region.wanted o (yielded ops a.tmps) = true) (ho : o.op = .unOp .neg t x) (hx : lookO F x = some (.int .i64 b)) (hd : o.dst = some d) (hn : d < n)
    (k : ∀ a, St dq E M w0 n a w ((d, .int .i64 (w64 (0 - b))) :: F) L D → wpList P ops Q rest a w) : wpList P ops Q (o :: rest) a w := by
  have he := S.frm.eval hx
  exact sVal S hw hd hn (by simp [execOp, ho, he, Op.unary, Op.intArith, w64]) S.mem k
theorem sConv {ops : Array Oper} {rest : List Oper} {o : Oper} {t u : TypeId} {k k2 : IntKind} {ds : TypeDesc} {x : Operand} {b : Int} {d : Nat} (S : St dq E M w0 n a w F L D)
    (hw : ∀ a, Frm dq n a F → Region.wanted o (yielded ops a.tmps) = true) (ho : o.op = .convert t u x) (ht : P.underlying t = some ds) (hu : P.underlying u = some (.int k2)) (hx : lookO F x = some (.int k b)) (hd : o.dst = some d) (hn : d < n)
    (K : ∀ a, St dq E M w0 n a w ((d, .int k2 (k2.wrap b)) :: F) L D → wpList P ops Q rest a w) : wpList P ops Q (o :: rest) a w := by
  have he := S.frm.eval hx
  exact sVal S hw hd hn (by simp [execOp, ho, he, convert, run_underlying ht, run_underlying hu, Conv.intToInt]) S.mem K
theorem sExtract {ops : Array Oper} {rest : List Oper} {o : Oper} {i : Nat} {x : Operand} {vs : List Value} {d : Nat} (v : Value) (S : St dq E M w0 n a w F L D)
    (hw : ∀ a, Frm dq n a F → Region.wanted o (yielded ops a.tmps) = true) (ho : o.op = .extract x i) (hx : lookO F x = some (.tuple vs.toArray)) (hv : vs[i]? = some v) (hd : o.dst = some d) (hn : d < n)
    (k : ∀ a, St dq E M w0 n a w ((d, v) :: F) L D → wpList P ops Q rest a w) : wpList P ops Q (o :: rest) a w := by
  have he := S.frm.eval hx
  exact sVal S hw hd hn (by simp [execOp, ho, he, Instr.extract, hv]) S.mem k
end

end Go.Proofs.YtdfjcpnflmgdoaaDoor
namespace Go.Proofs.YtdfjcpnflmgdoaaDoor
open Go.RowKit
set_option linter.unusedVariables false

/-- element i of a list, by Go's index -/
def idxO {α : Type} (xs : List α) (i : Int) : Option α := if 0 ≤ i then xs[i.toNat]? else none
theorem idxO_some {α : Type} {xs : List α} {i : Int} {x : α} (h : idxO xs i = some x) : 0 ≤ i ∧ i.toNat < xs.length ∧ xs[i.toNat]? = some x := by
  unfold idxO at h
  split at h
  · exact ⟨by assumption, (List.getElem?_eq_some_iff.1 h).1, h⟩
  · cases h
def setO {α : Type} (xs : List α) (i : Int) (y : α) : Option (List α) := if 0 ≤ i ∧ i.toNat < xs.length then some (xs.set i.toNat y) else none
theorem setO_some {α : Type} {xs ys : List α} {i : Int} {y : α} (h : setO xs i y = some ys) : 0 ≤ i ∧ i.toNat < xs.length ∧ ys = xs.set i.toNat y := by
  unfold setO at h
  split at h
  · rename_i g; cases h; exact ⟨g.1, g.2, rfl⟩
  · cases h
/-- a pointer to what reads as x -/
def fPtr {α : Type} (r : R α) (q : Value) (x : α) : Fact where
  p := fun E w => ∃ b off v, q = .pointer (some ⟨b, off, none⟩) ∧ ¬ E b ∧ b < w.heap.size ∧ r.rep E w v x ∧ ∀ j u, v.cells.toList[j]? = some u → w.cell? ⟨b, off + j, none⟩ = some u
  mono := by
    rintro E E' w w' h ⟨b, off, v, hq, hE, hb, hr, hc⟩
    refine ⟨b, off, v, hq, fun e => hE (h.excl b hb e), Nat.lt_of_lt_of_le hb h.size, r.mono h hr, fun j u hu => ?_⟩
    rw [World.cell?_of_block (w := w) (h.same b hb hE ⟨_, _, hc j u hu⟩)]
    exact hc j u hu

section
variable {P : Program} {dq : List Deferred} {E : Nat → Prop} {M : List Nat} {w0 : World} {n : Nat} {a : Act} {w : World} {F : List (Nat × Value)} {L : List Ent} {D : List Fact} {Q : Exit → Act → World → Prop}
variable {ops : Array Oper} {rest : List Oper} {o : Oper} {d : Nat}

theorem add_addr (b off k : Nat) : (⟨b, off, none⟩ : Addr).add k = ⟨b, off + k, none⟩ := by
  unfold Addr.add; split <;> simp_all

theorem Ent.allocated {e : Ent} (w : World) (E' : Nat → Prop) (S : St0 E M w0 w L D) (he : e ∈ L) (hE : ∀ b, b < w.heap.size → E' b → tot E L b) (o : Obj) : e.p E' (w.alloc o) :=
  e.mono ⟨by simp, fun b hb _ _ => heap_alloc_old w o hb, hE⟩ (fun b hb => heap_alloc_old w o (S.lt b (keysL_mem.2 ⟨e, he, hb⟩))) (S.ent e he)

/-- a new thing of one's own -/
theorem St0.new (S : St0 E M w0 w L D) (o : Obj) (e : Ent) (hk : e.keys = [w.heap.size]) (hp : e.p (tot E (e :: L)) (w.alloc o)) : St0 E M w0 (w.alloc o) (e :: L) D := by
  have hb : ∀ b, b < w.heap.size → tot E (e :: L) b → tot E L b := by
    intro b hb h
    rcases h with h | h
    · exact .inl h
    · refine .inr ?_
      simp only [keysL, List.map_cons, List.flatten_cons, hk, List.mem_append, List.mem_singleton] at h
      rcases h with h | h
      · omega
      · exact h
  refine ⟨S.chg.trans (Chg.alloc M w o) (fun j hj => .inl hj), ?_, ?_, ?_, ?_, S.bnd⟩
  · intro x hx
    rcases List.mem_cons.1 hx with rfl | hx
    · exact hp
    · exact Ent.allocated w _ S hx hb o
  · intro x hx
    exact x.mono ⟨by simp, fun b hb _ _ => heap_alloc_old w o hb, hb⟩ (S.fact x hx)
  · simp only [keysL, List.map_cons, List.flatten_cons, hk, List.singleton_append, List.nodup_cons]
    exact ⟨fun h => absurd (S.lt _ h) (by omega), S.nodup⟩
  · intro b hx
    simp only [keysL, List.map_cons, List.flatten_cons, hk, List.mem_append, List.mem_singleton] at hx
    rcases hx with rfl | hx
    · exact ⟨.inl S.chg.size, fun h => absurd (S.bnd _ h) (by have := S.chg.size; omega)⟩
    · exact S.key b hx
theorem St0.at {i : Nat} {e : Ent} (S : St0 E M w0 w L D) (h : L[i]? = some e) : e.p (tot E L) w := S.ent e (List.mem_of_getElem? h)
theorem St0.know {i : Nat} {e : Fact} (S : St0 E M w0 w L D) (h : D[i]? = some e) : e.p (tot E L) w := S.fact e (List.mem_of_getElem? h)
theorem St0.learn (S : St0 E M w0 w L D) (e : Fact) (h : e.p (tot E L) w) : St0 E M w0 w L (e :: D) :=
  ⟨S.chg, S.ent, fun x hx => by rcases List.mem_cons.1 hx with rfl | hx; exact h; exact S.fact x hx, S.nodup, S.key, S.bnd⟩
theorem erase_perm {α : Type} {l : List α} {i : Nat} {x : α} (h : l[i]? = some x) : (x :: l.eraseIdx i).Perm l := by
  induction l generalizing i with
  | nil => simp at h
  | cons y l ih =>
    cases i with
    | zero => simp at h; subst h; exact List.Perm.refl _
    | succ i =>
      simp at h
      exact (List.Perm.swap y x _).trans ((ih h).cons y)
/-- thing i becomes another one on the same blocks, or on a new one -/
theorem St0.put {i : Nat} {e : Ent} {w' : World} (S : St0 E M w0 w L D) (hi : L[i]? = some e) (e' : Ent) (hc : Chg e.keys w w') (hk : ∀ b, b ∈ e'.keys → b ∈ e.keys ∨ w.heap.size ≤ b) (hn : e'.keys.Nodup)
    (hp : e'.p (tot E (e' :: L.eraseIdx i)) w') : St0 E M w0 w' (e' :: L.eraseIdx i) D := by
  have hperm : (e :: L.eraseIdx i).Perm L := erase_perm hi
  have S1 := S.perm hperm
  have hE : tot (tot E (L.eraseIdx i)) [e'] = tot E (e' :: L.eraseIdx i) := by
    funext b
    simp only [tot, keysL, List.map_cons, List.flatten_cons, List.map_nil, List.flatten_nil, List.append_nil, List.mem_append]
    exact propext ⟨fun h => by rcases h with (h | h) | h; exact .inl h; exact .inr (.inr h); exact .inr (.inl h), fun h => by rcases h with h | h | h; exact .inl (.inl h); exact .inr h; exact .inl (.inr h)⟩
  have S2 := St0.enter (B := [e]) (Rs := L.eraseIdx i) (D := []) S1 (by simp)
  have key : keysL [e] = e.keys := by simp [keysL]
  have h := St0.upd (B := [e]) (Rs := L.eraseIdx i) S1 (by rw [key]; exact hc) [e'] [] ⟨by rw [key]; exact hc, by intro x hx; simp at hx; subst hx; rw [hE]; exact hp, by simp, by simpa [keysL] using hn, by
    intro b hb
    have hb' : b ∈ e'.keys := by simpa [keysL] using hb
    refine ⟨?_, fun h => ?_⟩
    · rcases hk b hb' with h | h
      · exact .inr (by rw [key]; exact h)
      · exact .inl h
    · rcases hk b hb' with h1 | h1
      · exact (S2.key b (by rw [key]; exact h1)).2 h
      · exact absurd (S2.bnd b h) (by omega), S2.bnd⟩
  simpa using h

/-- box, alloc: a new variable -/
theorem sBox {t : TypeId} {x : Operand} {v : Value} (S : St dq E M w0 n a w F L D)
    (hw : ∀ a, Frm dq n a F → Region.wanted o (yielded ops a.tmps) = true) (ho : o.op = .box t x) (hx : lookO F x = some v) (cs : List Value) (hcs : v.cells = cs.toArray) (hd : o.dst = some d) (hn : d < n)
    (k : ∀ a p w, St dq E M w0 n a w ((d, .pointer (some ⟨p, 0, none⟩)) :: F) (eBox p t cs :: L) D → wpList P ops Q rest a w) : wpList P ops Q (o :: rest) a w := by
  have he := S.frm.eval hx
  refine sVal S hw hd hn (w' := w.alloc (.cells cs.toArray t)) (v := .pointer (some ⟨w.heap.size, 0, none⟩)) ?_ (S.mem.new _ (eBox w.heap.size t cs) rfl ?_) (fun a => k a w.heap.size _)
  · simp [execOp, ho, he, Instr.box, newVar, newRow, hcs]
  · exact heap_alloc_new w _
theorem sAlloc {t : TypeId} (z : Value) (S : St dq E M w0 n a w F L D)
    (hw : ∀ a, Frm dq n a F → Region.wanted o (yielded ops a.tmps) = true) (ho : o.op = .alloc t) (hz : (P.info? t).map (·.zero) = some (some z)) (cs : List Value) (hcs : z.cells = cs.toArray) (hd : o.dst = some d) (hn : d < n)
    (k : ∀ a p w, St dq E M w0 n a w ((d, .pointer (some ⟨p, 0, none⟩)) :: F) (eBox p t cs :: L) D → wpList P ops Q rest a w) : wpList P ops Q (o :: rest) a w := by
  refine sVal S hw hd hn (w' := w.alloc (.cells cs.toArray t)) (v := .pointer (some ⟨w.heap.size, 0, none⟩)) ?_ (S.mem.new _ (eBox w.heap.size t cs) rfl ?_) (fun a => k a w.heap.size _)
  · cases hi : P.info? t with
    | none => simp [hi] at hz
    | some i =>
      simp [hi] at hz
      simp [execOp, ho, Instr.alloc, zeroValue, typeInfo, hi, hz, newVar, newRow, hcs]
  · exact heap_alloc_new w _
end

end Go.Proofs.YtdfjcpnflmgdoaaDoor
namespace Go.Proofs.YtdfjcpnflmgdoaaDoor
open Go.RowKit
set_option linter.unusedVariables false

/-- is a type's value an aggregate: known -/
def aggB (P : Program) (t : TypeId) : Option Bool := (P.underlying t).map fun d => match d with | .struct _ | .array _ _ => true | _ => false
def cellsB (P : Program) (t : TypeId) : Option Nat := (P.info? t).map (·.size)
/-- where a field lies -/
def fieldB (P : Program) (s : TypeId) (f : Nat) : Option Nat := match P.underlying s with
  | some (.struct fs) => (fs[f]?).bind fun fl => match P.info? fl.type with | some i => if i.size = 0 then none else some fl.offset | none => none
  | _ => none
def over (vs : List Value) (off : Nat) (cs : List Value) : List Value := vs.take off ++ cs ++ vs.drop (off + cs.length)
def Aggr {α : Type} (r : R α) : Prop := ∀ E w v x, r.rep E w v x → ∃ cs, v = .agg cs
section
variable {P : Program} {dq : List Deferred} {E : Nat → Prop} {M : List Nat} {w0 : World} {n : Nat} {a : Act} {w : World} {F : List (Nat × Value)} {L : List Ent} {D : List Fact} {Q : Exit → Act → World → Prop}
variable {ops : Array Oper} {rest : List Oper} {o : Oper} {d : Nat}

theorem run_isAgg {t : TypeId} {b : Bool} (h : aggB P t = some b) (w : World) : (isAgg t).run P w = .ok b w := by
  unfold aggB at h
  cases hu : P.underlying t with
  | none => simp [hu] at h
  | some dd =>
    simp only [hu, Option.map_some, Option.some.injEq] at h
    subst h
    cases dd <;> simp [isAgg, run_underlying hu]
theorem run_sizeOf' {t : TypeId} {m : Nat} (h : cellsB P t = some m) (w : World) : (sizeOf t).run P w = .ok m w := by
  unfold cellsB at h
  cases hu : P.info? t with
  | none => simp [hu] at h
  | some dd =>
    simp only [hu, Option.map_some, Option.some.injEq] at h
    subst h
    simp [sizeOf, typeInfo, hu]

/-- a field's address -/
theorem run_fieldAt {s : TypeId} {f k : Nat} (h : fieldB P s f = some k) (b off : Nat) (w : World) : (Instr.fieldAt s (.pointer (some ⟨b, off, none⟩)) f).run P w = .ok (.pointer (some ⟨b, off + k, none⟩)) w := by
  unfold fieldB at h
  split at h
  · rename_i fs hu
    cases hf : fs[f]? with
    | none => simp [hf] at h
    | some fl =>
      simp only [hf, Option.bind_some] at h
      cases hi : P.info? fl.type with
      | none => simp [hi] at h
      | some i =>
        simp only [hi] at h
        split at h
        · cases h
        · rename_i hs
          cases h
          simp [Instr.fieldAt, run_underlying hu, hf, Instr.sureAddr, fieldPlace, sizeOf, typeInfo, hi, hs, add_addr]
  · cases h
theorem sField {s : TypeId} {x : Operand} {f b off : Nat} (k off' : Nat) (S : St dq E M w0 n a w F L D)
    (hw : ∀ a, Frm dq n a F → Region.wanted o (yielded ops a.tmps) = true) (ho : o.op = .fieldAddr s x f) (hx : lookO F x = some (.pointer (some ⟨b, off, none⟩))) (hf : fieldB P s f = some k) (hoff : off + k = off') (hd : o.dst = some d) (hn : d < n)
    (K : ∀ a, St dq E M w0 n a w ((d, .pointer (some ⟨b, off', none⟩)) :: F) L D → wpList P ops Q rest a w) : wpList P ops Q (o :: rest) a w := by
  subst hoff
  have he := S.frm.eval hx
  exact sVal S hw hd hn (by simp only [execOp, ho, he, Sem.run_bind, run_fieldAt hf, Result.andThen_ok, Sem.run_pure]) S.mem K
/-- loads of a variable in memory -/
theorem sLoad1 {t T : TypeId} {q : Operand} {p off : Nat} {vs : List Value} (i : Nat) (v : Value) (S : St dq E M w0 n a w F L D)
    (hw : ∀ a, Frm dq n a F → Region.wanted o (yielded ops a.tmps) = true) (ho : o.op = .load t q) (hq : lookO F q = some (.pointer (some ⟨p, off, none⟩))) (ht : aggB P t = some false) (hL : L[i]? = some (eBox p T vs)) (hv : vs[off]? = some v) (hd : o.dst = some d) (hn : d < n)
    (k : ∀ a, St dq E M w0 n a w ((d, v) :: F) L D → wpList P ops Q rest a w) : wpList P ops Q (o :: rest) a w := by
  have he := S.frm.eval hq
  have hb : w.heap[p]? = some (.cells vs.toArray T (0, 0)) := S.mem.at hL
  have hc : w.cell? ⟨p, off, none⟩ = some v := by simp [World.cell?, hb, hv]
  exact sVal S hw hd hn (by simp [execOp, ho, he, Instr.loadAt, Instr.sureAddr, loadVar, run_isAgg ht, hc]) S.mem k
theorem run_loadVar_agg {t : TypeId} {b off : Nat} (cs : List Value) (ht : aggB P t = some true) (hm : cellsB P t = some cs.length) (w : World) (hc : ∀ j u, cs[j]? = some u → w.cell? ⟨b, off + j, none⟩ = some u) :
    (loadVar t ⟨b, off, none⟩).run P w = .ok (.agg cs.toArray) w := by
  have h := run_loadCells_list (P := P) w ⟨b, off, none⟩ cs (fun j u hu => by rw [add_addr]; exact hc j u hu)
  simp [loadVar, run_isAgg ht, run_sizeOf' hm, h]
theorem sLoadN {t T : TypeId} {q : Operand} {p off : Nat} {vs : List Value} (i : Nat) (cs : List Value) (S : St dq E M w0 n a w F L D)
    (hw : ∀ a, Frm dq n a F → Region.wanted o (yielded ops a.tmps) = true) (ho : o.op = .load t q) (hq : lookO F q = some (.pointer (some ⟨p, off, none⟩))) (ht : aggB P t = some true) (hL : L[i]? = some (eBox p T vs)) (hm : cellsB P t = some cs.length)
    (hcs : (vs.drop off).take cs.length = cs) (hd : o.dst = some d) (hn : d < n)
    (k : ∀ a, St dq E M w0 n a w ((d, .agg cs.toArray) :: F) L D → wpList P ops Q rest a w) : wpList P ops Q (o :: rest) a w := by
  have he := S.frm.eval hq
  have hb : w.heap[p]? = some (.cells vs.toArray T (0, 0)) := S.mem.at hL
  have hc : ∀ j u, cs[j]? = some u → w.cell? ⟨p, off + j, none⟩ = some u := by
    intro j u hu
    have hj : j < cs.length := (List.getElem?_eq_some_iff.1 hu).1
    rw [← hcs, List.getElem?_take, if_pos hj, List.getElem?_drop] at hu
    simp [World.cell?, hb, hu]
  exact sVal S hw hd hn (by simp [execOp, ho, he, Instr.loadAt, Instr.sureAddr, run_loadVar_agg cs ht hm w hc]) S.mem k
/-- a store into a variable in memory -/
theorem sStore {t T : TypeId} {q x : Operand} {p off : Nat} {vs : List Value} {v : Value} (i : Nat) (cs : List Value) (S : St dq E M w0 n a w F L D)
    (hw : ∀ a, Frm dq n a F → Region.wanted o (yielded ops a.tmps) = true) (ho : o.op = .store t q x) (hq : lookO F q = some (.pointer (some ⟨p, off, none⟩))) (hx : lookO F x = some v) (hcs : v.cells = cs.toArray) (hL : L[i]? = some (eBox p T vs)) (hm : cellsB P t = some cs.length)
    (h1 : cs.all (·.oneCell') = true) (hl : off + cs.length ≤ vs.length) (hd : o.dst = none)
    (k : ∀ a w, St dq E M w0 n a w F (eBox p T (over vs off cs) :: L.eraseIdx i) D → wpList P ops Q rest a w) : wpList P ops Q (o :: rest) a w := by
  have he := S.frm.eval hq
  have hex := S.frm.eval hx
  have hb : w.heap[p]? = some (.cells vs.toArray T (0, 0)) := S.mem.at hL
  have hst := run_storeCells_at (P := P) p off T cs 0 vs.toArray w hb (by simpa using hl) (by simpa using h1)
  simp only [Nat.add_zero] at hst
  refine sUnit S hw hd (w' := w.setRow p (over vs off cs).toArray) ?_ (S.mem.put hL (eBox p T (over vs off cs)) ⟨rfl, rfl, rfl, by simp [World.setRow], fun k _ hk => setRow_other w p k _ (fun e => hk (by simp [eBox, e]))⟩ (fun b hb => .inl hb) (by simp [eBox]) ?_) (fun a => k a _)
  · simp [execOp, ho, he, hex, Instr.storeAt, Instr.sureAddr, storeVar, run_sizeOf' hm, hcs, hst, over]
  · exact setRow_heap w p _ _ T _ hb
end

end Go.Proofs.YtdfjcpnflmgdoaaDoor
namespace Go.Proofs.YtdfjcpnflmgdoaaDoor
open Go.RowKit
set_option linter.unusedVariables false

section
variable {P : Program} {dq : List Deferred} {E : Nat → Prop} {M : List Nat} {w0 : World} {n : Nat} {a : Act} {w : World} {F : List (Nat × Value)} {L : List Ent} {D : List Fact} {Q : Exit → Act → World → Prop}
variable {ops : Array Oper} {rest : List Oper} {o : Oper} {d : Nat}

theorem All.set {α : Type} {r : R α} {E : Nat → Prop} {w : World} {vs : List Value} {xs : List α} (a : All r E w vs xs) (j : Nat) {u : Value} {y : α} (h : r.rep E w u y) : All r E w (vs.set j u) (xs.set j y) := by
  refine ⟨by simp [a.1], fun k v x hv hx => ?_⟩
  rw [List.getElem?_set] at hv hx
  split at hv
  · rename_i e
    rw [if_pos e] at hx
    split at hv
    · split at hx
      · cases hv; cases hx; exact h
      · cases hx
    · cases hv
  · rename_i e
    rw [if_neg e] at hx
    exact a.2 k v x hv hx
theorem over_get {l : List Value} {off : Nat} {cs : List Value} (h : off + cs.length ≤ l.length) (k : Nat) : (over l off cs)[k]? = if off ≤ k ∧ k < off + cs.length then cs[k - off]? else l[k]? := by
  have e1 : (List.take off l).length = off := by simp; omega
  unfold over
  rw [List.append_assoc]
  by_cases h1 : k < off
  · rw [List.getElem?_append_left (by omega), if_neg (by omega), List.getElem?_take, if_pos h1]
  · rw [List.getElem?_append_right (by omega), e1]
    by_cases h2 : k < off + cs.length
    · rw [if_pos ⟨by omega, h2⟩, List.getElem?_append_left (by omega)]
    · rw [if_neg (by omega), List.getElem?_append_right (by omega), List.getElem?_drop]
      congr 1
      omega
theorem over_length {l : List Value} {off : Nat} {cs : List Value} (h : off + cs.length ≤ l.length) : (over l off cs).length = l.length := by
  simp [over]; omega
theorem over_append (A B : List Value) (k : Nat) (cs : List Value) : over (A ++ B) (A.length + k) cs = A ++ over B k cs := by
  unfold over
  rw [List.take_length_add_append, Nat.add_assoc, List.drop_length_add_append]
  simp
theorem flat_set {sz : Nat} {vs : List Value} (h : ∀ v, v ∈ vs → v.cells.size = sz) {j : Nat} (hj : j < vs.length) {u : Value} (hu : u.cells.size = sz) : flat (vs.set j u) = over (flat vs) (j * sz) u.cells.toList := by
  induction vs generalizing j with
  | nil => simp at hj
  | cons v vs ih =>
    have h1 := h v (by simp)
    have h2 := fun v hv => h v (List.mem_cons_of_mem _ hv)
    have hl : v.cells.toList.length = sz := by simp [h1]
    cases j with
    | zero =>
      simp only [List.set_cons_zero, flat, List.map_cons, List.flatten_cons, over, Nat.zero_mul, List.take_zero, List.nil_append, Nat.zero_add, Array.length_toList, hu]
      rw [← hl, List.drop_left]
    | succ j =>
      have := ih h2 (by simpa using hj)
      have e1 : (j + 1) * sz = v.cells.toList.length + j * sz := by rw [hl, Nat.add_mul, Nat.one_mul, Nat.add_comm]
      simp only [List.set_cons_succ, flat, List.map_cons, List.flatten_cons] at this ⊢
      rw [this, e1, over_append]
end

end Go.Proofs.YtdfjcpnflmgdoaaDoor
namespace Go.Proofs.YtdfjcpnflmgdoaaDoor
open Go.RowKit
set_option linter.unusedVariables false

section
variable {P : Program} {dq : List Deferred} {E : Nat → Prop} {M : List Nat} {w0 : World} {n : Nat} {a : Act} {w : World} {F : List (Nat × Value)} {L : List Ent} {D : List Fact} {Q : Exit → Act → World → Prop}
variable {ops : Array Oper} {rest : List Oper} {o : Oper} {d : Nat}

/-- what can be appended: cells that read as ys -/
def Src {α : Type} (r : R α) (E : Nat → Prop) (w : World) (s : Value) (ys : List α) : Prop :=
  ∃ ad c us, s = .slice ad ys.length c ∧ All r E w us ys ∧ ∀ k u, (flat us)[k]? = some u → ∃ b off, ad = some ⟨b, off, none⟩ ∧ w.cell? ⟨b, off + k, none⟩ = some u
theorem src_R {α : Type} {r : R α} {T : TypeId} {s : Value} {ys : List α} (i : Nat) (S : St0 E M w0 w L D) (h : L[i]? = some (eRow r T s ys)) : Src r (tot E L) w s ys := by
  obtain ⟨us, ha, _, hown⟩ := S.at h
  rcases hown.2 with ⟨h1, h0⟩ | ⟨g, cap, cur, hv, hb, hg, hnc, hcm, hcs, htake⟩
  · refine ⟨none, 0, us, by rw [h1, h0], ha, fun k u hu => ?_⟩
    have : us = [] := by have := ha.1; rw [h0] at this; exact List.eq_nil_of_length_eq_zero this
    subst this
    simp [flat] at hu
  · subst hv
    refine ⟨_, cap, us, rfl, ha, fun k u hu => ⟨g, 0, rfl, ?_⟩⟩
    have hk : k < ys.length * r.sz := by
      have := (List.getElem?_eq_some_iff.1 hu).1
      rw [flat_length (fun v hv => (ha.cells v hv).1), ha.1] at this
      exact this
    rw [Nat.zero_add, hown.cellAt k hk]
    exact hu
/-- a row of one's own becomes something that is read -/
theorem St0.shutR {α : Type} {r : R α} {T : TypeId} {v : Value} {xs : List α} (i : Nat) (S : St0 E M w0 w L D) (hi : L[i]? = some (eRow r T v xs)) : St0 E M w0 w (L.eraseIdx i) (fRep (rL r) v xs :: D) := by
  have hperm := erase_perm hi
  have hn := keysL_perm hperm S.nodup
  have S1 := S.sub (L' := L.eraseIdx i) (D' := D) (fun e he => List.mem_of_mem_eraseIdx he) (nodup_sub (List.eraseIdx_sublist _ _) S.nodup) (fun _ h => h)
  obtain ⟨us, ha, hl, hown⟩ := S.at hi
  have hext : Ext (tot E L) (tot E (L.eraseIdx i)) w w := ⟨Nat.le_refl _, fun _ _ _ _ => rfl, fun b _ h => h.imp id (fun h => by
    obtain ⟨e, h1, h2⟩ := keysL_mem.1 h
    exact keysL_mem.2 ⟨e, List.mem_of_mem_eraseIdx h1, h2⟩)⟩
  refine S1.learn _ ?_
  obtain ⟨ad, c, us', hs, ha', hc⟩ := src_R i S hi
  rcases hown.2 with ⟨h1, h0⟩ | ⟨g, cap, cur, hv, hb, hg, hnc, hcm, hcs, htake⟩
  · refine ⟨ad, c, us', hs, ?_, by omega, ha'.mono hext, fun k u hu => ?_⟩
    · rw [h0]; exact Nat.zero_le _
    · obtain ⟨b, off, e1, _⟩ := hc k u hu
      rw [h1, e1] at hs
      cases hs
  · refine ⟨ad, c, us', hs, ?_, by omega, ha'.mono hext, fun k u hu => ?_⟩
    · rw [hv] at hs; cases hs; exact hnc
    · obtain ⟨b, off, e1, h4⟩ := hc k u hu
      rw [hv, e1] at hs
      cases hs
      refine ⟨g, 0, e1, ?_, (Array.getElem?_eq_some_iff.1 hg).1, h4⟩
      have hmem : g ∈ (eRow r T v xs).keys := by simp [eRow, vkeys, hv]
      intro h
      rcases h with h | h
      · exact (S.key g (keysL_mem.2 ⟨_, List.mem_of_getElem? hi, hmem⟩)).2 h
      · simp only [keysL, List.map_cons, List.flatten_cons, List.nodup_append] at hn
        exact hn.2.2 g hmem g h rfl
theorem St.shutR {α : Type} {r : R α} {T : TypeId} {v : Value} {xs : List α} (i : Nat) (S : St dq E M w0 n a w F L D) (hi : L[i]? = some (eRow r T v xs)) : St dq E M w0 n a w F (L.eraseIdx i) (fRep (rL r) v xs :: D) := ⟨S.frm, S.mem.shutR i hi⟩

/-- a slice literal; make with length 0 -/
theorem sNewRow {α : Type} {r : R α} {T : TypeId} {xs : List α} (m : Nat) (us : List Value) (cs : List Value) (S : St dq E M w0 n a w F L D)
    (hw : ∀ a, Frm dq n a F → Region.wanted o (yielded ops a.tmps) = true) (hrun : ∀ (a : Act), Frm dq n a F → (execOp a.eval o).run P w = .ok (.value (.slice (some ⟨w.heap.size, 0, none⟩) m m)) (w.alloc (.cells cs.toArray T)))
    (hxs : xs.length = m) (hus : ∀ E' w', Ext (tot E L) E' w w' → All r E' w' us xs) (hcs : flat us = cs) (hm : m ≤ 68719476736) (hd : o.dst = some d) (hn : d < n)
    (k : ∀ a w ad c, St dq E M w0 n a w ((d, .slice ad xs.length c) :: F) (eRow r T (.slice ad xs.length c) xs :: L) D → wpList P ops Q rest a w) : wpList P ops Q (o :: rest) a w := by
  subst hxs
  have hext : Ext (tot E L) (tot E (eRow r T (.slice (some ⟨w.heap.size, 0, none⟩) xs.length xs.length) xs :: L)) w (w.alloc (.cells cs.toArray T)) := by
    refine ⟨by simp, fun b hb _ _ => heap_alloc_old w _ hb, fun b hb h => ?_⟩
    rcases h with h | h
    · exact .inl h
    · refine .inr ?_
      simp only [keysL, List.map_cons, List.flatten_cons, eRow, vkeys, List.mem_append, List.mem_singleton] at h
      rcases h with h | h
      · omega
      · exact h
  have hA := hus _ _ hext
  refine sVal S hw hd hn (hrun a S.frm) (S.mem.new _ (eRow r T (.slice (some ⟨w.heap.size, 0, none⟩) xs.length xs.length) xs) rfl ?_) (fun a => k a _ _ _)
  refine ⟨us, hA, hm, ?_⟩
  have hfl := flat_length (fun v hv => (hA.cells v hv).1)
  rw [hA.1] at hfl
  rw [hcs] at hfl ⊢
  have := World.ownsRow_lit (base := 0) (e := T) (size := r.sz) w cs.toArray xs.length (Nat.zero_le _) (by unfold maxLen; omega) (by simpa using hfl)
  simpa using this
end

end Go.Proofs.YtdfjcpnflmgdoaaDoor
namespace Go.Proofs.YtdfjcpnflmgdoaaDoor
open Go.RowKit
set_option linter.unusedVariables false

section
variable {P : Program} {dq : List Deferred} {E : Nat → Prop} {M : List Nat} {w0 : World} {n : Nat} {a : Act} {w : World} {F : List (Nat × Value)} {L : List Ent} {D : List Fact} {Q : Exit → Act → World → Prop}
variable {ops : Array Oper} {rest : List Oper} {o : Oper} {d : Nat}

/-- what a function leaves: its value, what its caller owns by it, what is known -/
def Ret {X : Type} (E : Nat → Prop) (M : List Nat) (w0 : World) (val : X → Value) (B : X → List Ent) (D : X → List Fact) (e : Ending) (w : World) : Prop :=
  ∃ x, e = .returned (val x) ∧ St0 E M w0 w (B x) (D x)
theorem callee {f : FuncId} {fn : Func} (hf : P.funcs[f]? = some fn) (h1 : (fn.name == "runtime.NumGoroutine") = false) (h2 : fn.body.isNone = false) (vs : Array Value) (w : World) : (callFunc f vs).run P w = .ok (.enter f vs) w := by
  have h1' : ¬ fn.name = "runtime.NumGoroutine" := by simpa using h1
  have h2' : ¬ fn.body = none := fun e => by rw [e] at h2; cases h2
  simp [callFunc, hf, h1', h2']
theorem lookO_map {args : List Operand} {vs : List Value} (hf : Frm dq n a F) (h : args.map (lookO F) = vs.map some) : args.map a.eval = vs := by
  induction args generalizing vs with
  | nil => cases vs with | nil => rfl | cons _ _ => simp at h
  | cons x args ih =>
    cases vs with
    | nil => simp at h
    | cons v vs =>
      simp only [List.map_cons, List.cons.injEq] at h ⊢
      exact ⟨hf.eval h.1, ih h.2⟩
theorem wp_call {f : FuncId} {args : List Operand} {ts : Array TypeId} {vs : List Value} {X : Type} {E' : Nat → Prop} {M' : List Nat} {val : X → Value} {B' : X → List Ent} {D' : X → List Fact} {K : Act → World → Prop} (ho : o.op = .call { callee := .value (.func f), args := args.toArray, argTypes := ts })
    (hcallee : ∀ vs w, (callFunc f vs).run P w = .ok (.enter f vs) w) (hvs : args.map a.eval = vs) (hc : Calls P f vs.toArray w (Ret E' M' w val B' D')) (k : ∀ x w', St0 E' M' w w' (B' x) (D' x) → K (a.put o.dst (val x)) w') : o.wp P a w K Q := by
  subst hvs
  unfold Oper.wp
  have hrun : (execOp a.eval o).run P w = .ok (.enter f (args.map a.eval).toArray) w := by
    have he : a.eval (.func f) = .func (.func f) #[] #[] := rfl
    unfold execOp
    simp only [ho, resolve, he, Deferred.ofValue, Sem.run_bind, Sem.run_pure, Result.andThen_ok, invoke]
    simp [hcallee]
  rw [hrun]
  exact hc.mono fun e w' hr => by
    obtain ⟨x, rfl, hs⟩ := hr
    exact k x w' hs
theorem sCall {X : Type} {f : FuncId} {args : List Operand} {ts : Array TypeId} {vs : List Value} {val : X → Value} {B' : X → List Ent} {D' : X → List Fact} (B Rs : List Ent) (Dc : List Fact) (is js : List Nat) (S : St dq E M w0 n a w F L D)
    (hw : ∀ a, Frm dq n a F → Region.wanted o (yielded ops a.tmps) = true) (ho : o.op = .call { callee := .value (.func f), args := args.toArray, argTypes := ts })
    (hcallee : ∀ vs w, (callFunc f vs).run P w = .ok (.enter f vs) w) (hvs : args.map (lookO F) = vs.map some)
    (hnd : is.Nodup) (hL : is.map (fun i => L[i]?) = (B ++ Rs).map some) (hDc : js.map (fun i => D[i]?) = Dc.map some)
    (hc : ∀ (E' : Nat → Prop) w, St0 E' (keysL B) w w B Dc → Calls P f vs.toArray w (Ret E' (keysL B) w val B' D')) (hd : o.dst = some d) (hn : d < n)
    (k : ∀ x a w', St dq E M w0 n a w' ((d, val x) :: F) (B' x ++ Rs) (D' x ++ D) → wpList P ops Q rest a w') : wpList P ops Q (o :: rest) a w := by
  refine wpList_step fun K hK => ?_
  rw [if_pos (hw a S.frm)]
  have S1 : St0 E M w0 w (B ++ Rs) D := S.mem.sub (getList_mem hL) (getList_perm hnd hL S.mem.nodup) (fun _ h => h)
  have S2 := S1.enter (D := Dc) (getList_mem hDc)
  refine wp_call ho hcallee (lookO_map S.frm hvs) (hc _ w S2) fun x w' hs => ?_
  rw [hd]
  exact hK _ _ (k x _ w' ⟨S.frm.put hn _, S1.upd hs.chg (B' x) (D' x) hs⟩)
/-- a call that reads and returns numbers: rows of one's own may be lent to it (hpre: behind seals) -/
theorem St0.quiet {Dc : List Fact} (S : St0 E M w0 w L D) (js : List Nat) (hDc : js.map (fun i => D[i]?) = Dc.map some) : ∃ E1, St0 E1 [] w w [] Dc :=
  ⟨tot E L, by have := S.enter (B := []) (Rs := L) (D := Dc) (by simpa using getList_mem hDc); simpa [keysL] using this⟩
theorem St0.calm {w' : World} (S : St0 E M w0 w L D) (h : Chg [] w w') : St0 E M w0 w' L D := by
  have := St0.upd (B := []) (Rs := L) S (by simpa [keysL] using h) [] [] ⟨by simpa [keysL] using h, by simp, by simp, by simp [keysL], by simp [keysL], by
    intro b hb
    rcases hb with h | h
    · exact Nat.lt_of_lt_of_le (S.bnd b h) S.chg.size
    · exact S.lt b h⟩
  simpa using this
theorem sCallQ {X : Type} {f : FuncId} {args : List Operand} {ts : Array TypeId} {vs : List Value} {val : X → Value} {Dc : List Fact} (S : St dq E M w0 n a w F L D)
    (hw : ∀ a, Frm dq n a F → Region.wanted o (yielded ops a.tmps) = true) (ho : o.op = .call { callee := .value (.func f), args := args.toArray, argTypes := ts })
    (hcallee : ∀ vs w, (callFunc f vs).run P w = .ok (.enter f vs) w) (hvs : args.map (lookO F) = vs.map some) (hpre : ∃ E1, St0 E1 [] w w [] Dc)
    (hc : ∀ (E' : Nat → Prop) w, St0 E' [] w w [] Dc → Calls P f vs.toArray w (Ret E' [] w val (fun _ => []) (fun _ => []))) (hd : o.dst = some d) (hn : d < n)
    (k : ∀ x a w', St dq E M w0 n a w' ((d, val x) :: F) L D → wpList P ops Q rest a w') : wpList P ops Q (o :: rest) a w := by
  refine wpList_step fun K hK => ?_
  rw [if_pos (hw a S.frm)]
  obtain ⟨E1, h1⟩ := hpre
  refine wp_call ho hcallee (lookO_map S.frm hvs) (hc _ w h1) fun x w' hs => ?_
  rw [hd]
  exact hK _ _ (k x _ w' ⟨S.frm.put hn _, S.mem.calm hs.chg⟩)

/-- struct and array literals -/
theorem sBuild {t : TypeId} {parts : List (Nat × Operand)} (vs : List (Nat × Value)) (cs : List Value) (S : St dq E M w0 n a w F L D)
    (hw : ∀ a, Frm dq n a F → Region.wanted o (yielded ops a.tmps) = true) (ho : o.op = .build t parts.toArray) (hvs : parts.map (fun q => (q.1, lookO F q.2)) = vs.map (fun q => (q.1, some q.2))) (hb : P.built t vs = some cs.toArray) (hd : o.dst = some d) (hn : d < n)
    (k : ∀ a, St dq E M w0 n a w ((d, .agg cs.toArray) :: F) L D → wpList P ops Q rest a w) : wpList P ops Q (o :: rest) a w := by
  have hev : parts.map (fun q => (q.1, a.eval q.2)) = vs := by
    clear hb ho
    induction parts generalizing vs with
    | nil => cases vs with | nil => rfl | cons _ _ => simp at hvs
    | cons x parts ih =>
      cases vs with
      | nil => simp at hvs
      | cons v vs =>
        simp only [List.map_cons, List.cons.injEq, Prod.mk.injEq] at hvs ⊢
        refine ⟨?_, ih vs hvs.2⟩
        rw [hvs.1.1, S.frm.eval hvs.1.2]
  have hrun := run_build (P := P) w t vs.toArray cs.toArray (by simpa using hb)
  refine sVal S hw hd hn ?_ S.mem k
  unfold execOp
  simp only [ho, List.map_toArray, hev, Sem.run_bind, hrun, Result.andThen_ok, Sem.run_pure]
/-- a slice literal of scalars -/
theorem sLit {α : Type} {r : R α} {T t : TypeId} {xs : List α} {parts : List (Nat × Operand)} (vs : List (Nat × Value)) (m : Nat) (us : List Value) (cs : List Value) (z : Value) (bytes : Nat) (S : St dq E M w0 n a w F L D)
    (hw : ∀ a, Frm dq n a F → Region.wanted o (yielded ops a.tmps) = true) (ho : o.op = .buildSlice t m parts.toArray) (hvs : parts.map (fun q => (q.1, lookO F q.2)) = vs.map (fun q => (q.1, some q.2))) (ht : P.underlying t = some (.slice T)) (hinfo : (P.info? T).map (fun i => (i.zero, i.size, i.bytes)) = some (some z, r.sz, bytes))
    (hsmall : m * r.sz ≤ 16777216) (hpos : 0 < m) (hfill : Instr.fill (fun i => some (i * r.sz, r.sz)) ((Array.range (m * r.sz)).map (z.cells[· % z.cells.size]!)) vs = some cs.toArray)
    (hxs : xs.length = m) (hus : ∀ E' w', Ext (tot E L) E' w w' → All r E' w' us xs) (hcs : flat us = cs) (hd : o.dst = some d) (hn : d < n)
    (k : ∀ a w ad c, St dq E M w0 n a w ((d, .slice ad xs.length c) :: F) (eRow r T (.slice ad xs.length c) xs :: L) D → wpList P ops Q rest a w) : wpList P ops Q (o :: rest) a w := by
  obtain ⟨ie, hi, hzi, hsize, hbytes⟩ := info_parts hinfo
  refine sNewRow m us cs S hw (fun a hF => ?_) hxs hus hcs (Nat.le_trans (Nat.le_mul_of_pos_right m r.pos) (Nat.le_trans hsmall (by decide))) hd hn k
  have hev : parts.map (fun q => (q.1, a.eval q.2)) = vs := by
    clear hfill ho
    induction parts generalizing vs with
    | nil => cases vs with | nil => rfl | cons _ _ => simp at hvs
    | cons x parts ih =>
      cases vs with
      | nil => simp at hvs
      | cons v vs =>
        simp only [List.map_cons, List.cons.injEq, Prod.mk.injEq] at hvs ⊢
        refine ⟨?_, ih vs hvs.2⟩
        rw [hvs.1.1, hF.eval hvs.1.2]
  have hrun := run_buildSlice (P := P) w t T m vs.toArray cs.toArray ie z ht hi hzi (by rw [hsize]; omega) (by rw [hsize]; exact Nat.pos_iff_ne_zero.1 (Nat.mul_pos hpos r.pos)) (by rw [hsize]; simpa using hfill)
  unfold execOp
  simp only [ho, List.map_toArray, hev, Sem.run_bind, hrun, Result.andThen_ok, Sem.run_pure]
/-- results of a function: slots, and variables in memory -/
def rvRun (tmps : Array Value) : ResultVar → Sem Value
  | .tmp t => pure (tmps.getD t undef)
  | .cell c t => do loadVar t (← asAddr (tmps.getD c undef))
theorem rvT {t : Nat} {v : Value} (S : St dq E M w0 n a w F L D) (h : look F t = some v) : (rvRun a.tmps (.tmp t)).run P w = .ok v w := by
  simp [rvRun, Array.getD_eq_getD_getElem?, S.frm.get _ _ h]
theorem rvN {c : Nat} {t T : TypeId} {p : Nat} (i : Nat) (cs : List Value) (S : St dq E M w0 n a w F L D) (h : look F c = some (.pointer (some ⟨p, 0, none⟩))) (ht : aggB P t = some true) (hL : L[i]? = some (eBox p T cs)) (hm : cellsB P t = some cs.length) : (rvRun a.tmps (.cell c t)).run P w = .ok (.agg cs.toArray) w := by
  have hb : w.heap[p]? = some (.cells cs.toArray T (0, 0)) := S.mem.at hL
  have hc : ∀ j u, cs[j]? = some u → w.cell? ⟨p, 0 + j, none⟩ = some u := by
    intro j u hu
    simp [World.cell?, hb, hu]
  simp [rvRun, Array.getD_eq_getD_getElem?, S.frm.get _ _ h, asAddr, run_loadVar_agg cs ht hm w hc]
theorem results_eq (fn : Func) (tmps : Array Value) : results fn tmps = (do let vs ← fn.results.mapM (rvRun tmps); pure (if h : vs.size = 1 then vs[0] else .tuple vs)) := by
  unfold results
  congr 2
theorem rsl1 {fn : Func} {r1 : ResultVar} {v1 : Value} (hres : fn.results = #[r1]) (h1 : (rvRun a.tmps r1).run P w = .ok v1 w) : (results fn a.tmps).run P w = .ok v1 w := by
  simp [results_eq, hres, h1]
theorem rsl2 {fn : Func} {r1 r2 : ResultVar} {v1 v2 : Value} (hres : fn.results = #[r1, r2]) (h1 : (rvRun a.tmps r1).run P w = .ok v1 w) (h2 : (rvRun a.tmps r2).run P w = .ok v2 w) : (results fn a.tmps).run P w = .ok (.tuple #[v1, v2]) w := by
  simp [results_eq, hres, h1, h2]
end

end Go.Proofs.YtdfjcpnflmgdoaaDoor
namespace Go.Proofs.YtdfjcpnflmgdoaaDoor
open Go.RowKit
set_option linter.unusedVariables false

section
variable {P : Program} (dq : List Deferred) (E : Nat → Prop) (M : List Nat) (w0 : World) (n : Nat) (ops : Array Oper) (A : List (List Nat)) (F0 : List (Nat × Value)) (nf : List Nat)

def doneB (X : Array Bool) (i : Nat) : Bool := X.getD i false
/-- what is done is closed under 'before' -/
def Clo (X : Array Bool) : Prop := X.size = ops.size ∧ ∀ (i : Nat) (o : Oper), ops[i]? = some o → doneB X i = true → ∀ e, e ∈ o.after → Region.binds .any e = true → doneB X e.on = true
/-- the lists A name what comes before an operation -/
def ancOk : Bool := (List.range ops.size).all fun i => ((ops[i]?).map fun o =>
  (o.after.all fun e => !Region.binds .any e || decide (e.on < i)) && (A.getD i []).all fun j => o.after.any fun e => Region.binds .any e && (e.on == j || (A.getD e.on []).contains j)).getD true
/-- the frame is as it must be when X is done; W: what the operations leave -/
def Agr (X : Array Bool) (a : Act) (W : List (Nat × Nat × Value)) : Prop :=
  a.defers = dq ∧ a.tmps.size = n ∧ (∀ i d v, (i, d, v) ∈ W → doneB X i = true → a.tmps[d]? = some v) ∧
  (∀ t v, look F0 t = some v → (∀ (i : Nat) (o : Oper), ops[i]? = some o → o.dst = some t → doneB X i = false) → a.tmps[t]? = some v)
def Node (P : Program) (Q : Exit → Act → World → Prop) (Y : List Nat) (W : List (Nat × Nat × Value)) (L : List Ent) (D : List Fact) : Prop :=
  ∀ fuel X a w, Clo ops X → (∀ j, j ∈ nf → doneB X j = decide (j ∈ Y)) → Agr dq n ops F0 X a W → St0 E M w0 w L D → X.count false ≤ fuel → wpAny P .any ops Q fuel X a w
/-- where an operation's operands come from -/
def Srcs (i : Nat) (W : List (Nat × Nat × Value)) (Fi : List (Nat × Value)) : Prop :=
  ∀ q, q ∈ Fi → (∃ j, j ∈ A.getD i [] ∧ (j, q.1, q.2) ∈ W) ∨ (look F0 q.1 = some q.2 ∧ ∀ (k : Nat) (o : Oper), ops[k]? = some o → o.dst = some q.1 → k = i ∨ i ∈ A.getD k [])
def Fin (W : List (Nat × Nat × Value)) (Fi : List (Nat × Value)) : Prop :=
  ∀ q, q ∈ Fi → (∃ j, j < ops.size ∧ (j, q.1, q.2) ∈ W) ∨ (look F0 q.1 = some q.2 ∧ ∀ (k : Nat) (o : Oper), ops[k]? = some o → o.dst = some q.1 → False)
def FixOk (P : Program) (W : List (Nat × Nat × Value)) (L : List Ent) (D : List Fact) (i : Nat) : Prop :=
  ∃ o d v Fi, ops[i]? = some o ∧ o.dst = some d ∧ (i, d, v) ∈ W ∧ Srcs ops A F0 i W Fi ∧
    ∀ G a w, St dq E M w0 n a w (Fi ++ G) L D → wpList P ops (fun e a' w' => e = .normal ∧ St dq E M w0 n a' w' ((d, v) :: (Fi ++ G)) L D) [o] a w
def NonOk (P : Program) (Q : Exit → Act → World → Prop) (Y : List Nat) (W : List (Nat × Nat × Value)) (L : List Ent) (D : List Fact) (i : Nat) : Prop :=
  ∃ o Fi, ops[i]? = some o ∧ Srcs ops A F0 i W Fi ∧
    ∀ G a w, St dq E M w0 n a w (Fi ++ G) L D → wpList P ops (fun e a' w' => e = .normal ∧ ∃ L' D',
      (∃ d v W2, o.dst = some d ∧ St dq E M w0 n a' w' ((d, v) :: (Fi ++ G)) L' D' ∧ (∀ z, z ∈ W2 → i ∈ A.getD z.1 []) ∧ Node dq E M w0 n ops F0 nf P Q (i :: Y) (W2 ++ (i, d, v) :: W) L' D') ∨
      (∃ W2, o.dst = none ∧ St dq E M w0 n a' w' (Fi ++ G) L' D' ∧ (∀ z, z ∈ W2 → i ∈ A.getD z.1 []) ∧ Node dq E M w0 n ops F0 nf P Q (i :: Y) (W2 ++ W) L' D')) [o] a w

variable {dq E M w0 n ops A F0 nf}
theorem anc_done (hA : ancOk ops A = true) {X : Array Bool} (hX : Clo ops X) : ∀ i o, ops[i]? = some o → (∀ e, e ∈ o.after → Region.binds .any e = true → doneB X e.on = true) → ∀ j, j ∈ A.getD i [] → doneB X j = true := by
  intro i
  induction i using Nat.strongRecOn with
  | _ i ih =>
    intro o ho hd j hj
    have hi : i < ops.size := (Array.getElem?_eq_some_iff.1 ho).1
    have h := List.all_eq_true.1 hA i (List.mem_range.2 hi)
    simp only [ho, Option.map_some, Option.getD_some, Bool.and_eq_true] at h
    have h2 := List.all_eq_true.1 h.2 j hj
    obtain ⟨e, he, hb⟩ := Array.any_eq_true'.1 h2
    simp only [Bool.and_eq_true, Bool.or_eq_true] at hb
    have hlt : e.on < i := by
      have := Array.all_eq_true'.1 h.1 e he
      simpa [hb.1] using this
    have hde := hd e he hb.1
    rcases hb.2 with hb2 | hb2
    · rw [← eq_of_beq hb2]; exact hde
    · have hlt2 : e.on < ops.size := by omega
      exact ih e.on hlt ops[e.on] (Array.getElem?_eq_getElem hlt2) (fun e' he' hb' => hX.2 e.on _ (Array.getElem?_eq_getElem hlt2) hde e' he' hb') j (List.contains_iff_mem.1 hb2)
theorem ready_spec {X : Array Bool} {i : Nat} (h : i ∈ Region.ready .any ops X) : ∃ o, ops[i]? = some o ∧ X.getD i true = false ∧ ∀ e, e ∈ o.after → Region.binds .any e = true → doneB X e.on = true := by
  simp only [Region.ready, List.mem_filter, List.mem_range, Bool.and_eq_true] at h
  obtain ⟨h1, h2, h3⟩ := h
  refine ⟨ops[i], Array.getElem?_eq_getElem h1, by simpa using h2, fun e he hb => ?_⟩
  simp only [Array.getElem?_eq_getElem h1, Option.map_some, Option.getD_some] at h3
  have := Array.all_eq_true'.1 h3 e he
  simpa [hb, doneB] using this
theorem ready_nil (hA : ancOk ops A = true) {X : Array Bool} (hX : Clo ops X) (h : Region.ready .any ops X = []) : ∀ i, i < ops.size → doneB X i = true := by
  intro i
  induction i using Nat.strongRecOn with
  | _ i ih =>
    intro hi
    cases hd : doneB X i with
    | true => rfl
    | false =>
      have hall := List.all_eq_true.1 hA i (List.mem_range.2 hi)
      simp only [Array.getElem?_eq_getElem hi, Option.map_some, Option.getD_some, Bool.and_eq_true] at hall
      have hmem : i ∈ Region.ready .any ops X := by
        simp only [Region.ready, List.mem_filter, List.mem_range, Bool.and_eq_true, Array.getElem?_eq_getElem hi, Option.map_some, Option.getD_some]
        refine ⟨hi, ?_, ?_⟩
        · have : i < X.size := by rw [hX.1]; exact hi
          simp [doneB, Array.getD, this] at hd ⊢
          exact hd
        · refine Array.all_eq_true'.2 fun e he => ?_
          have h1 := Array.all_eq_true'.1 hall.1 e he
          cases hb : Region.binds .any e with
          | false => rfl
          | true =>
            simp only [hb, Bool.not_true, Bool.false_or, decide_eq_true_eq] at h1
            have := ih e.on h1 (by omega)
            simpa [doneB] using this
      rw [h] at hmem
      cases hmem
theorem count_set {X : Array Bool} {i : Nat} (h : X.getD i true = false) : (X.setIfInBounds i true).count false + 1 = X.count false := by
  have hi : i < X.size := by
    rcases Nat.lt_or_ge i X.size with h1 | h1
    · exact h1
    · simp [Array.getD, Nat.not_lt.2 h1] at h
  have hx : X[i] = false := by simpa [Array.getD, hi] using h
  have hpos : 0 < X.count false := Array.count_pos_iff.2 (hx ▸ Array.getElem_mem hi)
  rw [Array.setIfInBounds_def, dif_pos hi, Array.count_set hi]
  simp [hx]
  omega
theorem done_set {X : Array Bool} {i : Nat} (hi : i < X.size) (j : Nat) : doneB (X.setIfInBounds i true) j = (decide (i = j) || doneB X j) := by
  unfold doneB
  simp only [Array.getD_eq_getD_getElem?, Array.getElem?_setIfInBounds]
  by_cases h : i = j
  · subst h; simp [hi]
  · simp [h]
def AllFrom (p : Nat → Prop) (k : Nat) : Nat → Prop
  | 0 => True
  | m + 1 => p k ∧ AllFrom p (k + 1) m
theorem AllFrom.cons {p : Nat → Prop} {k m : Nat} (h : p k) (g : AllFrom p (k + 1) m) : AllFrom p k (m + 1) := ⟨h, g⟩
theorem AllFrom.get {p : Nat → Prop} {k m : Nat} (h : AllFrom p k m) : ∀ i, k ≤ i → i < k + m → p i := by
  induction m generalizing k with
  | zero => intro i h1 h2; omega
  | succ m ih =>
    intro i h1 h2
    by_cases e : i = k
    · subst e; exact h.1
    · exact ih h.2 i (by omega) (by omega)
def snap (n : Nat) (a : Act) : List (Nat × Value) := (List.range n).map fun t => (t, a.tmps.getD t undef)
theorem look_app (F G : List (Nat × Value)) (t : Nat) : look (F ++ G) t = (look F t).orElse fun _ => look G t := by
  induction F with
  | nil => simp [look]
  | cons q F ih =>
    simp only [List.cons_append, look]
    split
    · simp
    · exact ih
theorem look_mem {F : List (Nat × Value)} {t : Nat} {v : Value} (h : look F t = some v) : (t, v) ∈ F := by
  induction F with
  | nil => simp [look] at h
  | cons q F ih =>
    simp only [look] at h
    split at h
    · rename_i e
      cases h
      subst e
      exact List.mem_cons_self
    · exact List.mem_cons_of_mem _ (ih h)
theorem look_snap {n : Nat} {a : Act} (hn : a.tmps.size = n) {t : Nat} (ht : t < n) : look (snap n a) t = a.tmps[t]? := by
  have key : ∀ (m k : Nat), k ≤ t → t < k + m → look ((List.range' k m).map fun t => (t, a.tmps.getD t undef)) t = some (a.tmps.getD t undef) := by
    intro m
    induction m with
    | zero => intro k h1 h2; omega
    | succ m ih =>
      intro k h1 h2
      simp only [List.range'_succ, List.map_cons, look]
      split
      · rename_i e; subst e; rfl
      · exact ih (k + 1) (by omega) (by omega)
  unfold snap
  rw [List.range_eq_range', key n 0 (Nat.zero_le _) (by omega)]
  simp [Array.getD_eq_getD_getElem?, hn, ht]
theorem frm_snap {a : Act} {Fi : List (Nat × Value)} (hd : a.defers = dq) (hn : a.tmps.size = n) (h : ∀ q, q ∈ Fi → a.tmps[q.1]? = some q.2) : Frm dq n a (Fi ++ snap n a) := by
  refine ⟨hd, hn, fun t v ht => ?_⟩
  rw [look_app] at ht
  cases hl : look Fi t with
  | some u =>
    rw [hl] at ht
    simp at ht
    subst ht
    exact h _ (look_mem hl)
  | none =>
    rw [hl] at ht
    simp only [Option.orElse_none] at ht
    have hm := look_mem ht
    simp only [snap, List.mem_map, List.mem_range] at hm
    obtain ⟨t', h1, h2⟩ := hm
    cases h2
    rw [← look_snap hn h1]
    exact ht

theorem look_all {a : Act} {Fi : List (Nat × Value)} (hn : a.tmps.size = n) (h : ∀ q, q ∈ Fi → a.tmps[q.1]? = some q.2) {t : Nat} {v : Value} (ht : a.tmps[t]? = some v) : look (Fi ++ snap n a) t = some v := by
  rw [look_app]
  cases hl : look Fi t with
  | some u =>
    have := h _ (look_mem hl)
    rw [ht] at this
    simpa using this.symm
  | none =>
    have hlt : t < n := by rw [← hn]; exact (Array.getElem?_eq_some_iff.1 ht).1
    simp only [Option.orElse_none]
    rw [look_snap hn hlt, ht]
theorem wp_change {o : Oper} {a : Act} {w : World} {K K' : Act → World → Prop} {Q Q' : Exit → Act → World → Prop} (h : ∀ a w, K a w → K' a w) (hp : ∀ c a w, ¬ Q (.panic c) a w) (hl : ¬ LetsOut Q) (hh : o.wp P a w K Q) : o.wp P a w K' Q' := by
  unfold Oper.wp at *
  generalize (execOp a.eval o).run P w = r at *
  cases r with
  | ok n w' =>
    cases n <;> simp only [Oper.upon] at hh ⊢ <;>
      first
        | exact h _ _ hh
        | exact Calls.mono hh (fun e w'' he => by cases e <;> first | exact h _ _ he | exact absurd he (hp _ _ _) | exact absurd he hl)
        | exact Rows.mono hh (fun _ _ he => h _ _ he)
  | halt x w' => cases x <;> simp only [Oper.upon] at hh ⊢ <;> first | exact hh | exact absurd hh (hp _ _ _)
theorem wpOp_of {o : Oper} {i : Nat} {a : Act} {w : World} {R : Act → World → Prop} {K : Act → World → Prop} {Q : Exit → Act → World → Prop} (ho : ops[i]? = some o) (h : wpList P ops (fun e a w => e = .normal ∧ R a w) [o] a w) (hR : ∀ a w, R a w → K a w) : wpOp P ops Q i K a w := by
  have hl : ¬ LetsOut (fun e a w => e = Exit.normal ∧ R a w) := by rintro ⟨a, w, h, _⟩; cases h
  have hp : ∀ c a w, ¬ ((Exit.panic c) = Exit.normal ∧ R a w) := by rintro c a w ⟨h, _⟩; cases h
  unfold wpOp
  simp only [ho]
  unfold wpList at h
  split
  · rename_i hw
    rw [if_pos hw] at h
    rcases h with h | ⟨_, h⟩
    · exact .inl (wp_change (fun a w h => hR a w h.2) hp hl h)
    · exact absurd h hl
  · rename_i hw
    rw [if_neg hw] at h
    exact hR _ _ h.2

theorem node_of {Q : Exit → Act → World → Prop} {Y : List Nat} {W : List (Nat × Nat × Value)} {L : List Ent} {D : List Fact} (hA : ancOk ops A = true) (hnf : ∀ j, j ∈ nf → j < ops.size) (hW : ∀ (i d : Nat) v, (i, d, v) ∈ W → ∃ o, ops[i]? = some o ∧ o.dst = some d)
    (huniq : ∀ (i j : Nat) (o p : Oper) (d : Nat), ops[i]? = some o → ops[j]? = some p → o.dst = some d → p.dst = some d → i = j) (hWf : ∀ (i d : Nat) v u, (i, d, v) ∈ W → (i, d, u) ∈ W → v = u) (hWn : ∀ (i d : Nat) v, (i, d, v) ∈ W → i ∈ nf → i ∈ Y)
    (hall : AllFrom (fun i => (i ∈ nf ∧ (i ∈ Y ∨ (∃ k, k ∈ A.getD i [] ∧ k ∈ nf ∧ k ∉ Y) ∨ NonOk dq E M w0 n ops A F0 nf P Q Y W L D i)) ∨ (i ∉ nf ∧ ((∃ y, y ∈ Y ∧ y ∈ nf ∧ i ∈ A.getD y []) ∨ (∃ k, k ∈ A.getD i [] ∧ k ∈ nf ∧ k ∉ Y) ∨ FixOk dq E M w0 n ops A F0 P W L D i))) 0 ops.size)
    (Ff : List (Nat × Value)) (hf : Fin ops F0 W Ff) (hend : (∀ j, j ∈ nf → j ∈ Y) → ∀ a w, St dq E M w0 n a w Ff L D → Q .normal a w) : Node dq E M w0 n ops F0 nf P Q Y W L D := by
  have hfin : ∀ X a w, Clo ops X → (∀ j, j ∈ nf → doneB X j = decide (j ∈ Y)) → Agr dq n ops F0 X a W → St0 E M w0 w L D → (∀ i, i < ops.size → doneB X i = true) → Q .normal a w := by
    intro X a w hX hN hg hS hdone
    refine hend (fun j hj => ?_) a w ⟨⟨hg.1, hg.2.1, fun t v ht => ?_⟩, hS⟩
    · have := hN j hj
      rw [hdone j (hnf j hj)] at this
      exact of_decide_eq_true this.symm
    · rcases hf _ (look_mem ht) with ⟨j, h1, h2⟩ | ⟨h1, h2⟩
      · exact hg.2.2.1 j t v h2 (hdone j h1)
      · exact hg.2.2.2 t v h1 (fun k o ho hd => (h2 k o ho hd).elim)
  intro fuel
  induction fuel with
  | zero =>
    intro X a w hX hN hg hS hc
    have hdone : ∀ i, i < ops.size → doneB X i = true := by
      intro i hi
      cases h : doneB X i with
      | true => rfl
      | false =>
        have hi' : i < X.size := by rw [hX.1]; exact hi
        have : X[i] = false := by simpa [doneB, Array.getD, hi'] using h
        have hpos : 0 < X.count false := Array.count_pos_iff.2 (this ▸ Array.getElem_mem hi')
        omega
    have hr : Region.ready .any ops X = [] := by
      cases h : Region.ready .any ops X with
      | nil => rfl
      | cons i l =>
        obtain ⟨o, ho, h1, _⟩ := ready_spec (ops := ops) (X := X) (i := i) (by rw [h]; exact List.mem_cons_self)
        have hi : i < ops.size := (Array.getElem?_eq_some_iff.1 ho).1
        have h2 := hdone i hi
        have hi' : i < X.size := by rw [hX.1]; exact hi
        simp [doneB, Array.getD, hi'] at h1 h2
        rw [h1] at h2; cases h2
    exact ⟨hr, hfin X a w hX hN hg hS hdone⟩
  | succ fuel ih =>
    intro X a w hX hN hg hS hc
    refine ⟨fun hr => hfin X a w hX hN hg hS (ready_nil hA hX hr), fun i hi => ?_⟩
    obtain ⟨o, ho, hx, hdeps⟩ := ready_spec hi
    have hlt : i < ops.size := (Array.getElem?_eq_some_iff.1 ho).1
    have hltX : i < X.size := by rw [hX.1]; exact hlt
    have hnd : doneB X i = false := by simpa [doneB, Array.getD, hltX] using hx
    have hanc := anc_done hA hX i o ho hdeps
    have hset := done_set (X := X) hltX
    have hX' : Clo ops (X.setIfInBounds i true) := by
      refine ⟨by simp [hX.1], fun k p hp hk e he hb => ?_⟩
      rw [hset] at hk ⊢
      by_cases hik : i = k
      · subst hik
        rw [ho] at hp; cases hp
        rw [hdeps e he hb]; simp
      · simp [hik] at hk
        rw [hX.2 k p hp hk e he hb]; simp
    have hc' : (X.setIfInBounds i true).count false ≤ fuel := by have := count_set hx; omega
    have hv : ∀ Fi, Srcs ops A F0 i W Fi → ∀ q, q ∈ Fi → a.tmps[q.1]? = some q.2 := by
      intro Fi hs q hq
      rcases hs q hq with ⟨j, h1, h2⟩ | ⟨h1, h2⟩
      · exact hg.2.2.1 j _ _ h2 (hanc j h1)
      · refine hg.2.2.2 _ _ h1 (fun k p hp hd => ?_)
        rcases h2 k p hp hd with rfl | h3
        · exact hnd
        · cases hk : doneB X k with
          | false => rfl
          | true =>
            have := anc_done hA hX k p hp (fun e he hb => hX.2 k p hp hk e he hb) i h3
            rw [hnd] at this; cases this
    -- what stays behind the step
    have hstay : ∀ Fi a' F' w', (∀ q, q ∈ Fi → a.tmps[q.1]? = some q.2) → St dq E M w0 n a' w' (F' ++ (Fi ++ snap n a)) L D ∨ True → True := fun _ _ _ _ _ _ => trivial
    clear hstay
    have hold : ∀ (i2 d2 : Nat) (v2 : Value), (i2, d2, v2) ∈ W → i2 ≠ i → doneB (X.setIfInBounds i true) i2 = true → a.tmps[d2]? = some v2 ∧ o.dst ≠ some d2 := by
      intro i2 d2 v2 hm hne hd2
      rw [hset] at hd2
      have hd3 : doneB X i2 = true := by simpa [Ne.symm hne] using hd2
      refine ⟨hg.2.2.1 _ _ _ hm hd3, fun hod => ?_⟩
      obtain ⟨p, hp, hpd⟩ := hW _ _ _ hm
      exact hne (huniq i2 i p o d2 hp ho hpd hod)
    have hbase : ∀ (t : Nat) (v : Value), look F0 t = some v → (∀ (k : Nat) (p : Oper), ops[k]? = some p → p.dst = some t → doneB (X.setIfInBounds i true) k = false) → a.tmps[t]? = some v ∧ o.dst ≠ some t := by
      intro t v hl hk
      refine ⟨hg.2.2.2 t v hl (fun k p hp hpd => ?_), fun hod => ?_⟩
      · have := hk k p hp hpd
        rw [hset] at this
        simp at this
        exact this.2
      · have := hk i o ho hod
        rw [hset] at this
        simp at this
    rcases hall.get i (Nat.zero_le _) (by omega) with ⟨hin, h⟩ | ⟨hin, h⟩
    · have hiY : i ∉ Y := fun hy => by
        have := hN i hin
        rw [hnd] at this
        simp [hy] at this
      rcases h with h | ⟨k, h1, h2, h3⟩ | h
      · exact absurd h hiY
      · have := hN k h2
        rw [hanc k h1] at this
        simp [h3] at this
      · obtain ⟨o', Fi, ho', hs, hstep⟩ := h
        rw [ho] at ho'; cases ho'
        have hval := hv Fi hs
        refine wpOp_of ho (hstep (snap n a) a w ⟨frm_snap hg.1 hg.2.1 hval, hS⟩) fun a' w' hr => ?_
        obtain ⟨L', D', hr⟩ := hr
        have hN' : ∀ j, j ∈ nf → doneB (X.setIfInBounds i true) j = decide (j ∈ i :: Y) := by
          intro j hj
          rw [hset, hN j hj]
          by_cases e : i = j
          · subst e; simp
          · have : ¬ j = i := fun h => e h.symm
            simp [e, this]
        have hW2 : ∀ (W2 : List (Nat × Nat × Value)), (∀ z, z ∈ W2 → i ∈ A.getD z.1 []) → ∀ (i2 d2 : Nat) (v2 : Value), (i2, d2, v2) ∈ W2 → doneB (X.setIfInBounds i true) i2 = true → False := by
          intro W2 hz i2 d2 v2 hm hd2
          have hi2 := hz _ hm
          rw [hset] at hd2
          by_cases e : i = i2
          · have h9 := hanc i (by rw [e] at hi2 ⊢; exact hi2)
            rw [hnd] at h9; cases h9
          · have hd3 : doneB X i2 = true := by simpa [e] using hd2
            have h8 : i2 < ops.size := by
              rcases Nat.lt_or_ge i2 X.size with h | h
              · rw [← hX.1]; exact h
              · simp [doneB, Array.getD, Nat.not_lt.2 h] at hd3
            have h9 := anc_done hA hX i2 ops[i2] (Array.getElem?_eq_getElem h8) (fun e he hb => hX.2 i2 _ (Array.getElem?_eq_getElem h8) hd3 e he hb) i hi2
            rw [hnd] at h9; cases h9
        rcases hr with ⟨d, v, W2, hod, hSt, hz, hNode⟩ | ⟨W2, hod, hSt, hz, hNode⟩
        · refine hNode fuel _ a' w' hX' hN' ⟨hSt.frm.defers, hSt.frm.size, fun i2 d2 v2 hm hd2 => ?_, fun t u hl hk => ?_⟩ hSt.mem hc'
          · rcases List.mem_append.1 hm with hm0 | hm1
            · exact (hW2 W2 hz _ _ _ hm0 hd2).elim
            rcases List.mem_cons.1 hm1 with hm2 | hm2
            · cases hm2
              exact hSt.frm.get d v (by simp [look])
            · have hne : i2 ≠ i := fun e => hiY (hWn _ _ _ (e ▸ hm2) hin)
              obtain ⟨h1, h2⟩ := hold i2 d2 v2 hm2 hne hd2
              refine hSt.frm.get d2 v2 ?_
              simp only [look]
              rw [if_neg (fun e => h2 (by rw [hod, e]))]
              exact look_all hg.2.1 hval h1
          · obtain ⟨h1, h2⟩ := hbase t u hl hk
            refine hSt.frm.get t u ?_
            simp only [look]
            rw [if_neg (fun e => h2 (by rw [hod, e]))]
            exact look_all hg.2.1 hval h1
        · refine hNode fuel _ a' w' hX' hN' ⟨hSt.frm.defers, hSt.frm.size, fun i2 d2 v2 hm hd2 => ?_, fun t u hl hk => ?_⟩ hSt.mem hc'
          · rcases List.mem_append.1 hm with hm0 | hm
            · exact (hW2 W2 hz _ _ _ hm0 hd2).elim
            have hne : i2 ≠ i := fun e => hiY (hWn _ _ _ (e ▸ hm) hin)
            exact hSt.frm.get d2 v2 (look_all hg.2.1 hval (hold i2 d2 v2 hm hne hd2).1)
          · exact hSt.frm.get t u (look_all hg.2.1 hval (hbase t u hl hk).1)
    · rcases h with ⟨y, h1, h2, h3⟩ | ⟨k, h1, h2, h3⟩ | h
      · -- done already
        have hy : doneB X y = true := by rw [hN y h2]; simpa using h1
        obtain ⟨p, hp⟩ : ∃ p, ops[y]? = some p := ⟨_, Array.getElem?_eq_getElem (hnf y h2)⟩
        have := anc_done hA hX y p hp (fun e he hb => hX.2 y p hp hy e he hb) i h3
        rw [hnd] at this; cases this
      · have := hN k h2
        rw [hanc k h1] at this
        simp [h3] at this
      · obtain ⟨o', d, v, Fi, ho', hod, hmem, hs, hstep⟩ := h
        rw [ho] at ho'; cases ho'
        have hval := hv Fi hs
        refine wpOp_of ho (hstep (snap n a) a w ⟨frm_snap hg.1 hg.2.1 hval, hS⟩) fun a' w' hSt => ?_
        have hN' : ∀ j, j ∈ nf → doneB (X.setIfInBounds i true) j = decide (j ∈ Y) := by
          intro j hj
          rw [hset, ← hN j hj]
          have : ¬ i = j := fun e => hin (e ▸ hj)
          simp [this]
        refine ih _ a' w' hX' hN' ⟨hSt.frm.defers, hSt.frm.size, fun i2 d2 v2 hm hd2 => ?_, fun t u hl hk => ?_⟩ hSt.mem hc'
        · by_cases hne : i2 = i
          · subst hne
            obtain ⟨p, hp, hpd⟩ := hW _ _ _ hm
            rw [ho] at hp; cases hp
            rw [hod] at hpd; cases hpd
            rw [hWf _ _ _ _ hm hmem]
            exact hSt.frm.get d v (by simp [look])
          · obtain ⟨h1, h2⟩ := hold i2 d2 v2 hm hne hd2
            refine hSt.frm.get d2 v2 ?_
            simp only [look]
            rw [if_neg (fun e => h2 (by rw [hod, e]))]
            exact look_all hg.2.1 hval h1
        · obtain ⟨h1, h2⟩ := hbase t u hl hk
          refine hSt.frm.get t u ?_
          simp only [look]
          rw [if_neg (fun e => h2 (by rw [hod, e]))]
          exact look_all hg.2.1 hval h1
/-- a region that draws its order -/
theorem sDraw {id : Nat} {l : List Oper} {Q : Exit → Act → World → Prop} {a : Act} {w : World} {L : List Ent} {D : List Fact} {W : List (Nat × Nat × Value)} (hm : P.follows .mixedOrders = true) (S : St dq E M w0 n a w F0 L D)
    (h : Node dq E M w0 n l.toArray F0 nf P Q [] W L D) : (Code.region id l.toArray true).wp P Q a w := by
  refine wp_region_any hm ?_
  refine h _ _ a _ ⟨by simp, fun i o ho hd => ?_⟩ (fun j hj => ?_) ⟨S.frm.defers, S.frm.size, fun i d v hm hd => ?_, fun t v hl _ => S.frm.get t v hl⟩ S.mem.drew ?_
  · simp [doneB, Array.getD] at hd
  · simp [doneB, Array.getD]
  · simp [doneB, Array.getD] at hd
  · simp

/-- the checks by reckoning -/
def srcOne (F0 : List (Nat × Value)) (W : List (Nat × Nat × Value)) (t : Nat) : Option Nat → Option (Nat × Value)
  | some k => (W[k]?).map (·.2)
  | none => (look F0 t).map (t, ·)
def srcB1 (F0 : List (Nat × Value)) (W : List (Nat × Nat × Value)) (cert : List (Option Nat)) (Fi : List (Nat × Value)) : List (Option (Nat × Value)) :=
  (cert.zip Fi).map fun c => srcOne F0 W c.2.1 c.1
def srcB2 (ops : Array Oper) (A : List (List Nat)) (i : Nat) (ixs : List Nat) (cert : List (Option Nat)) (ts : List Nat) : Bool :=
  (cert.zip ts).all fun c => match c.1 with
    | some k => ((ixs[k]?).map fun j => (A.getD i []).contains j).getD false
    | none => (List.range ops.size).all fun k => ((ops[k]?).map fun o => (match o.dst with | some d => Nat.beq d c.2 | none => false)).getD false == false || k == i || (A.getD k []).contains i
def finB2 (ops : Array Oper) (ixs : List Nat) (cert : List (Option Nat)) (ts : List Nat) : Bool :=
  (cert.zip ts).all fun c => match c.1 with
    | some k => ((ixs[k]?).map fun j => decide (j < ops.size)).getD false
    | none => (List.range ops.size).all fun k => ((ops[k]?).map fun o => (match o.dst with | some d => Nat.beq d c.2 | none => false)).getD false == false
theorem zip_mem {α β : Type} {cs : List α} {bs : List β} (hl : cs.length = bs.length) {b : β} (hb : b ∈ bs) : ∃ a, (a, b) ∈ cs.zip bs := by
  induction bs generalizing cs with
  | nil => simp at hb
  | cons y bs ih =>
    cases cs with
    | nil => simp at hl
    | cons x cs =>
      rcases List.mem_cons.1 hb with rfl | hb
      · exact ⟨x, by simp⟩
      · obtain ⟨a, ha⟩ := ih (by simpa using hl) hb
        exact ⟨a, by simp [ha]⟩
theorem zip_map {α : Type} {cs : List α} {Fi : List (Nat × Value)} {a : α} {q : Nat × Value} (h : (a, q) ∈ cs.zip Fi) : (a, q.1) ∈ cs.zip (Fi.map (·.1)) := by
  induction Fi generalizing cs with
  | nil => simp at h
  | cons y Fi ih =>
    cases cs with
    | nil => simp at h
    | cons x cs =>
      simp only [List.zip_cons_cons, List.mem_cons, List.map_cons] at h ⊢
      rcases h with h | h
      · cases h; exact .inl rfl
      · exact .inr (ih h)
theorem src_get {F0 : List (Nat × Value)} {W : List (Nat × Nat × Value)} {cert : List (Option Nat)} {Fi : List (Nat × Value)} (h1 : srcB1 F0 W cert Fi = Fi.map some) {c : Option Nat} {q : Nat × Value} (h : (c, q) ∈ cert.zip Fi) :
    srcOne F0 W q.1 c = some q := by
  unfold srcB1 at h1
  induction Fi generalizing cert with
  | nil => simp at h
  | cons y Fi ih =>
    cases cert with
    | nil => simp at h
    | cons x cert =>
      simp only [List.zip_cons_cons, List.map_cons, List.cons.injEq, List.mem_cons] at h1 h
      rcases h with h | h
      · cases h; exact h1.1
      · exact ih h1.2 h
theorem writer_none {o : Oper} {t : Nat} (h : (match o.dst with | some d => Nat.beq d t | none => false) = false) : o.dst ≠ some t := fun e => by
  rw [e] at h
  simp at h
theorem srcs_of {i : Nat} {W : List (Nat × Nat × Value)} {Fi : List (Nat × Value)} (cert : List (Option Nat)) (hl : cert.length = Fi.length) (h1 : srcB1 F0 W cert Fi = Fi.map some) (h2 : srcB2 ops A i (W.map (·.1)) cert (Fi.map (·.1)) = true) : Srcs ops A F0 i W Fi := by
  intro q hq
  obtain ⟨c, hc⟩ := zip_mem hl hq
  have h3 := src_get h1 hc
  have h4 := List.all_eq_true.1 h2 _ (zip_map hc)
  cases c with
  | some k =>
    simp only [srcOne] at h3 h4
    cases hk : W[k]? with
    | none => rw [hk] at h3; cases h3
    | some z =>
      rw [hk] at h3
      simp only [Option.map_some, Option.some.injEq] at h3
      simp only [List.getElem?_map, hk, Option.map_some, Option.getD_some] at h4
      refine .inl ⟨z.1, List.contains_iff_mem.1 h4, ?_⟩
      rw [← h3]
      exact List.mem_of_getElem? hk
  | none =>
    simp only [srcOne] at h3 h4
    refine .inr ⟨?_, fun k o ho hd => ?_⟩
    · cases hl : look F0 q.1 with
      | none => rw [hl] at h3; cases h3
      | some v => rw [hl] at h3; simp at h3; rw [← h3]
    · have hk : k < ops.size := (Array.getElem?_eq_some_iff.1 ho).1
      have := List.all_eq_true.1 h4 k (List.mem_range.2 hk)
      simp only [ho, Option.map_some, Option.getD_some, Bool.or_eq_true, beq_iff_eq] at this
      rcases this with (h | h) | h
      · exact absurd hd (writer_none h)
      · exact .inl h
      · exact .inr (List.contains_iff_mem.1 h)
theorem fin_of {W : List (Nat × Nat × Value)} {Fi : List (Nat × Value)} (cert : List (Option Nat)) (hl : cert.length = Fi.length) (h1 : srcB1 F0 W cert Fi = Fi.map some) (h2 : finB2 ops (W.map (·.1)) cert (Fi.map (·.1)) = true) : Fin ops F0 W Fi := by
  intro q hq
  obtain ⟨c, hc⟩ := zip_mem hl hq
  have h3 := src_get h1 hc
  have h4 := List.all_eq_true.1 h2 _ (zip_map hc)
  cases c with
  | some k =>
    simp only [srcOne] at h3 h4
    cases hk : W[k]? with
    | none => rw [hk] at h3; cases h3
    | some z =>
      rw [hk] at h3
      simp only [Option.map_some, Option.some.injEq] at h3
      simp only [List.getElem?_map, hk, Option.map_some, Option.getD_some, decide_eq_true_eq] at h4
      refine .inl ⟨z.1, h4, ?_⟩
      rw [← h3]
      exact List.mem_of_getElem? hk
  | none =>
    simp only [srcOne] at h3 h4
    refine .inr ⟨?_, fun k o ho hd => ?_⟩
    · cases hl : look F0 q.1 with
      | none => rw [hl] at h3; cases h3
      | some v => rw [hl] at h3; simp at h3; rw [← h3]
    · have hk : k < ops.size := (Array.getElem?_eq_some_iff.1 ho).1
      have := List.all_eq_true.1 h4 k (List.mem_range.2 hk)
      simp only [ho, Option.map_some, Option.getD_some, beq_iff_eq] at this
      exact absurd hd (writer_none this)
def uniqB (ops : Array Oper) : Bool := (List.range ops.size).all fun i => (List.range i).all fun j => match (ops[i]?).bind (·.dst), (ops[j]?).bind (·.dst) with | some d, some e => !Nat.beq d e | _, _ => true
theorem uniq_lt (h : uniqB ops = true) {i j : Nat} {o p : Oper} {d : Nat} (hij : j < i) (ho : ops[i]? = some o) (hp : ops[j]? = some p) (hd : o.dst = some d) (he : p.dst = some d) : False := by
  have hi : i < ops.size := (Array.getElem?_eq_some_iff.1 ho).1
  have h1 := List.all_eq_true.1 (List.all_eq_true.1 h i (List.mem_range.2 hi)) j (List.mem_range.2 hij)
  simp [ho, hp, hd, he] at h1
section
variable {nf Y : List Nat} {A : List (List Nat)} {X Z : Nat → Prop}
theorem aY (k m : Nat) (h : k ∈ nf ∧ k ∈ Y) (g : AllFrom (fun i => (i ∈ nf ∧ (i ∈ Y ∨ (∃ k, k ∈ A.getD i [] ∧ k ∈ nf ∧ k ∉ Y) ∨ X i)) ∨ (i ∉ nf ∧ ((∃ y, y ∈ Y ∧ y ∈ nf ∧ i ∈ A.getD y []) ∨ (∃ k, k ∈ A.getD i [] ∧ k ∈ nf ∧ k ∉ Y) ∨ Z i))) (k + 1) m) :
    AllFrom (fun i => (i ∈ nf ∧ (i ∈ Y ∨ (∃ k, k ∈ A.getD i [] ∧ k ∈ nf ∧ k ∉ Y) ∨ X i)) ∨ (i ∉ nf ∧ ((∃ y, y ∈ Y ∧ y ∈ nf ∧ i ∈ A.getD y []) ∨ (∃ k, k ∈ A.getD i [] ∧ k ∈ nf ∧ k ∉ Y) ∨ Z i))) k (m + 1) := ⟨.inl ⟨h.1, .inl h.2⟩, g⟩
theorem aB (k m b : Nat) (h : k ∈ nf ∧ b ∈ A.getD k [] ∧ b ∈ nf ∧ b ∉ Y) (g : AllFrom (fun i => (i ∈ nf ∧ (i ∈ Y ∨ (∃ k, k ∈ A.getD i [] ∧ k ∈ nf ∧ k ∉ Y) ∨ X i)) ∨ (i ∉ nf ∧ ((∃ y, y ∈ Y ∧ y ∈ nf ∧ i ∈ A.getD y []) ∨ (∃ k, k ∈ A.getD i [] ∧ k ∈ nf ∧ k ∉ Y) ∨ Z i))) (k + 1) m) :
    AllFrom (fun i => (i ∈ nf ∧ (i ∈ Y ∨ (∃ k, k ∈ A.getD i [] ∧ k ∈ nf ∧ k ∉ Y) ∨ X i)) ∨ (i ∉ nf ∧ ((∃ y, y ∈ Y ∧ y ∈ nf ∧ i ∈ A.getD y []) ∨ (∃ k, k ∈ A.getD i [] ∧ k ∈ nf ∧ k ∉ Y) ∨ Z i))) k (m + 1) := ⟨.inl ⟨h.1, .inr (.inl ⟨b, h.2.1, h.2.2.1, h.2.2.2⟩)⟩, g⟩
theorem aN (k m : Nat) (h : k ∈ nf) (x : X k) (g : AllFrom (fun i => (i ∈ nf ∧ (i ∈ Y ∨ (∃ k, k ∈ A.getD i [] ∧ k ∈ nf ∧ k ∉ Y) ∨ X i)) ∨ (i ∉ nf ∧ ((∃ y, y ∈ Y ∧ y ∈ nf ∧ i ∈ A.getD y []) ∨ (∃ k, k ∈ A.getD i [] ∧ k ∈ nf ∧ k ∉ Y) ∨ Z i))) (k + 1) m) :
    AllFrom (fun i => (i ∈ nf ∧ (i ∈ Y ∨ (∃ k, k ∈ A.getD i [] ∧ k ∈ nf ∧ k ∉ Y) ∨ X i)) ∨ (i ∉ nf ∧ ((∃ y, y ∈ Y ∧ y ∈ nf ∧ i ∈ A.getD y []) ∨ (∃ k, k ∈ A.getD i [] ∧ k ∈ nf ∧ k ∉ Y) ∨ Z i))) k (m + 1) := ⟨.inl ⟨h, .inr (.inr x)⟩, g⟩
theorem aD (k m y : Nat) (h : k ∉ nf ∧ y ∈ Y ∧ y ∈ nf ∧ k ∈ A.getD y []) (g : AllFrom (fun i => (i ∈ nf ∧ (i ∈ Y ∨ (∃ k, k ∈ A.getD i [] ∧ k ∈ nf ∧ k ∉ Y) ∨ X i)) ∨ (i ∉ nf ∧ ((∃ y, y ∈ Y ∧ y ∈ nf ∧ i ∈ A.getD y []) ∨ (∃ k, k ∈ A.getD i [] ∧ k ∈ nf ∧ k ∉ Y) ∨ Z i))) (k + 1) m) :
    AllFrom (fun i => (i ∈ nf ∧ (i ∈ Y ∨ (∃ k, k ∈ A.getD i [] ∧ k ∈ nf ∧ k ∉ Y) ∨ X i)) ∨ (i ∉ nf ∧ ((∃ y, y ∈ Y ∧ y ∈ nf ∧ i ∈ A.getD y []) ∨ (∃ k, k ∈ A.getD i [] ∧ k ∈ nf ∧ k ∉ Y) ∨ Z i))) k (m + 1) := ⟨.inr ⟨h.1, .inl ⟨y, h.2.1, h.2.2.1, h.2.2.2⟩⟩, g⟩
theorem aF (k m : Nat) (h : k ∉ nf) (x : Z k) (g : AllFrom (fun i => (i ∈ nf ∧ (i ∈ Y ∨ (∃ k, k ∈ A.getD i [] ∧ k ∈ nf ∧ k ∉ Y) ∨ X i)) ∨ (i ∉ nf ∧ ((∃ y, y ∈ Y ∧ y ∈ nf ∧ i ∈ A.getD y []) ∨ (∃ k, k ∈ A.getD i [] ∧ k ∈ nf ∧ k ∉ Y) ∨ Z i))) (k + 1) m) :
    AllFrom (fun i => (i ∈ nf ∧ (i ∈ Y ∨ (∃ k, k ∈ A.getD i [] ∧ k ∈ nf ∧ k ∉ Y) ∨ X i)) ∨ (i ∉ nf ∧ ((∃ y, y ∈ Y ∧ y ∈ nf ∧ i ∈ A.getD y []) ∨ (∃ k, k ∈ A.getD i [] ∧ k ∈ nf ∧ k ∉ Y) ∨ Z i))) k (m + 1) := ⟨.inr ⟨h, .inr (.inr x)⟩, g⟩
end
theorem node_by {Q : Exit → Act → World → Prop} {Y : List Nat} {W : List (Nat × Nat × Value)} {L : List Ent} {D : List Fact} (N : Nat) (hN : ops.size = N) (hA : ancOk ops A = true) (hu : uniqB ops = true) (hnf : (nf.all fun j => decide (j < ops.size)) = true)
    (hW : W.map (fun q => (ops[q.1]?).bind (·.dst)) = W.map (fun q => some q.2.1)) (ix : List Nat) (hix : W.map (·.1) = ix) (hWi' : ix.Nodup) (hWn' : (ix.all fun i => !nf.contains i || Y.contains i) = true)
    (hall : AllFrom (fun i => (i ∈ nf ∧ (i ∈ Y ∨ (∃ k, k ∈ A.getD i [] ∧ k ∈ nf ∧ k ∉ Y) ∨ NonOk dq E M w0 n ops A F0 nf P Q Y W L D i)) ∨ (i ∉ nf ∧ ((∃ y, y ∈ Y ∧ y ∈ nf ∧ i ∈ A.getD y []) ∨ (∃ k, k ∈ A.getD i [] ∧ k ∈ nf ∧ k ∉ Y) ∨ FixOk dq E M w0 n ops A F0 P W L D i))) 0 N)
    (Ff : List (Nat × Value)) (hf : Fin ops F0 W Ff) (hend : (∀ j, j ∈ nf → j ∈ Y) → ∀ a w, St dq E M w0 n a w Ff L D → Q .normal a w) : Node dq E M w0 n ops F0 nf P Q Y W L D := by
  subst hN
  have hWi : (W.map (·.1)).Nodup := by rw [hix]; exact hWi'
  have hWn : ((W.map (·.1)).all fun i => !nf.contains i || Y.contains i) = true := by rw [hix]; exact hWn'
  clear hWi' hWn' hix
  refine node_of hA (fun j hj => by simpa using List.all_eq_true.1 hnf j hj) (fun i d v hm => ?_) (fun i j o p d ho hp hd he => ?_) (fun i d v u h1 h2 => ?_) (fun i d v hm hin => ?_) hall Ff hf hend
  · have : (ops[i]?).bind (·.dst) = some d := by
      clear hWi hWn hall hf
      induction W with
      | nil => cases hm
      | cons z W ih =>
        simp only [List.map_cons, List.cons.injEq] at hW
        rcases List.mem_cons.1 hm with rfl | hm
        · exact hW.1
        · exact ih hW.2 hm
    cases ho : ops[i]? with
    | none => rw [ho] at this; cases this
    | some o => rw [ho] at this; exact ⟨o, rfl, this⟩
  · rcases Nat.lt_trichotomy i j with h | h | h
    · exact (uniq_lt hu h hp ho he hd).elim
    · exact h
    · exact (uniq_lt hu h ho hp hd he).elim
  · clear hW hWn hall hf
    induction W with
    | nil => cases h1
    | cons z W ih =>
      simp only [List.map_cons, List.nodup_cons] at hWi
      rcases List.mem_cons.1 h1 with e1 | h1 <;> rcases List.mem_cons.1 h2 with e2 | h2
      · rw [← e1] at e2; cases e2; rfl
      · exact absurd (List.mem_map.2 ⟨_, h2, by rw [← e1]⟩) hWi.1
      · exact absurd (List.mem_map.2 ⟨_, h1, by rw [← e2]⟩) hWi.1
      · exact ih hWi.2 h1 h2
  · have := List.all_eq_true.1 hWn i (List.mem_map.2 ⟨_, hm, rfl⟩)
    simpa [hin] using this
theorem fI {W : List (Nat × Nat × Value)} {L : List Ent} {D : List Fact} {i : Nat} {o : Oper} (d : Nat) (v : Value) (Fi : List (Nat × Value)) (ix : Nat) (cert : List (Option Nat)) (ho : ops[i]? = some o) (hd : o.dst = some d) (hW : W[ix]? = some (i, d, v)) (hl : cert.length = Fi.length)
    (h1 : srcB1 F0 W cert Fi = Fi.map some) (h2 : srcB2 ops A i (W.map (·.1)) cert (Fi.map (·.1)) = true)
    (k : ∀ G a w, St dq E M w0 n a w (Fi ++ G) L D → wpList P ops (fun e a' w' => e = .normal ∧ St dq E M w0 n a' w' ((d, v) :: (Fi ++ G)) L D) [o] a w) : FixOk dq E M w0 n ops A F0 P W L D i :=
  ⟨o, d, v, Fi, ho, hd, List.mem_of_getElem? hW, srcs_of cert hl h1 h2, k⟩
theorem hz_of {i : Nat} {W2 : List (Nat × Nat × Value)} (h : ((W2.map (·.1)).all fun k => (A.getD k []).contains i) = true) : ∀ z, z ∈ W2 → i ∈ A.getD z.1 [] := fun z hz =>
  List.contains_iff_mem.1 (List.all_eq_true.1 h z.1 (List.mem_map.2 ⟨z, hz, rfl⟩))
end

end Go.Proofs.YtdfjcpnflmgdoaaDoor
namespace Go.Proofs.YtdfjcpnflmgdoaaDoor
open Go.RowKit
set_option linter.unusedVariables false

theorem All.cons {α : Type} {r : R α} {E : Nat → Prop} {w : World} {v : Value} {x : α} {vs : List Value} {xs : List α} (h : r.rep E w v x) (a : All r E w vs xs) : All r E w (v :: vs) (x :: xs) :=
  All.append (All.one h) a
section
variable {P : Program} {dq : List Deferred} {E : Nat → Prop} {M : List Nat} {w0 : World} {n : Nat} {a : Act} {w : World} {F : List (Nat × Value)} {L : List Ent} {D : List Fact} {Q : Exit → Act → World → Prop}
variable {ops : Array Oper} {rest : List Oper} {o : Oper} {d : Nat}

theorem St.learn (S : St dq E M w0 n a w F L D) (e : Fact) (h : e.p (tot E L) w) : St dq E M w0 n a w F L (e :: D) := ⟨S.frm, S.mem.learn e h⟩
/-- the ways out of code -/
theorem xThen {K : Act → World → Prop} {i : Nat} (h : Q (.exit i) a w) : Exit.then K Q (.exit i) a w := h
theorem xHit {i : Nat} (h : Q .normal a w) : Exit.inBlock i Q (.exit i) a w := by simp only [Exit.inBlock, if_true]; exact h
theorem leafL (h : Q .normal a w) : wpList P ops Q [] a w := h
theorem leafT {K : Act → World → Prop} (h : K a w) : Exit.then K Q .normal a w := h
theorem leafB {i : Nat} (h : Q .normal a w) : Exit.inBlock i Q .normal a w := h
theorem rThen {K : Act → World → Prop} (h : Q .ret a w) : Exit.then K Q .ret a w := h
theorem rBlock {i : Nat} (h : Q .ret a w) : Exit.inBlock i Q .ret a w := h
end

end Go.Proofs.YtdfjcpnflmgdoaaDoor
namespace Go.Proofs.YtdfjcpnflmgdoaaDoor
open Go.RowKit
set_option linter.unusedVariables false

def quoK (k : IntKind) (x y : Int) : Option Int := if y = 0 then none else some (k.wrap (x.tdiv y))
section
variable {P : Program} {dq : List Deferred} {E : Nat → Prop} {M : List Nat} {w0 : World} {n : Nat} {a : Act} {w : World} {F : List (Nat × Value)} {L : List Ent} {D : List Fact} {Q : Exit → Act → World → Prop}
variable {ops : Array Oper} {rest : List Oper} {o : Oper} {d : Nat}

theorem bSubK (t u : TypeId) (p q : Operand) (k : IntKind) (x y : Int) : ∀ w, (eqGuard .sub t p q (.int k x) (.int k y)).run P w = .ok () w ∧ (binOp .sub u (.int k x) (.int k y)).run P w = .ok (.int k (k.wrap (x - y))) w := fun w => ⟨rfl, by simp [binOp, Op.intArith]⟩
theorem bQuoK (t u : TypeId) (p q : Operand) {k : IntKind} {x y z : Int} (h : quoK k x y = some z) : ∀ w, (eqGuard .quo t p q (.int k x) (.int k y)).run P w = .ok () w ∧ (binOp .quo u (.int k x) (.int k y)).run P w = .ok (.int k z) w := fun w => by
  unfold quoK at h
  split at h
  · cases h
  · rename_i hy
    cases h
    exact ⟨rfl, by simp [binOp, Op.intDiv, hy]⟩
theorem bRemK (t u : TypeId) (p q : Operand) {k : IntKind} {x y z : Int} (h : remI x y = some z) : ∀ w, (eqGuard .rem t p q (.int k x) (.int k y)).run P w = .ok () w ∧ (binOp .rem u (.int k x) (.int k y)).run P w = .ok (.int k z) w := fun w => by
  unfold remI at h
  split at h
  · cases h
  · rename_i hy
    cases h
    exact ⟨rfl, by simp [binOp, Op.intDiv, hy]⟩
theorem sNegK {t : TypeId} {k : IntKind} {x : Operand} {b : Int} (S : St dq E M w0 n a w F L D)
    (hw : ∀ a, Frm dq n a F → Region.wanted o (yielded ops a.tmps) = true) (ho : o.op = .unOp .neg t x) (hx : lookO F x = some (.int k b)) (hd : o.dst = some d) (hn : d < n)
    (K : ∀ a, St dq E M w0 n a w ((d, .int k (k.wrap (0 - b))) :: F) L D → wpList P ops Q rest a w) : wpList P ops Q (o :: rest) a w := by
  have he := S.frm.eval hx
  exact sVal S hw hd hn (by simp [execOp, ho, he, Op.unary, Op.intArith]) S.mem K
/-- equal structs: one fact for each type, proved by reckoning -/
def EqlV (P : Program) (t : TypeId) (x y : Value) (b : Bool) : Prop := ∀ w, (Op.equal t x y).run P w = .ok b w
def partP (P : Program) (t : TypeId) (cs : Array Value) (off : Nat) : Option Value := match aggB P t with
  | some true => (P.info? t).map fun i => .agg (cs.extract off (off + i.size))
  | some false => cs[off]?
  | none => none
theorem run_partP {t : TypeId} {cs : Array Value} {off : Nat} {v : Value} (h : partP P t cs off = some v) (w : World) : (part t cs off).run P w = .ok v w := by
  unfold partP at h
  split at h
  · rename_i hg
    cases hi : P.info? t with
    | none => simp [hi] at h
    | some i =>
      simp only [hi, Option.map_some, Option.some.injEq] at h
      subst h
      simp [part, run_isAgg hg, sizeOf, typeInfo, hi]
  · rename_i hg
    simp [part, run_isAgg hg, h]
  · cases h
def eqP (P : Program) : Nat → TypeId → Value → Value → Option Bool
  | 0, _, _, _ => none
  | d + 1, t, x, y => match P.underlying t, x, y with
    | some (.int _), .int k a, .int k' b => if k = k' then some (a == b) else none
    | some .bool, .bool a, .bool b => some (a == b)
    | some .string, .string a, .string b => some (a == b)
    | some (.struct fs), .agg xs, .agg ys => if P.stoodInHeld t then none else
      fs.toList.foldr (fun f acc => if f.name = "_" then acc else
        match partP P f.type xs f.offset, partP P f.type ys f.offset with
        | some a, some b => (eqP P d f.type a b).bind fun r => acc.map (r && ·)
        | _, _ => none) (some true)
    | some (.array n e), .agg xs, .agg ys => match P.info? e with
      | some _ => (List.range n).foldr (fun j acc =>
        match partP P e xs (j * P.cellsOf e), partP P e ys (j * P.cellsOf e) with
        | some a, some b => (eqP P d e a b).bind fun r => acc.map (r && ·)
        | _, _ => none) (some true)
      | none => none
    | _, _, _ => none
theorem run_eqP : ∀ (d : Nat) (t : TypeId) (x y : Value) (b : Bool), eqP P d t x y = some b → ∀ m w, d ≤ m → (Op.equalIn m t x y).run P w = .ok b w := by
  intro d
  induction d with
  | zero => intro t x y b h; simp [eqP] at h
  | succ d ih =>
    intro t x y b h m w hm
    obtain ⟨m, rfl⟩ : ∃ k, m = k + 1 := ⟨m - 1, by omega⟩
    unfold eqP at h
    split at h
    · rename_i hu
      split at h
      · rename_i hk; subst hk; cases h; simp [Op.equalIn, run_underlying hu]
      · cases h
    · rename_i hu; cases h; simp [Op.equalIn, run_underlying hu]
    · rename_i hu; cases h; simp [Op.equalIn, run_underlying hu]
    · rename_i fs xs ys hu
      split at h
      · cases h
      · rename_i hp
        have hf : P.fieldsOf t = fs := by simp [Program.fieldsOf, hu]
        rw [run_equalIn_struct w m t xs ys (by rw [hf]; exact hu) (by simpa using hp), hf]
        generalize fs.toList = l at h
        clear hf hu
        induction l generalizing b with
        | nil => simp at h; subst h; simp [Op.eqFields]
        | cons f l ihl =>
          simp only [List.foldr_cons] at h
          split at h
          · rename_i hn
            simp only [Op.eqFields, hn, ne_eq, not_true_eq_false, if_false]
            exact ihl _ h
          · rename_i hn
            split at h
            · rename_i va vb ha hb
              cases he : eqP P d f.type va vb with
              | none => simp [he] at h
              | some r =>
                rw [he] at h
                simp only [Option.bind_some, Option.map_eq_some_iff] at h
                obtain ⟨b', h1, rfl⟩ := h
                have h2 := ihl _ h1
                have h3 := ih f.type va vb r he m w (by omega)
                simp only [Op.eqFields, ne_eq, hn, not_false_eq_true, if_true, Sem.run_bind, run_partP ha, run_partP hb, Result.andThen_ok, h3]
                cases r
                · simp
                · simpa using h2
            · cases h
    · rename_i n e xs ys hu
      split at h
      · rename_i i hi
        rw [run_equalIn_array (w := w) m xs ys hu hi]
        generalize List.range n = l at h
        induction l generalizing b with
        | nil => simp at h; subst h; simp [Op.eqItems]
        | cons j l ihl =>
          simp only [List.foldr_cons] at h
          split at h
          · rename_i va vb ha hb
            cases he : eqP P d e va vb with
            | none => simp [he] at h
            | some r =>
              rw [he] at h
              simp only [Option.bind_some, Option.map_eq_some_iff] at h
              obtain ⟨b', h1, rfl⟩ := h
              have h2 := ihl _ h1
              have h3 := ih e va vb r he m w (by omega)
              simp only [Op.eqItems, Sem.run_bind, run_partP ha, run_partP hb, Result.andThen_ok, h3]
              cases r
              · simp
              · simpa using h2
          · cases h
      · cases h
    · cases h
theorem eqlV_of {t : TypeId} {x y : Value} {b : Bool} (h : eqP P 10 t x y = some b) : EqlV P t x y b := fun w => run_eqP 10 t x y b h 10000 w (by omega)
theorem bEqV (t u : TypeId) (p q : Operand) (cs ds : Array Value) (b : Bool) (hg : P.eqGuardType P.depth t = false) (h : EqlV P u (.agg cs) (.agg ds) b) : ∀ w, (eqGuard .eql t p q (.agg cs) (.agg ds)).run P w = .ok () w ∧ (binOp .eql u (.agg cs) (.agg ds)).run P w = .ok (.bool b) w := fun w => ⟨by simp [eqGuard, hg], by simp only [binOp, Sem.run_bind, h w, Result.andThen_ok, Sem.run_pure]⟩
theorem sLenS {t : TypeId} {x : Operand} {v : ByteArray} (S : St dq E M w0 n a w F L D)
    (hw : ∀ a, Frm dq n a F → Region.wanted o (yielded ops a.tmps) = true) (ho : o.op = .call { callee := .builtin .len, args := #[x], argTypes := #[t] }) (ht : P.underlying t = some .string) (hx : lookO F x = some (.string v)) (hd : o.dst = some d) (hn : d < n)
    (k : ∀ a, St dq E M w0 n a w ((d, .int .i64 (v.size : Int)) :: F) L D → wpList P ops Q rest a w) : wpList P ops Q (o :: rest) a w := by
  have he := S.frm.eval hx
  exact sVal S hw hd hn (by simp [execOp, ho, he, resolve, invoke, builtin, Builtin.len_, run_underlying ht, goInt]) S.mem k
end

end Go.Proofs.YtdfjcpnflmgdoaaDoor
namespace Go.Proofs.YtdfjcpnflmgdoaaDoor
open Go.RowKit
set_option linter.unusedVariables false

section
variable {P : Program} {dq : List Deferred} {E : Nat → Prop} {M : List Nat} {w0 : World} {n : Nat} {a : Act} {w : World} {F : List (Nat × Value)} {L : List Ent} {D : List Fact} {Q : Exit → Act → World → Prop}
variable {ops : Array Oper} {rest : List Oper} {o : Oper} {d : Nat}
/-- a variable in memory becomes something that is read -/
theorem St0.shutB {α : Type} {r : R α} {T : TypeId} {b : Nat} {cs : List Value} (i : Nat) (v : Value) (x : α) (S : St0 E M w0 w L D) (hi : L[i]? = some (eBox b T cs)) (hv : v.cells.toList = cs) (hr : r.rep (tot E L) w v x) : St0 E M w0 w (L.eraseIdx i) (fPtr r (.pointer (some ⟨b, 0, none⟩)) x :: D) := by
  have hperm := erase_perm hi
  have hn := keysL_perm hperm S.nodup
  have S1 := S.sub (L' := L.eraseIdx i) (D' := D) (fun e he => List.mem_of_mem_eraseIdx he) (nodup_sub (List.eraseIdx_sublist _ _) S.nodup) (fun _ h => h)
  have hb : w.heap[b]? = some (.cells cs.toArray T (0, 0)) := S.at hi
  have hext : Ext (tot E L) (tot E (L.eraseIdx i)) w w := ⟨Nat.le_refl _, fun _ _ _ _ => rfl, fun b _ h => h.imp id (fun h => by
    obtain ⟨e, h1, h2⟩ := keysL_mem.1 h
    exact keysL_mem.2 ⟨e, List.mem_of_mem_eraseIdx h1, h2⟩)⟩
  have hmem : b ∈ (eBox b T cs).keys := by simp [eBox]
  refine S1.learn (fPtr r (.pointer (some ⟨b, 0, none⟩)) x) ⟨b, 0, v, rfl, fun h => ?_, (Array.getElem?_eq_some_iff.1 hb).1, r.mono hext hr, fun j u hu => ?_⟩
  · rcases h with h | h
    · exact (S.key b (keysL_mem.2 ⟨_, List.mem_of_getElem? hi, hmem⟩)).2 h
    · simp only [keysL, List.map_cons, List.flatten_cons, List.nodup_append] at hn
      exact hn.2.2 b hmem b h rfl
  · rw [hv] at hu
    simp [World.cell?, hb, hu]
theorem St.shutB {α : Type} {r : R α} {T : TypeId} {b : Nat} {cs : List Value} (i : Nat) (v : Value) (x : α) (S : St dq E M w0 n a w F L D) (hi : L[i]? = some (eBox b T cs)) (hv : v.cells.toList = cs) (hr : r.rep (tot E L) w v x) : St dq E M w0 n a w F (L.eraseIdx i) (fPtr r (.pointer (some ⟨b, 0, none⟩)) x :: D) := ⟨S.frm, S.mem.shutB i v x hi hv hr⟩
theorem St0.hold {i : Nat} {e : Ent} (S : St0 E M w0 w L D) (h : L[i]? = some e) : e.p (tot E L) w := S.ent e (List.mem_of_getElem? h)
/-- strings -/
def idxS (s : ByteArray) (i : Int) : Option Int := if 0 ≤ i then (s[i.toNat]?).map (fun b => (b.toNat : Int)) else none
theorem sIndexS {t : TypeId} {x ix : Operand} {v : ByteArray} {k : IntKind} {j y : Int} (S : St dq E M w0 n a w F L D)
    (hw : ∀ a, Frm dq n a F → Region.wanted o (yielded ops a.tmps) = true) (ho : o.op = .index t x ix) (ht : P.underlying t = some .string) (hx : lookO F x = some (.string v)) (hj : lookO F ix = some (.int k j))
    (hy : idxS v j = some y) (hd : o.dst = some d) (hn : d < n)
    (K : ∀ a, St dq E M w0 n a w ((d, .int .u8 y) :: F) L D → wpList P ops Q rest a w) : wpList P ops Q (o :: rest) a w := by
  have h1 := S.frm.eval hx
  have h2 := S.frm.eval hj
  unfold idxS at hy
  split at hy
  · rename_i h0
    obtain ⟨b, hb, rfl⟩ := Option.map_eq_some_iff.1 hy
    exact sVal S hw hd hn (by simp [execOp, ho, h1, h2, Instr.index, run_underlying ht, asIntOf, h0, hb]) S.mem K
  · cases hy
theorem bEqS (t u : TypeId) (p q : Operand) (x y : ByteArray) : ∀ w, (eqGuard .eql t p q (.string x) (.string y)).run P w = .ok () w ∧ (binOp .eql u (.string x) (.string y)).run P w = .ok (.bool (x == y)) w := fun w => ⟨rfl, by simp [binOp, Op.stringOp, bne, beq_toListBytes]⟩
theorem bNeS (t u : TypeId) (p q : Operand) (x y : ByteArray) : ∀ w, (eqGuard .neq t p q (.string x) (.string y)).run P w = .ok () w ∧ (binOp .neq u (.string x) (.string y)).run P w = .ok (.bool (x != y)) w := fun w => ⟨rfl, by simp [binOp, Op.stringOp, bne, beq_toListBytes]⟩
/-- a part of a string -/
def sliceS (s : ByteArray) (lo hi : Int) : Option ByteArray := if 0 ≤ lo ∧ lo ≤ hi ∧ hi ≤ (s.size : Int) then some (s.extract lo.toNat hi.toNat) else none
theorem sSliceS {t : TypeId} {x : Operand} {lo hi : Option Operand} {v u : ByteArray} {vlo vhi : Option Value} {lo' hi' : Int} (S : St dq E M w0 n a w F L D)
    (hw : ∀ a, Frm dq n a F → Region.wanted o (yielded ops a.tmps) = true) (ho : o.op = .slice t x lo hi none) (ht : P.underlying t = some .string) (hx : lookO F x = some (.string v))
    (hlo : lo.map (lookO F) = vlo.map some) (hhi : hi.map (lookO F) = vhi.map some) (hl : vlo = some (.int .i64 lo') ∨ vlo = none ∧ lo' = 0) (hh : vhi = some (.int .i64 hi') ∨ vhi = none ∧ hi' = (v.size : Int)) (hsl : sliceS v lo' hi' = some u) (hd : o.dst = some d) (hn : d < n)
    (k : ∀ a, St dq E M w0 n a w ((d, .string u) :: F) L D → wpList P ops Q rest a w) : wpList P ops Q (o :: rest) a w := by
  unfold sliceS at hsl
  split at hsl
  · rename_i hb
    obtain ⟨h0, h1, h2⟩ := hb
    cases hsl
    have hex := S.frm.eval hx
    have elo : lo.map a.eval = vlo := by
      cases lo with
      | none => cases vlo with | none => rfl | some _ => simp at hlo
      | some y => cases vlo with | none => simp at hlo | some u => simp at hlo; simp [S.frm.eval hlo]
    have ehi : hi.map a.eval = vhi := by
      cases hi with
      | none => cases vhi with | none => rfl | some _ => simp at hhi
      | some y => cases vhi with | none => simp at hhi | some u => simp at hhi; simp [S.frm.eval hhi]
    obtain ⟨l, rfl⟩ := Int.eq_ofNat_of_zero_le h0
    obtain ⟨q, rfl⟩ := Int.eq_ofNat_of_zero_le (show 0 ≤ hi' by omega)
    have e1 : l ≤ q := by omega
    have e2 : q ≤ v.size := by omega
    have hrun : (Instr.sliceAt t (.string v) vlo vhi none).run P w = .ok (.string (v.extract l q)) w := by
      rcases hl with rfl | ⟨rfl, hl⟩ <;> rcases hh with rfl | ⟨rfl, hh⟩ <;>
        (try (have hl' : l = 0 := by omega); try subst hl') <;> (try (have hh' : q = v.size := by omega); try subst hh') <;>
        simp [Instr.sliceAt, Instr.slice, run_underlying ht, Instr.sliceBounds, Instr.sliceBound, asIntOf, e1, e2]
    exact sVal S hw hd hn (by unfold execOp; simp only [ho, hex, elo, ehi, Option.map_none, Sem.run_bind, hrun, Result.andThen_ok, Sem.run_pure, Int.toNat_natCast]) S.mem k
  · cases hsl
def addS (x y : ByteArray) : Option ByteArray := if ((x.size + y.size : Nat) : Int) > IntKind.i64.max then none else some (x ++ y)
theorem bAddS (t u : TypeId) (p q : Operand) {x y z : ByteArray} (h : addS x y = some z) : ∀ w, (eqGuard .add t p q (.string x) (.string y)).run P w = .ok () w ∧ (binOp .add u (.string x) (.string y)).run P w = .ok (.string z) w := fun w => by
  unfold addS at h
  split at h
  · cases h
  · rename_i hy
    cases h
    exact ⟨rfl, by simp only [binOp, Op.stringOp, hy, if_false, Sem.run_pure]⟩
end
end Go.Proofs.YtdfjcpnflmgdoaaDoor
namespace Go.Proofs.YtdfjcpnflmgdoaaDoor
open Go.RowKit
set_option linter.unusedVariables false

section
variable {P : Program} {dq : List Deferred} {E : Nat → Prop} {M : List Nat} {w0 : World} {n : Nat} {a : Act} {w : World} {F : List (Nat × Value)} {L : List Ent} {D : List Fact} {Q : Exit → Act → World → Prop}
variable {ops : Array Oper} {rest : List Oper} {o : Oper} {d : Nat}
/-- the string of bytes -/
def strO (ys : List Int) : ByteArray := ys.foldl (fun r n => r.push (UInt8.ofNat n.toNat)) ByteArray.empty
theorem all_int {k : IntKind} {E : Nat → Prop} {w : World} {us : List Value} {ys : List Int} (h : All (rI k) E w us ys) : us = ys.map (Value.int k) := by
  apply List.ext_getElem?
  intro j
  by_cases hj : j < ys.length
  · have hu : j < us.length := by rw [h.1]; exact hj
    have := h.2 j us[j] ys[j] (List.getElem?_eq_getElem hu) (List.getElem?_eq_getElem hj)
    rw [List.getElem?_eq_getElem hu, List.getElem?_map, List.getElem?_eq_getElem hj]
    exact congrArg some this
  · rw [List.getElem?_eq_none (by rw [h.1]; omega), List.getElem?_eq_none (by simp; omega)]
theorem flat_int (k : IntKind) (ys : List Int) : flat (ys.map (Value.int k)) = ys.map (Value.int k) := by
  induction ys with
  | nil => rfl
  | cons y ys ih => simp only [flat, List.map_cons, List.flatten_cons] at ih ⊢; rw [ih]; rfl
theorem sBytesStr {src dst e : TypeId} {x : Operand} {v : Value} {ys : List Int} (S : St dq E M w0 n a w F L D) (hw : ∀ a, Frm dq n a F → Region.wanted o (yielded ops a.tmps) = true) (ho : o.op = .convert src dst x)
    (hx : lookO F x = some v) (hs : P.underlying src = some (.slice e)) (he : P.underlying e = some (.int .u8)) (hdst : P.underlying dst = some .string) (hsrc : Src (rI .u8) (tot E L) w v ys) (hd : o.dst = some d) (hn : d < n)
    (k : ∀ a, St dq E M w0 n a w ((d, .string (strO ys)) :: F) L D → wpList P ops Q rest a w) : wpList P ops Q (o :: rest) a w := by
  obtain ⟨ad, c, us, rfl, hus, hcell⟩ := hsrc
  have hu := all_int hus
  subst hu
  rw [flat_int] at hcell
  have hex := S.frm.eval hx
  have hrun : (convert src dst (.slice ad ys.length c)).run P w = .ok (.string (strO ys)) w := by
    rw [run_convert_bytes_string w src dst e ad ys.length c hs he hdst]
    cases ys with
    | nil =>
      cases ad with
      | none => simp [Conv.bytesToString, strO]
      | some p => exact run_bytesToString w p 0 c [] (by simpa using run_loadCells_list (P := P) w p [] (fun j u h => by simp at h))
    | cons y ys =>
      obtain ⟨b, off, rfl, _⟩ := hcell 0 _ rfl
      refine run_bytesToString w _ _ c (y :: ys) ?_
      have := run_loadCells_list (P := P) w ⟨b, off, none⟩ ((y :: ys).map (Value.int .u8)) (fun j u h => by
        obtain ⟨b', off', h1, h2⟩ := hcell j u h
        cases h1
        rw [add_addr]; exact h2)
      simpa using this
  exact sVal S hw hd hn (by simp only [execOp, ho, hex]; simp [hrun]) S.mem k
end

end Go.Proofs.YtdfjcpnflmgdoaaDoor
namespace Go.Proofs.YtdfjcpnflmgdoaaDoor
open Go.RowKit
set_option linter.unusedVariables false

section
variable {P : Program}
end
section
variable {P : Program} {dq : List Deferred} {E : Nat → Prop} {M : List Nat} {w0 : World} {n : Nat} {a : Act} {w : World} {F : List (Nat × Value)} {L : List Ent} {D : List Fact} {Q : Exit → Act → World → Prop} {l : Option Nat}
/-- memory outside the cells may turn, beyond what was there -/
def IsC (w : World) (b : Nat) : Prop := ∃ cs T m, w.heap[b]? = some (.cells cs T m)
theorem isC_of_cell {w : World} {b : Nat} (h : ∃ o u, w.cell? ⟨b, o, none⟩ = some u) : IsC w b := by
  obtain ⟨o, u, h⟩ := h
  unfold World.cell? at h
  cases hb : w.heap[b]? with
  | none => simp [hb] at h
  | some x => cases x <;> simp [hb] at h <;> exact ⟨_, _, _, hb⟩
theorem St0.kept {w' : World} {m : Nat} (S : St0 E M w0 w L D) (hm : w0.heap.size ≤ m) (ho : w'.os = w.os) (ht : w'.tape = w.tape) (hu : w'.output = w.output) (hs : w.heap.size ≤ w'.heap.size)
    (hb : ∀ b, b < w.heap.size → (IsC w b ∨ b < m) → w'.heap[b]? = w.heap[b]?) (hL : ∀ e, e ∈ L → ∀ b, b ∈ e.keys → IsC w b ∨ b < m) : St0 E M w0 w' L D := by
  have hext : Ext (tot E L) (tot E L) w w' := ⟨hs, fun b h1 _ h3 => hb b h1 (.inl (isC_of_cell h3)), fun b _ h => h⟩
  refine ⟨⟨ho.trans S.chg.os, ht.trans S.chg.tape, hu.trans S.chg.output, Nat.le_trans S.chg.size hs, fun k hk hn => ?_⟩, fun e he => e.mono hext (fun b h => hb b (S.lt b (keysL_mem.2 ⟨e, he, h⟩)) (hL e he b h)) (S.ent e he), fun d hd => d.mono hext (S.fact d hd), S.nodup, S.key, S.bnd⟩
  rw [hb k (Nat.lt_of_lt_of_le hk S.chg.size) (.inr (by omega))]
  exact S.chg.block k hk hn
end

end Go.Proofs.YtdfjcpnflmgdoaaDoor
namespace Go.Proofs.YtdfjcpnflmgdoaaDoor
open Go.RowKit
set_option linter.unusedVariables false

section
variable {P : Program}
/-- a step of memory, seen by whoever does not own the blocks O, that are O' behind it: cells outside O stay -/
structure Turn (O O' : Nat → Prop) (w w' : World) : Prop where
  os : w'.os = w.os
  tape : w'.tape = w.tape
  output : w'.output = w.output
  size : w.heap.size ≤ w'.heap.size
  same : ∀ b, b < w.heap.size → ¬ O b → IsC w b → w'.heap[b]? = w.heap[b]?
  excl : ∀ b, b < w.heap.size → O' b → O b
theorem Turn.refl (O : Nat → Prop) (w : World) : Turn O O w w := ⟨rfl, rfl, rfl, Nat.le_refl _, fun _ _ _ _ => rfl, fun _ _ h => h⟩
theorem Turn.trans {O O' O'' : Nat → Prop} {a b c : World} (h : Turn O O' a b) (k : Turn O' O'' b c) : Turn O O'' a c := by
  refine ⟨k.os.trans h.os, k.tape.trans h.tape, k.output.trans h.output, Nat.le_trans h.size k.size, fun i hi hn hc => ?_, fun i hi ho => h.excl i hi (k.excl i (Nat.lt_of_lt_of_le hi h.size) ho)⟩
  have e := h.same i hi hn hc
  have hc2 : IsC b i := by obtain ⟨cs, T, m, h1⟩ := hc; exact ⟨cs, T, m, by rw [e]; exact h1⟩
  rw [k.same i (Nat.lt_of_lt_of_le hi h.size) (fun ho => hn (h.excl i hi ho)) hc2, e]
/-- what is known and what is owned, behind such a step -/
theorem St0.turn {O O' : Nat → Prop} {w w' : World} {D : List Fact} (S : St0 O [] w w [] D) (h : Turn O O' w w') (hb : ∀ b, O' b → b < w'.heap.size) : St0 O' [] w' w' [] D := by
  have hext : Ext (tot O []) (tot O' []) w w' := by
    refine ⟨h.size, fun b h1 h2 h3 => h.same b h1 (fun ho => h2 (.inl ho)) (isC_of_cell h3), fun b h1 h2 => ?_⟩
    rcases h2 with h2 | h2
    · exact .inl (h.excl b h1 h2)
    · simp [keysL] at h2
  exact ⟨Chg.refl _ _, fun e he => (by cases he), fun d hd => d.mono hext (S.fact d hd), by simp [keysL], fun b hb => (by simp [keysL] at hb), hb⟩
end
section
variable {P : Program} {dq : List Deferred} {E : Nat → Prop} {M : List Nat} {w0 : World} {n : Nat} {a : Act} {w : World} {F : List (Nat × Value)} {L : List Ent} {D : List Fact} {Q : Exit → Act → World → Prop} {l : Option Nat}
end

end Go.Proofs.YtdfjcpnflmgdoaaDoor
namespace Go.Proofs.YtdfjcpnflmgdoaaDoor
open Go.RowKit
set_option linter.unusedVariables false

section
variable {P : Program}
def mark (b : Nat) : Deferred := { target := .collected b, args := #[] }
end

end Go.Proofs.YtdfjcpnflmgdoaaDoor
namespace Go.Proofs.YtdfjcpnflmgdoaaDoor
open Go.RowKit
set_option linter.unusedVariables false

section
variable {P : Program}
/-- what an iterator is handed by a loop -/
structure ItC {σ τ X : Type} (P : Program) (l : Nat) (FX : X → Array Value → Fact) (B : σ → X → Option (σ ⊕ τ)) (J : σ → (Nat → Prop) → World → Prop) (Jx : τ → World → Prop) : Prop where
  jm : ∀ s O A B, J s O A → Chg [] A B → J s O B
  xm : ∀ t A B, Jx t A → Chg [] A B → Jx t B
  bd : ∀ s O A, J s O A → ∀ b, O b → b < A.heap.size
  yl : ∀ s x vs b O W1, B s x = some b → (FX x vs).p O W1 → J s O W1 → YieldAt Fence.wide 0 P l vs W1 fun e W' =>
      (e = .returned (.bool true) ∧ ∃ s' O', b = .inl s' ∧ J s' O' W' ∧ Turn O O' W1 W') ∨ (e = .returned (.bool false) ∧ ∃ t, b = .inr t ∧ Jx t W')
variable {dq : List Deferred} {E : Nat → Prop} {M : List Nat} {w0 : World} {n : Nat} {a : Act} {w : World} {F : List (Nat × Value)} {L : List Ent} {D : List Fact} {Q : Exit → Act → World → Prop}
end

end Go.Proofs.YtdfjcpnflmgdoaaDoor
namespace Go.Proofs.YtdfjcpnflmgdoaaDoor
open Go.RowKit
set_option linter.unusedVariables false

def iv (x : Int) : Value := .int .i64 x
theorem lb {a b : Nat} (h : Nat.ble (a + 1) b = true) : a < b := Nat.le_of_ble_eq_true h
/-- what reads as z may be stored at the offset k into what reads as x, it reads as y then -/
def Upd {α β : Type} (r : R α) (s : R β) (k : Nat) (x : α) (z : β) (y : α) : Prop := ∀ E w v u, r.rep E w v x → s.rep E w u z → ∃ v', r.rep E w v' y ∧ v'.cells.toList = over v.cells.toList k u.cells.toList ∧ k + s.sz ≤ r.sz
theorem over_over {cur vc uc : List Value} {o k : Nat} (h : ∀ j, j < vc.length → cur[o + j]? = vc[j]?) (hk : k + uc.length ≤ vc.length) (hl : o + vc.length ≤ cur.length) : over cur o (over vc k uc) = over cur (o + k) uc := by
  apply List.ext_getElem?
  intro m
  have hlen := over_length (l := vc) (off := k) (cs := uc) hk
  rw [over_get (l := cur) (off := o) (cs := over vc k uc) (by rw [hlen]; exact hl), over_get (l := cur) (off := o + k) (cs := uc) (by omega), hlen]
  by_cases h1 : o ≤ m ∧ m < o + vc.length
  · rw [if_pos h1, over_get hk]
    by_cases h2 : k ≤ m - o ∧ m - o < k + uc.length
    · rw [if_pos h2, if_pos (by omega)]; congr 1; omega
    · rw [if_neg h2, if_neg (by omega), ← h (m - o) (by omega)]; congr 1; omega
  · rw [if_neg h1, if_neg (by omega)]
section
variable {P : Program} {dq : List Deferred} {E : Nat → Prop} {M : List Nat} {w0 : World} {n : Nat} {a : Act} {w : World} {F : List (Nat × Value)} {L : List Ent} {D : List Fact} {Q : Exit → Act → World → Prop}
variable {ops : Array Oper} {rest : List Oper} {o : Oper} {d : Nat}
end

end Go.Proofs.YtdfjcpnflmgdoaaDoor
namespace Go.Proofs.YtdfjcpnflmgdoaaDoor
open Go.RowKit
set_option linter.unusedVariables false

section
variable {P : Program} {dq : List Deferred} {E : Nat → Prop} {M : List Nat} {w0 : World} {n : Nat} {a : Act} {w : World} {F : List (Nat × Value)} {L : List Ent} {D : List Fact} {Q : Exit → Act → World → Prop}
end

end Go.Proofs.YtdfjcpnflmgdoaaDoor
namespace Go.Proofs.YtdfjcpnflmgdoaaDoor
open Go.RowKit
set_option linter.unusedVariables false

theorem All.take {α : Type} {r : R α} {E : Nat → Prop} {w : World} {vs : List Value} {xs : List α} (a : All r E w vs xs) (k : Nat) : All r E w (vs.take k) (xs.take k) := by
  refine ⟨by simp [a.1], fun j v x hv hx => ?_⟩
  rw [List.getElem?_take] at hv hx
  split at hv
  · rename_i h
    rw [if_pos h] at hx
    exact a.2 j v x hv hx
  · cases hv
theorem All.drop {α : Type} {r : R α} {E : Nat → Prop} {w : World} {vs : List Value} {xs : List α} (a : All r E w vs xs) (k : Nat) : All r E w (vs.drop k) (xs.drop k) := by
  refine ⟨by simp [a.1], fun j v x hv hx => ?_⟩
  rw [List.getElem?_drop] at hv hx
  exact a.2 _ v x hv hx
section
variable {P : Program} {dq : List Deferred} {E : Nat → Prop} {M : List Nat} {w0 : World} {n : Nat} {a : Act} {w : World} {F : List (Nat × Value)} {L : List Ent} {D : List Fact} {Q : Exit → Act → World → Prop}
variable {ops : Array Oper} {rest : List Oper} {o : Oper} {d : Nat}
/-- a row of one's own, but the cell p holds u -/
def eHole {α : Type} (r : R α) (T : TypeId) (v : Value) (xs : List α) (p : Nat) (u : Value) : Ent where
  keys := vkeys v
  p := fun E w => ∃ vs, All r E w vs xs ∧ xs.length ≤ 68719476736 ∧ p < xs.length * r.sz ∧ w.ownsRow 0 T r.sz v xs.length (over (flat vs) p [u])
  mono := by
    rintro E E' w w' h hs ⟨vs, ha, hm, hp, hl, ho⟩
    refine ⟨vs, ha.mono h, hm, hp, hl, ?_⟩
    rcases ho with ho | ⟨g, cap, cur, hv, hg, hh, hr⟩
    · exact .inl ho
    · subst hv
      exact .inr ⟨g, cap, cur, rfl, hg, by rw [hs g (by simp [vkeys])]; exact hh, hr⟩
  lt := by
    rintro E w ⟨vs, ha, _, _, hl, ho⟩ b hb
    rcases ho with ⟨ho, _⟩ | ⟨g, cap, cur, hv, hg, hh, hr⟩
    · subst ho; simp [vkeys] at hb
    · subst hv
      simp [vkeys] at hb; subst hb
      exact (Array.getElem?_eq_some_iff.1 hh).1
/-- the hole is closed: what the cell holds reads as z -/
theorem St0.closeH {α β : Type} {r : R α} {s : R β} {T : TypeId} {xs ys : List α} {x y : α} {z : β} {v u : Value} {j : Int} (i kf : Nat) (S : St0 E M w0 w L D) (hL : L[i]? = some (eHole r T v xs (j.toNat * r.sz + kf) u)) (hu0 : (fRep s u z).p (tot E L) w) (hc : u.cells.toList = [u]) (hk : kf < r.sz) (hix : idxO xs j = some x) (hup : Upd r s kf x z y) (hs : setO xs j y = some ys) :
    St0 E M w0 w (eRow r T v ys :: L.eraseIdx i) D := by
  obtain ⟨h0, h1, rfl⟩ := setO_some hs
  obtain ⟨_, _, hxj⟩ := idxO_some hix
  obtain ⟨vs, ha, hlen, hp, hown⟩ := S.at hL
  have hj : j.toNat < vs.length := by rw [ha.1]; exact h1
  have hvj : vs[j.toNat]? = some vs[j.toNat] := List.getElem?_eq_getElem hj
  have hrep := ha.2 _ _ _ hvj hxj
  have hsv := r.size hrep
  obtain ⟨v', hu, hcl, hle0⟩ := hup _ _ _ _ hrep hu0
  have hsz := r.size hu
  have hfl := flat_length (fun v hv => (ha.cells v hv).1)
  rw [ha.1] at hfl
  have hle : (j.toNat + 1) * r.sz ≤ xs.length * r.sz := Nat.mul_le_mul_right _ h1
  rw [Nat.add_mul, Nat.one_mul] at hle
  have heq : over (flat vs) (j.toNat * r.sz + kf) [u] = over (flat vs) (j.toNat * r.sz) v'.cells.toList := by
    rw [hcl, hc]
    refine (over_over (fun b hb => ?_) (by simp [hsv]; omega) (by simp [hsv, hfl]; omega)).symm
    have hb2 : b < r.sz := by simpa [hsv] using hb
    exact flat_get (fun v hv => (ha.cells v hv).1) hvj hb2
  have hext : Ext (tot E L) (tot E (eRow r T v (xs.set j.toNat y) :: L.eraseIdx i)) w w := by
    refine ⟨Nat.le_refl _, fun _ _ _ _ => rfl, fun b hb h => ?_⟩
    rcases h with h | h
    · exact .inl h
    · obtain ⟨e, h2, h3⟩ := keysL_mem.1 h
      rcases List.mem_cons.1 h2 with rfl | h2
      · exact .inr (keysL_mem.2 ⟨_, List.mem_of_getElem? hL, h3⟩)
      · exact .inr (keysL_mem.2 ⟨e, List.mem_of_mem_eraseIdx h2, h3⟩)
  refine S.put hL (eRow r T v (xs.set j.toNat y)) (Chg.refl _ _) (fun b hb => .inl hb) ?_ ?_
  · cases v <;> simp [eRow, vkeys]
    rename_i a _ _
    cases a <;> simp
  · refine ⟨vs.set j.toNat v', (ha.mono hext).set _ (r.mono hext hu), by simpa using hlen, ?_⟩
    rw [flat_set (fun v hv => (ha.cells v hv).1) hj hsz, ← heq, List.length_set]
    exact hown
theorem St.closeH {α β : Type} {r : R α} {s : R β} {T : TypeId} {xs ys : List α} {x y : α} {z : β} {v u : Value} {j : Int} (i kf : Nat) (S : St dq E M w0 n a w F L D) (hL : L[i]? = some (eHole r T v xs (j.toNat * r.sz + kf) u)) (hu0 : (fRep s u z).p (tot E L) w) (hc : u.cells.toList = [u]) (hk : kf < r.sz) (hix : idxO xs j = some x) (hup : Upd r s kf x z y) (hs : setO xs j y = some ys) :
    St dq E M w0 n a w F (eRow r T v ys :: L.eraseIdx i) D := ⟨S.frm, S.mem.closeH i kf hL hu0 hc hk hix hup hs⟩
end

end Go.Proofs.YtdfjcpnflmgdoaaDoor
namespace Go.Proofs.YtdfjcpnflmgdoaaDoor
open Go.RowKit
set_option linter.unusedVariables false

section
variable {P : Program} {dq : List Deferred} {E : Nat → Prop} {M : List Nat} {w0 : World} {n : Nat} {a : Act} {w : World} {F : List (Nat × Value)} {L : List Ent} {D : List Fact} {Q : Exit → Act → World → Prop}
variable {ops : Array Oper} {rest : List Oper} {o : Oper} {d : Nat}
end

end Go.Proofs.YtdfjcpnflmgdoaaDoor
namespace Go.Proofs.YtdfjcpnflmgdoaaDoor
open Go.RowKit
set_option linter.unusedVariables false

section
variable {P : Program} {dq : List Deferred} {E : Nat → Prop} {M : List Nat} {w0 : World} {n : Nat} {a : Act} {w : World} {F : List (Nat × Value)} {L : List Ent} {D : List Fact} {Q : Exit → Act → World → Prop}
variable {ops : Array Oper} {rest : List Oper} {o : Oper} {d : Nat}
end
section
variable {P : Program} {dq : List Deferred} {E : Nat → Prop} {M : List Nat} {w0 : World} {n : Nat} {a : Act} {w : World} {F : List (Nat × Value)} {L : List Ent} {D : List Fact} {Q : Exit → Act → World → Prop}
variable {ops : Array Oper} {rest : List Oper} {o : Oper} {d : Nat}
end
section
variable {P : Program} {dq : List Deferred} {E : Nat → Prop} {M : List Nat} {w0 : World} {n : Nat} {a : Act} {w : World} {F : List (Nat × Value)} {L : List Ent} {D : List Fact} {Q : Exit → Act → World → Prop}
variable {ops : Array Oper} {rest : List Oper} {o : Oper} {d : Nat}
end

end Go.Proofs.YtdfjcpnflmgdoaaDoor
namespace Go.Proofs.YtdfjcpnflmgdoaaDoor
open Go.RowKit
set_option linter.unusedVariables false

end Go.Proofs.YtdfjcpnflmgdoaaDoor
namespace Go.Proofs.YtdfjcpnflmgdoaaDoor
open Go.RowKit
set_option linter.unusedVariables false

section
variable {P : Program} {dq : List Deferred} {E : Nat → Prop} {M : List Nat} {w0 : World} {n : Nat} {a : Act} {w : World} {F : List (Nat × Value)} {L : List Ent} {D : List Fact} {Q : Exit → Act → World → Prop}
variable {ops : Array Oper} {rest : List Oper} {o : Oper} {d : Nat}
end

end Go.Proofs.YtdfjcpnflmgdoaaDoor
namespace Go.Proofs.YtdfjcpnflmgdoaaDoor
open Go.RowKit
set_option linter.unusedVariables false

def eIter (b : Nat) (s : ByteArray) (pos : Nat) : Ent where
  keys := [b]
  p := fun _ w => w.heap[b]? = some (.stringIter s pos)
  mono := fun _ hs h => by rw [hs b (by simp)]; exact h
  lt := fun h k hk => by
    simp at hk; subst hk
    exact (Array.getElem?_eq_some_iff.1 h).1
section
variable {P : Program} {dq : List Deferred} {E : Nat → Prop} {M0 : List Nat} {w0 : World} {n : Nat} {a : Act} {w : World} {F : List (Nat × Value)} {L : List Ent} {D : List Fact} {Q : Exit → Act → World → Prop}
variable {ops : Array Oper} {rest : List Oper} {o : Oper} {d : Nat}
theorem sRangeS {t : TypeId} {x : Operand} {s : ByteArray} (S : St dq E M0 w0 n a w F L D)
    (hw : ∀ a, Frm dq n a F → Region.wanted o (yielded ops a.tmps) = true) (ho : o.op = .range t x) (ht : P.underlying t = some .string) (hx : lookO F x = some (.string s)) (hd : o.dst = some d) (hn : d < n)
    (k : ∀ a b w, St dq E M0 w0 n a w ((d, .pointer (some ⟨b, 0, none⟩)) :: F) (eIter b s 0 :: L) D → wpList P ops Q rest a w) : wpList P ops Q (o :: rest) a w := by
  have he := S.frm.eval hx
  refine sVal S hw hd hn (w' := w.alloc (.stringIter s 0)) (v := .pointer (some ⟨w.heap.size, 0, none⟩)) ?_ (S.mem.new _ (eIter w.heap.size s 0) rfl ?_) (fun a => k a _ _)
  · simp only [execOp, ho, he, Sem.run_bind, run_range_string w t s ht, Result.andThen_ok, Sem.run_pure]
    rfl
  · exact World.iter_heap w s 0
theorem sNextS {it : Operand} {s : ByteArray} {b pos : Nat} (i : Nat) (S : St dq E M0 w0 n a w F L D)
    (hw : ∀ a, Frm dq n a F → Region.wanted o (yielded ops a.tmps) = true) (ho : o.op = .next it true) (hx : lookO F it = some (.pointer (some ⟨b, 0, none⟩))) (hL : L[i]? = some (eIter b s pos)) (hp : pos < s.size) (hd : o.dst = some d) (hn : d < n)
    (k : ∀ a w, St dq E M0 w0 n a w ((d, .tuple #[.bool true, .int .i64 pos, .int .i32 (Utf8.decode s pos).1]) :: F) (eIter b s (pos + (Utf8.decode s pos).2) :: L.eraseIdx i) D → wpList P ops Q rest a w) : wpList P ops Q (o :: rest) a w := by
  have he := S.frm.eval hx
  have hb : w.heap[b]? = some (.stringIter s pos) := S.mem.at hL
  have hchg : Chg [b] w (w.iterAt b s (pos + (Utf8.decode s pos).2)) := ⟨rfl, rfl, rfl, by rw [Lib.iterAt_size]; exact Nat.le_refl _, fun j hj hk => Lib.iterAt_other w b j s _ (by simpa using hk)⟩
  refine sVal S hw hd hn (w' := w.iterAt b s (pos + (Utf8.decode s pos).2)) (v := .tuple #[.bool true, .int .i64 pos, .int .i32 (Utf8.decode s pos).1]) ?_ (S.mem.put hL (eIter b s (pos + (Utf8.decode s pos).2)) hchg (fun c hc => .inl hc) (by simp [eIter]) ?_) (fun a => k a _)
  · simp only [execOp, ho, he, Sem.run_bind, Lib.run_next_any_at w b s pos o.type hb hp, Result.andThen_ok, Sem.run_pure]
  · exact Lib.iterAt_heap w b s pos _ hb
theorem sNextE {it : Operand} {s : ByteArray} {b pos : Nat} (i : Nat) (S : St dq E M0 w0 n a w F L D)
    (hw : ∀ a, Frm dq n a F → Region.wanted o (yielded ops a.tmps) = true) (ho : o.op = .next it true) (hx : lookO F it = some (.pointer (some ⟨b, 0, none⟩))) (hL : L[i]? = some (eIter b s pos)) (hp : ¬ pos < s.size) (hd : o.dst = some d) (hn : d < n)
    (k : ∀ a, St dq E M0 w0 n a w ((d, .tuple #[.bool false]) :: F) L D → wpList P ops Q rest a w) : wpList P ops Q (o :: rest) a w := by
  have he := S.frm.eval hx
  have hb : w.heap[b]? = some (.stringIter s pos) := S.mem.at hL
  exact sVal S hw hd hn (by simp only [execOp, ho, he, Sem.run_bind, Lib.run_next_end_at w b s pos o.type hb hp, Result.andThen_ok, Sem.run_pure]) S.mem k
end

end Go.Proofs.YtdfjcpnflmgdoaaDoor
namespace Go.Proofs.YtdfjcpnflmgdoaaDoor
open Go.RowKit
set_option linter.unusedVariables false

/-- block g holds cells that fulfil c, and is nobody's own -/
def fGv (g : Nat) (c : Array Value → Prop) : Fact where
  p := fun E w => ¬ E g ∧ ∃ cs T q, w.heap[g]? = some (.cells cs T q) ∧ (∃ o u, w.cell? ⟨g, o, none⟩ = some u) ∧ c cs
  mono := by
    rintro E E' w w' hx ⟨h1, cs, T, q, h2, ⟨o, u, h3⟩, h4⟩
    have hlt : g < w.heap.size := (Array.getElem?_eq_some_iff.1 h2).1
    have he := hx.same g hlt h1 ⟨o, u, h3⟩
    refine ⟨fun h => h1 (hx.excl g hlt h), cs, T, q, he.trans h2, ⟨o, u, ?_⟩, h4⟩
    unfold World.cell? at h3 ⊢
    simp only [he]
    exact h3

end Go.Proofs.YtdfjcpnflmgdoaaDoor
namespace Go.Proofs.YtdfjcpnflmgdoaaDoor
open Go.RowKit
set_option linter.unusedVariables false

structure api_Ratio where
  Num : Int
  Den : Int
def r_api_Ratio : R api_Ratio where
  sz := 2
  rep := fun E w v x => v = .agg #[.int .i64 x.Num, .int .i64 x.Den]
  pos := by decide
  size := by rintro _ _ _ _ rfl; rfl
  one := by
    rintro _ _ _ _ rfl u hu
    simp [Value.cells] at hu
    rcases hu with rfl | rfl
    · rfl
    · rfl
  mono := fun _ h => h
theorem aggr_api_Ratio : Aggr r_api_Ratio := by rintro _ _ _ _ rfl; exact ⟨_, rfl⟩
theorem callee4 : ∀ vs w, (callFunc 4 vs).run Tryd.prog w = .ok (.enter 4 vs) w := callee Tryd.func4 rfl rfl
theorem callee5 : ∀ vs w, (callFunc 5 vs).run Tryd.prog w = .ok (.enter 5 vs) w := callee Tryd.func5 rfl rfl
theorem callee6 : ∀ vs w, (callFunc 6 vs).run Tryd.prog w = .ok (.enter 6 vs) w := callee Tryd.func6 rfl rfl
theorem callee7 : ∀ vs w, (callFunc 7 vs).run Tryd.prog w = .ok (.enter 7 vs) w := callee Tryd.func7 rfl rfl
theorem callee8 : ∀ vs w, (callFunc 8 vs).run Tryd.prog w = .ok (.enter 8 vs) w := callee Tryd.func8 rfl rfl
theorem callee9 : ∀ vs w, (callFunc 9 vs).run Tryd.prog w = .ok (.enter 9 vs) w := callee Tryd.func9 rfl rfl
theorem callee10 : ∀ vs w, (callFunc 10 vs).run Tryd.prog w = .ok (.enter 10 vs) w := callee Tryd.func10 rfl rfl
theorem callee11 : ∀ vs w, (callFunc 11 vs).run Tryd.prog w = .ok (.enter 11 vs) w := callee Tryd.func11 rfl rfl
theorem callee12 : ∀ vs w, (callFunc 12 vs).run Tryd.prog w = .ok (.enter 12 vs) w := callee Tryd.func12 rfl rfl
theorem callee13 : ∀ vs w, (callFunc 13 vs).run Tryd.prog w = .ok (.enter 13 vs) w := callee Tryd.func13 rfl rfl
theorem callee14 : ∀ vs w, (callFunc 14 vs).run Tryd.prog w = .ok (.enter 14 vs) w := callee Tryd.func14 rfl rfl
theorem callee15 : ∀ vs w, (callFunc 15 vs).run Tryd.prog w = .ok (.enter 15 vs) w := callee Tryd.func15 rfl rfl
theorem callee16 : ∀ vs w, (callFunc 16 vs).run Tryd.prog w = .ok (.enter 16 vs) w := callee Tryd.func16 rfl rfl
theorem callee17 : ∀ vs w, (callFunc 17 vs).run Tryd.prog w = .ok (.enter 17 vs) w := callee Tryd.func17 rfl rfl
theorem callee18 : ∀ vs w, (callFunc 18 vs).run Tryd.prog w = .ok (.enter 18 vs) w := callee Tryd.func18 rfl rfl
theorem callee19 : ∀ vs w, (callFunc 19 vs).run Tryd.prog w = .ok (.enter 19 vs) w := callee Tryd.func19 rfl rfl
theorem callee20 : ∀ vs w, (callFunc 20 vs).run Tryd.prog w = .ok (.enter 20 vs) w := callee Tryd.func20 rfl rfl

end Go.Proofs.YtdfjcpnflmgdoaaDoor
namespace Go.Proofs.YtdfjcpnflmgdoaaDoor
open Go.RowKit
set_option linter.unusedVariables false

open Go.ChangeShapes Go.WideShapes Go.ChangeAt Go.Joins
def InK (k : IntKind) (x : Int) : Prop := (Lit.int k x).wf = true
theorem inK_64 {x : Int} (h : InK .i64 x) : -9223372036854775808 ≤ x ∧ x ≤ 9223372036854775807 := by
  simpa [InK, Lit.wf, IntKind.min, IntKind.max, IntKind.signed, IntKind.bits] using h
/-- cells of a type read, well formed -/
def OpC {α : Type} (P : Program) (t : TypeId) (r : R α) (p : α → Prop) : Prop :=
  ∀ (H : Type) (enc : TypeId × Value → H) (w : World) (base : Nat) (spare : Nat → Bool) (held : Bool) (fuel : Nat) (cs : List Value) (x : DataW H × List MemPlace),
    DataW.trod enc P w base spare held fuel t cs = some x → ∃ v y, v.cells.toList = cs ∧ r.rep (fun _ => False) w v y ∧ p y
section
variable {P : Program}
theorem op_int {t : TypeId} (k : IntKind) (ht : P.underlying t = some (.int k)) : OpC P t (rI k) (InK k) := fun H enc w base spare held fuel cs x h => by
  obtain ⟨n, rfl, _, hw⟩ := DataW.trod_int ht h
  exact ⟨_, n, rfl, rfl, hw⟩
theorem top_agg {α : Type} {H : Type} {enc : TypeId × Value → H} {w : World} {base b0 : Nat} {spare : Nat → Bool} {held : Bool} {rr : Reach} {v : Value} {d : DataW H} {p : List MemPlace} {t : TypeId} {fs : Array Field} {r : R α} {q : α → Prop} (ht : P.underlying t = some (.struct fs)) (hr : Aggr r) (ho : OpC P t r q)
    (hv : Value.okWide P w rr b0 t v) (h : DataW.Trod enc P w base spare held t v d p) : ∃ y, r.rep (fun _ => False) w v y ∧ q y := by
  obtain ⟨cs, rfl, hsz⟩ := okWide_struct ht hv
  obtain ⟨fuel, hf⟩ := h
  obtain ⟨v, y, h1, h2, h3⟩ := ho _ _ _ _ _ _ _ _ _ hf
  obtain ⟨ds, rfl⟩ := hr _ _ _ _ h2
  simp [Value.cells] at h1
  subst h1
  exact ⟨y, h2, h3⟩
theorem St0.start {w : World} {D : List Fact} (h : ∀ d, d ∈ D → d.p (fun _ => False) w) : St0 (fun _ => False) [] w w [] D := by
  have hE : tot (fun _ => False) [] = (fun _ => False) := by funext b; simp [tot, keysL]
  exact ⟨Chg.refl _ _, by simp, fun d hd => by rw [hE]; exact h d hd, by simp [keysL], by simp [keysL], fun _ h => h.elim⟩
theorem Chg.below {w w' : World} (h : Chg [] w w') : Below w.heap.size w w' := ⟨h.os, h.tape, h.output, h.size, fun k hk => h.block k hk (by simp)⟩
theorem len2 {α : Type} {l : List α} (h : l.length = 2) : ∃ a b, l = [a, b] := by match l, h with | [a, b], _ => exact ⟨a, b, rfl⟩
end
theorem fld {α : Type} {x : Option α} {ys : List α} {i : Nat} (h : x = ys[i]?) (hi : i < ys.length) : ∃ z, x = some z := ⟨ys[i], by rw [h]; exact List.getElem?_eq_getElem hi⟩

end Go.Proofs.YtdfjcpnflmgdoaaDoor
namespace Go.Proofs.YtdfjcpnflmgdoaaDoor
open Go.RowKit
set_option linter.unusedVariables false

open Go.ChangeShapes Go.WideShapes Go.ChangeAt Go.Joins
def wf_api_Ratio (x : api_Ratio) : Prop := (InK .i64) x.Num ∧ (InK .i64) x.Den
theorem op_api_Ratio : OpC Tryd.prog 23 r_api_Ratio wf_api_Ratio := fun H enc w base spare held fuel cs x h => by
  obtain ⟨ys, m, _, _, hl, hy, hf⟩ := DataW.trod_struct Tryd.underlying23 h
  obtain ⟨c0, c1, rfl⟩ := len2 (hl.trans (by kernel_rfl))
  obtain ⟨z0, f0⟩ := fld (hf 0 _ rfl) (by rw [hy]; decide)
  obtain ⟨u0, y0, k0, r0, w0⟩ := (op_int .i64 Tryd.underlying2) _ _ _ _ _ _ _ _ _ f0
  replace k0 : u0.cells.toList = [c0] := k0.trans (by kernel_rfl)
  obtain rfl : u0 = .int .i64 y0 := r0
  obtain rfl : Value.int .i64 y0 = c0 := by simpa [Value.cells] using k0
  obtain ⟨z1, f1⟩ := fld (hf 1 _ rfl) (by rw [hy]; decide)
  obtain ⟨u1, y1, k1, r1, w1⟩ := (op_int .i64 Tryd.underlying2) _ _ _ _ _ _ _ _ _ f1
  replace k1 : u1.cells.toList = [c1] := k1.trans (by kernel_rfl)
  obtain rfl : u1 = .int .i64 y1 := r1
  obtain rfl : Value.int .i64 y1 = c1 := by simpa [Value.cells] using k1
  exact ⟨_, ⟨y0, y1⟩, rfl, rfl, ⟨w0, w1⟩⟩

end Go.Proofs.YtdfjcpnflmgdoaaDoor
namespace Go.Proofs
open Go.Shelf
def Tryd.lays103_ren : Go.Shelf.Ren := ⟨fun | 103 => 17 | 210 => 22 | 206 => 28 | n => n, fun | 9 => 9 | 4 => 4 | 24 => 44 | 3 => 3 | n => n, fun | n => n⟩
theorem Tryd.lays103 : Go.Proofs.Lays.n103 Tryd.prog Tryd.lays103_ren := {
  mixed := by kernel_rfl
  f103 := Tryd.func17.trans (congrArg some (by kernel_rfl))
  f206 := Tryd.func28.trans (congrArg some (by kernel_rfl))
  f210 := Tryd.func22.trans (congrArg some (by kernel_rfl))
  t3 := Tryd.underlying3
  a3 := Tryd.isAgg3
  z3 := Tryd.sizeOf3
  v3 := Tryd.zeroValue3
  t4 := Tryd.underlying4
  a4 := Tryd.isAgg4
  z4 := Tryd.sizeOf4
  v4 := Tryd.zeroValue4
  t9 := Tryd.underlying9
  a9 := Tryd.isAgg9
  z9 := Tryd.sizeOf9
  v9 := Tryd.zeroValue9
  t24 := Tryd.underlying44
  a24 := Tryd.isAgg44
  z24 := Tryd.sizeOf44
  v24 := Tryd.zeroValue44 }
open Go.RowKit in
theorem Tryd.strings_CutPrefix (s p : ByteArray) (w : World) :
    Calls Tryd.prog 17 #[.string s, .string p] w fun e w' => e = .returned (.tuple #[.string ⟨(Lib.trimPrefix s.data.toList p.data.toList).toArray⟩, .bool (Lib.hasPrefix s.data.toList p.data.toList)]) ∧ w' = w := Any.strings_CutPrefix Tryd.lays103 s p w
def Tryd.laysM173_ren : Go.Shelf.Ren := ⟨fun | 173 => 15 | 246 => 21 | 283 => 24 | 284 => 25 | 285 => 26 | 286 => 27 | 129 => 31 | 317 => 30 | 318 => 32 | 319 => 33 | 320 => 34 | 337 => 39 | 338 => 40 | n => n, fun | 2 => 2 | 3 => 3 | 9 => 9 | 4 => 4 | 171 => 52 | 0 => 0 | 53 => 36 | 37 => 50 | 5 => 5 | 173 => 55 | 212 => 61 | 51 => 62 | 20 => 20 | 213 => 63 | 46 => 65 | 232 => 71 | 233 => 72 | n => n, fun | 17 => 0 | 18 => 2 | 19 => 3 | n => n⟩
theorem Tryd.laysM173 : Go.Proofs.LaysM.n173 Tryd.prog Tryd.laysM173_ren := {
  mixed := by kernel_rfl
  f129 := Tryd.func31.trans (congrArg some (by kernel_rfl))
  f173 := Tryd.func15.trans (congrArg some (by kernel_rfl))
  f246 := Tryd.func21.trans (congrArg some (by kernel_rfl))
  f283 := Tryd.func24.trans (congrArg some (by kernel_rfl))
  f284 := Tryd.func25.trans (congrArg some (by kernel_rfl))
  f285 := Tryd.func26.trans (congrArg some (by kernel_rfl))
  f286 := Tryd.func27.trans (congrArg some (by kernel_rfl))
  f317 := Tryd.func30.trans (congrArg some (by kernel_rfl))
  f318 := Tryd.func32.trans (congrArg some (by kernel_rfl))
  f319 := Tryd.func33.trans (congrArg some (by kernel_rfl))
  f320 := Tryd.func34.trans (congrArg some (by kernel_rfl))
  f337 := Tryd.func39.trans (congrArg some (by kernel_rfl))
  f338 := Tryd.func40.trans (congrArg some (by kernel_rfl))
  t0 := Tryd.underlying0
  a0 := Tryd.isAgg0
  z0 := Tryd.sizeOf0
  v0 := Tryd.zeroValue0
  t2 := Tryd.underlying2
  a2 := Tryd.isAgg2
  z2 := Tryd.sizeOf2
  v2 := Tryd.zeroValue2
  t3 := Tryd.underlying3
  a3 := Tryd.isAgg3
  z3 := Tryd.sizeOf3
  v3 := Tryd.zeroValue3
  t4 := Tryd.underlying4
  a4 := Tryd.isAgg4
  z4 := Tryd.sizeOf4
  v4 := Tryd.zeroValue4
  t5 := Tryd.underlying5
  a5 := Tryd.isAgg5
  z5 := Tryd.sizeOf5
  v5 := Tryd.zeroValue5
  t9 := Tryd.underlying9
  a9 := Tryd.isAgg9
  z9 := Tryd.sizeOf9
  v9 := Tryd.zeroValue9
  t20 := Tryd.underlying20
  a20 := Tryd.isAgg20
  z20 := Tryd.sizeOf20
  v20 := Tryd.zeroValue20
  t37 := Tryd.underlying50
  a37 := Tryd.isAgg50
  z37 := Tryd.sizeOf50
  v37 := Tryd.zeroValue50
  t46 := Tryd.underlying65
  a46 := Tryd.isAgg65
  z46 := Tryd.sizeOf65
  v46 := Tryd.zeroValue65
  t51 := Tryd.underlying62
  a51 := Tryd.isAgg62
  z51 := Tryd.sizeOf62
  v51 := Tryd.zeroValue62
  t53 := Tryd.underlying36
  a53 := Tryd.isAgg36
  z53 := Tryd.sizeOf36
  v53 := Tryd.zeroValue36
  t171 := Tryd.underlying52
  a171 := Tryd.isAgg52
  z171 := Tryd.sizeOf52
  v171 := Tryd.zeroValue52
  t173 := Tryd.underlying55
  a173 := Tryd.isAgg55
  z173 := Tryd.sizeOf55
  v173 := Tryd.zeroValue55
  t212 := Tryd.underlying61
  a212 := Tryd.isAgg61
  z212 := Tryd.sizeOf61
  v212 := Tryd.zeroValue61
  t213 := Tryd.underlying63
  a213 := Tryd.isAgg63
  z213 := Tryd.sizeOf63
  t232 := Tryd.underlying71
  a232 := Tryd.isAgg71
  z232 := Tryd.sizeOf71
  v232 := Tryd.zeroValue71
  t233 := Tryd.underlying72
  a233 := Tryd.isAgg72
  z233 := Tryd.sizeOf72
  v233 := Tryd.zeroValue72
  g17 := by kernel_rfl
  g18 := by kernel_rfl
  g19 := by kernel_rfl
  i0 := by kernel_rfl
  i2 := by kernel_rfl
  i3 := by kernel_rfl
  i4 := by kernel_rfl
  i5 := by kernel_rfl
  i9 := by kernel_rfl
  i20 := by kernel_rfl
  i37 := by kernel_rfl
  i46 := by kernel_rfl
  i51 := by kernel_rfl
  i53 := by kernel_rfl
  i171 := by kernel_rfl
  i173 := by kernel_rfl
  i212 := by kernel_rfl
  i232 := by kernel_rfl
  i233 := by kernel_rfl
  m17 := by kernel_rfl
  m18 := by kernel_rfl
  m19 := by kernel_rfl }
open Go.RowKit Go.Sort Go.Lib in
theorem Tryd.strconv_FormatInt_10 (n : Int) (h0 : -9223372036854775808 ≤ n) (h1 : n ≤ 9223372036854775807) (w : World) (htab : Lib.TabIs Tryd.prog w "internal/strconv.uint64pow10" .u64 Lib.pow10Tab) :
    Calls Tryd.prog 15 #[.int .i64 n, .int .i64 10] w fun e w' => e = .returned (.string ⟨(Lib.itoa n).toArray⟩) ∧ ∃ k os, w' = grow (w.drewN k) os := Any.strconv_FormatInt_10 Tryd.laysM173 n h0 h1 w htab
def Tryd.lays145_ren : Go.Shelf.Ren := ⟨fun | 145 => 18 | 220 => 23 | 219 => 29 | 217 => 35 | 225 => 36 | 224 => 37 | 267 => 38 | 266 => 41 | 314 => 42 | n => n, fun | 9 => 9 | 4 => 4 | 59 => 46 | 3 => 3 | 5 => 5 | 46 => 65 | 146 => 69 | 51 => 62 | n => n, fun | 1 => 1 | n => n⟩
theorem Tryd.lays145 : Go.Proofs.Lays.n145 Tryd.prog Tryd.lays145_ren := {
  mixed := by kernel_rfl
  f145 := Tryd.func18.trans (congrArg some (by kernel_rfl))
  f217 := Tryd.func35.trans (congrArg some (by kernel_rfl))
  f219 := Tryd.func29.trans (congrArg some (by kernel_rfl))
  f220 := Tryd.func23.trans (congrArg some (by kernel_rfl))
  f224 := Tryd.func37.trans (congrArg some (by kernel_rfl))
  f225 := Tryd.func36.trans (congrArg some (by kernel_rfl))
  f266 := Tryd.func41.trans (congrArg some (by kernel_rfl))
  f267 := Tryd.func38.trans (congrArg some (by kernel_rfl))
  f314 := Tryd.func42.trans (congrArg some (by kernel_rfl))
  t3 := Tryd.underlying3
  a3 := Tryd.isAgg3
  z3 := Tryd.sizeOf3
  v3 := Tryd.zeroValue3
  t4 := Tryd.underlying4
  a4 := Tryd.isAgg4
  z4 := Tryd.sizeOf4
  v4 := Tryd.zeroValue4
  t5 := Tryd.underlying5
  a5 := Tryd.isAgg5
  z5 := Tryd.sizeOf5
  v5 := Tryd.zeroValue5
  t9 := Tryd.underlying9
  a9 := Tryd.isAgg9
  z9 := Tryd.sizeOf9
  v9 := Tryd.zeroValue9
  t46 := Tryd.underlying65
  a46 := Tryd.isAgg65
  z46 := Tryd.sizeOf65
  v46 := Tryd.zeroValue65
  t51 := Tryd.underlying62
  a51 := Tryd.isAgg62
  z51 := Tryd.sizeOf62
  v51 := Tryd.zeroValue62
  t59 := Tryd.underlying46
  a59 := Tryd.isAgg46
  z59 := Tryd.sizeOf46
  v59 := Tryd.zeroValue46
  t146 := Tryd.underlying69
  a146 := Tryd.isAgg69
  z146 := Tryd.sizeOf69
  v146 := Tryd.zeroValue69
  g1 := by kernel_rfl }
open Go.RowKit Go.Lib in
theorem Tryd.strings_Cut (s sep : ByteArray) (m : Int) (w : World) (hs : s.size < 4294967281) (hm : w.cell? ⟨1, 0, none⟩ = some (.int .i64 m)) :
    Calls Tryd.prog 18 #[.string s, .string sep] w fun e w' => e = .returned (.tuple #[.string ⟨(Lib.cut s.data.toList sep.data.toList).1.toArray⟩, .string ⟨(Lib.cut s.data.toList sep.data.toList).2.1.toArray⟩, .bool (Lib.cut s.data.toList sep.data.toList).2.2]) ∧ ∃ n, w' = w.drewN n := Any.strings_Cut Tryd.lays145 s sep m w hs hm
end Go.Proofs
namespace Go.Proofs.YtdfjcpnflmgdoaaDoor
open Go.RowKit
set_option linter.unusedVariables false

def gTab : Nat := 0
def gMax : Nat := 1
def cTab : Array Value → Prop := fun cs => cs = (Lib.pow10Tab.map fun z => Value.int .u64 z).toArray
def cMax : Array Value → Prop := fun cs => ∃ m, cs[0]? = some (.int .i64 m)
theorem gv_of_var {g : Nat} {c : Array Value → Prop} {W : World} {cs : Array Value} {nm : String} (hg : Tryd.prog.globalNamed nm = some g) (h : W.var? Tryd.prog nm = some cs) (h0 : 0 < cs.size) (hc : c cs) : (fGv g c).p (fun _ => False) W := by
  unfold World.var? at h
  rw [hg] at h
  simp only [Option.bind_some] at h
  refine ⟨fun h => h, ?_⟩
  split at h
  · rename_i cs2 T q h2
    obtain rfl := Option.some.inj h
    refine ⟨cs2, T, q, h2, ⟨0, cs2[0], ?_⟩, hc⟩
    unfold World.cell?
    simp only [h2]
    exact Array.getElem?_eq_getElem h0
  · cases h
theorem gv_tab {W : World} (h : Lib.TabIs Tryd.prog W "internal/strconv.uint64pow10" .u64 Lib.pow10Tab) : (fGv gTab cTab).p (fun _ => False) W :=
  gv_of_var (by kernel_rfl) h (by simp [Lib.pow10Tab_length]) rfl
theorem gv_max {W : World} (h : ∃ m, W.cell? ⟨gMax, 0, none⟩ = some (.int .i64 m)) : (fGv gMax cMax).p (fun _ => False) W := by
  obtain ⟨m, hm⟩ := h
  have hm2 := hm
  unfold World.cell? at hm
  refine ⟨fun h => h, ?_⟩
  split at hm
  · rename_i cs T q h2
    exact ⟨cs, T, q, h2, ⟨0, _, hm2⟩, m, hm⟩
  · cases hm
theorem fin_grow {E : Nat → Prop} {w0 : World} {D : List Fact} (S : St0 E [] w0 w0 [] D) (k : Nat) (os : Array Obj) : St0 E [] w0 (Sort.grow (w0.drewN k) os) [] [] := by
  have fin : ∀ w', Chg [] w0 w' → St0 E [] w0 w' [] [] := fun w' hg => (S.calm hg).sub (fun e he => (by cases he)) (by simp [keysL]) (fun d hd => (by cases hd))
  refine fin _ ⟨rfl, rfl, rfl, ?_, fun j hj _ => ?_⟩
  · show w0.heap.size ≤ (w0.heap ++ os).size
    rw [Array.size_append]
    omega
  · show (w0.heap ++ os)[j]? = w0.heap[j]?
    exact Array.getElem?_append_left hj
noncomputable def F_strconv_FormatInt (p0 : Int) (p1 : Int) : Option ByteArray :=
  if decide (p1 = 10 ∧ -9223372036854775808 ≤ p0 ∧ p0 ≤ 9223372036854775807) then
    some ⟨(Lib.itoa p0).toArray⟩
  else
    none
theorem c_strconv_FormatInt (E : Nat → Prop) (w0 : World) (p0 : Int) (p1 : Int) (r : ByteArray) (h : F_strconv_FormatInt p0 p1 = some r) (S : St0 E [] w0 w0 [] [fGv gTab cTab]) :
    Calls Tryd.prog 15 #[.int .i64 p0, .int .i64 p1] w0 (Ret (X := Unit) E [] w0 (fun _ => .string r) (fun _ => []) (fun _ => [])) := by
  unfold F_strconv_FormatInt at h
  rcases iteSome h with ⟨hc, h⟩ | ⟨hc, h⟩
  · obtain rfl := Option.some.inj h
    obtain ⟨h10, h0, h1⟩ := of_decide_eq_true hc
    subst h10
    obtain ⟨_, cs, T, q, h2, _, h4⟩ := S.know (i := 0) (e := fGv gTab cTab) rfl
    have htab : Lib.TabIs Tryd.prog w0 "internal/strconv.uint64pow10" .u64 Lib.pow10Tab := by
      unfold Lib.TabIs World.var?
      rw [show Tryd.prog.globalNamed "internal/strconv.uint64pow10" = some gTab by kernel_rfl]
      simp only [Option.bind_some, h2]
      rw [h4]
    refine (Tryd.strconv_FormatInt_10 p0 h0 h1 w0 htab).mono ?_
    rintro e w' ⟨rfl, k, os, rfl⟩
    exact ⟨(), rfl, fin_grow S k os⟩
  · cases h
noncomputable def F_strings_Cut (p0 : ByteArray) (p1 : ByteArray) : Option (ByteArray × ByteArray × Bool) :=
  if decide (p0.size < 4294967281) then
    some (⟨(Lib.cut p0.data.toList p1.data.toList).1.toArray⟩, ⟨(Lib.cut p0.data.toList p1.data.toList).2.1.toArray⟩, (Lib.cut p0.data.toList p1.data.toList).2.2)
  else
    none
theorem c_strings_Cut (E : Nat → Prop) (w0 : World) (p0 : ByteArray) (p1 : ByteArray) (r : (ByteArray × ByteArray × Bool)) (h : F_strings_Cut p0 p1 = some r) (S : St0 E [] w0 w0 [] [fGv gMax cMax]) :
    Calls Tryd.prog 18 #[.string p0, .string p1] w0 (Ret (X := Unit) E [] w0 (fun _ => .tuple #[.string r.1, .string r.2.1, .bool r.2.2]) (fun _ => []) (fun _ => [])) := by
  unfold F_strings_Cut at h
  rcases iteSome h with ⟨hc, h⟩ | ⟨hc, h⟩
  · have hs := of_decide_eq_true hc
    obtain rfl := Option.some.inj h
    obtain ⟨_, cs, T, q, h2, _, m, h4⟩ := S.know (i := 0) (e := fGv gMax cMax) rfl
    have hm : w0.cell? ⟨1, 0, none⟩ = some (.int .i64 m) := by
      have h3 : w0.heap[1]? = some (.cells cs T q) := h2
      unfold World.cell?
      simp only [h3]
      exact h4
    refine (Tryd.strings_Cut p0 p1 m w0 hs hm).mono ?_
    rintro e w' ⟨rfl, k, rfl⟩
    have := fin_grow S k #[]
    have e : Sort.grow (w0.drewN k) #[] = w0.drewN k := by unfold Sort.grow; rw [Array.append_empty]
    rw [e] at this
    exact ⟨(), rfl, this⟩
  · cases h
noncomputable def F_strings_CutPrefix (p0 : ByteArray) (p1 : ByteArray) : Option (ByteArray × Bool) :=
  some (⟨(Lib.trimPrefix p0.data.toList p1.data.toList).toArray⟩, Lib.hasPrefix p0.data.toList p1.data.toList)
theorem c_strings_CutPrefix (E : Nat → Prop) (w0 : World) (p0 : ByteArray) (p1 : ByteArray) (r : (ByteArray × Bool)) (h : F_strings_CutPrefix p0 p1 = some r) (S : St0 E [] w0 w0 [] []) :
    Calls Tryd.prog 17 #[.string p0, .string p1] w0 (Ret (X := Unit) E [] w0 (fun _ => .tuple #[.string r.1, .bool r.2]) (fun _ => []) (fun _ => [])) := by
  obtain rfl := Option.some.inj h
  refine (Tryd.strings_CutPrefix p0 p1 w0).mono ?_
  rintro e w' ⟨rfl, rfl⟩
  exact ⟨(), rfl, S⟩


end Go.Proofs.YtdfjcpnflmgdoaaDoor
namespace Go.Proofs.YtdfjcpnflmgdoaaDoor
open Go.RowKit
set_option linter.unusedVariables false

theorem w64_of {x : Int} (h0 : -9223372036854775808 ≤ x) (h1 : x ≤ 9223372036854775807) : w64 x = x := w64_id ⟨h0, h1⟩
end Go.Proofs.YtdfjcpnflmgdoaaDoor
namespace Go.Proofs.YtdfjcpnflmgdoaaDoor
open Go.RowKit
set_option linter.unusedVariables false

theorem dT {p : Prop} [Decidable p] (h : p) : decide p = true := decide_eq_true h
theorem dF {p : Prop} [Decidable p] (h : ¬ p) : decide p = false := decide_eq_false h
theorem bT {a b : Int} (h : a = b) : (a == b) = true := by simp [h]
theorem bF {a b : Int} (h : ¬ a = b) : (a == b) = false := by simp [h]
theorem nT {a b : Int} (h : ¬ a = b) : (a != b) = true := by simp [h]
theorem nF {a b : Int} (h : a = b) : (a != b) = false := by simp [h]
/-- a row filled from its start on -/
def Fill {α : Type} (n : Nat) (f : Nat → α) (k : Nat) (s : List α) : Prop := s.length = n ∧ ∀ j, j < k → s[j]? = some (f j)
theorem Fill.zero {α : Type} (n : Nat) (f : Nat → α) (z : α) : Fill n f 0 (List.replicate n z) := ⟨by simp, fun j hj => absurd hj (Nat.not_lt_zero j)⟩
theorem Fill.set {α : Type} {n : Nat} {f : Nat → α} {k : Nat} {s : List α} (h : Fill n f k s) (hk : k < n) : Fill n f (k + 1) (s.set k (f k)) := by
  refine ⟨by simp [h.1], fun j hj => ?_⟩
  by_cases e : j = k
  · subst e; simp [h.1, hk]
  · rw [List.getElem?_set_ne (fun h => e h.symm)]; exact h.2 j (by omega)
theorem Fill.all {α : Type} {n : Nat} {f : Nat → α} {s : List α} (h : Fill n f n s) : s = (List.range n).map f := by
  apply List.ext_getElem?
  intro j
  by_cases hj : j < n
  · rw [h.2 j hj]; simp [hj]
  · rw [List.getElem?_eq_none (by rw [h.1]; omega), List.getElem?_eq_none (by simp; omega)]
end Go.Proofs.YtdfjcpnflmgdoaaDoor
namespace Go.Proofs.YtdfjcpnflmgdoaaDoor
open Go.RowKit
set_option linter.unusedVariables false

noncomputable def F_yarn_size (p0 : Int) : Option Int :=
  if decide (p0 < 0) then
    some (IntKind.u64.wrap (0 - (IntKind.u64.wrap p0)))
  else
    some (IntKind.u64.wrap p0)
set_option maxHeartbeats 4000000 in
set_option maxRecDepth 100000 in
theorem c_yarn_size (E : Nat → Prop) (w0 : World) (p0 : Int) (r : Int) (h : F_yarn_size p0 = some r) (S : St0 E [] w0 w0 [] []) :
    Calls Tryd.prog 10 #[iv p0] w0 (Ret (X := Unit) E [] w0 (fun _ => .int .u64 r) (fun _ => []) (fun _ => [])) := by
  unfold F_yarn_size at h
  refine sEnter (args := [iv p0]) 10 Tryd.func10 rfl rfl (by simp) S (fun a S => ?_)
  refine sSeq (fun K1 hK1 => ?_)
  refine sRegion ?_
  refine sMove (.int .u64 0) S (wN rfl) (.inr rfl) rfl rfl (lb rfl) fun a S => ?_
  refine leafL (leafT (hK1 _ _ ?_))
  refine sSeq (fun K2 hK2 => ?_)
  refine sSeq (fun K3 hK3 => ?_)
  refine sRegion ?_
  refine sMove (iv p0) S (wN rfl) (.inl rfl) rfl rfl (lb rfl) fun a S => ?_
  refine sBin (.bool (decide (p0 < 0))) S (wN rfl) rfl rfl rfl (bLt _ _ _ _ .i64 p0 0) rfl (lb rfl) fun a S => ?_
  refine leafL (leafT (hK3 _ _ ?_))
  rcases iteSome h with ⟨hc4, h⟩ | ⟨hc4, h⟩
  rotate_left
  · refine sCondF S rfl hc4 ?_
    refine wp_skip (leafT (hK2 _ _ ?_))
    refine sSeq (fun K6 hK6 => ?_)
    refine sRegion ?_
    refine sMove (iv p0) S (wN rfl) (.inl rfl) rfl rfl (lb rfl) fun a S => ?_
    refine sConv (k := .i64) (k2 := .u64) (b := p0) S (wN rfl) rfl Tryd.underlying2 Tryd.underlying36 rfl rfl (lb rfl) fun a S => ?_
    refine sMove (.int .u64 (IntKind.u64.wrap p0)) S (wN rfl) (.inr rfl) rfl rfl (lb rfl) fun a S => ?_
    refine leafL (leafT (hK6 _ _ ?_))
    obtain rfl := Option.some.inj h
    exact wp_ret (sRet (.int .u64 (IntKind.u64.wrap p0)) S (rsl1 rfl (rvT (t := 2) (v := .int .u64 (IntKind.u64.wrap p0)) S rfl)) ⟨(), rfl, S.mem.sel [] [] (by decide) rfl rfl⟩)
  refine sCondT S rfl hc4 ?_
  refine sSeq (fun K5 hK5 => ?_)
  refine sRegion ?_
  refine sMove (iv p0) S (wN rfl) (.inl rfl) rfl rfl (lb rfl) fun a S => ?_
  refine sConv (k := .i64) (k2 := .u64) (b := p0) S (wN rfl) rfl Tryd.underlying2 Tryd.underlying36 rfl rfl (lb rfl) fun a S => ?_
  refine sNegK (k := .u64) (b := IntKind.u64.wrap p0) S (wN rfl) rfl rfl rfl (lb rfl) fun a S => ?_
  refine sMove (.int .u64 (IntKind.u64.wrap (0 - (IntKind.u64.wrap p0)))) S (wN rfl) (.inr rfl) rfl rfl (lb rfl) fun a S => ?_
  refine leafL (leafT (hK5 _ _ ?_))
  obtain rfl := Option.some.inj h
  exact wp_ret (rThen (sRet (.int .u64 (IntKind.u64.wrap (0 - (IntKind.u64.wrap p0)))) S (rsl1 rfl (rvT (t := 2) (v := .int .u64 (IntKind.u64.wrap (0 - (IntKind.u64.wrap p0)))) S rfl)) ⟨(), rfl, S.mem.sel [] [] (by decide) rfl rfl⟩))

end Go.Proofs.YtdfjcpnflmgdoaaDoor
namespace Go.Proofs.YtdfjcpnflmgdoaaDoor
open Go.RowKit
set_option linter.unusedVariables false

noncomputable def yarn_gcd_l1  : (Int × Int) → Option ((Int × Int) ⊕ Int) := fun s0 => match s0 with
  | (s5, s6) =>
    if s6 != 0 then
      Option.bind (remI s5 s6) fun z14 =>
      some (.inl (s6, z14))
    else
      some (.inr s5)
noncomputable def F_yarn_gcd (p0 : Int) (p1 : Int) : Option Int :=
  Option.bind (α := Int) (
    Option.bind (whileO (yarn_gcd_l1) (p0, p1)) fun e10 =>
      some e10) fun o2 =>
  some o2
set_option maxHeartbeats 4000000 in
set_option maxRecDepth 100000 in
theorem c_yarn_gcd (E : Nat → Prop) (w0 : World) (p0 : Int) (p1 : Int) (r : Int) (h : F_yarn_gcd p0 p1 = some r) (S : St0 E [] w0 w0 [] []) :
    Calls Tryd.prog 11 #[.int .u64 p0, .int .u64 p1] w0 (Ret (X := Unit) E [] w0 (fun _ => .int .u64 r) (fun _ => []) (fun _ => [])) := by
  unfold F_yarn_gcd at h
  refine sEnter (args := [.int .u64 p0, .int .u64 p1]) 12 Tryd.func11 rfl rfl (by simp) S (fun a S => ?_)
  refine sSeq (fun K1 hK1 => ?_)
  refine sRegion ?_
  refine sMove (.int .u64 0) S (wN rfl) (.inr rfl) rfl rfl (lb rfl) fun a S => ?_
  refine leafL (leafT (hK1 _ _ ?_))
  obtain ⟨t3, h, g4⟩ := bindSome h
  refine sCut (fun a w => ∃ o2, o2 = t3 ∧ St [] E [] w0 12 a w [(0, .int .u64 o2)] [] []) ?_ (fun a w hI => ?_)
  rotate_left
  · obtain ⟨o2, rfl, S⟩ := hI
    have h := g4
    clear g4
    try dsimp only at h
    refine sSeq (fun K16 hK16 => ?_)
    refine sRegion ?_
    refine sMove (.int .u64 o2) S (wN rfl) (.inl rfl) rfl rfl (lb rfl) fun a S => ?_
    refine sMove (.int .u64 o2) S (wN rfl) (.inr rfl) rfl rfl (lb rfl) fun a S => ?_
    refine leafL (leafT (hK16 _ _ ?_))
    obtain rfl := Option.some.inj h
    exact wp_ret (sRet (.int .u64 o2) S (rsl1 rfl (rvT (t := 4) (v := .int .u64 o2) S rfl)) ⟨(), rfl, S.mem.sel [] [] (by decide) rfl rfl⟩)
  refine wp_block ?_
  obtain ⟨t9, hl, g8⟩ := bindSome h
  refine sLoop hl (fun s0 a w => match s0 with | (s5, s6) => St [] E [] w0 12 a w [(0, .int .u64 s5), (1, .int .u64 s6)] [] []) (S.fix [] [] (by decide) rfl rfl rfl) ?_
  clear hl h
  intro s0 a w c0 hI h hu7
  obtain ⟨s5, s6⟩ := s0
  unfold yarn_gcd_l1 at h
  dsimp only at h hI
  have S := hI
  refine sSeq (fun K11 hK11 => ?_)
  refine sSeq (fun K12 hK12 => ?_)
  refine sRegion ?_
  refine sMove (.int .u64 s6) S (wN rfl) (.inl rfl) rfl rfl (lb rfl) fun a S => ?_
  refine sBin (.bool (s6 != 0)) S (wN rfl) rfl rfl rfl (bNe _ _ _ _ .u64 s6 0) rfl (lb rfl) fun a S => ?_
  refine leafL (leafT (hK12 _ _ ?_))
  rcases iteSome h with ⟨hc13, h⟩ | ⟨hc13, h⟩
  rotate_left
  · refine sCondF S rfl hc13 ?_
    obtain rfl := Option.some.inj h
    obtain rfl := hu7 _ rfl
    have h := g8
    clear g8
    try dsimp only at h
    exact wp_exit (xThen (xThen (xHit (leafT (⟨s5, Option.some.inj h, S.fix [] [] (by decide) rfl rfl rfl⟩)))))
  refine sCondT S rfl hc13 ?_
  refine wp_skip (leafT (hK11 _ _ ?_))
  refine wp_block ?_
  obtain ⟨z14, hx15, h⟩ := bindSome h
  refine sDraw (nf := []) (W := [(0, 7, .int .u64 s6), (1, 8, .int .u64 s5), (2, 9, .int .u64 s6), (3, 10, .int .u64 z14), (4, 0, .int .u64 s6), (5, 1, .int .u64 z14)]) rfl S ?_
  refine node_by (A := [[], [], [], [1, 2], [0, 1], [0, 1, 2, 3, 4]]) (nf := []) (Y := []) (W := [(0, 7, .int .u64 s6), (1, 8, .int .u64 s5), (2, 9, .int .u64 s6), (3, 10, .int .u64 z14), (4, 0, .int .u64 s6), (5, 1, .int .u64 z14)]) 6 (by kernel_rfl) (by kernel_rfl) (by kernel_rfl) (by kernel_rfl) (by kernel_rfl) [0, 1, 2, 3, 4, 5] (by kernel_rfl) (by decide) (by decide) (aF 0 5 (by decide) ?_ (aF 1 4 (by decide) ?_ (aF 2 3 (by decide) ?_ (aF 3 2 (by decide) ?_ (aF 4 1 (by decide) ?_ (aF 5 0 (by decide) ?_ (trivial))))))) [(0, .int .u64 s6), (1, .int .u64 z14)] (fin_of [some 4, some 5] rfl (by kernel_rfl) (by kernel_rfl)) (fun _ a w S => ?_)
  · refine fI 7 (.int .u64 s6) [(1, .int .u64 s6)] 0 [none] rfl rfl rfl rfl rfl rfl fun G a w S => ?_
    refine sMove (.int .u64 s6) S (wN rfl) (.inl rfl) rfl rfl (lb rfl) fun a S => ?_
    exact leafL ⟨rfl, S⟩
  · refine fI 8 (.int .u64 s5) [(0, .int .u64 s5)] 1 [none] rfl rfl rfl rfl rfl rfl fun G a w S => ?_
    refine sMove (.int .u64 s5) S (wN rfl) (.inl rfl) rfl rfl (lb rfl) fun a S => ?_
    exact leafL ⟨rfl, S⟩
  · refine fI 9 (.int .u64 s6) [(1, .int .u64 s6)] 2 [none] rfl rfl rfl rfl rfl rfl fun G a w S => ?_
    refine sMove (.int .u64 s6) S (wN rfl) (.inl rfl) rfl rfl (lb rfl) fun a S => ?_
    exact leafL ⟨rfl, S⟩
  · refine fI 10 (.int .u64 z14) [(8, .int .u64 s5), (9, .int .u64 s6)] 3 [some 1, some 2] rfl rfl rfl rfl rfl rfl fun G a w S => ?_
    refine sBin (.int .u64 z14) S (wN rfl) rfl rfl rfl (bRemK _ _ _ _ (k := .u64) (x := s5) (y := s6) hx15) rfl (lb rfl) fun a S => ?_
    exact leafL ⟨rfl, S⟩
  · refine fI 0 (.int .u64 s6) [(7, .int .u64 s6)] 4 [some 0] rfl rfl rfl rfl rfl rfl fun G a w S => ?_
    refine sMove (.int .u64 s6) S (wN rfl) (.inr rfl) rfl rfl (lb rfl) fun a S => ?_
    exact leafL ⟨rfl, S⟩
  · refine fI 1 (.int .u64 z14) [(10, .int .u64 z14)] 5 [some 3] rfl rfl rfl rfl rfl rfl fun G a w S => ?_
    refine sMove (.int .u64 z14) S (wN rfl) (.inr rfl) rfl rfl (lb rfl) fun a S => ?_
    exact leafL ⟨rfl, S⟩
  exact leafB (leafT (⟨(s6, z14), (Option.some.inj h).symm, (S.fix [] [] (by decide) rfl rfl rfl)⟩))

end Go.Proofs.YtdfjcpnflmgdoaaDoor
namespace Go.Proofs.YtdfjcpnflmgdoaaDoor
open Go.RowKit
set_option linter.unusedVariables false

def anc_yarn_Make_0 : List (List Nat) := [[], [], [0, 1], [], [], [3, 4], [0, 1, 2], [0, 1, 2, 3, 4, 5, 6]]
noncomputable def F_yarn_Make (p0 : Int) (p1 : Int) : Option (api_Ratio × Int) :=
  if p1 == 0 then
    some ((api_Ratio.mk 0 0), 18)
  else
    Option.bind (F_yarn_size p0) fun r8 =>
    Option.bind (F_yarn_size p1) fun r10 =>
    Option.bind (F_yarn_gcd r8 r10) fun r13 =>
    Option.bind (quoK .u64 r8 r13) fun z16 =>
    Option.bind (quoK .u64 r10 r13) fun z18 =>
    Option.bind (α := Bool) (
      if decide (1000000000 < z16) then
        some true
      else
        some (decide (1000000000 < z18))) fun o21 =>
    if o21 then
      some ((api_Ratio.mk 0 0), 16)
    else
      Option.bind (α := Int) (
        if (decide (p0 < 0)) != (decide (p1 < 0)) then
          some (w64 (0 - (IntKind.i64.wrap z16)))
        else
          some (IntKind.i64.wrap z16)) fun o29 =>
      some ((api_Ratio.mk o29 (IntKind.i64.wrap z18)), 0)
def c_yarn_Make_val (r : (api_Ratio × Int)) (x : Value) : Value := .tuple #[x, .int .i64 r.2]
def c_yarn_Make_D (r : (api_Ratio × Int)) (x : Value) : List Fact := [fRep r_api_Ratio x r.1]
set_option maxHeartbeats 4000000 in
set_option maxRecDepth 100000 in
theorem c_yarn_Make (E : Nat → Prop) (w0 : World) (p0 : Int) (p1 : Int) (r : (api_Ratio × Int)) (h : F_yarn_Make p0 p1 = some r) (S : St0 E [] w0 w0 [] []) :
    Calls Tryd.prog 4 #[iv p0, iv p1] w0 (Ret (X := Value) E [] w0 (c_yarn_Make_val r) (fun _ => []) (c_yarn_Make_D r)) := by
  unfold F_yarn_Make at h
  refine sEnter (args := [iv p0, iv p1]) 48 Tryd.func4 rfl rfl (by simp) S (fun a S => ?_)
  refine sSeq (fun K1 hK1 => ?_)
  refine sRegion ?_
  refine sAlloc (.agg #[iv 0, iv 0]) S (wN rfl) rfl rfl [iv 0, iv 0] rfl rfl (lb rfl) fun a b2 w S => ?_
  refine sMove (iv 0) S (wN rfl) (.inr rfl) rfl rfl (lb rfl) fun a S => ?_
  refine leafL (leafT (hK1 _ _ ?_))
  refine sSeq (fun K3 hK3 => ?_)
  refine sSeq (fun K4 hK4 => ?_)
  refine sRegion ?_
  refine sMove (iv p1) S (wN rfl) (.inl rfl) rfl rfl (lb rfl) fun a S => ?_
  refine sBin (.bool (p1 == 0)) S (wN rfl) rfl rfl rfl (bEq _ _ _ _ .i64 p1 0) rfl (lb rfl) fun a S => ?_
  refine leafL (leafT (hK4 _ _ ?_))
  rcases iteSome h with ⟨hc5, h⟩ | ⟨hc5, h⟩
  · refine sCondT S rfl hc5 ?_
    refine sSeq (fun K6 hK6 => ?_)
    refine sRegion ?_
    refine sBuild [] [iv 0, iv 0] S (wN rfl) rfl rfl rfl rfl (lb rfl) fun a S => ?_
    refine sStore (p := b2) (off := 0) (T := 23) (vs := [iv 0, iv 0]) (v := .agg #[iv 0, iv 0]) 0 [iv 0, iv 0] S (wN rfl) rfl rfl rfl rfl rfl rfl rfl (by simp) rfl fun a w S => ?_
    refine sMove (iv 18) S (wN rfl) (.inr rfl) rfl rfl (lb rfl) fun a S => ?_
    refine leafL (leafT (hK6 _ _ ?_))
    obtain rfl := Option.some.inj h
    have S := S.learn (fRep r_api_Ratio (.agg #[iv 0, iv 0]) (api_Ratio.mk 0 0)) rfl
    exact wp_ret (rThen (sRet (.tuple #[.agg #[iv 0, iv 0], iv 18]) S (rsl2 rfl (rvN (c := 4) (t := 23) (T := 23) (p := b2) 0 [iv 0, iv 0] S rfl rfl rfl rfl) (rvT (t := 5) (v := iv 18) S rfl)) ⟨(.agg #[iv 0, iv 0]), rfl, S.mem.sel [] [0] (by decide) rfl rfl⟩))
  refine sCondF S rfl hc5 ?_
  refine wp_skip (leafT (hK3 _ _ ?_))
  refine sSeq (fun K7 hK7 => ?_)
  refine sRegion ?_
  refine sMove (iv p0) S (wN rfl) (.inl rfl) rfl rfl (lb rfl) fun a S => ?_
  obtain ⟨r8, hx9, h⟩ := bindSome h
  have S1 := S.mem
  refine sCallQ (X := Unit) (f := 10) (vs := [iv p0]) (val := fun _ => .int .u64 r8) S (wN rfl) rfl callee10 rfl (S1.quiet [] rfl) (fun E1 w1 S1 => c_yarn_size E1 w1 p0 r8 hx9 S1) rfl (lb rfl) fun _ a w S => ?_
  refine sMove (iv p1) S (wN rfl) (.inl rfl) rfl rfl (lb rfl) fun a S => ?_
  obtain ⟨r10, hx11, h⟩ := bindSome h
  have S1 := S.mem
  refine sCallQ (X := Unit) (f := 10) (vs := [iv p1]) (val := fun _ => .int .u64 r10) S (wN rfl) rfl callee10 rfl (S1.quiet [] rfl) (fun E1 w1 S1 => c_yarn_size E1 w1 p1 r10 hx11 S1) rfl (lb rfl) fun _ a w S => ?_
  refine sMove (.int .u64 r8) S (wN rfl) (.inr rfl) rfl rfl (lb rfl) fun a S => ?_
  refine sMove (.int .u64 r10) S (wN rfl) (.inr rfl) rfl rfl (lb rfl) fun a S => ?_
  refine leafL (leafT (hK7 _ _ ?_))
  refine sSeq (fun K12 hK12 => ?_)
  refine sRegion ?_
  refine sMove (.int .u64 r8) S (wN rfl) (.inl rfl) rfl rfl (lb rfl) fun a S => ?_
  refine sMove (.int .u64 r10) S (wN rfl) (.inl rfl) rfl rfl (lb rfl) fun a S => ?_
  obtain ⟨r13, hx14, h⟩ := bindSome h
  have S1 := S.mem
  refine sCallQ (X := Unit) (f := 11) (vs := [.int .u64 r8, .int .u64 r10]) (val := fun _ => .int .u64 r13) S (wN rfl) rfl callee11 rfl (S1.quiet [] rfl) (fun E1 w1 S1 => c_yarn_gcd E1 w1 r8 r10 r13 hx14 S1) rfl (lb rfl) fun _ a w S => ?_
  refine sMove (.int .u64 r13) S (wN rfl) (.inr rfl) rfl rfl (lb rfl) fun a S => ?_
  refine leafL (leafT (hK12 _ _ ?_))
  refine sSeq (fun K15 hK15 => ?_)
  obtain ⟨z16, hx17, h⟩ := bindSome h
  obtain ⟨z18, hx19, h⟩ := bindSome h
  refine sDraw (nf := []) (W := [(0, 20, .int .u64 r8), (1, 21, .int .u64 r13), (2, 22, .int .u64 z16), (3, 23, .int .u64 r10), (4, 24, .int .u64 r13), (5, 25, .int .u64 z18), (6, 6, .int .u64 z16), (7, 7, .int .u64 z18)]) rfl S ?_
  refine node_by (A := anc_yarn_Make_0) (nf := []) (Y := []) (W := [(0, 20, .int .u64 r8), (1, 21, .int .u64 r13), (2, 22, .int .u64 z16), (3, 23, .int .u64 r10), (4, 24, .int .u64 r13), (5, 25, .int .u64 z18), (6, 6, .int .u64 z16), (7, 7, .int .u64 z18)]) 8 (by kernel_rfl) (by kernel_rfl) (by kernel_rfl) (by kernel_rfl) (by kernel_rfl) [0, 1, 2, 3, 4, 5, 6, 7] (by kernel_rfl) (by decide) (by decide) (aF 0 7 (by decide) ?_ (aF 1 6 (by decide) ?_ (aF 2 5 (by decide) ?_ (aF 3 4 (by decide) ?_ (aF 4 3 (by decide) ?_ (aF 5 2 (by decide) ?_ (aF 6 1 (by decide) ?_ (aF 7 0 (by decide) ?_ (trivial))))))))) [(0, iv p0), (1, iv p1), (4, .pointer (some ⟨b2, 0, none⟩)), (6, .int .u64 z16), (7, .int .u64 z18)] (fin_of [none, none, none, some 6, some 7] rfl (by kernel_rfl) (by kernel_rfl)) (fun _ a w S => ?_)
  · refine fI 20 (.int .u64 r8) [(6, .int .u64 r8)] 0 [none] rfl rfl rfl rfl rfl rfl fun G a w S => ?_
    refine sMove (.int .u64 r8) S (wN rfl) (.inl rfl) rfl rfl (lb rfl) fun a S => ?_
    exact leafL ⟨rfl, S⟩
  · refine fI 21 (.int .u64 r13) [(8, .int .u64 r13)] 1 [none] rfl rfl rfl rfl rfl rfl fun G a w S => ?_
    refine sMove (.int .u64 r13) S (wN rfl) (.inl rfl) rfl rfl (lb rfl) fun a S => ?_
    exact leafL ⟨rfl, S⟩
  · refine fI 22 (.int .u64 z16) [(20, .int .u64 r8), (21, .int .u64 r13)] 2 [some 0, some 1] rfl rfl rfl rfl rfl rfl fun G a w S => ?_
    refine sBin (.int .u64 z16) S (wN rfl) rfl rfl rfl (bQuoK _ _ _ _ (k := .u64) (x := r8) (y := r13) hx17) rfl (lb rfl) fun a S => ?_
    exact leafL ⟨rfl, S⟩
  · refine fI 23 (.int .u64 r10) [(7, .int .u64 r10)] 3 [none] rfl rfl rfl rfl rfl rfl fun G a w S => ?_
    refine sMove (.int .u64 r10) S (wN rfl) (.inl rfl) rfl rfl (lb rfl) fun a S => ?_
    exact leafL ⟨rfl, S⟩
  · refine fI 24 (.int .u64 r13) [(8, .int .u64 r13)] 4 [none] rfl rfl rfl rfl rfl rfl fun G a w S => ?_
    refine sMove (.int .u64 r13) S (wN rfl) (.inl rfl) rfl rfl (lb rfl) fun a S => ?_
    exact leafL ⟨rfl, S⟩
  · refine fI 25 (.int .u64 z18) [(23, .int .u64 r10), (24, .int .u64 r13)] 5 [some 3, some 4] rfl rfl rfl rfl rfl rfl fun G a w S => ?_
    refine sBin (.int .u64 z18) S (wN rfl) rfl rfl rfl (bQuoK _ _ _ _ (k := .u64) (x := r10) (y := r13) hx19) rfl (lb rfl) fun a S => ?_
    exact leafL ⟨rfl, S⟩
  · refine fI 6 (.int .u64 z16) [(22, .int .u64 z16)] 6 [some 2] rfl rfl rfl rfl rfl rfl fun G a w S => ?_
    refine sMove (.int .u64 z16) S (wN rfl) (.inr rfl) rfl rfl (lb rfl) fun a S => ?_
    exact leafL ⟨rfl, S⟩
  · refine fI 7 (.int .u64 z18) [(25, .int .u64 z18)] 7 [some 5] rfl rfl rfl rfl rfl rfl fun G a w S => ?_
    refine sMove (.int .u64 z18) S (wN rfl) (.inr rfl) rfl rfl (lb rfl) fun a S => ?_
    exact leafL ⟨rfl, S⟩
  refine leafT (hK15 _ _ ?_)
  refine sSeq (fun K20 hK20 => ?_)
  obtain ⟨t22, h, g23⟩ := bindSome h
  refine sCut (fun a w => ∃ o21, o21 = t22 ∧ St [] E [] w0 48 a w [(0, iv p0), (1, iv p1), (4, .pointer (some ⟨b2, 0, none⟩)), (6, .int .u64 z16), (7, .int .u64 z18), (31, .bool o21)] [eBox b2 23 [iv 0, iv 0]] []) ?_ (fun a w hI => ?_)
  · refine sRegion ?_
    refine sMove (.int .u64 z16) S (wN rfl) (.inl rfl) rfl rfl (lb rfl) fun a S => ?_
    refine sBin (.bool (decide (1000000000 < z16))) S (wN rfl) rfl rfl rfl (bGt _ _ _ _ .u64 z16 1000000000) rfl (lb rfl) fun a S => ?_
    refine sMove (.bool (decide (1000000000 < z16))) S (wN rfl) (.inl rfl) rfl rfl (lb rfl) fun a S => ?_
    rcases iteSome h with ⟨hc24, h⟩ | ⟨hc24, h⟩
    · refine sSkip 2 false 28 29 S rfl rfl rfl hc24 rfl (lb rfl) fun a S => ?_
      refine sSkip 2 false 28 30 S rfl rfl rfl hc24 rfl (lb rfl) fun a S => ?_
      refine sPickT (.bool true) S (wN rfl) rfl rfl hc24 rfl rfl (lb rfl) fun a S => ?_
      exact leafL (leafT (⟨true, Option.some.inj h, S.fix [0] [] (by decide) rfl rfl rfl⟩))
    refine sMove (.int .u64 z18) S (wG 2 false 28 rfl rfl rfl hc24) (.inl rfl) rfl rfl (lb rfl) fun a S => ?_
    refine sBin (.bool (decide (1000000000 < z18))) S (wG 2 false 28 rfl rfl rfl hc24) rfl rfl rfl (bGt _ _ _ _ .u64 z18 1000000000) rfl (lb rfl) fun a S => ?_
    refine sPickF (.bool (decide (1000000000 < z18))) S (wN rfl) rfl rfl hc24 rfl rfl (lb rfl) fun a S => ?_
    exact leafL (leafT (⟨decide (1000000000 < z18), Option.some.inj h, S.fix [0] [] (by decide) rfl rfl rfl⟩))
  obtain ⟨o21, rfl, S⟩ := hI
  have h := g23
  clear g23
  try dsimp only at h
  rcases iteSome h with ⟨hc25, h⟩ | ⟨hc25, h⟩
  · refine sCondT S rfl hc25 ?_
    refine sSeq (fun K26 hK26 => ?_)
    refine sRegion ?_
    refine sBuild [] [iv 0, iv 0] S (wN rfl) rfl rfl rfl rfl (lb rfl) fun a S => ?_
    refine sStore (p := b2) (off := 0) (T := 23) (vs := [iv 0, iv 0]) (v := .agg #[iv 0, iv 0]) 0 [iv 0, iv 0] S (wN rfl) rfl rfl rfl rfl rfl rfl rfl (by simp) rfl fun a w S => ?_
    refine sMove (iv 16) S (wN rfl) (.inr rfl) rfl rfl (lb rfl) fun a S => ?_
    refine leafL (leafT (hK26 _ _ ?_))
    obtain rfl := Option.some.inj h
    have S := S.learn (fRep r_api_Ratio (.agg #[iv 0, iv 0]) (api_Ratio.mk 0 0)) rfl
    exact wp_ret (rThen (sRet (.tuple #[.agg #[iv 0, iv 0], iv 16]) S (rsl2 rfl (rvN (c := 4) (t := 23) (T := 23) (p := b2) 0 [iv 0, iv 0] S rfl rfl rfl rfl) (rvT (t := 5) (v := iv 16) S rfl)) ⟨(.agg #[iv 0, iv 0]), rfl, S.mem.sel [] [0] (by decide) rfl rfl⟩))
  refine sCondF S rfl hc25 ?_
  refine wp_skip (leafT (hK20 _ _ ?_))
  refine sSeq (fun K27 hK27 => ?_)
  refine sRegion ?_
  refine sMove (.int .u64 z16) S (wN rfl) (.inl rfl) rfl rfl (lb rfl) fun a S => ?_
  refine sConv (k := .u64) (k2 := .i64) (b := z16) S (wN rfl) rfl Tryd.underlying36 Tryd.underlying2 rfl rfl (lb rfl) fun a S => ?_
  refine sMove (.int .u64 z18) S (wN rfl) (.inl rfl) rfl rfl (lb rfl) fun a S => ?_
  refine sConv (k := .u64) (k2 := .i64) (b := z18) S (wN rfl) rfl Tryd.underlying36 Tryd.underlying2 rfl rfl (lb rfl) fun a S => ?_
  refine sBuild [(0, iv (IntKind.i64.wrap z16)), (1, iv (IntKind.i64.wrap z18))] [iv (IntKind.i64.wrap z16), iv (IntKind.i64.wrap z18)] S (wN rfl) rfl rfl rfl rfl (lb rfl) fun a S => ?_
  refine sAlloc (.agg #[iv 0, iv 0]) S (wN rfl) rfl rfl [iv 0, iv 0] rfl rfl (lb rfl) fun a b28 w S => ?_
  refine sStore (p := b28) (off := 0) (T := 23) (vs := [iv 0, iv 0]) (v := .agg #[iv (IntKind.i64.wrap z16), iv (IntKind.i64.wrap z18)]) 0 [iv (IntKind.i64.wrap z16), iv (IntKind.i64.wrap z18)] S (wN rfl) rfl rfl rfl rfl rfl rfl rfl (by simp) rfl fun a w S => ?_
  refine leafL (leafT (hK27 _ _ ?_))
  obtain ⟨t30, h, g31⟩ := bindSome h
  refine sCut (fun a w => ∃ o29, o29 = t30 ∧ St [] E [] w0 48 a w [(4, .pointer (some ⟨b2, 0, none⟩)), (9, .pointer (some ⟨b28, 0, none⟩))] [eBox b2 23 [iv 0, iv 0], eBox b28 23 [iv o29, iv (IntKind.i64.wrap z18)]] []) ?_ (fun a w hI => ?_)
  rotate_left
  · obtain ⟨o29, rfl, S⟩ := hI
    have h := g31
    clear g31
    try dsimp only at h
    refine sSeq (fun K34 hK34 => ?_)
    refine sRegion ?_
    refine sLoadN (p := b28) (off := 0) (T := 23) (vs := [iv o29, iv (IntKind.i64.wrap z18)]) 1 [iv o29, iv (IntKind.i64.wrap z18)] S (wN rfl) rfl rfl rfl rfl rfl rfl rfl (lb rfl) fun a S => ?_
    refine sStore (p := b2) (off := 0) (T := 23) (vs := [iv 0, iv 0]) (v := .agg #[iv o29, iv (IntKind.i64.wrap z18)]) 0 [iv o29, iv (IntKind.i64.wrap z18)] S (wN rfl) rfl rfl rfl rfl rfl rfl rfl (by simp) rfl fun a w S => ?_
    refine sMove (iv 0) S (wN rfl) (.inr rfl) rfl rfl (lb rfl) fun a S => ?_
    refine leafL (leafT (hK34 _ _ ?_))
    obtain rfl := Option.some.inj h
    have S := S.learn (fRep r_api_Ratio (.agg #[iv o29, iv (IntKind.i64.wrap z18)]) (api_Ratio.mk o29 (IntKind.i64.wrap z18))) rfl
    exact wp_ret (sRet (.tuple #[.agg #[iv o29, iv (IntKind.i64.wrap z18)], iv 0]) S (rsl2 rfl (rvN (c := 4) (t := 23) (T := 23) (p := b2) 0 [iv o29, iv (IntKind.i64.wrap z18)] S rfl rfl rfl rfl) (rvT (t := 5) (v := iv 0) S rfl)) ⟨(.agg #[iv o29, iv (IntKind.i64.wrap z18)]), rfl, S.mem.sel [] [0] (by decide) rfl rfl⟩)
  refine sSeq (fun K32 hK32 => ?_)
  refine sRegion ?_
  refine sMove (iv p0) S (wN rfl) (.inl rfl) rfl rfl (lb rfl) fun a S => ?_
  refine sBin (.bool (decide (p0 < 0))) S (wN rfl) rfl rfl rfl (bLt _ _ _ _ .i64 p0 0) rfl (lb rfl) fun a S => ?_
  refine sMove (iv p1) S (wN rfl) (.inl rfl) rfl rfl (lb rfl) fun a S => ?_
  refine sBin (.bool (decide (p1 < 0))) S (wN rfl) rfl rfl rfl (bLt _ _ _ _ .i64 p1 0) rfl (lb rfl) fun a S => ?_
  refine sBin (.bool ((decide (p0 < 0)) != (decide (p1 < 0)))) S (wN rfl) rfl rfl rfl (bNeB _ _ _ _ Tryd.underlying4 (decide (p0 < 0)) (decide (p1 < 0))) rfl (lb rfl) fun a S => ?_
  refine leafL (leafT (hK32 _ _ ?_))
  rcases iteSome h with ⟨hc33, h⟩ | ⟨hc33, h⟩
  rotate_left
  · refine sCondF S rfl hc33 ?_
    exact wp_skip (leafT (⟨IntKind.i64.wrap z16, Option.some.inj h, S.fix [1, 0] [] (by decide) rfl rfl rfl⟩))
  refine sCondT S rfl hc33 ?_
  refine sRegion ?_
  refine sField (b := b28) (off := 0) 0 0 S (wN rfl) rfl rfl rfl rfl rfl (lb rfl) fun a S => ?_
  refine sLoad1 (p := b28) (off := 0) (T := 23) (vs := [iv (IntKind.i64.wrap z16), iv (IntKind.i64.wrap z18)]) 0 (iv (IntKind.i64.wrap z16)) S (wN rfl) rfl rfl rfl rfl rfl rfl (lb rfl) fun a S => ?_
  refine sNeg (b := IntKind.i64.wrap z16) S (wN rfl) rfl rfl rfl (lb rfl) fun a S => ?_
  refine sField (b := b28) (off := 0) 0 0 S (wN rfl) rfl rfl rfl rfl rfl (lb rfl) fun a S => ?_
  refine sStore (p := b28) (off := 0) (T := 23) (vs := [iv (IntKind.i64.wrap z16), iv (IntKind.i64.wrap z18)]) (v := iv (w64 (0 - (IntKind.i64.wrap z16)))) 0 [iv (w64 (0 - (IntKind.i64.wrap z16)))] S (wN rfl) rfl rfl rfl rfl rfl rfl rfl (by simp) rfl fun a w S => ?_
  exact leafL (leafT (⟨w64 (0 - (IntKind.i64.wrap z16)), Option.some.inj h, S.fix [1, 0] [] (by decide) rfl rfl rfl⟩))

end Go.Proofs.YtdfjcpnflmgdoaaDoor
namespace Go.Proofs.YtdfjcpnflmgdoaaDoor
open Go.RowKit
set_option linter.unusedVariables false

noncomputable def raddleref23_common_l1  : (Int × Int) → Option ((Int × Int) ⊕ Int) := fun s0 => match s0 with
  | (s5, s6) =>
    if s6 != 0 then
      Option.bind (remI s5 s6) fun z14 =>
      some (.inl (s6, z14))
    else
      some (.inr s5)
noncomputable def F_raddleref23_common (p0 : Int) (p1 : Int) : Option Int :=
  Option.bind (α := Int) (
    Option.bind (whileO (raddleref23_common_l1) (p0, p1)) fun e10 =>
      some e10) fun o2 =>
  if decide (o2 < 0) then
    some (w64 (0 - o2))
  else
    some o2
set_option maxHeartbeats 4000000 in
set_option maxRecDepth 100000 in
theorem c_raddleref23_common (E : Nat → Prop) (w0 : World) (p0 : Int) (p1 : Int) (r : Int) (h : F_raddleref23_common p0 p1 = some r) (S : St0 E [] w0 w0 [] []) :
    Calls Tryd.prog 12 #[iv p0, iv p1] w0 (Ret (X := Unit) E [] w0 (fun _ => .int .i64 r) (fun _ => []) (fun _ => [])) := by
  unfold F_raddleref23_common at h
  refine sEnter (args := [iv p0, iv p1]) 16 Tryd.func12 rfl rfl (by simp) S (fun a S => ?_)
  refine sSeq (fun K1 hK1 => ?_)
  refine sRegion ?_
  refine sMove (iv 0) S (wN rfl) (.inr rfl) rfl rfl (lb rfl) fun a S => ?_
  refine leafL (leafT (hK1 _ _ ?_))
  obtain ⟨t3, h, g4⟩ := bindSome h
  refine sCut (fun a w => ∃ o2, o2 = t3 ∧ St [] E [] w0 16 a w [(0, iv o2)] [] []) ?_ (fun a w hI => ?_)
  rotate_left
  · obtain ⟨o2, rfl, S⟩ := hI
    have h := g4
    clear g4
    try dsimp only at h
    refine sSeq (fun K16 hK16 => ?_)
    refine sSeq (fun K17 hK17 => ?_)
    refine sRegion ?_
    refine sMove (iv o2) S (wN rfl) (.inl rfl) rfl rfl (lb rfl) fun a S => ?_
    refine sBin (.bool (decide (o2 < 0))) S (wN rfl) rfl rfl rfl (bLt _ _ _ _ .i64 o2 0) rfl (lb rfl) fun a S => ?_
    refine leafL (leafT (hK17 _ _ ?_))
    rcases iteSome h with ⟨hc18, h⟩ | ⟨hc18, h⟩
    rotate_left
    · refine sCondF S rfl hc18 ?_
      refine wp_skip (leafT (hK16 _ _ ?_))
      refine sSeq (fun K20 hK20 => ?_)
      refine sRegion ?_
      refine sMove (iv o2) S (wN rfl) (.inl rfl) rfl rfl (lb rfl) fun a S => ?_
      refine sMove (iv o2) S (wN rfl) (.inr rfl) rfl rfl (lb rfl) fun a S => ?_
      refine leafL (leafT (hK20 _ _ ?_))
      obtain rfl := Option.some.inj h
      exact wp_ret (sRet (iv o2) S (rsl1 rfl (rvT (t := 4) (v := iv o2) S rfl)) ⟨(), rfl, S.mem.sel [] [] (by decide) rfl rfl⟩)
    refine sCondT S rfl hc18 ?_
    refine sSeq (fun K19 hK19 => ?_)
    refine sRegion ?_
    refine sMove (iv o2) S (wN rfl) (.inl rfl) rfl rfl (lb rfl) fun a S => ?_
    refine sNeg (b := o2) S (wN rfl) rfl rfl rfl (lb rfl) fun a S => ?_
    refine sMove (iv (w64 (0 - o2))) S (wN rfl) (.inr rfl) rfl rfl (lb rfl) fun a S => ?_
    refine leafL (leafT (hK19 _ _ ?_))
    obtain rfl := Option.some.inj h
    exact wp_ret (rThen (sRet (iv (w64 (0 - o2))) S (rsl1 rfl (rvT (t := 4) (v := iv (w64 (0 - o2))) S rfl)) ⟨(), rfl, S.mem.sel [] [] (by decide) rfl rfl⟩))
  refine wp_block ?_
  obtain ⟨t9, hl, g8⟩ := bindSome h
  refine sLoop hl (fun s0 a w => match s0 with | (s5, s6) => St [] E [] w0 16 a w [(0, iv s5), (1, iv s6)] [] []) (S.fix [] [] (by decide) rfl rfl rfl) ?_
  clear hl h
  intro s0 a w c0 hI h hu7
  obtain ⟨s5, s6⟩ := s0
  unfold raddleref23_common_l1 at h
  dsimp only at h hI
  have S := hI
  refine sSeq (fun K11 hK11 => ?_)
  refine sSeq (fun K12 hK12 => ?_)
  refine sRegion ?_
  refine sMove (iv s6) S (wN rfl) (.inl rfl) rfl rfl (lb rfl) fun a S => ?_
  refine sBin (.bool (s6 != 0)) S (wN rfl) rfl rfl rfl (bNe _ _ _ _ .i64 s6 0) rfl (lb rfl) fun a S => ?_
  refine leafL (leafT (hK12 _ _ ?_))
  rcases iteSome h with ⟨hc13, h⟩ | ⟨hc13, h⟩
  rotate_left
  · refine sCondF S rfl hc13 ?_
    obtain rfl := Option.some.inj h
    obtain rfl := hu7 _ rfl
    have h := g8
    clear g8
    try dsimp only at h
    exact wp_exit (xThen (xThen (xHit (leafT (⟨s5, Option.some.inj h, S.fix [] [] (by decide) rfl rfl rfl⟩)))))
  refine sCondT S rfl hc13 ?_
  refine wp_skip (leafT (hK11 _ _ ?_))
  refine wp_block ?_
  obtain ⟨z14, hx15, h⟩ := bindSome h
  refine sDraw (nf := []) (W := [(0, 7, iv s6), (1, 8, iv s5), (2, 9, iv s6), (3, 10, iv z14), (4, 0, iv s6), (5, 1, iv z14)]) rfl S ?_
  refine node_by (A := [[], [], [], [1, 2], [0, 1], [0, 1, 2, 3, 4]]) (nf := []) (Y := []) (W := [(0, 7, iv s6), (1, 8, iv s5), (2, 9, iv s6), (3, 10, iv z14), (4, 0, iv s6), (5, 1, iv z14)]) 6 (by kernel_rfl) (by kernel_rfl) (by kernel_rfl) (by kernel_rfl) (by kernel_rfl) [0, 1, 2, 3, 4, 5] (by kernel_rfl) (by decide) (by decide) (aF 0 5 (by decide) ?_ (aF 1 4 (by decide) ?_ (aF 2 3 (by decide) ?_ (aF 3 2 (by decide) ?_ (aF 4 1 (by decide) ?_ (aF 5 0 (by decide) ?_ (trivial))))))) [(0, iv s6), (1, iv z14)] (fin_of [some 4, some 5] rfl (by kernel_rfl) (by kernel_rfl)) (fun _ a w S => ?_)
  · refine fI 7 (iv s6) [(1, iv s6)] 0 [none] rfl rfl rfl rfl rfl rfl fun G a w S => ?_
    refine sMove (iv s6) S (wN rfl) (.inl rfl) rfl rfl (lb rfl) fun a S => ?_
    exact leafL ⟨rfl, S⟩
  · refine fI 8 (iv s5) [(0, iv s5)] 1 [none] rfl rfl rfl rfl rfl rfl fun G a w S => ?_
    refine sMove (iv s5) S (wN rfl) (.inl rfl) rfl rfl (lb rfl) fun a S => ?_
    exact leafL ⟨rfl, S⟩
  · refine fI 9 (iv s6) [(1, iv s6)] 2 [none] rfl rfl rfl rfl rfl rfl fun G a w S => ?_
    refine sMove (iv s6) S (wN rfl) (.inl rfl) rfl rfl (lb rfl) fun a S => ?_
    exact leafL ⟨rfl, S⟩
  · refine fI 10 (iv z14) [(8, iv s5), (9, iv s6)] 3 [some 1, some 2] rfl rfl rfl rfl rfl rfl fun G a w S => ?_
    refine sBin (iv z14) S (wN rfl) rfl rfl rfl (bRem _ _ _ _ (x := s5) (y := s6) hx15) rfl (lb rfl) fun a S => ?_
    exact leafL ⟨rfl, S⟩
  · refine fI 0 (iv s6) [(7, iv s6)] 4 [some 0] rfl rfl rfl rfl rfl rfl fun G a w S => ?_
    refine sMove (iv s6) S (wN rfl) (.inr rfl) rfl rfl (lb rfl) fun a S => ?_
    exact leafL ⟨rfl, S⟩
  · refine fI 1 (iv z14) [(10, iv z14)] 5 [some 3] rfl rfl rfl rfl rfl rfl fun G a w S => ?_
    refine sMove (iv z14) S (wN rfl) (.inr rfl) rfl rfl (lb rfl) fun a S => ?_
    exact leafL ⟨rfl, S⟩
  exact leafB (leafT (⟨(s6, z14), (Option.some.inj h).symm, (S.fix [] [] (by decide) rfl rfl rfl)⟩))

end Go.Proofs.YtdfjcpnflmgdoaaDoor
namespace Go.Proofs.YtdfjcpnflmgdoaaDoor
open Go.RowKit
set_option linter.unusedVariables false

noncomputable def F_raddleref23_Check (p0 : api_Ratio) : Option Int :=
  Option.bind (α := Bool) (
    if decide (p0.Den < 1) then
      some true
    else
      if decide (1000000000 < p0.Den) then
        some true
      else
        if decide (p0.Num < (-1000000000)) then
          some true
        else
          if decide (1000000000 < p0.Num) then
            some true
          else
            Option.bind (F_raddleref23_common p0.Num p0.Den) fun r11 =>
            some (r11 != 1)) fun o4 =>
  if o4 then
    some 8
  else
    some 0
set_option maxHeartbeats 4000000 in
set_option maxRecDepth 100000 in
theorem c_raddleref23_Check (E : Nat → Prop) (w0 : World) (p0 : api_Ratio) (v0 : Value) (r : Int) (h : F_raddleref23_Check p0 = some r) (S : St0 E [] w0 w0 [] [fRep r_api_Ratio (v0) p0]) :
    Calls Tryd.prog 13 #[v0] w0 (Ret (X := Unit) E [] w0 (fun _ => .int .i64 r) (fun _ => []) (fun _ => [])) := by
  unfold F_raddleref23_Check at h
  obtain rfl : v0 = .agg #[iv p0.Num, iv p0.Den] := S.know (i := 0) (e := fRep r_api_Ratio (v0) p0) rfl
  refine sEnter (args := [.agg #[iv p0.Num, iv p0.Den]]) 29 Tryd.func13 rfl rfl (by simp) S (fun a S => ?_)
  refine sSeq (fun K1 hK1 => ?_)
  refine sRegion ?_
  refine sBox (v := .agg #[iv p0.Num, iv p0.Den]) S (wN rfl) rfl rfl [iv p0.Num, iv p0.Den] rfl rfl (lb rfl) fun a b2 w S => ?_
  refine sMove (iv 0) S (wN rfl) (.inr rfl) rfl rfl (lb rfl) fun a S => ?_
  refine leafL (leafT (hK1 _ _ ?_))
  refine sSeq (fun K3 hK3 => ?_)
  obtain ⟨t5, h, g6⟩ := bindSome h
  refine sCut (fun a w => ∃ o4, o4 = t5 ∧ St [] E [] w0 29 a w [(28, .bool o4)] [] []) ?_ (fun a w hI => ?_)
  rotate_left
  · obtain ⟨o4, rfl, S⟩ := hI
    have h := g6
    clear g6
    try dsimp only at h
    rcases iteSome h with ⟨hc13, h⟩ | ⟨hc13, h⟩
    · refine sCondT S rfl hc13 ?_
      refine sSeq (fun K14 hK14 => ?_)
      refine sRegion ?_
      refine sMove (iv 8) S (wN rfl) (.inr rfl) rfl rfl (lb rfl) fun a S => ?_
      refine leafL (leafT (hK14 _ _ ?_))
      obtain rfl := Option.some.inj h
      exact wp_ret (rThen (sRet (iv 8) S (rsl1 rfl (rvT (t := 2) (v := iv 8) S rfl)) ⟨(), rfl, S.mem.sel [] [] (by decide) rfl rfl⟩))
    refine sCondF S rfl hc13 ?_
    refine wp_skip (leafT (hK3 _ _ ?_))
    refine sSeq (fun K15 hK15 => ?_)
    refine sRegion ?_
    refine sMove (iv 0) S (wN rfl) (.inr rfl) rfl rfl (lb rfl) fun a S => ?_
    refine leafL (leafT (hK15 _ _ ?_))
    obtain rfl := Option.some.inj h
    exact wp_ret (sRet (iv 0) S (rsl1 rfl (rvT (t := 2) (v := iv 0) S rfl)) ⟨(), rfl, S.mem.sel [] [] (by decide) rfl rfl⟩)
  refine sRegion ?_
  refine sField (b := b2) (off := 0) 1 1 S (wN rfl) rfl rfl rfl rfl rfl (lb rfl) fun a S => ?_
  refine sLoad1 (p := b2) (off := 1) (T := 23) (vs := [iv p0.Num, iv p0.Den]) 0 (iv p0.Den) S (wN rfl) rfl rfl rfl rfl rfl rfl (lb rfl) fun a S => ?_
  refine sBin (.bool (decide (p0.Den < 1))) S (wN rfl) rfl rfl rfl (bLt _ _ _ _ .i64 p0.Den 1) rfl (lb rfl) fun a S => ?_
  refine sMove (.bool (decide (p0.Den < 1))) S (wN rfl) (.inl rfl) rfl rfl (lb rfl) fun a S => ?_
  rcases iteSome h with ⟨hc7, h⟩ | ⟨hc7, h⟩
  · refine sSkip 3 false 6 7 S rfl rfl rfl hc7 rfl (lb rfl) fun a S => ?_
    refine sSkip 3 false 6 8 S rfl rfl rfl hc7 rfl (lb rfl) fun a S => ?_
    refine sSkip 3 false 6 9 S rfl rfl rfl hc7 rfl (lb rfl) fun a S => ?_
    refine sPickT (.bool true) S (wN rfl) rfl rfl hc7 rfl rfl (lb rfl) fun a S => ?_
    refine sMove (.bool true) S (wN rfl) (.inl rfl) rfl rfl (lb rfl) fun a S => ?_
    refine sSkip 8 false 11 12 S rfl rfl rfl rfl rfl (lb rfl) fun a S => ?_
    refine sSkip 8 false 11 13 S rfl rfl rfl rfl rfl (lb rfl) fun a S => ?_
    refine sSkip 8 false 11 14 S rfl rfl rfl rfl rfl (lb rfl) fun a S => ?_
    refine sPickT (.bool true) S (wN rfl) rfl rfl rfl rfl rfl (lb rfl) fun a S => ?_
    refine sMove (.bool true) S (wN rfl) (.inl rfl) rfl rfl (lb rfl) fun a S => ?_
    refine sSkip 13 false 16 17 S rfl rfl rfl rfl rfl (lb rfl) fun a S => ?_
    refine sSkip 13 false 16 18 S rfl rfl rfl rfl rfl (lb rfl) fun a S => ?_
    refine sSkip 13 false 16 19 S rfl rfl rfl rfl rfl (lb rfl) fun a S => ?_
    refine sPickT (.bool true) S (wN rfl) rfl rfl rfl rfl rfl (lb rfl) fun a S => ?_
    refine sMove (.bool true) S (wN rfl) (.inl rfl) rfl rfl (lb rfl) fun a S => ?_
    refine sSkip 18 false 21 22 S rfl rfl rfl rfl rfl (lb rfl) fun a S => ?_
    refine sSkip 18 false 21 23 S rfl rfl rfl rfl rfl (lb rfl) fun a S => ?_
    refine sSkip 18 false 21 24 S rfl rfl rfl rfl rfl (lb rfl) fun a S => ?_
    refine sSkip 18 false 21 25 S rfl rfl rfl rfl rfl (lb rfl) fun a S => ?_
    refine sSkip 18 false 21 26 S rfl rfl rfl rfl rfl (lb rfl) fun a S => ?_
    refine sSkip 18 false 21 27 S rfl rfl rfl rfl rfl (lb rfl) fun a S => ?_
    refine sPickT (.bool true) S (wN rfl) rfl rfl rfl rfl rfl (lb rfl) fun a S => ?_
    exact leafL (leafT (⟨true, Option.some.inj h, S.fix [] [] (by decide) rfl rfl rfl⟩))
  refine sField (b := b2) (off := 0) 1 1 S (wG 3 false 6 rfl rfl rfl hc7) rfl rfl rfl rfl rfl (lb rfl) fun a S => ?_
  refine sLoad1 (p := b2) (off := 1) (T := 23) (vs := [iv p0.Num, iv p0.Den]) 0 (iv p0.Den) S (wG 3 false 6 rfl rfl rfl hc7) rfl rfl rfl rfl rfl rfl (lb rfl) fun a S => ?_
  refine sBin (.bool (decide (1000000000 < p0.Den))) S (wG 3 false 6 rfl rfl rfl hc7) rfl rfl rfl (bGt _ _ _ _ .i64 p0.Den 1000000000) rfl (lb rfl) fun a S => ?_
  refine sPickF (.bool (decide (1000000000 < p0.Den))) S (wN rfl) rfl rfl hc7 rfl rfl (lb rfl) fun a S => ?_
  refine sMove (.bool (decide (1000000000 < p0.Den))) S (wN rfl) (.inl rfl) rfl rfl (lb rfl) fun a S => ?_
  rcases iteSome h with ⟨hc8, h⟩ | ⟨hc8, h⟩
  · refine sSkip 8 false 11 12 S rfl rfl rfl hc8 rfl (lb rfl) fun a S => ?_
    refine sSkip 8 false 11 13 S rfl rfl rfl hc8 rfl (lb rfl) fun a S => ?_
    refine sSkip 8 false 11 14 S rfl rfl rfl hc8 rfl (lb rfl) fun a S => ?_
    refine sPickT (.bool true) S (wN rfl) rfl rfl hc8 rfl rfl (lb rfl) fun a S => ?_
    refine sMove (.bool true) S (wN rfl) (.inl rfl) rfl rfl (lb rfl) fun a S => ?_
    refine sSkip 13 false 16 17 S rfl rfl rfl rfl rfl (lb rfl) fun a S => ?_
    refine sSkip 13 false 16 18 S rfl rfl rfl rfl rfl (lb rfl) fun a S => ?_
    refine sSkip 13 false 16 19 S rfl rfl rfl rfl rfl (lb rfl) fun a S => ?_
    refine sPickT (.bool true) S (wN rfl) rfl rfl rfl rfl rfl (lb rfl) fun a S => ?_
    refine sMove (.bool true) S (wN rfl) (.inl rfl) rfl rfl (lb rfl) fun a S => ?_
    refine sSkip 18 false 21 22 S rfl rfl rfl rfl rfl (lb rfl) fun a S => ?_
    refine sSkip 18 false 21 23 S rfl rfl rfl rfl rfl (lb rfl) fun a S => ?_
    refine sSkip 18 false 21 24 S rfl rfl rfl rfl rfl (lb rfl) fun a S => ?_
    refine sSkip 18 false 21 25 S rfl rfl rfl rfl rfl (lb rfl) fun a S => ?_
    refine sSkip 18 false 21 26 S rfl rfl rfl rfl rfl (lb rfl) fun a S => ?_
    refine sSkip 18 false 21 27 S rfl rfl rfl rfl rfl (lb rfl) fun a S => ?_
    refine sPickT (.bool true) S (wN rfl) rfl rfl rfl rfl rfl (lb rfl) fun a S => ?_
    exact leafL (leafT (⟨true, Option.some.inj h, S.fix [] [] (by decide) rfl rfl rfl⟩))
  refine sField (b := b2) (off := 0) 0 0 S (wG 8 false 11 rfl rfl rfl hc8) rfl rfl rfl rfl rfl (lb rfl) fun a S => ?_
  refine sLoad1 (p := b2) (off := 0) (T := 23) (vs := [iv p0.Num, iv p0.Den]) 0 (iv p0.Num) S (wG 8 false 11 rfl rfl rfl hc8) rfl rfl rfl rfl rfl rfl (lb rfl) fun a S => ?_
  refine sBin (.bool (decide (p0.Num < (-1000000000)))) S (wG 8 false 11 rfl rfl rfl hc8) rfl rfl rfl (bLt _ _ _ _ .i64 p0.Num (-1000000000)) rfl (lb rfl) fun a S => ?_
  refine sPickF (.bool (decide (p0.Num < (-1000000000)))) S (wN rfl) rfl rfl hc8 rfl rfl (lb rfl) fun a S => ?_
  refine sMove (.bool (decide (p0.Num < (-1000000000)))) S (wN rfl) (.inl rfl) rfl rfl (lb rfl) fun a S => ?_
  rcases iteSome h with ⟨hc9, h⟩ | ⟨hc9, h⟩
  · refine sSkip 13 false 16 17 S rfl rfl rfl hc9 rfl (lb rfl) fun a S => ?_
    refine sSkip 13 false 16 18 S rfl rfl rfl hc9 rfl (lb rfl) fun a S => ?_
    refine sSkip 13 false 16 19 S rfl rfl rfl hc9 rfl (lb rfl) fun a S => ?_
    refine sPickT (.bool true) S (wN rfl) rfl rfl hc9 rfl rfl (lb rfl) fun a S => ?_
    refine sMove (.bool true) S (wN rfl) (.inl rfl) rfl rfl (lb rfl) fun a S => ?_
    refine sSkip 18 false 21 22 S rfl rfl rfl rfl rfl (lb rfl) fun a S => ?_
    refine sSkip 18 false 21 23 S rfl rfl rfl rfl rfl (lb rfl) fun a S => ?_
    refine sSkip 18 false 21 24 S rfl rfl rfl rfl rfl (lb rfl) fun a S => ?_
    refine sSkip 18 false 21 25 S rfl rfl rfl rfl rfl (lb rfl) fun a S => ?_
    refine sSkip 18 false 21 26 S rfl rfl rfl rfl rfl (lb rfl) fun a S => ?_
    refine sSkip 18 false 21 27 S rfl rfl rfl rfl rfl (lb rfl) fun a S => ?_
    refine sPickT (.bool true) S (wN rfl) rfl rfl rfl rfl rfl (lb rfl) fun a S => ?_
    exact leafL (leafT (⟨true, Option.some.inj h, S.fix [] [] (by decide) rfl rfl rfl⟩))
  refine sField (b := b2) (off := 0) 0 0 S (wG 13 false 16 rfl rfl rfl hc9) rfl rfl rfl rfl rfl (lb rfl) fun a S => ?_
  refine sLoad1 (p := b2) (off := 0) (T := 23) (vs := [iv p0.Num, iv p0.Den]) 0 (iv p0.Num) S (wG 13 false 16 rfl rfl rfl hc9) rfl rfl rfl rfl rfl rfl (lb rfl) fun a S => ?_
  refine sBin (.bool (decide (1000000000 < p0.Num))) S (wG 13 false 16 rfl rfl rfl hc9) rfl rfl rfl (bGt _ _ _ _ .i64 p0.Num 1000000000) rfl (lb rfl) fun a S => ?_
  refine sPickF (.bool (decide (1000000000 < p0.Num))) S (wN rfl) rfl rfl hc9 rfl rfl (lb rfl) fun a S => ?_
  refine sMove (.bool (decide (1000000000 < p0.Num))) S (wN rfl) (.inl rfl) rfl rfl (lb rfl) fun a S => ?_
  rcases iteSome h with ⟨hc10, h⟩ | ⟨hc10, h⟩
  · refine sSkip 18 false 21 22 S rfl rfl rfl hc10 rfl (lb rfl) fun a S => ?_
    refine sSkip 18 false 21 23 S rfl rfl rfl hc10 rfl (lb rfl) fun a S => ?_
    refine sSkip 18 false 21 24 S rfl rfl rfl hc10 rfl (lb rfl) fun a S => ?_
    refine sSkip 18 false 21 25 S rfl rfl rfl hc10 rfl (lb rfl) fun a S => ?_
    refine sSkip 18 false 21 26 S rfl rfl rfl hc10 rfl (lb rfl) fun a S => ?_
    refine sSkip 18 false 21 27 S rfl rfl rfl hc10 rfl (lb rfl) fun a S => ?_
    refine sPickT (.bool true) S (wN rfl) rfl rfl hc10 rfl rfl (lb rfl) fun a S => ?_
    exact leafL (leafT (⟨true, Option.some.inj h, S.fix [] [] (by decide) rfl rfl rfl⟩))
  refine sField (b := b2) (off := 0) 0 0 S (wG 18 false 21 rfl rfl rfl hc10) rfl rfl rfl rfl rfl (lb rfl) fun a S => ?_
  refine sLoad1 (p := b2) (off := 0) (T := 23) (vs := [iv p0.Num, iv p0.Den]) 0 (iv p0.Num) S (wG 18 false 21 rfl rfl rfl hc10) rfl rfl rfl rfl rfl rfl (lb rfl) fun a S => ?_
  refine sField (b := b2) (off := 0) 1 1 S (wG 18 false 21 rfl rfl rfl hc10) rfl rfl rfl rfl rfl (lb rfl) fun a S => ?_
  refine sLoad1 (p := b2) (off := 1) (T := 23) (vs := [iv p0.Num, iv p0.Den]) 0 (iv p0.Den) S (wG 18 false 21 rfl rfl rfl hc10) rfl rfl rfl rfl rfl rfl (lb rfl) fun a S => ?_
  obtain ⟨r11, hx12, h⟩ := bindSome h
  have S1 := S.mem
  refine sCallQ (X := Unit) (f := 12) (vs := [iv p0.Num, iv p0.Den]) (val := fun _ => iv r11) S (wG 18 false 21 rfl rfl rfl hc10) rfl callee12 rfl (S1.quiet [] rfl) (fun E1 w1 S1 => c_raddleref23_common E1 w1 p0.Num p0.Den r11 hx12 S1) rfl (lb rfl) fun _ a w S => ?_
  refine sBin (.bool (r11 != 1)) S (wG 18 false 21 rfl rfl rfl hc10) rfl rfl rfl (bNe _ _ _ _ .i64 r11 1) rfl (lb rfl) fun a S => ?_
  refine sPickF (.bool (r11 != 1)) S (wN rfl) rfl rfl hc10 rfl rfl (lb rfl) fun a S => ?_
  exact leafL (leafT (⟨r11 != 1, Option.some.inj h, S.fix [] [] (by decide) rfl rfl rfl⟩))

end Go.Proofs.YtdfjcpnflmgdoaaDoor
