/- What a value in memory reads as (R), what is kept of memory (Fact), what a call owns of it (Ent), and the state of memory (St0). -/
import Derived.WalkKit
import Derived.Maps.AppendAt
import Derived.Deep.AppendLies
import Derived.KernelRfl
import Derived.Laws.OwnMore
namespace Go.Proofs.Ytdbgkakmhlmpbaa
open Go.RowKit
set_option linter.unusedVariables false

/-- memory has grown; outside the blocks of K nothing has changed -/
structure Chg (K : List Nat) (w w' : World) : Prop where
  os : w'.os = w.os
  tape : w'.tape = w.tape
  output : w'.output = w.output
  size : w.heap.size ≤ w'.heap.size
  block : ∀ k, k < w.heap.size → k ∉ K → w'.heap[k]? = w.heap[k]?
theorem Chg.refl (K : List Nat) (w : World) : Chg K w w := ⟨rfl, rfl, rfl, Nat.le_refl _, fun _ _ _ => rfl⟩
theorem Chg.alloc (K : List Nat) (w : World) (o : Obj) : Chg K w (w.alloc o) := ⟨rfl, rfl, rfl, by simp, fun i h _ => heap_alloc_old w o h⟩
theorem Chg.drew {K : List Nat} {w w' : World} (h : Chg K w w') : Chg K w w'.drew := ⟨h.os, h.tape, h.output, h.size, h.block⟩
theorem Chg.setCell {K : List Nat} (w : World) (a : Addr) (u : Value) (ha : a.block ∈ K) : Chg K w (w.setCell a u) :=
  ⟨rfl, rfl, rfl, by simp [World.setCell], fun k _ hk => heap_setCell_other w a k u (fun e => hk (e ▸ ha))⟩
theorem Chg.grown {w w' : World} {row : Option Nat} {K : List Nat} (h : w.grownBy w' row) (hr : ∀ k, row = some k → k ∈ K) : Chg K w w' :=
  ⟨h.os, h.tape, h.output, h.size, fun k hk hn => h.block k hk (fun e => hn (hr k e.symm))⟩
theorem Chg.mono {K K' : List Nat} {w w' : World} (h : Chg K w w') (hs : ∀ k, k ∈ K → k ∈ K') : Chg K' w w' := ⟨h.os, h.tape, h.output, h.size, fun k hk hn => h.block k hk (fun e => hn (hs k e))⟩
/-- two steps: the second one may change what is new besides -/
theorem Chg.trans {K K' : List Nat} {a b c : World} (h : Chg K a b) (k : Chg K' b c) (hs : ∀ j, j ∈ K' → j ∈ K ∨ a.heap.size ≤ j) : Chg K a c :=
  ⟨k.os.trans h.os, k.tape.trans h.tape, k.output.trans h.output, Nat.le_trans h.size k.size, fun i hi hn => (k.block i (Nat.lt_of_lt_of_le hi h.size) (fun e => by
    rcases hs i e with h1 | h1
    · exact hn h1
    · omega)).trans (h.block i hi hn)⟩

/-- A step of memory, seen by what lies outside the excluded blocks. -/
structure Ext (E E' : Nat → Prop) (w w' : World) : Prop where
  size : w.heap.size ≤ w'.heap.size
  same : ∀ b, b < w.heap.size → ¬ E b → w'.heap[b]? = w.heap[b]?
  excl : ∀ b, b < w.heap.size → E' b → E b

/-- How a value reads: sz cells; outside the excluded blocks. -/
structure R (α : Type) where
  sz : Nat
  rep : (Nat → Prop) → World → Value → α → Prop
  pos : 0 < sz
  size : ∀ {E w v x}, rep E w v x → v.cells.size = sz
  one : ∀ {E w v x}, rep E w v x → ∀ u, u ∈ v.cells.toList → u.oneCell' = true
  mono : ∀ {E E' w w' v x}, Ext E E' w w' → rep E w v x → rep E' w' v x

def rI (k : IntKind) : R Int where
  sz := 1
  rep := fun _ _ v x => v = .int k x
  pos := by decide
  size := by rintro _ _ _ _ rfl; rfl
  one := by rintro _ _ _ _ rfl u hu; simp [Value.cells] at hu; subst hu; rfl
  mono := fun _ h => h
def rB : R Bool where
  sz := 1
  rep := fun _ _ v x => v = .bool x
  pos := by decide
  size := by rintro _ _ _ _ rfl; rfl
  one := by rintro _ _ _ _ rfl u hu; simp [Value.cells] at hu; subst hu; rfl
  mono := fun _ h => h
def rS : R ByteArray where
  sz := 1
  rep := fun _ _ v x => v = .string x
  pos := by decide
  size := by rintro _ _ _ _ rfl; rfl
  one := by rintro _ _ _ _ rfl u hu; simp [Value.cells] at hu; subst hu; rfl
  mono := fun _ h => h

/-- the cells of values, one behind the other -/
def flat (vs : List Value) : List Value := (vs.map fun v => v.cells.toList).flatten
/-- values read as a list's elements -/
def All {α : Type} (r : R α) (E : Nat → Prop) (w : World) (vs : List Value) (xs : List α) : Prop := vs.length = xs.length ∧ ∀ (k : Nat) (v : Value) (x : α), vs[k]? = some v → xs[k]? = some x → r.rep E w v x
theorem All.mono {α : Type} {r : R α} {E E' : Nat → Prop} {w w' : World} {vs : List Value} {xs : List α} (h : Ext E E' w w') (a : All r E w vs xs) : All r E' w' vs xs :=
  ⟨a.1, fun k v x hv hx => r.mono h (a.2 k v x hv hx)⟩
theorem All.nil {α : Type} (r : R α) (E : Nat → Prop) (w : World) : All r E w [] [] := ⟨rfl, fun k v x hv _ => by simp at hv⟩
theorem All.append {α : Type} {r : R α} {E : Nat → Prop} {w : World} {vs us : List Value} {xs ys : List α} (a : All r E w vs xs) (b : All r E w us ys) : All r E w (vs ++ us) (xs ++ ys) := by
  refine ⟨by simp [a.1, b.1], fun k v x hv hx => ?_⟩
  by_cases hk : k < vs.length
  · rw [List.getElem?_append_left hk] at hv
    rw [List.getElem?_append_left (by rw [← a.1]; exact hk)] at hx
    exact a.2 k v x hv hx
  · rw [List.getElem?_append_right (by omega)] at hv
    rw [List.getElem?_append_right (by rw [← a.1]; omega)] at hx
    rw [← a.1] at hx
    exact b.2 _ v x hv hx
theorem All.one {α : Type} {r : R α} {E : Nat → Prop} {w : World} {v : Value} {x : α} (h : r.rep E w v x) : All r E w [v] [x] := by
  refine ⟨rfl, fun k v' x' hv hx => ?_⟩
  match k, hv, hx with
  | 0, hv, hx => simp at hv hx; subst hv hx; exact h
  | k + 1, hv, _ => simp at hv
theorem All.cells {α : Type} {r : R α} {E : Nat → Prop} {w : World} {vs : List Value} {xs : List α} (a : All r E w vs xs) : ∀ v, v ∈ vs → v.cells.size = r.sz ∧ ∀ u, u ∈ v.cells.toList → u.oneCell' = true := by
  intro v hv
  obtain ⟨k, hk, rfl⟩ := List.getElem_of_mem hv
  have h1 : vs[k]? = some vs[k] := List.getElem?_eq_getElem hk
  have h2 : xs[k]? = some (xs[k]'(by rw [← a.1]; exact hk)) := List.getElem?_eq_getElem _
  exact ⟨r.size (a.2 k _ _ h1 h2), r.one (a.2 k _ _ h1 h2)⟩
theorem flat_append (vs us : List Value) : flat (vs ++ us) = flat vs ++ flat us := by simp [flat]
theorem flat_length {sz : Nat} {vs : List Value} (h : ∀ v, v ∈ vs → v.cells.size = sz) : (flat vs).length = vs.length * sz := by
  induction vs with
  | nil => simp [flat]
  | cons v vs ih =>
    have h1 := h v (by simp)
    have h2 := ih (fun u hu => h u (by simp [hu]))
    simp only [flat, List.map_cons, List.flatten_cons, List.length_append, Array.length_toList] at h2 ⊢
    rw [h1, h2, List.length_cons, Nat.add_mul, Nat.one_mul, Nat.add_comm]
/-- the cells of value k -/
theorem flat_get {sz : Nat} {vs : List Value} (h : ∀ v, v ∈ vs → v.cells.size = sz) {k j : Nat} {v : Value} (hv : vs[k]? = some v) (hj : j < sz) : (flat vs)[k * sz + j]? = v.cells.toList[j]? := by
  induction vs generalizing k with
  | nil => simp at hv
  | cons u vs ih =>
    have h1 := h u (by simp)
    have h2 := fun v hv => h v (List.mem_cons_of_mem u hv)
    cases k with
    | zero =>
      simp at hv; subst hv
      simp only [flat, List.map_cons, List.flatten_cons, Nat.zero_mul, Nat.zero_add]
      rw [List.getElem?_append_left (by simpa [h1] using hj)]
    | succ k =>
      simp at hv
      have := ih h2 hv
      simp only [flat, List.map_cons, List.flatten_cons] at this ⊢
      rw [List.getElem?_append_right (by simp [h1, Nat.add_mul]; omega), ← this]
      congr 1
      simp [h1, Nat.add_mul]
      omega
theorem flat_one {vs : List Value} (h : ∀ v, v ∈ vs → ∀ u, u ∈ v.cells.toList → u.oneCell' = true) : ∀ u, u ∈ flat vs → u.oneCell' = true := by
  intro u hu
  simp only [flat, List.mem_flatten, List.mem_map] at hu
  obtain ⟨l, ⟨v, hv, rfl⟩, hl⟩ := hu
  exact h v hv u hl

/-- A slice that is read: its cells lie outside the excluded blocks. -/
def rL {α : Type} (r : R α) : R (List α) where
  sz := 1
  rep := fun E w v xs => ∃ a c vs, v = .slice a xs.length c ∧ xs.length ≤ c ∧ xs.length ≤ 9223372036854775807 ∧ All r E w vs xs ∧
    ∀ k u, (flat vs)[k]? = some u → ∃ b off, a = some ⟨b, off, none⟩ ∧ ¬ E b ∧ b < w.heap.size ∧ w.cell? ⟨b, off + k, none⟩ = some u
  pos := by decide
  size := by rintro _ _ _ _ ⟨a, c, vs, rfl, _⟩; rfl
  one := by rintro _ _ _ _ ⟨a, c, vs, rfl, _⟩ u hu; simp [Value.cells] at hu; subst hu; rfl
  mono := by
    rintro E E' w w' v xs h ⟨a, c, vs, hv, hc, hm, ha, hcells⟩
    refine ⟨a, c, vs, hv, hc, hm, ha.mono h, fun k u hu => ?_⟩
    obtain ⟨b, off, h1, h2, h3, h4⟩ := hcells k u hu
    refine ⟨b, off, h1, fun e => h2 (h.excl b h3 e), Nat.lt_of_lt_of_le h3 h.size, ?_⟩
    rw [World.cell?_of_block (w := w) (h.same b h3 h2)]
    exact h4

/-- An array of n elements as a value. -/
def rA {α : Type} (n : Nat) (hn : 0 < n) (r : R α) : R (List α) where
  sz := n * r.sz
  rep := fun E w v xs => ∃ vs, v = .agg (flat vs).toArray ∧ vs.length = n ∧ All r E w vs xs
  pos := Nat.mul_pos hn r.pos
  size := by
    rintro _ _ _ _ ⟨vs, rfl, hl, ha⟩
    simp only [Value.cells, List.size_toArray]
    rw [flat_length (fun v hv => (ha.cells v hv).1), hl]
  one := by
    rintro _ _ _ _ ⟨vs, rfl, hl, ha⟩
    simp only [Value.cells]
    exact flat_one (fun v hv => (ha.cells v hv).2)
  mono := by
    rintro E E' w w' v xs h ⟨vs, hv, hl, ha⟩
    exact ⟨vs, hv, hl, ha.mono h⟩

/-- a struct of two parts; more parts: nested by rPair -/
def rPair {α β : Type} (r : R α) (s : R β) : R (α × β) where
  sz := r.sz + s.sz
  rep := fun E w v x => ∃ v1 v2, v = .agg (v1.cells ++ v2.cells) ∧ r.rep E w v1 x.1 ∧ s.rep E w v2 x.2
  pos := Nat.lt_of_lt_of_le r.pos (Nat.le_add_right _ _)
  size := by
    rintro _ _ _ _ ⟨v1, v2, rfl, h1, h2⟩
    simp [Value.cells]
    have := r.size h1
    have := s.size h2
    simp only [Value.cells] at *
    omega
  one := by
    rintro _ _ _ _ ⟨v1, v2, rfl, h1, h2⟩ u hu
    simp only [Value.cells, Array.toList_append, List.mem_append] at hu
    rcases hu with hu | hu
    · exact r.one h1 u hu
    · exact s.one h2 u hu
  mono := by
    rintro E E' w w' v x h ⟨v1, v2, hv, h1, h2⟩
    exact ⟨v1, v2, hv, r.mono h h1, s.mono h h2⟩
/-- a type of its own, by a map onto what reads -/
def rMap {α β : Type} (r : R β) (f : α → β) : R α where
  sz := r.sz
  rep := fun E w v x => r.rep E w v (f x)
  pos := r.pos
  size := fun h => r.size h
  one := fun h => r.one h
  mono := fun h k => r.mono h k

/-- what is known of memory outside the excluded blocks -/
structure Fact where
  p : (Nat → Prop) → World → Prop
  mono : ∀ {E E' w w'}, Ext E E' w w' → p E w → p E' w'
def fRep {α : Type} (r : R α) (v : Value) (x : α) : Fact := ⟨fun E w => r.rep E w v x, fun h k => r.mono h k⟩

/-- what a call owns: the blocks, what they hold -/
structure Ent where
  keys : List Nat
  p : (Nat → Prop) → World → Prop
  mono : ∀ {E E' w w'}, Ext E E' w w' → (∀ b, b ∈ keys → w'.heap[b]? = w.heap[b]?) → p E w → p E' w'
  lt : ∀ {E w}, p E w → ∀ b, b ∈ keys → b < w.heap.size
/-- a block of cells (a variable in memory) -/
def eBox (b : Nat) (T : TypeId) (vs : List Value) : Ent where
  keys := [b]
  p := fun _ w => w.heap[b]? = some (.cells vs.toArray T (0, 0))
  mono := fun _ hs h => by rw [hs b (by simp)]; exact h
  lt := fun h k hk => by
    simp at hk; subst hk
    exact (Array.getElem?_eq_some_iff.1 h).1
def vkeys : Value → List Nat
  | .slice (some a) _ _ => [a.block]
  | _ => []
/-- a slice of the call's own -/
def eRow {α : Type} (r : R α) (T : TypeId) (v : Value) (xs : List α) : Ent where
  keys := vkeys v
  p := fun E w => ∃ vs, All r E w vs xs ∧ xs.length ≤ 68719476736 ∧ w.ownsRow 0 T r.sz v xs.length (flat vs)
  mono := by
    rintro E E' w w' h hs ⟨vs, ha, hm, hl, ho⟩
    refine ⟨vs, ha.mono h, hm, hl, ?_⟩
    rcases ho with ho | ⟨g, cap, cur, hv, hg, hh, hr⟩
    · exact .inl ho
    · subst hv
      exact .inr ⟨g, cap, cur, rfl, hg, by rw [hs g (by simp [vkeys])]; exact hh, hr⟩
  lt := by
    rintro E w ⟨vs, ha, _, hl, ho⟩ b hb
    rcases ho with ⟨ho, _⟩ | ⟨g, cap, cur, hv, hg, hh, hr⟩
    · subst ho; simp [vkeys] at hb
    · subst hv
      simp [vkeys] at hb; subst hb
      exact (Array.getElem?_eq_some_iff.1 hh).1

def keysL (L : List Ent) : List Nat := (L.map (·.keys)).flatten
theorem keysL_append (A B : List Ent) : keysL (A ++ B) = keysL A ++ keysL B := by simp [keysL]
theorem keysL_mem {L : List Ent} {b : Nat} : b ∈ keysL L ↔ ∃ e, e ∈ L ∧ b ∈ e.keys := by
  simp only [keysL, List.mem_flatten, List.mem_map]
  exact ⟨fun ⟨l, ⟨e, h1, h2⟩, h3⟩ => ⟨e, h1, h2 ▸ h3⟩, fun ⟨e, h1, h2⟩ => ⟨_, ⟨e, h1, rfl⟩, h2⟩⟩
def tot (E : Nat → Prop) (L : List Ent) (b : Nat) : Prop := E b ∨ b ∈ keysL L

/-- The state of memory: of what was there at w0 only the blocks of M have changed; L is owned; D is known. E: the blocks that are not ours to read. -/
structure St0 (E : Nat → Prop) (M : List Nat) (w0 w : World) (L : List Ent) (D : List Fact) : Prop where
  chg : Chg M w0 w
  ent : ∀ e, e ∈ L → e.p (tot E L) w
  fact : ∀ d, d ∈ D → d.p (tot E L) w
  nodup : (keysL L).Nodup
  key : ∀ b, b ∈ keysL L → (w0.heap.size ≤ b ∨ b ∈ M) ∧ ¬ E b
  bnd : ∀ b, E b → b < w0.heap.size

theorem St0.lt {E : Nat → Prop} {M : List Nat} {w0 w : World} {L : List Ent} {D : List Fact} (S : St0 E M w0 w L D) : ∀ b, b ∈ keysL L → b < w.heap.size := by
  intro b hb
  obtain ⟨e, he, hk⟩ := keysL_mem.1 hb
  exact e.lt (S.ent e he) b hk

/-- THE STEP: the owned things of B become those of B'; the rest R and the facts stay. -/
theorem St0.upd {E : Nat → Prop} {M : List Nat} {w0 w w' : World} {B Rs : List Ent} {D : List Fact} (S : St0 E M w0 w (B ++ Rs) D) (hk : Chg (keysL B) w w') (B' : List Ent) (D' : List Fact)
    (h : St0 (tot E Rs) (keysL B) w w' B' D') : St0 E M w0 w' (B' ++ Rs) (D' ++ D) := by
  have hlt := S.lt
  have hnd := S.nodup
  rw [keysL_append, List.nodup_append] at hnd
  obtain ⟨_, n2, n3⟩ := hnd
  have hE : ∀ b, tot (tot E Rs) B' b ↔ tot E (B' ++ Rs) b := by
    intro b
    simp only [tot, keysL_append, List.mem_append]
    constructor
    · rintro ((h | h) | h)
      · exact .inl h
      · exact .inr (.inr h)
      · exact .inr (.inl h)
    · rintro (h | h | h)
      · exact .inl (.inl h)
      · exact .inr h
      · exact .inl (.inr h)
  have hEq : tot (tot E Rs) B' = tot E (B' ++ Rs) := funext fun b => propext (hE b)
  have hext : Ext (tot E (B ++ Rs)) (tot E (B' ++ Rs)) w w' := by
    refine ⟨hk.size, fun b hb hn => hk.block b hb (fun e => hn (.inr (by rw [keysL_append]; exact List.mem_append_left _ e))), fun b hb he => ?_⟩
    rcases he with he | he
    · exact .inl he
    · rw [keysL_append, List.mem_append] at he
      rcases he with he | he
      · rcases (h.key b he).1 with h1 | h1
        · omega
        · exact .inr (by rw [keysL_append]; exact List.mem_append_left _ h1)
      · exact .inr (by rw [keysL_append]; exact List.mem_append_right _ he)
  refine ⟨?_, ?_, ?_, ?_, ?_, S.bnd⟩
  · refine S.chg.trans hk (fun j hj => ?_)
    rcases (S.key j (by rw [keysL_append]; exact List.mem_append_left _ hj)).1 with h1 | h1
    · exact .inr h1
    · exact .inl h1
  · intro e he
    rcases List.mem_append.1 he with he | he
    · rw [← hEq]; exact h.ent e he
    · refine e.mono hext (fun b hb => ?_) (S.ent e (List.mem_append_right _ he))
      have hb2 : b ∈ keysL Rs := keysL_mem.2 ⟨e, he, hb⟩
      exact hk.block b (hlt b (by rw [keysL_append]; exact List.mem_append_right _ hb2)) (fun h1 => n3 b h1 b hb2 rfl)
  · intro d hd
    rcases List.mem_append.1 hd with hd | hd
    · rw [← hEq]; exact h.fact d hd
    · exact d.mono hext (S.fact d hd)
  · rw [keysL_append, List.nodup_append]
    refine ⟨h.nodup, n2, fun b hb c hc e => ?_⟩
    subst e
    exact (h.key b hb).2 (.inr hc)
  · intro b hb
    rw [keysL_append, List.mem_append] at hb
    rcases hb with hb | hb
    · refine ⟨?_, fun e => (h.key b hb).2 (.inl e)⟩
      rcases (h.key b hb).1 with h1 | h1
      · exact .inl (Nat.le_trans S.chg.size h1)
      · exact (S.key b (by rw [keysL_append]; exact List.mem_append_left _ h1)).1
    · exact S.key b (by rw [keysL_append]; exact List.mem_append_right _ hb)

/-- another order, or fewer, of the owned things; fewer facts -/
theorem St0.sub {E : Nat → Prop} {M : List Nat} {w0 w : World} {L L' : List Ent} {D D' : List Fact} (S : St0 E M w0 w L D) (hL : ∀ e, e ∈ L' → e ∈ L) (hn : (keysL L').Nodup) (hD : ∀ d, d ∈ D' → d ∈ D) : St0 E M w0 w L' D' := by
  have hk : ∀ b, b ∈ keysL L' → b ∈ keysL L := fun b hb => by
    obtain ⟨e, he, h⟩ := keysL_mem.1 hb
    exact keysL_mem.2 ⟨e, hL e he, h⟩
  have hext : Ext (tot E L) (tot E L') w w := ⟨Nat.le_refl _, fun _ _ _ => rfl, fun b _ h => h.imp id (hk b)⟩
  exact ⟨S.chg, fun e he => e.mono hext (fun _ _ => rfl) (S.ent e (hL e he)), fun d hd => d.mono hext (S.fact d (hD d hd)), hn, fun b hb => S.key b (hk b hb), S.bnd⟩
theorem nodup_sub {L L' : List Ent} (h : L'.Sublist L) (hn : (keysL L).Nodup) : (keysL L').Nodup := by
  have hs : (keysL L').Sublist (keysL L) := by
    clear hn
    induction h with
    | slnil => exact List.Sublist.refl _
    | cons e _ ih => exact ih.trans (by simp [keysL])
    | cons_cons e _ ih => simpa [keysL] using ih
  exact hn.sublist hs
theorem keysL_perm {L L' : List Ent} (h : L'.Perm L) (hn : (keysL L).Nodup) : (keysL L').Nodup := by
  unfold keysL at *
  exact (List.Perm.flatten (h.map _)).nodup_iff.2 hn
theorem St0.perm {E : Nat → Prop} {M : List Nat} {w0 w : World} {L L' : List Ent} {D : List Fact} (S : St0 E M w0 w L D) (h : L'.Perm L) : St0 E M w0 w L' D :=
  S.sub (fun _ he => h.mem_iff.1 he) (keysL_perm h S.nodup) (fun _ h => h)
theorem St0.drew {E : Nat → Prop} {M : List Nat} {w0 w : World} {L : List Ent} {D : List Fact} (S : St0 E M w0 w L D) : St0 E M w0 w.drew L D := by
  have hext : Ext (tot E L) (tot E L) w w.drew := ⟨Nat.le_refl _, fun _ _ _ => rfl, fun b _ h => h⟩
  exact ⟨S.chg.drew, fun e he => e.mono hext (fun _ _ => rfl) (S.ent e he), fun d hd => d.mono hext (S.fact d hd), S.nodup, S.key, S.bnd⟩
/-- what is owned becomes read-only: the facts on it follow -/
theorem St0.enter {E : Nat → Prop} {w : World} {B : List Ent} {D : List Fact} {M : List Nat} {w0 : World} {Rs : List Ent} {D0 : List Fact} (S : St0 E M w0 w (B ++ Rs) D0) (hD : ∀ d, d ∈ D → d ∈ D0) : St0 (tot E Rs) (keysL B) w w B D := by
  have hnd := S.nodup
  rw [keysL_append, List.nodup_append] at hnd
  obtain ⟨n1, n2, n3⟩ := hnd
  have hEq : tot (tot E Rs) B = tot E (B ++ Rs) := by
    funext b
    simp only [tot, keysL_append, List.mem_append]
    exact propext ⟨fun h => by rcases h with (h | h) | h; exact .inl h; exact .inr (.inr h); exact .inr (.inl h), fun h => by rcases h with h | h | h; exact .inl (.inl h); exact .inr h; exact .inl (.inr h)⟩
  refine ⟨Chg.refl _ _, fun e he => by rw [hEq]; exact S.ent e (List.mem_append_left _ he), fun d hd => by rw [hEq]; exact S.fact d (hD d hd), n1, fun b hb => ⟨.inr hb, fun h => ?_⟩, fun b hb => ?_⟩
  · rcases h with h | h
    · exact (S.key b (by rw [keysL_append]; exact List.mem_append_left _ hb)).2 h
    · exact n3 b hb b h rfl
  · rcases hb with hb | hb
    · exact Nat.lt_of_lt_of_le (S.bnd b hb) S.chg.size
    · exact S.lt b (by rw [keysL_append]; exact List.mem_append_right _ hb)

end Go.Proofs.Ytdbgkakmhlmpbaa
