/- Loads, stores, indexes, slices, calls over the state of a walk. -/
import Derived.Test.YtdbgkakmhlmpbaaSpD
namespace Go.Proofs.Ytdbgkakmhlmpbaa
open Go.RowKit
set_option linter.unusedVariables false

/-- is a type's value an aggregate: known -/
def aggB (P : Program) (t : TypeId) : Option Bool := (P.underlying t).map fun d => match d with | .struct _ | .array _ _ => true | _ => false
def cellsB (P : Program) (t : TypeId) : Option Nat := (P.info? t).map (·.size)
/-- where a field lies -/
def fieldB (P : Program) (s : TypeId) (f : Nat) : Option Nat := match P.underlying s with
  | some (.struct fs) => (fs[f]?).bind fun fl => match P.info? fl.type with | some i => if i.size = 0 then none else some fl.offset | none => none
  | _ => none
def over (vs : List Value) (off : Nat) (cs : List Value) : List Value := vs.take off ++ cs ++ vs.drop (off + cs.length)
def Scal {α : Type} (r : R α) : Prop := ∀ E w v x, r.rep E w v x → v.cells = #[v]
def Aggr {α : Type} (r : R α) : Prop := ∀ E w v x, r.rep E w v x → ∃ cs, v = .agg cs
theorem scal_I (k : IntKind) : Scal (rI k) := by rintro _ _ _ _ rfl; rfl
theorem scal_B : Scal rB := by rintro _ _ _ _ rfl; rfl
theorem scal_S : Scal rS := by rintro _ _ _ _ rfl; rfl
theorem scal_L {α : Type} (r : R α) : Scal (rL r) := by rintro _ _ _ _ ⟨_, _, _, rfl, _⟩; rfl
/-- s lies in r at the offset o, reading f -/
def Comp {α β : Type} (r : R α) (s : R β) (o : Nat) (f : α → β) : Prop := ∀ E w v x, r.rep E w v x → ∃ u, s.rep E w u (f x) ∧ ∀ (j : Nat) (c : Value), u.cells.toList[j]? = some c → v.cells.toList[o + j]? = some c
/-- q points into v's own block, at element j -/
def OwnP (sz : Nat) (v q : Value) (j : Nat) : Prop := ∃ g m c, v = .slice (some ⟨g, 0, none⟩) m c ∧ q = .pointer (some ⟨g, j * sz, none⟩)

section
variable {P : Program} {dq : List Deferred} {E : Nat → Prop} {M : List Nat} {w0 : World} {n : Nat} {a : Act} {w : World} {F : List (Nat × Value)} {L : List Ent} {D : List Fact} {Q : Exit → Act → World → Prop}
variable {ops : Array Oper} {rest : List Oper} {o : Oper} {d : Nat}

theorem run_isAgg {t : TypeId} {b : Bool} (h : aggB P t = some b) (w : World) : (isAgg t).run P w = .ok b w := by
  unfold aggB at h
  cases hu : P.underlying t with
  | none => simp [hu] at h
  | some dd =>
    simp only [hu, Option.map_some, Option.some.injEq] at h
    subst h
    cases dd <;> simp [isAgg, run_underlying hu]
theorem run_sizeOf' {t : TypeId} {m : Nat} (h : cellsB P t = some m) (w : World) : (sizeOf t).run P w = .ok m w := by
  unfold cellsB at h
  cases hu : P.info? t with
  | none => simp [hu] at h
  | some dd =>
    simp only [hu, Option.map_some, Option.some.injEq] at h
    subst h
    simp [sizeOf, typeInfo, hu]

/-- a field's address -/
theorem run_fieldAt {s : TypeId} {f k : Nat} (h : fieldB P s f = some k) (b off : Nat) (w : World) : (Instr.fieldAt s (.pointer (some ⟨b, off, none⟩)) f).run P w = .ok (.pointer (some ⟨b, off + k, none⟩)) w := by
  unfold fieldB at h
  split at h
  · rename_i fs hu
    cases hf : fs[f]? with
    | none => simp [hf] at h
    | some fl =>
      simp only [hf, Option.bind_some] at h
      cases hi : P.info? fl.type with
      | none => simp [hi] at h
      | some i =>
        simp only [hi] at h
        split at h
        · cases h
        · rename_i hs
          cases h
          simp [Instr.fieldAt, run_underlying hu, hf, Instr.sureAddr, fieldPlace, sizeOf, typeInfo, hi, hs, add_addr]
  · cases h
theorem sField {s : TypeId} {x : Operand} {f b off : Nat} (k off' : Nat) (S : St dq E M w0 n a w F L D)
    (hw : ∀ a, Frm dq n a F → Region.wanted o (yielded ops a.tmps) = true) (ho : o.op = .fieldAddr s x f) (hx : lookO F x = some (.pointer (some ⟨b, off, none⟩))) (hf : fieldB P s f = some k) (hoff : off + k = off') (hd : o.dst = some d) (hn : d < n)
    (K : ∀ a, St dq E M w0 n a w ((d, .pointer (some ⟨b, off', none⟩)) :: F) L D → wpList P ops Q rest a w) : wpList P ops Q (o :: rest) a w := by
  subst hoff
  have he := S.frm.eval hx
  exact sVal S hw hd hn (by simp only [execOp, ho, he, Sem.run_bind, run_fieldAt hf, Result.andThen_ok, Sem.run_pure]) S.mem K
theorem sFieldP {α β : Type} {r : R α} {s2 : R β} {g : α → β} {z : α} {s : TypeId} {x : Operand} {f : Nat} {q : Value} (i k : Nat) (S : St dq E M w0 n a w F L D)
    (hw : ∀ a, Frm dq n a F → Region.wanted o (yielded ops a.tmps) = true) (ho : o.op = .fieldAddr s x f) (hx : lookO F x = some q) (hD : D[i]? = some (fPtr r q z)) (hf : fieldB P s f = some k) (hc : Comp r s2 k g) (hd : o.dst = some d) (hn : d < n)
    (K : ∀ a q', St dq E M w0 n a w ((d, q') :: F) L (fPtr s2 q' (g z) :: D) → wpList P ops Q rest a w) : wpList P ops Q (o :: rest) a w := by
  obtain ⟨b, off, v, hq, h1, h2, h3, h4⟩ := S.mem.know hD
  subst hq
  have he := S.frm.eval hx
  obtain ⟨u, h5, h6⟩ := hc _ _ _ _ h3
  exact sVal (v := .pointer (some ⟨b, off + k, none⟩)) S hw hd hn (by simp only [execOp, ho, he, Sem.run_bind, run_fieldAt hf, Result.andThen_ok, Sem.run_pure])
    (S.mem.learn (fPtr s2 (.pointer (some ⟨b, off + k, none⟩)) (g z)) ⟨b, off + k, u, rfl, h1, h2, h5, fun j c hj => by rw [Nat.add_assoc]; exact h4 _ _ (h6 j c hj)⟩) (fun a => K a _)
/-- loads of a variable in memory -/
theorem sLoad1 {t T : TypeId} {q : Operand} {p off : Nat} {vs : List Value} (i : Nat) (v : Value) (S : St dq E M w0 n a w F L D)
    (hw : ∀ a, Frm dq n a F → Region.wanted o (yielded ops a.tmps) = true) (ho : o.op = .load t q) (hq : lookO F q = some (.pointer (some ⟨p, off, none⟩))) (ht : aggB P t = some false) (hL : L[i]? = some (eBox p T vs)) (hv : vs[off]? = some v) (hd : o.dst = some d) (hn : d < n)
    (k : ∀ a, St dq E M w0 n a w ((d, v) :: F) L D → wpList P ops Q rest a w) : wpList P ops Q (o :: rest) a w := by
  have he := S.frm.eval hq
  have hb : w.heap[p]? = some (.cells vs.toArray T (0, 0)) := S.mem.at hL
  have hc : w.cell? ⟨p, off, none⟩ = some v := by simp [World.cell?, hb, hv]
  exact sVal S hw hd hn (by simp [execOp, ho, he, Instr.loadAt, Instr.sureAddr, loadVar, run_isAgg ht, hc]) S.mem k
theorem run_loadVar_agg {t : TypeId} {b off : Nat} (cs : List Value) (ht : aggB P t = some true) (hm : cellsB P t = some cs.length) (w : World) (hc : ∀ j u, cs[j]? = some u → w.cell? ⟨b, off + j, none⟩ = some u) :
    (loadVar t ⟨b, off, none⟩).run P w = .ok (.agg cs.toArray) w := by
  have h := run_loadCells_list (P := P) w ⟨b, off, none⟩ cs (fun j u hu => by rw [add_addr]; exact hc j u hu)
  simp [loadVar, run_isAgg ht, run_sizeOf' hm, h]
theorem sLoadN {t T : TypeId} {q : Operand} {p off : Nat} {vs : List Value} (i : Nat) (cs : List Value) (S : St dq E M w0 n a w F L D)
    (hw : ∀ a, Frm dq n a F → Region.wanted o (yielded ops a.tmps) = true) (ho : o.op = .load t q) (hq : lookO F q = some (.pointer (some ⟨p, off, none⟩))) (ht : aggB P t = some true) (hL : L[i]? = some (eBox p T vs)) (hm : cellsB P t = some cs.length)
    (hcs : (vs.drop off).take cs.length = cs) (hd : o.dst = some d) (hn : d < n)
    (k : ∀ a, St dq E M w0 n a w ((d, .agg cs.toArray) :: F) L D → wpList P ops Q rest a w) : wpList P ops Q (o :: rest) a w := by
  have he := S.frm.eval hq
  have hb : w.heap[p]? = some (.cells vs.toArray T (0, 0)) := S.mem.at hL
  have hc : ∀ j u, cs[j]? = some u → w.cell? ⟨p, off + j, none⟩ = some u := by
    intro j u hu
    have hj : j < cs.length := (List.getElem?_eq_some_iff.1 hu).1
    rw [← hcs, List.getElem?_take, if_pos hj, List.getElem?_drop] at hu
    simp [World.cell?, hb, hu]
  exact sVal S hw hd hn (by simp [execOp, ho, he, Instr.loadAt, Instr.sureAddr, run_loadVar_agg cs ht hm w hc]) S.mem k
/-- loads through a pointer to what reads -/
theorem sLoadP1 {α : Type} {r : R α} {x : α} {t : TypeId} {q : Operand} {vq : Value} (i : Nat) (S : St dq E M w0 n a w F L D)
    (hw : ∀ a, Frm dq n a F → Region.wanted o (yielded ops a.tmps) = true) (ho : o.op = .load t q) (hq : lookO F q = some vq) (hD : D[i]? = some (fPtr r vq x)) (hr : Scal r) (ht : aggB P t = some false) (hd : o.dst = some d) (hn : d < n)
    (k : ∀ a v, St dq E M w0 n a w ((d, v) :: F) L (fRep r v x :: D) → wpList P ops Q rest a w) : wpList P ops Q (o :: rest) a w := by
  obtain ⟨b, off, v, hv, h1, h2, h3, h4⟩ := S.mem.know hD
  subst hv
  have he := S.frm.eval hq
  have hc : w.cell? ⟨b, off, none⟩ = some v := h4 0 v (by rw [hr _ _ _ _ h3]; rfl)
  exact sVal S hw hd hn (by simp [execOp, ho, he, Instr.loadAt, Instr.sureAddr, loadVar, run_isAgg ht, hc]) (S.mem.learn _ h3) (fun a => k a v)
theorem sLoadPN {α : Type} {r : R α} {x : α} {t : TypeId} {q : Operand} {vq : Value} (i : Nat) (S : St dq E M w0 n a w F L D)
    (hw : ∀ a, Frm dq n a F → Region.wanted o (yielded ops a.tmps) = true) (ho : o.op = .load t q) (hq : lookO F q = some vq) (hD : D[i]? = some (fPtr r vq x)) (hr : Aggr r) (ht : aggB P t = some true) (hm : cellsB P t = some r.sz) (hd : o.dst = some d) (hn : d < n)
    (k : ∀ a v, St dq E M w0 n a w ((d, v) :: F) L (fRep r v x :: D) → wpList P ops Q rest a w) : wpList P ops Q (o :: rest) a w := by
  obtain ⟨b, off, v, hv, h1, h2, h3, h4⟩ := S.mem.know hD
  subst hv
  have he := S.frm.eval hq
  obtain ⟨cs, rfl⟩ := hr _ _ _ _ h3
  have hsz := r.size h3
  exact sVal S hw hd hn (by simp [execOp, ho, he, Instr.loadAt, Instr.sureAddr, run_loadVar_agg cs.toList ht (by rw [hm, ← hsz]; simp [Value.cells]) w h4]) (S.mem.learn _ h3) (fun a => k a _)
/-- a store into a variable in memory -/
theorem sStore {t T : TypeId} {q x : Operand} {p off : Nat} {vs : List Value} {v : Value} (i : Nat) (cs : List Value) (S : St dq E M w0 n a w F L D)
    (hw : ∀ a, Frm dq n a F → Region.wanted o (yielded ops a.tmps) = true) (ho : o.op = .store t q x) (hq : lookO F q = some (.pointer (some ⟨p, off, none⟩))) (hx : lookO F x = some v) (hcs : v.cells = cs.toArray) (hL : L[i]? = some (eBox p T vs)) (hm : cellsB P t = some cs.length)
    (h1 : cs.all (·.oneCell') = true) (hl : off + cs.length ≤ vs.length) (hd : o.dst = none)
    (k : ∀ a w, St dq E M w0 n a w F (eBox p T (over vs off cs) :: L.eraseIdx i) D → wpList P ops Q rest a w) : wpList P ops Q (o :: rest) a w := by
  have he := S.frm.eval hq
  have hex := S.frm.eval hx
  have hb : w.heap[p]? = some (.cells vs.toArray T (0, 0)) := S.mem.at hL
  have hst := run_storeCells_at (P := P) p off T cs 0 vs.toArray w hb (by simpa using hl) (by simpa using h1)
  simp only [Nat.add_zero] at hst
  refine sUnit S hw hd (w' := w.setRow p (over vs off cs).toArray) ?_ (S.mem.put hL (eBox p T (over vs off cs)) ⟨rfl, rfl, rfl, by simp [World.setRow], fun k _ hk => setRow_other w p k _ (fun e => hk (by simp [eBox, e]))⟩ (fun b hb => .inl hb) (by simp [eBox]) ?_) (fun a => k a _)
  · simp [execOp, ho, he, hex, Instr.storeAt, Instr.sureAddr, storeVar, run_sizeOf' hm, hcs, hst, over]
  · exact setRow_heap w p _ _ T _ hb
/-- the length of what reads as a list -/
theorem sLenD {α : Type} {r : R α} {xs : List α} {e t : TypeId} {x : Operand} {v : Value} (i : Nat) (S : St dq E M w0 n a w F L D)
    (hw : ∀ a, Frm dq n a F → Region.wanted o (yielded ops a.tmps) = true) (ho : o.op = .call { callee := .builtin .len, args := #[x], argTypes := #[t] }) (ht : P.underlying t = some (.slice e)) (hx : lookO F x = some v) (hD : D[i]? = some (fRep (rL r) v xs)) (hd : o.dst = some d) (hn : d < n)
    (k : ∀ a, St dq E M w0 n a w ((d, .int .i64 (xs.length : Int)) :: F) L D → wpList P ops Q rest a w) : wpList P ops Q (o :: rest) a w := by
  obtain ⟨ad, c, vs, rfl, _⟩ := S.mem.know hD
  exact sLen S hw ho ht hx hd hn k
theorem row_slice {α : Type} {r : R α} {T : TypeId} {v : Value} {xs : List α} {E : Nat → Prop} {w : World} (h : (eRow r T v xs).p E w) : ∃ ad c, v = .slice ad xs.length c := by
  obtain ⟨vs, _, _, _, ho⟩ := h
  rcases ho with ⟨ho, h0⟩ | ⟨g, cap, cur, hv, _⟩
  · exact ⟨none, 0, by rw [ho, h0]⟩
  · exact ⟨_, _, hv⟩
theorem sLenR {α : Type} {r : R α} {T : TypeId} {xs : List α} {e t : TypeId} {x : Operand} {v : Value} (i : Nat) (S : St dq E M w0 n a w F L D)
    (hw : ∀ a, Frm dq n a F → Region.wanted o (yielded ops a.tmps) = true) (ho : o.op = .call { callee := .builtin .len, args := #[x], argTypes := #[t] }) (ht : P.underlying t = some (.slice e)) (hx : lookO F x = some v) (hL : L[i]? = some (eRow r T v xs)) (hd : o.dst = some d) (hn : d < n)
    (k : ∀ a, St dq E M w0 n a w ((d, .int .i64 (xs.length : Int)) :: F) L D → wpList P ops Q rest a w) : wpList P ops Q (o :: rest) a w := by
  obtain ⟨ad, c, rfl⟩ := row_slice (S.mem.at hL)
  exact sLen S hw ho ht hx hd hn k
/-- an index into what reads as a list -/
theorem run_indexAt {t e : TypeId} {sz : Nat} (ht : P.underlying t = some (.slice e)) (hs : cellsB P e = some sz) {b off m c : Nat} {k : IntKind} {j : Int} (h0 : 0 ≤ j) (h1 : j.toNat < m) (w : World) :
    (Instr.indexAt t (.slice (some ⟨b, off, none⟩) m c) (.int k j)).run P w = .ok (.pointer (some ⟨b, off + j.toNat * sz, none⟩)) w := by
  have h2 : j < (m : Int) := by omega
  simp [Instr.indexAt, run_underlying ht, asIntOf, h0, h2, run_sizeOf' hs, add_addr]
theorem rL_at {α : Type} {r : R α} {E : Nat → Prop} {w : World} {v : Value} {xs : List α} (h : (rL r).rep E w v xs) {j : Nat} {x : α} (hx : xs[j]? = some x) :
    ∃ b off c u, v = .slice (some ⟨b, off, none⟩) xs.length c ∧ ¬ E b ∧ b < w.heap.size ∧ r.rep E w u x ∧ ∀ i z, u.cells.toList[i]? = some z → w.cell? ⟨b, off + j * r.sz + i, none⟩ = some z := by
  obtain ⟨ad, c, vs, hv, _, _, ha, hcells⟩ := h
  have hj : j < vs.length := by rw [ha.1]; exact (List.getElem?_eq_some_iff.1 hx).1
  have hu : vs[j]? = some vs[j] := List.getElem?_eq_getElem hj
  have hrep := ha.2 j _ x hu hx
  have hsz := r.size hrep
  have hget : ∀ i, i < r.sz → (flat vs)[j * r.sz + i]? = vs[j].cells.toList[i]? := fun i hi => flat_get (fun v hv => (ha.cells v hv).1) hu hi
  have h0 := hcells (j * r.sz + 0) (vs[j].cells.toList[0]'(by rw [Array.length_toList, hsz]; exact r.pos)) (by rw [hget 0 r.pos]; exact List.getElem?_eq_getElem _)
  obtain ⟨b, off, rfl, hE, hb, _⟩ := h0
  refine ⟨b, off, c, vs[j], hv, hE, hb, hrep, fun i z hz => ?_⟩
  have hi : i < r.sz := by rw [← hsz, ← Array.length_toList]; exact (List.getElem?_eq_some_iff.1 hz).1
  obtain ⟨b', off', h1, _, _, h4⟩ := hcells (j * r.sz + i) z (by rw [hget i hi]; exact hz)
  cases h1
  rw [Nat.add_assoc]
  exact h4
theorem sIdxP {α : Type} {r : R α} {xs : List α} {x : α} {t e : TypeId} {s ix : Operand} {v : Value} {k : IntKind} {j : Int} (i : Nat) (S : St dq E M w0 n a w F L D)
    (hw : ∀ a, Frm dq n a F → Region.wanted o (yielded ops a.tmps) = true) (ho : o.op = .indexAddr t s ix) (ht : P.underlying t = some (.slice e)) (hs : cellsB P e = some r.sz) (hv : lookO F s = some v) (hj : lookO F ix = some (.int k j)) (hD : D[i]? = some (fRep (rL r) v xs)) (hx : idxO xs j = some x)
    (hd : o.dst = some d) (hn : d < n) (K : ∀ a q, St dq E M w0 n a w ((d, q) :: F) L (fPtr r q x :: D) → wpList P ops Q rest a w) : wpList P ops Q (o :: rest) a w := by
  obtain ⟨h0, h1, h2⟩ := idxO_some hx
  obtain ⟨b, off, c, u, rfl, hE, hb, hrep, hcell⟩ := rL_at (S.mem.know hD) h2
  have he := S.frm.eval hv
  have hej := S.frm.eval hj
  exact sVal (v := .pointer (some ⟨b, off + j.toNat * r.sz, none⟩)) S hw hd hn (by simp only [execOp, ho, he, hej, Sem.run_bind, run_indexAt ht hs h0 h1, Result.andThen_ok, Sem.run_pure]) (S.mem.learn (fPtr r (.pointer (some ⟨b, off + j.toNat * r.sz, none⟩)) x) ⟨b, _, u, rfl, hE, hb, hrep, hcell⟩) (fun a => K a _)
/-- an index into a row of one's own -/
theorem row_at {α : Type} {r : R α} {T : TypeId} {v : Value} {xs : List α} {E : Nat → Prop} {w : World} (h : (eRow r T v xs).p E w) {j : Nat} {x : α} (hx : xs[j]? = some x) :
    ∃ g c u, v = .slice (some ⟨g, 0, none⟩) xs.length c ∧ r.rep E w u x ∧ ∀ i z, u.cells.toList[i]? = some z → w.cell? ⟨g, j * r.sz + i, none⟩ = some z := by
  obtain ⟨vs, ha, _, hown⟩ := h
  have hlx := (List.getElem?_eq_some_iff.1 hx).1
  have hj : j < vs.length := by rw [ha.1]; exact hlx
  have hu : vs[j]? = some vs[j] := List.getElem?_eq_getElem hj
  have hrep := ha.2 j _ x hu hx
  have hsz := r.size hrep
  rcases hown.2 with ⟨_, h0⟩ | ⟨g, cap, cur, rfl, _⟩
  · omega
  · refine ⟨g, cap, vs[j], rfl, hrep, fun i z hz => ?_⟩
    have hi : i < r.sz := by rw [← hsz, ← Array.length_toList]; exact (List.getElem?_eq_some_iff.1 hz).1
    have hlt : j * r.sz + i < xs.length * r.sz := by
      have : (j + 1) * r.sz ≤ xs.length * r.sz := Nat.mul_le_mul_right _ hlx
      rw [Nat.add_mul, Nat.one_mul] at this
      omega
    rw [hown.cellAt _ hlt, flat_get (fun v hv => (ha.cells v hv).1) hu hi]
    exact hz
theorem sIdxR {α : Type} {r : R α} {T : TypeId} {xs : List α} {x : α} {t e : TypeId} {s ix : Operand} {v : Value} {k : IntKind} {j : Int} (i : Nat) (S : St dq E M w0 n a w F L D)
    (hw : ∀ a, Frm dq n a F → Region.wanted o (yielded ops a.tmps) = true) (ho : o.op = .indexAddr t s ix) (ht : P.underlying t = some (.slice e)) (hs : cellsB P e = some r.sz) (hv : lookO F s = some v) (hj : lookO F ix = some (.int k j)) (hL : L[i]? = some (eRow r T v xs)) (hx : idxO xs j = some x)
    (hd : o.dst = some d) (hn : d < n) (K : ∀ a q, OwnP r.sz v q j.toNat → St dq E M w0 n a w ((d, q) :: F) L D → wpList P ops Q rest a w) : wpList P ops Q (o :: rest) a w := by
  obtain ⟨h0, h1, h2⟩ := idxO_some hx
  obtain ⟨g, c, u, rfl, _, _⟩ := row_at (S.mem.at hL) h2
  have he := S.frm.eval hv
  have hej := S.frm.eval hj
  refine sVal S hw hd hn ?_ S.mem (fun a => K a (.pointer (some ⟨g, j.toNat * r.sz, none⟩)) ⟨g, _, c, rfl, rfl⟩)
  have := run_indexAt (P := P) ht hs (b := g) (off := 0) (c := c) (k := k) h0 h1 w
  simp only [Nat.zero_add] at this
  simp only [execOp, ho, he, hej, Sem.run_bind, this, Result.andThen_ok, Sem.run_pure]
theorem sLoadR1 {α : Type} {r : R α} {T : TypeId} {xs : List α} {x : α} {t : TypeId} {q : Operand} {v vq : Value} {j : Int} (i : Nat) (S : St dq E M w0 n a w F L D) (hp : OwnP r.sz v vq j.toNat)
    (hw : ∀ a, Frm dq n a F → Region.wanted o (yielded ops a.tmps) = true) (ho : o.op = .load t q) (hq : lookO F q = some vq) (hL : L[i]? = some (eRow r T v xs)) (hx : idxO xs j = some x) (hr : Scal r) (ht : aggB P t = some false) (hd : o.dst = some d) (hn : d < n)
    (k : ∀ a u, St dq E M w0 n a w ((d, u) :: F) L (fRep r u x :: D) → wpList P ops Q rest a w) : wpList P ops Q (o :: rest) a w := by
  obtain ⟨h0, h1, h2⟩ := idxO_some hx
  obtain ⟨g, c, u, rfl, hrep, hcell⟩ := row_at (S.mem.at hL) h2
  obtain ⟨g', m', c', e1, rfl⟩ := hp
  cases e1
  have he := S.frm.eval hq
  have hc : w.cell? ⟨g, j.toNat * r.sz, none⟩ = some u := hcell 0 u (by rw [hr _ _ _ _ hrep]; rfl)
  exact sVal S hw hd hn (by simp [execOp, ho, he, Instr.loadAt, Instr.sureAddr, loadVar, run_isAgg ht, hc]) (S.mem.learn _ hrep) (fun a => k a u)
end

end Go.Proofs.Ytdbgkakmhlmpbaa
