/- Values known ahead of an operation: indexes, parts, loads. -/
import Derived.Test.YtdbgkakmhlmpbaaSpI
namespace Go.Proofs.Ytdbgkakmhlmpbaa
open Go.RowKit
set_option linter.unusedVariables false

/-- what a load at q gives, cell by cell -/
def fHold (q : Value) (cs : List Value) : Fact where
  p := fun E w => ∃ b off, q = .pointer (some ⟨b, off, none⟩) ∧ ¬ E b ∧ b < w.heap.size ∧ ∀ j u, cs[j]? = some u → w.cell? ⟨b, off + j, none⟩ = some u
  mono := by
    rintro E E' w w' h ⟨b, off, hq, hE, hb, hc⟩
    refine ⟨b, off, hq, fun e => hE (h.excl b hb e), Nat.lt_of_lt_of_le hb h.size, fun j u hu => ?_⟩
    rw [World.cell?_of_block (w := w) (h.same b hb hE)]
    exact hc j u hu
def IdxV (P : Program) (t : TypeId) (v : Value) (j : Int) (q : Value) : Prop := ∀ k w, (Instr.indexAt t v (.int k j)).run P w = .ok q w
def FldV (P : Program) (s : TypeId) (f : Nat) (q q' : Value) : Prop := ∀ w, (Instr.fieldAt s q f).run P w = .ok q' w
theorem setO_v {α : Type} {xs ys : List α} {j : Int} {y : α} (h : setO xs j y = some ys) (ad : Option Addr) (c : Nat) : Value.slice ad xs.length c = Value.slice ad ys.length c := by
  obtain ⟨_, _, rfl⟩ := setO_some h
  simp
theorem All.cons {α : Type} {r : R α} {E : Nat → Prop} {w : World} {v : Value} {x : α} {vs : List Value} {xs : List α} (h : r.rep E w v x) (a : All r E w vs xs) : All r E w (v :: vs) (x :: xs) :=
  All.append (All.one h) a
section
variable {P : Program} {dq : List Deferred} {E : Nat → Prop} {M : List Nat} {w0 : World} {n : Nat} {a : Act} {w : World} {F : List (Nat × Value)} {L : List Ent} {D : List Fact} {Q : Exit → Act → World → Prop}
variable {ops : Array Oper} {rest : List Oper} {o : Oper} {d : Nat}

theorem St.learn (S : St dq E M w0 n a w F L D) (e : Fact) (h : e.p (tot E L) w) : St dq E M w0 n a w F L (e :: D) := ⟨S.frm, S.mem.learn e h⟩
theorem pIdx {α : Type} {r : R α} {xs : List α} {x : α} {v : Value} {j : Int} (t e i : Nat) (S : St dq E M w0 n a w F L D) (ht : P.underlying t = some (.slice e)) (hs : cellsB P e = some r.sz) (hD : D[i]? = some (fRep (rL r) v xs)) (hx : idxO xs j = some x) :
    ∃ q, IdxV P t v j q ∧ St dq E M w0 n a w F L (fPtr r q x :: D) := by
  obtain ⟨h0, h1, h2⟩ := idxO_some hx
  obtain ⟨b, off, c, u, rfl, hE, hb, hrep, hcell⟩ := rL_at (S.mem.know hD) h2
  exact ⟨_, fun k w => run_indexAt ht hs h0 h1 w, S.learn _ ⟨b, _, u, rfl, hE, hb, hrep, hcell⟩⟩
theorem pIdxR {α : Type} {r : R α} {T : TypeId} {xs : List α} {x : α} {v : Value} {j : Int} (t e i : Nat) (S : St dq E M w0 n a w F L D) (ht : P.underlying t = some (.slice e)) (hs : cellsB P e = some r.sz) (hL : L[i]? = some (eRow r T v xs)) (hx : idxO xs j = some x) :
    ∃ q, IdxV P t v j q ∧ OwnP r.sz v q j.toNat := by
  obtain ⟨h0, h1, h2⟩ := idxO_some hx
  obtain ⟨g, c, u, rfl, _, _⟩ := row_at (S.mem.at hL) h2
  refine ⟨_, fun k w => ?_, ⟨g, _, c, rfl, rfl⟩⟩
  have := run_indexAt (P := P) ht hs (b := g) (off := 0) (c := c) (k := k) h0 h1 w
  simpa using this
theorem pFld {α β : Type} {r : R α} {s2 : R β} {g : α → β} {z : α} {q : Value} (s f i k : Nat) (S : St dq E M w0 n a w F L D) (hD : D[i]? = some (fPtr r q z)) (hf : fieldB P s f = some k) (hc : Comp r s2 k g) :
    ∃ q', FldV P s f q q' ∧ St dq E M w0 n a w F L (fPtr s2 q' (g z) :: D) := by
  obtain ⟨b, off, v, rfl, h1, h2, h3, h4⟩ := S.mem.know hD
  obtain ⟨u, h5, h6⟩ := hc _ _ _ _ h3
  exact ⟨_, fun w => run_fieldAt hf b off w, S.learn _ ⟨b, off + k, u, rfl, h1, h2, h5, fun j c hj => by rw [Nat.add_assoc]; exact h4 _ _ (h6 j c hj)⟩⟩
/-- what stands at a pointer: a value, known cell by cell -/
theorem pLoad {α : Type} {r : R α} {q : Value} {x : α} (i : Nat) (S : St dq E M w0 n a w F L D) (hD : D[i]? = some (fPtr r q x)) :
    ∃ u, St dq E M w0 n a w F L (fHold q u.cells.toList :: fRep r u x :: D) := by
  obtain ⟨b, off, v, hq, h1, h2, h3, h4⟩ := S.mem.know hD
  exact ⟨v, (S.learn (fRep r v x) h3).learn (fHold q v.cells.toList) ⟨b, off, hq, h1, h2, h4⟩⟩
theorem sIdxV {t : TypeId} {s ix : Operand} {v q : Value} {k : IntKind} {j : Int} (S : St dq E M w0 n a w F L D)
    (hw : ∀ a, Frm dq n a F → Region.wanted o (yielded ops a.tmps) = true) (ho : o.op = .indexAddr t s ix) (hv : lookO F s = some v) (hj : lookO F ix = some (.int k j)) (hq : IdxV P t v j q) (hd : o.dst = some d) (hn : d < n)
    (K : ∀ a, St dq E M w0 n a w ((d, q) :: F) L D → wpList P ops Q rest a w) : wpList P ops Q (o :: rest) a w := by
  have he := S.frm.eval hv
  have hej := S.frm.eval hj
  exact sVal S hw hd hn (by simp only [execOp, ho, he, hej, Sem.run_bind, hq k w, Result.andThen_ok, Sem.run_pure]) S.mem K
theorem sFldV {s : TypeId} {x : Operand} {f : Nat} {q q' : Value} (S : St dq E M w0 n a w F L D)
    (hw : ∀ a, Frm dq n a F → Region.wanted o (yielded ops a.tmps) = true) (ho : o.op = .fieldAddr s x f) (hx : lookO F x = some q) (hq : FldV P s f q q') (hd : o.dst = some d) (hn : d < n)
    (K : ∀ a, St dq E M w0 n a w ((d, q') :: F) L D → wpList P ops Q rest a w) : wpList P ops Q (o :: rest) a w := by
  have he := S.frm.eval hx
  exact sVal S hw hd hn (by simp only [execOp, ho, he, Sem.run_bind, hq w, Result.andThen_ok, Sem.run_pure]) S.mem K
theorem sLoadV1 {t : TypeId} {q : Operand} {vq : Value} (i : Nat) (v : Value) (S : St dq E M w0 n a w F L D)
    (hw : ∀ a, Frm dq n a F → Region.wanted o (yielded ops a.tmps) = true) (ho : o.op = .load t q) (hq : lookO F q = some vq) (hD : D[i]? = some (fHold vq [v])) (ht : aggB P t = some false) (hd : o.dst = some d) (hn : d < n)
    (k : ∀ a, St dq E M w0 n a w ((d, v) :: F) L D → wpList P ops Q rest a w) : wpList P ops Q (o :: rest) a w := by
  obtain ⟨b, off, rfl, h1, h2, h3⟩ := S.mem.know hD
  have he := S.frm.eval hq
  have hc : w.cell? ⟨b, off, none⟩ = some v := h3 0 v rfl
  exact sVal S hw hd hn (by simp [execOp, ho, he, Instr.loadAt, Instr.sureAddr, loadVar, run_isAgg ht, hc]) S.mem k
theorem sLoadVN {t : TypeId} {q : Operand} {vq : Value} (i : Nat) (cs : List Value) (S : St dq E M w0 n a w F L D)
    (hw : ∀ a, Frm dq n a F → Region.wanted o (yielded ops a.tmps) = true) (ho : o.op = .load t q) (hq : lookO F q = some vq) (hD : D[i]? = some (fHold vq cs)) (ht : aggB P t = some true) (hm : cellsB P t = some cs.length) (hd : o.dst = some d) (hn : d < n)
    (k : ∀ a, St dq E M w0 n a w ((d, .agg cs.toArray) :: F) L D → wpList P ops Q rest a w) : wpList P ops Q (o :: rest) a w := by
  obtain ⟨b, off, rfl, h1, h2, h3⟩ := S.mem.know hD
  have he := S.frm.eval hq
  exact sVal S hw hd hn (by simp [execOp, ho, he, Instr.loadAt, Instr.sureAddr, run_loadVar_agg cs ht hm w h3]) S.mem k
/-- a number in a row of one's own -/
theorem sLoadR {α : Type} {r : R α} {T : TypeId} {xs : List α} {x : α} {t : TypeId} {q : Operand} {v vq : Value} {j : Int} (i : Nat) (u : Value) (S : St dq E M w0 n a w F L D) (hp : OwnP r.sz v vq j.toNat)
    (hw : ∀ a, Frm dq n a F → Region.wanted o (yielded ops a.tmps) = true) (ho : o.op = .load t q) (hq : lookO F q = some vq) (hL : L[i]? = some (eRow r T v xs)) (hx : idxO xs j = some x) (hu : ∀ E w v, r.rep E w v x → v = u) (hr : Scal r) (ht : aggB P t = some false) (hd : o.dst = some d) (hn : d < n)
    (k : ∀ a, St dq E M w0 n a w ((d, u) :: F) L D → wpList P ops Q rest a w) : wpList P ops Q (o :: rest) a w := by
  obtain ⟨h0, h1, h2⟩ := idxO_some hx
  obtain ⟨g, c, u', rfl, hrep, hcell⟩ := row_at (S.mem.at hL) h2
  obtain rfl := hu _ _ _ hrep
  obtain ⟨g', m', c', e1, rfl⟩ := hp
  cases e1
  have he := S.frm.eval hq
  have hc : w.cell? ⟨g, j.toNat * r.sz, none⟩ = some u' := hcell 0 u' (by rw [hr _ _ _ _ hrep]; rfl)
  exact sVal S hw hd hn (by simp [execOp, ho, he, Instr.loadAt, Instr.sureAddr, loadVar, run_isAgg ht, hc]) S.mem k
/-- min and max of numbers -/
theorem sMin2 {ts : Array TypeId} {x y : Operand} {p q : Int} (S : St dq E M w0 n a w F L D)
    (hw : ∀ a, Frm dq n a F → Region.wanted o (yielded ops a.tmps) = true) (ho : o.op = .call { callee := .builtin .min, args := #[x, y], argTypes := ts }) (hx : lookO F x = some (.int .i64 p)) (hy : lookO F y = some (.int .i64 q)) (hd : o.dst = some d) (hn : d < n)
    (k : ∀ a, St dq E M w0 n a w ((d, .int .i64 (if q < p then q else p)) :: F) L D → wpList P ops Q rest a w) : wpList P ops Q (o :: rest) a w := by
  have hex := S.frm.eval hx
  have hey := S.frm.eval hy
  exact sVal S hw hd hn (by simp [execOp, ho, hex, hey, resolve, invoke, builtin, Builtin.min_, Builtin.min2]) S.mem k
theorem sMax2 {ts : Array TypeId} {x y : Operand} {p q : Int} (S : St dq E M w0 n a w F L D)
    (hw : ∀ a, Frm dq n a F → Region.wanted o (yielded ops a.tmps) = true) (ho : o.op = .call { callee := .builtin .max, args := #[x, y], argTypes := ts }) (hx : lookO F x = some (.int .i64 p)) (hy : lookO F y = some (.int .i64 q)) (hd : o.dst = some d) (hn : d < n)
    (k : ∀ a, St dq E M w0 n a w ((d, .int .i64 (if p < q then q else p)) :: F) L D → wpList P ops Q rest a w) : wpList P ops Q (o :: rest) a w := by
  have hex := S.frm.eval hx
  have hey := S.frm.eval hy
  exact sVal S hw hd hn (by simp [execOp, ho, hex, hey, resolve, invoke, builtin, Builtin.max_, Builtin.max2]) S.mem k
/-- the ways out of code -/
theorem xThen {K : Act → World → Prop} {i : Nat} (h : Q (.exit i) a w) : Exit.then K Q (.exit i) a w := h
theorem xHit {i : Nat} (h : Q .normal a w) : Exit.inBlock i Q (.exit i) a w := by simp only [Exit.inBlock, if_true]; exact h
theorem xMiss {i j : Nat} (hj : (i == j) = false) (h : Q (.exit i) a w) : Exit.inBlock j Q (.exit i) a w := by
  have : ¬ i = j := by simpa using hj
  simp only [Exit.inBlock, if_neg this]; exact h
theorem leafL (h : Q .normal a w) : wpList P ops Q [] a w := h
theorem leafT {K : Act → World → Prop} (h : K a w) : Exit.then K Q .normal a w := h
theorem leafB {i : Nat} (h : Q .normal a w) : Exit.inBlock i Q .normal a w := h
theorem rThen {K : Act → World → Prop} (h : Q .ret a w) : Exit.then K Q .ret a w := h
theorem rBlock {i : Nat} (h : Q .ret a w) : Exit.inBlock i Q .ret a w := h
theorem rL_nil {α : Type} (r : R α) (E : Nat → Prop) (w : World) : (rL r).rep E w (.slice none 0 0) ([] : List α) :=
  ⟨none, 0, [], rfl, Nat.le_refl _, by simp, All.nil _ _ _, fun k u hu => by simp [flat] at hu⟩
end

end Go.Proofs.Ytdbgkakmhlmpbaa
