/- The operations on memory: variables in memory, slices that are read, slices of the call's own. -/
import Derived.Test.YtdbgkakmhlmpbaaSpC
namespace Go.Proofs.Ytdbgkakmhlmpbaa
open Go.RowKit
set_option linter.unusedVariables false

/-- element i of a list, by Go's index -/
def idxO {α : Type} (xs : List α) (i : Int) : Option α := if 0 ≤ i then xs[i.toNat]? else none
theorem idxO_some {α : Type} {xs : List α} {i : Int} {x : α} (h : idxO xs i = some x) : 0 ≤ i ∧ i.toNat < xs.length ∧ xs[i.toNat]? = some x := by
  unfold idxO at h
  split at h
  · exact ⟨by assumption, (List.getElem?_eq_some_iff.1 h).1, h⟩
  · cases h
def setO {α : Type} (xs : List α) (i : Int) (y : α) : Option (List α) := if 0 ≤ i ∧ i.toNat < xs.length then some (xs.set i.toNat y) else none
theorem setO_some {α : Type} {xs ys : List α} {i : Int} {y : α} (h : setO xs i y = some ys) : 0 ≤ i ∧ i.toNat < xs.length ∧ ys = xs.set i.toNat y := by
  unfold setO at h
  split at h
  · rename_i g; cases h; exact ⟨g.1, g.2, rfl⟩
  · cases h
def lim : Nat := 68719476736
def appO {α : Type} (xs ys : List α) : Option (List α) := if xs.length + ys.length ≤ lim then some (xs ++ ys) else none
theorem appO_some {α : Type} {xs ys zs : List α} (h : appO xs ys = some zs) : xs.length + ys.length ≤ 68719476736 ∧ zs = xs ++ ys := by
  unfold appO lim at h
  split at h
  · rename_i g; cases h; exact ⟨g, rfl⟩
  · cases h
def makeO {α : Type} (m : Int) (z : α) : Option (List α) := if 0 ≤ m ∧ m.toNat ≤ lim then some (List.replicate m.toNat z) else none
theorem makeO_some {α : Type} {m : Int} {z : α} {xs : List α} (h : makeO m z = some xs) : ∃ k : Nat, m = k ∧ k ≤ 68719476736 ∧ xs = List.replicate k z := by
  unfold makeO lim at h
  split at h
  · rename_i g; cases h; exact ⟨m.toNat, by omega, g.2, rfl⟩
  · cases h
def capO (m : Int) : Option Unit := if 0 ≤ m ∧ m.toNat ≤ lim then some () else none
theorem capO_some {m : Int} {u : Unit} (h : capO m = some u) : ∃ k : Nat, m = k ∧ k ≤ 68719476736 := by
  unfold capO lim at h
  split at h
  · rename_i g; exact ⟨m.toNat, by omega, g.2⟩
  · cases h
def sliceO {α : Type} (xs : List α) (lo hi : Int) : Option (List α) := if 0 ≤ lo ∧ lo ≤ hi ∧ hi ≤ (xs.length : Int) then some ((xs.take hi.toNat).drop lo.toNat) else none
theorem sliceO_some {α : Type} {xs ys : List α} {lo hi : Int} (h : sliceO xs lo hi = some ys) : ∃ l k : Nat, lo = l ∧ hi = k ∧ l ≤ k ∧ k ≤ xs.length ∧ ys = (xs.take k).drop l := by
  unfold sliceO at h
  split at h
  · rename_i g; cases h; exact ⟨lo.toNat, hi.toNat, by omega, by omega, by omega, by omega, rfl⟩
  · cases h

/-- a pointer to what reads as x -/
def fPtr {α : Type} (r : R α) (q : Value) (x : α) : Fact where
  p := fun E w => ∃ b off v, q = .pointer (some ⟨b, off, none⟩) ∧ ¬ E b ∧ b < w.heap.size ∧ r.rep E w v x ∧ ∀ j u, v.cells.toList[j]? = some u → w.cell? ⟨b, off + j, none⟩ = some u
  mono := by
    rintro E E' w w' h ⟨b, off, v, hq, hE, hb, hr, hc⟩
    refine ⟨b, off, v, hq, fun e => hE (h.excl b hb e), Nat.lt_of_lt_of_le hb h.size, r.mono h hr, fun j u hu => ?_⟩
    rw [World.cell?_of_block (w := w) (h.same b hb hE)]
    exact hc j u hu

section
variable {P : Program} {dq : List Deferred} {E : Nat → Prop} {M : List Nat} {w0 : World} {n : Nat} {a : Act} {w : World} {F : List (Nat × Value)} {L : List Ent} {D : List Fact} {Q : Exit → Act → World → Prop}
variable {ops : Array Oper} {rest : List Oper} {o : Oper} {d : Nat}

theorem add_addr (b off k : Nat) : (⟨b, off, none⟩ : Addr).add k = ⟨b, off + k, none⟩ := by
  unfold Addr.add; split <;> simp_all

theorem Ent.allocated {e : Ent} (w : World) (E' : Nat → Prop) (S : St0 E M w0 w L D) (he : e ∈ L) (hE : ∀ b, b < w.heap.size → E' b → tot E L b) (o : Obj) : e.p E' (w.alloc o) :=
  e.mono ⟨by simp, fun b hb _ => heap_alloc_old w o hb, hE⟩ (fun b hb => heap_alloc_old w o (S.lt b (keysL_mem.2 ⟨e, he, hb⟩))) (S.ent e he)

/-- a new thing of one's own -/
theorem St0.new (S : St0 E M w0 w L D) (o : Obj) (e : Ent) (hk : e.keys = [w.heap.size]) (hp : e.p (tot E (e :: L)) (w.alloc o)) : St0 E M w0 (w.alloc o) (e :: L) D := by
  have hb : ∀ b, b < w.heap.size → tot E (e :: L) b → tot E L b := by
    intro b hb h
    rcases h with h | h
    · exact .inl h
    · refine .inr ?_
      simp only [keysL, List.map_cons, List.flatten_cons, hk, List.mem_append, List.mem_singleton] at h
      rcases h with h | h
      · omega
      · exact h
  refine ⟨S.chg.trans (Chg.alloc M w o) (fun j hj => .inl hj), ?_, ?_, ?_, ?_, S.bnd⟩
  · intro x hx
    rcases List.mem_cons.1 hx with rfl | hx
    · exact hp
    · exact Ent.allocated w _ S hx hb o
  · intro x hx
    exact x.mono ⟨by simp, fun b hb _ => heap_alloc_old w o hb, hb⟩ (S.fact x hx)
  · simp only [keysL, List.map_cons, List.flatten_cons, hk, List.singleton_append, List.nodup_cons]
    exact ⟨fun h => absurd (S.lt _ h) (by omega), S.nodup⟩
  · intro b hx
    simp only [keysL, List.map_cons, List.flatten_cons, hk, List.mem_append, List.mem_singleton] at hx
    rcases hx with rfl | hx
    · exact ⟨.inl S.chg.size, fun h => absurd (S.bnd _ h) (by have := S.chg.size; omega)⟩
    · exact S.key b hx
theorem St0.at {i : Nat} {e : Ent} (S : St0 E M w0 w L D) (h : L[i]? = some e) : e.p (tot E L) w := S.ent e (List.mem_of_getElem? h)
theorem St0.know {i : Nat} {e : Fact} (S : St0 E M w0 w L D) (h : D[i]? = some e) : e.p (tot E L) w := S.fact e (List.mem_of_getElem? h)
theorem St0.learn (S : St0 E M w0 w L D) (e : Fact) (h : e.p (tot E L) w) : St0 E M w0 w L (e :: D) :=
  ⟨S.chg, S.ent, fun x hx => by rcases List.mem_cons.1 hx with rfl | hx; exact h; exact S.fact x hx, S.nodup, S.key, S.bnd⟩
theorem erase_perm {α : Type} {l : List α} {i : Nat} {x : α} (h : l[i]? = some x) : (x :: l.eraseIdx i).Perm l := by
  induction l generalizing i with
  | nil => simp at h
  | cons y l ih =>
    cases i with
    | zero => simp at h; subst h; exact List.Perm.refl _
    | succ i =>
      simp at h
      exact (List.Perm.swap y x _).trans ((ih h).cons y)
/-- thing i becomes another one on the same blocks, or on a new one -/
theorem St0.put {i : Nat} {e : Ent} {w' : World} (S : St0 E M w0 w L D) (hi : L[i]? = some e) (e' : Ent) (hc : Chg e.keys w w') (hk : ∀ b, b ∈ e'.keys → b ∈ e.keys ∨ w.heap.size ≤ b) (hn : e'.keys.Nodup)
    (hp : e'.p (tot E (e' :: L.eraseIdx i)) w') : St0 E M w0 w' (e' :: L.eraseIdx i) D := by
  have hperm : (e :: L.eraseIdx i).Perm L := erase_perm hi
  have S1 := S.perm hperm
  have hE : tot (tot E (L.eraseIdx i)) [e'] = tot E (e' :: L.eraseIdx i) := by
    funext b
    simp only [tot, keysL, List.map_cons, List.flatten_cons, List.map_nil, List.flatten_nil, List.append_nil, List.mem_append]
    exact propext ⟨fun h => by rcases h with (h | h) | h; exact .inl h; exact .inr (.inr h); exact .inr (.inl h), fun h => by rcases h with h | h | h; exact .inl (.inl h); exact .inr h; exact .inl (.inr h)⟩
  have S2 := St0.enter (B := [e]) (Rs := L.eraseIdx i) (D := []) S1 (by simp)
  have key : keysL [e] = e.keys := by simp [keysL]
  have h := St0.upd (B := [e]) (Rs := L.eraseIdx i) S1 (by rw [key]; exact hc) [e'] [] ⟨by rw [key]; exact hc, by intro x hx; simp at hx; subst hx; rw [hE]; exact hp, by simp, by simpa [keysL] using hn, by
    intro b hb
    have hb' : b ∈ e'.keys := by simpa [keysL] using hb
    refine ⟨?_, fun h => ?_⟩
    · rcases hk b hb' with h | h
      · exact .inr (by rw [key]; exact h)
      · exact .inl h
    · rcases hk b hb' with h1 | h1
      · exact (S2.key b (by rw [key]; exact h1)).2 h
      · exact absurd (S2.bnd b h) (by omega), S2.bnd⟩
  simpa using h

/-- box, alloc: a new variable -/
theorem sBox {t : TypeId} {x : Operand} {v : Value} (S : St dq E M w0 n a w F L D)
    (hw : ∀ a, Frm dq n a F → Region.wanted o (yielded ops a.tmps) = true) (ho : o.op = .box t x) (hx : lookO F x = some v) (cs : List Value) (hcs : v.cells = cs.toArray) (hd : o.dst = some d) (hn : d < n)
    (k : ∀ a p w, St dq E M w0 n a w ((d, .pointer (some ⟨p, 0, none⟩)) :: F) (eBox p t cs :: L) D → wpList P ops Q rest a w) : wpList P ops Q (o :: rest) a w := by
  have he := S.frm.eval hx
  refine sVal S hw hd hn (w' := w.alloc (.cells cs.toArray t)) (v := .pointer (some ⟨w.heap.size, 0, none⟩)) ?_ (S.mem.new _ (eBox w.heap.size t cs) rfl ?_) (fun a => k a w.heap.size _)
  · simp [execOp, ho, he, Instr.box, newVar, newRow, hcs]
  · exact heap_alloc_new w _
theorem sAlloc {t : TypeId} (z : Value) (S : St dq E M w0 n a w F L D)
    (hw : ∀ a, Frm dq n a F → Region.wanted o (yielded ops a.tmps) = true) (ho : o.op = .alloc t) (hz : (P.info? t).map (·.zero) = some (some z)) (cs : List Value) (hcs : z.cells = cs.toArray) (hd : o.dst = some d) (hn : d < n)
    (k : ∀ a p w, St dq E M w0 n a w ((d, .pointer (some ⟨p, 0, none⟩)) :: F) (eBox p t cs :: L) D → wpList P ops Q rest a w) : wpList P ops Q (o :: rest) a w := by
  refine sVal S hw hd hn (w' := w.alloc (.cells cs.toArray t)) (v := .pointer (some ⟨w.heap.size, 0, none⟩)) ?_ (S.mem.new _ (eBox w.heap.size t cs) rfl ?_) (fun a => k a w.heap.size _)
  · cases hi : P.info? t with
    | none => simp [hi] at hz
    | some i =>
      simp [hi] at hz
      simp [execOp, ho, Instr.alloc, zeroValue, typeInfo, hi, hz, newVar, newRow, hcs]
  · exact heap_alloc_new w _
end

end Go.Proofs.Ytdbgkakmhlmpbaa
