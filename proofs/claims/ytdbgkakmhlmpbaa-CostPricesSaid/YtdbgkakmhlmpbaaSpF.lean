/- Stores into rows of one's own, append, make, literals, slices, calls. -/
import Derived.Test.YtdbgkakmhlmpbaaSpE
namespace Go.Proofs.Ytdbgkakmhlmpbaa
open Go.RowKit
set_option linter.unusedVariables false

section
variable {P : Program} {dq : List Deferred} {E : Nat → Prop} {M : List Nat} {w0 : World} {n : Nat} {a : Act} {w : World} {F : List (Nat × Value)} {L : List Ent} {D : List Fact} {Q : Exit → Act → World → Prop}
variable {ops : Array Oper} {rest : List Oper} {o : Oper} {d : Nat}

theorem All.set {α : Type} {r : R α} {E : Nat → Prop} {w : World} {vs : List Value} {xs : List α} (a : All r E w vs xs) (j : Nat) {u : Value} {y : α} (h : r.rep E w u y) : All r E w (vs.set j u) (xs.set j y) := by
  refine ⟨by simp [a.1], fun k v x hv hx => ?_⟩
  rw [List.getElem?_set] at hv hx
  split at hv
  · rename_i e
    rw [if_pos e] at hx
    split at hv
    · split at hx
      · cases hv; cases hx; exact h
      · cases hx
    · cases hv
  · rename_i e
    rw [if_neg e] at hx
    exact a.2 k v x hv hx
theorem over_get {l : List Value} {off : Nat} {cs : List Value} (h : off + cs.length ≤ l.length) (k : Nat) : (over l off cs)[k]? = if off ≤ k ∧ k < off + cs.length then cs[k - off]? else l[k]? := by
  have e1 : (List.take off l).length = off := by simp; omega
  unfold over
  rw [List.append_assoc]
  by_cases h1 : k < off
  · rw [List.getElem?_append_left (by omega), if_neg (by omega), List.getElem?_take, if_pos h1]
  · rw [List.getElem?_append_right (by omega), e1]
    by_cases h2 : k < off + cs.length
    · rw [if_pos ⟨by omega, h2⟩, List.getElem?_append_left (by omega)]
    · rw [if_neg (by omega), List.getElem?_append_right (by omega), List.getElem?_drop]
      congr 1
      omega
theorem over_length {l : List Value} {off : Nat} {cs : List Value} (h : off + cs.length ≤ l.length) : (over l off cs).length = l.length := by
  simp [over]; omega
theorem over_take {l : List Value} {off m : Nat} {cs : List Value} (h : off + cs.length ≤ m) (hm : m ≤ l.length) : (over l off cs).take m = over (l.take m) off cs := by
  apply List.ext_getElem?
  intro k
  rw [List.getElem?_take, over_get (by omega), over_get (by simp; omega), List.getElem?_take]
  by_cases h1 : k < m
  · simp [h1]
  · rw [if_neg h1, if_neg (by omega), if_neg h1]
theorem over_append (A B : List Value) (k : Nat) (cs : List Value) : over (A ++ B) (A.length + k) cs = A ++ over B k cs := by
  unfold over
  rw [List.take_length_add_append, Nat.add_assoc, List.drop_length_add_append]
  simp
theorem flat_set {sz : Nat} {vs : List Value} (h : ∀ v, v ∈ vs → v.cells.size = sz) {j : Nat} (hj : j < vs.length) {u : Value} (hu : u.cells.size = sz) : flat (vs.set j u) = over (flat vs) (j * sz) u.cells.toList := by
  induction vs generalizing j with
  | nil => simp at hj
  | cons v vs ih =>
    have h1 := h v (by simp)
    have h2 := fun v hv => h v (List.mem_cons_of_mem _ hv)
    have hl : v.cells.toList.length = sz := by simp [h1]
    cases j with
    | zero =>
      simp only [List.set_cons_zero, flat, List.map_cons, List.flatten_cons, over, Nat.zero_mul, List.take_zero, List.nil_append, Nat.zero_add, Array.length_toList, hu]
      rw [← hl, List.drop_left]
    | succ j =>
      have := ih h2 (by simpa using hj)
      have e1 : (j + 1) * sz = v.cells.toList.length + j * sz := by rw [hl, Nat.add_mul, Nat.one_mul, Nat.add_comm]
      simp only [List.set_cons_succ, flat, List.map_cons, List.flatten_cons] at this ⊢
      rw [this, e1, over_append]
theorem run_storeVar {t T : TypeId} {g off : Nat} {cur : Array Value} {u : Value} (hm : cellsB P t = some u.cells.size) (h1 : ∀ c, c ∈ u.cells.toList → c.oneCell' = true) (hg : w.heap[g]? = some (.cells cur T (0, 0))) (hl : off + u.cells.size ≤ cur.size) :
    (storeVar t ⟨g, off, none⟩ u).run P w = .ok () (w.setRow g (over cur.toList off u.cells.toList).toArray) := by
  have hst := run_storeCells_at (P := P) g off T u.cells.toList 0 cur w hg (by simpa using hl) h1
  simp only [Nat.add_zero] at hst
  simp [storeVar, run_sizeOf' hm, hst, over]
/-- a store of an element of a row of one's own -/
theorem sStoreR {α : Type} {r : R α} {T : TypeId} {xs ys : List α} {y : α} {t : TypeId} {q x : Operand} {v vq u : Value} {j : Int} (i : Nat) (S : St dq E M w0 n a w F L D) (hp : OwnP r.sz v vq j.toNat)
    (hw : ∀ a, Frm dq n a F → Region.wanted o (yielded ops a.tmps) = true) (ho : o.op = .store t q x) (hq : lookO F q = some vq) (hx : lookO F x = some u) (hL : L[i]? = some (eRow r T v xs)) (hu : (fRep r u y).p (tot E L) w) (hs : setO xs j y = some ys) (hm : cellsB P t = some r.sz) (hd : o.dst = none)
    (k : ∀ a w, St dq E M w0 n a w F (eRow r T v ys :: L.eraseIdx i) D → wpList P ops Q rest a w) : wpList P ops Q (o :: rest) a w := by
  obtain ⟨h0, h1, rfl⟩ := setO_some hs
  obtain ⟨vs, ha, hlen, hown⟩ := S.mem.at hL
  obtain ⟨g, m, c, rfl, rfl⟩ := hp
  have he := S.frm.eval hq
  have hex := S.frm.eval hx
  have hsz := r.size hu
  have hown1 := hown
  rcases hown.2 with ⟨h, _⟩ | ⟨g', cap, cur, h, hb, hg, hnc, hcm, hcs, htake⟩
  · cases h
  obtain ⟨rfl, rfl, rfl⟩ : g = g' ∧ m = xs.length ∧ c = cap := by simpa using h
  have hle : (j.toNat + 1) * r.sz ≤ xs.length * r.sz := Nat.mul_le_mul_right _ h1
  have hle2 : xs.length * r.sz ≤ c * r.sz := Nat.mul_le_mul_right _ hnc
  rw [Nat.add_mul, Nat.one_mul] at hle
  have hst := run_storeVar (P := P) (t := t) (off := j.toNat * r.sz) (by rw [hsz]; exact hm) (r.one hu) hg (by rw [hsz, hcs]; omega)
  have hchg : Chg (eRow r T (.slice (some ⟨g, 0, none⟩) xs.length c) xs).keys w (w.setRow g (over cur.toList (j.toNat * r.sz) u.cells.toList).toArray) := ⟨rfl, rfl, rfl, by simp [World.setRow], fun k _ hk => setRow_other w g k _ (fun e => hk (by simp [eRow, vkeys, e]))⟩
  have hext : Ext (tot E L) (tot E (eRow r T (.slice (some ⟨g, 0, none⟩) xs.length c) (xs.set j.toNat y) :: L.eraseIdx i)) w (w.setRow g (over cur.toList (j.toNat * r.sz) u.cells.toList).toArray) := by
    refine ⟨hchg.size, fun b hb hn => hchg.block b hb (fun e => hn (.inr (keysL_mem.2 ⟨_, List.mem_of_getElem? hL, e⟩))), fun b hb h => ?_⟩
    rcases h with h | h
    · exact .inl h
    · obtain ⟨e, h2, h3⟩ := keysL_mem.1 h
      rcases List.mem_cons.1 h2 with rfl | h2
      · exact .inr (keysL_mem.2 ⟨_, List.mem_of_getElem? hL, h3⟩)
      · exact .inr (keysL_mem.2 ⟨e, List.mem_of_mem_eraseIdx h2, h3⟩)
  refine sUnit S hw hd (w' := w.setRow g (over cur.toList (j.toNat * r.sz) u.cells.toList).toArray) ?_ (S.mem.put hL (eRow r T (.slice (some ⟨g, 0, none⟩) xs.length c) (xs.set j.toNat y)) hchg (fun b hb => .inl hb) (by simp [eRow, vkeys]) ?_) (fun a => k a _)
  · simp only [execOp, ho, he, hex, Instr.storeAt, Instr.sureAddr, Sem.run_bind, Sem.run_pure, Result.andThen_ok, hst]
  · refine ⟨vs.set j.toNat u, (ha.mono hext).set _ (r.mono hext hu), by simpa using hlen, ?_⟩
    have hj : j.toNat < vs.length := by rw [ha.1]; exact h1
    rw [flat_set (fun v hv => (ha.cells v hv).1) hj hsz]
    have hfl := flat_length (fun v hv => (ha.cells v hv).1)
    rw [ha.1] at hfl
    refine ⟨?_, .inr ⟨g, c, (over cur.toList (j.toNat * r.sz) u.cells.toList).toArray, by simp, Nat.zero_le _, setRow_heap w g cur _ T _ hg, by simpa using hnc, hcm, ?_, ?_⟩⟩
    · rw [over_length (by rw [hfl]; simp [hsz]; omega), hfl]; simp
    · simp only [List.size_toArray]; rw [over_length (by simp [hsz, hcs]; omega)]; simpa using hcs
    · simp only [List.length_set]
      rw [over_take (by simp [hsz]; omega) (by simp [hcs]; omega), htake]
end

end Go.Proofs.Ytdbgkakmhlmpbaa
