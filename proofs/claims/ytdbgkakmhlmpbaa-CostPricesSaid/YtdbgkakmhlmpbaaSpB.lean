/- The frame of a walk as a list of what its slots hold; the rules for code; the operations that do not touch memory. -/
import Derived.Test.YtdbgkakmhlmpbaaSpA
namespace Go.Proofs.Ytdbgkakmhlmpbaa
open Go.RowKit
set_option linter.unusedVariables false

def look : List (Nat × Value) → Nat → Option Value
  | [], _ => none
  | (d, v) :: F, t => if d = t then some v else look F t
structure Frm (dq : List Deferred) (n : Nat) (a : Act) (F : List (Nat × Value)) : Prop where
  defers : a.defers = dq
  size : a.tmps.size = n
  get : ∀ t v, look F t = some v → a.tmps[t]? = some v
theorem Frm.put {dq : List Deferred} {n : Nat} {a : Act} {F : List (Nat × Value)} (h : Frm dq n a F) {d : Nat} (hd : d < n) (v : Value) : Frm dq n (a.put (some d) v) ((d, v) :: F) := by
  refine ⟨h.defers, by simp [Act.put, h.size], fun t u ht => ?_⟩
  simp only [look] at ht
  show (a.tmps.setIfInBounds d v)[t]? = some u
  rw [Array.getElem?_setIfInBounds]
  split at ht
  · rename_i e
    subst e
    rw [if_pos rfl, if_pos (by rw [h.size]; exact hd)]
    exact ht
  · rename_i e
    rw [if_neg e]
    exact h.get t u ht
def lookO (F : List (Nat × Value)) : Operand → Option Value
  | .tmp t => look F t
  | .const v => some v
  | .global g => some (.pointer (some ⟨g, 0, none⟩))
  | .func f => some (.func (.func f) #[] #[])
theorem Frm.eval {dq : List Deferred} {n : Nat} {a : Act} {F : List (Nat × Value)} (h : Frm dq n a F) {x : Operand} {v : Value} (hx : lookO F x = some v) : a.eval x = v := by
  cases x with
  | tmp t => simp only [lookO] at hx; simp [Act.eval, Array.getD_eq_getD_getElem?, h.get t v hx]
  | const u => simpa [lookO, Act.eval] using hx
  | global g => simpa [lookO, Act.eval] using hx
  | func f => simpa [lookO, Act.eval] using hx
theorem Frm.sub {dq : List Deferred} {n : Nat} {a : Act} {F F' : List (Nat × Value)} (h : Frm dq n a F) (hs : F'.map (fun q => look F q.1) = F'.map (fun q => some q.2)) : Frm dq n a F' := by
  refine ⟨h.defers, h.size, fun t v ht => h.get t v ?_⟩
  induction F' with
  | nil => simp [look] at ht
  | cons q F' ih =>
    simp only [List.map_cons, List.cons.injEq] at hs
    simp only [look] at ht
    split at ht
    · rename_i e
      rw [← e, hs.1]
      exact ht
    · exact ih hs.2 ht

/-- the whole state of a walk -/
structure St (dq : List Deferred) (E : Nat → Prop) (M : List Nat) (w0 : World) (n : Nat) (a : Act) (w : World) (F : List (Nat × Value)) (L : List Ent) (D : List Fact) : Prop where
  frm : Frm dq n a F
  mem : St0 E M w0 w L D
/-- select: what is wanted of a state, by the places in the lists -/
theorem getList_mem {α : Type} {l l' : List α} {is : List Nat} (h : is.map (fun i => l[i]?) = l'.map some) : ∀ x, x ∈ l' → x ∈ l := by
  induction l' generalizing is with
  | nil => intro x hx; simp at hx
  | cons y l' ih =>
    cases is with
    | nil => simp at h
    | cons i is =>
      simp only [List.map_cons, List.cons.injEq] at h
      intro x hx
      rcases List.mem_cons.1 hx with rfl | hx
      · exact List.mem_of_getElem? h.1
      · exact ih h.2 x hx
theorem getList_perm {l : List Ent} {is : List Nat} {l' : List Ent} (hn : is.Nodup) (h : is.map (fun i => l[i]?) = l'.map some) (hk : (keysL l).Nodup) : (keysL l').Nodup := by
  have hkey : ∀ (i j : Nat) (e f : Ent) (b : Nat), l[i]? = some e → l[j]? = some f → b ∈ e.keys → b ∈ f.keys → i = j := by
    clear h hn
    induction l with
    | nil => intro i j e f b hi; simp at hi
    | cons x l ih =>
      unfold keysL at hk ih
      simp only [List.map_cons, List.flatten_cons, List.nodup_append] at hk
      intro i j e f b hi hj h1 h2
      cases i with
      | zero =>
        simp at hi; subst hi
        cases j with
        | zero => rfl
        | succ j =>
          simp at hj
          exact absurd rfl (hk.2.2 b h1 b (by simp only [List.mem_flatten, List.mem_map]; exact ⟨_, ⟨f, List.mem_of_getElem? hj, rfl⟩, h2⟩))
      | succ i =>
        simp at hi
        cases j with
        | zero =>
          simp at hj; subst hj
          exact absurd rfl (hk.2.2 b h2 b (by simp only [List.mem_flatten, List.mem_map]; exact ⟨_, ⟨e, List.mem_of_getElem? hi, rfl⟩, h1⟩))
        | succ j =>
          simp at hj
          rw [ih hk.2.1 i j e f b hi hj h1 h2]
  have hself : ∀ (i : Nat) (e : Ent), l[i]? = some e → e.keys.Nodup := by
    intro i e hi
    exact hk.sublist (by
      unfold keysL
      have hm := List.mem_of_getElem? hi
      clear hi hk h hkey hn
      induction l with
      | nil => simp at hm
      | cons x l ih =>
        rcases List.mem_cons.1 hm with rfl | hm
        · simp
        · exact (ih hm).trans (by simp))
  clear hk
  induction l' generalizing is with
  | nil => simp [keysL]
  | cons e l' ih =>
    cases is with
    | nil => simp at h
    | cons i is =>
      simp only [List.map_cons, List.cons.injEq] at h
      rw [List.nodup_cons] at hn
      have h2 := ih hn.2 h.2
      unfold keysL at h2 ⊢
      simp only [List.map_cons, List.flatten_cons, List.nodup_append]
      refine ⟨hself i e h.1, h2, fun b hb c hc he => ?_⟩
      subst he
      simp only [List.mem_flatten, List.mem_map] at hc
      obtain ⟨k, ⟨f, hf, rfl⟩, hbf⟩ := hc
      -- f stands at a place j of is
      have : ∃ j, j ∈ is ∧ l[j]? = some f := by
        have h3 := h.2
        clear ih h2 h hkey hself hn
        induction l' generalizing is with
        | nil => simp at hf
        | cons y l' ih =>
          cases is with
          | nil => simp at h3
          | cons j is =>
            simp only [List.map_cons, List.cons.injEq] at h3
            rcases List.mem_cons.1 hf with rfl | hf
            · exact ⟨j, by simp, h3.1⟩
            · obtain ⟨j', h4, h5⟩ := ih is hf h3.2
              exact ⟨j', List.mem_cons_of_mem _ h4, h5⟩
      obtain ⟨j, hj, hl⟩ := this
      have := hkey i j e f b h.1 hl hb hbf
      subst this
      exact hn.1 hj
theorem St0.sel {E : Nat → Prop} {M : List Nat} {w0 w : World} {L L' : List Ent} {D D' : List Fact} (S : St0 E M w0 w L D) (is js : List Nat) (hn : is.Nodup)
    (hL : is.map (fun i => L[i]?) = L'.map some) (hD : js.map (fun i => D[i]?) = D'.map some) : St0 E M w0 w L' D' :=
  S.sub (getList_mem hL) (getList_perm hn hL S.nodup) (getList_mem hD)
theorem St.fix {dq : List Deferred} {E : Nat → Prop} {M : List Nat} {w0 : World} {n : Nat} {a : Act} {w : World} {F F' : List (Nat × Value)} {L L' : List Ent} {D D' : List Fact} (S : St dq E M w0 n a w F L D) (is js : List Nat) (hn : is.Nodup)
    (hF : F'.map (fun q => look F q.1) = F'.map (fun q => some q.2)) (hL : is.map (fun i => L[i]?) = L'.map some) (hD : js.map (fun i => D[i]?) = D'.map some) : St dq E M w0 n a w F' L' D' :=
  ⟨S.frm.sub hF, S.mem.sel is js hn hL hD⟩

section
variable {P : Program} {dq : List Deferred} {E : Nat → Prop} {M : List Nat} {w0 : World} {n : Nat} {a : Act} {w : World} {F : List (Nat × Value)} {L : List Ent} {D : List Fact}

/-- the entry of a function -/
theorem sEnter {f : FuncId} {fn : Func} {c : Code} {args : List Value} {Rt : Ending → World → Prop} (m : Nat) (hf : P.funcs[f]? = some fn) (hb : fn.body = some c) (hm : fn.ntmps = m) (ha : args.length ≤ m) (S : St0 E M w0 w L D)
    (h : ∀ a, St [] E M w0 m a w ((List.range args.length).zip args) L D → c.wp P (bodyPost P fn Rt) a w) : Calls P f args.toArray w Rt := by
  refine calls_of_wp hf hb (h _ ⟨⟨rfl, ?_, ?_⟩, S⟩)
  · simp [hm]; omega
  · intro t v ht
    have key : ∀ (l : List Value) (k : Nat), look ((List.range' k l.length).zip l) t = some v → k ≤ t ∧ l[t - k]? = some v := by
      intro l
      induction l with
      | nil => intro k h; simp [look] at h
      | cons u l ih =>
        intro k h
        simp only [List.length_cons, List.range'_succ, List.zip_cons_cons, look] at h
        split at h
        · rename_i e; subst e; simpa using h
        · rename_i e
          have := ih (k + 1) h
          refine ⟨by omega, ?_⟩
          rw [show t - k = (t - (k + 1)) + 1 by omega]
          simpa using this.2
    rw [List.range_eq_range'] at ht
    have := (key args 0 ht).2
    simp at this
    have hlt : t < args.length := (List.getElem?_eq_some_iff.1 this).1
    rw [Array.getElem?_append_left (by simpa using hlt)]
    simpa using this

/-- a guard that says yes -/
theorem wN {ops : Array Oper} {o : Oper} (h : o.guard = none) : ∀ a, Frm dq n a F → Region.wanted o (yielded ops a.tmps) = true := fun _ _ => by simp [Region.wanted, h]
theorem wG {ops : Array Oper} {o : Oper} {c : Bool} (j : Nat) (want : Bool) (d : Nat) (hg : o.guard = some (j, want)) (hd : (ops[j]?).bind (·.dst) = some d) (hl : look F d = some (.bool c)) (hc : c = want) :
    ∀ a, Frm dq n a F → Region.wanted o (yielded ops a.tmps) = true := fun a h => by
  subst hc
  simp [Region.wanted, hg, yielded, hd, h.get d _ hl]
/-- an operation that is not wanted -/
theorem sSkip {ops : Array Oper} {rest : List Oper} {o : Oper} {Q : Exit → Act → World → Prop} {c : Bool} (j : Nat) (want : Bool) (d : Nat) (t : Nat) (S : St dq E M w0 n a w F L D) (hg : o.guard = some (j, want)) (hd : (ops[j]?).bind (·.dst) = some d)
    (hl : look F d = some (.bool c)) (hc : c = !want) (ht : o.dst = some t) (hn : t < n) (k : ∀ a, St dq E M w0 n a w ((t, undef) :: F) L D → wpList P ops Q rest a w) : wpList P ops Q (o :: rest) a w := by
  subst hc
  refine wpList_skip (by simp [Region.wanted, hg, yielded, hd, S.frm.get d _ hl]) ?_
  rw [ht]
  exact k _ ⟨S.frm.put hn _, S.mem⟩
/-- an operation that is not wanted because its guard was not wanted -/
theorem sSkipU {ops : Array Oper} {rest : List Oper} {o : Oper} {Q : Exit → Act → World → Prop} (j : Nat) (want : Bool) (d : Nat) (t : Nat) (S : St dq E M w0 n a w F L D) (hg : o.guard = some (j, want)) (hd : (ops[j]?).bind (·.dst) = some d)
    (hl : look F d = some undef) (ht : o.dst = some t) (hn : t < n) (k : ∀ a, St dq E M w0 n a w ((t, undef) :: F) L D → wpList P ops Q rest a w) : wpList P ops Q (o :: rest) a w := by
  refine wpList_skip (by simp [Region.wanted, hg, yielded, hd, S.frm.get d _ hl, undef]) ?_
  rw [ht]
  exact k _ ⟨S.frm.put hn _, S.mem⟩

theorem sVal {ops : Array Oper} {rest : List Oper} {o : Oper} {Q : Exit → Act → World → Prop} {v : Value} {w' : World} {L' : List Ent} {D' : List Fact} {d : Nat} (S : St dq E M w0 n a w F L D)
    (hw : ∀ a, Frm dq n a F → Region.wanted o (yielded ops a.tmps) = true) (hd : o.dst = some d) (hn : d < n)
    (hrun : (execOp a.eval o).run P w = .ok (.value v) w') (hm : St0 E M w0 w' L' D')
    (k : ∀ a, St dq E M w0 n a w' ((d, v) :: F) L' D' → wpList P ops Q rest a w') : wpList P ops Q (o :: rest) a w := by
  refine wpList_step fun K hK => ?_
  rw [if_pos (hw a S.frm)]
  unfold Oper.wp
  rw [hrun]
  show K (a.put o.dst v) w'
  rw [hd]
  exact hK _ _ (k _ ⟨S.frm.put hn _, hm⟩)
/-- an operation without a result (a store) -/
theorem sUnit {ops : Array Oper} {rest : List Oper} {o : Oper} {Q : Exit → Act → World → Prop} {w' : World} {L' : List Ent} {D' : List Fact} (S : St dq E M w0 n a w F L D)
    (hw : ∀ a, Frm dq n a F → Region.wanted o (yielded ops a.tmps) = true) (hd : o.dst = none)
    (hrun : (execOp a.eval o).run P w = .ok .skip w') (hm : St0 E M w0 w' L' D')
    (k : ∀ a, St dq E M w0 n a w' F L' D' → wpList P ops Q rest a w') : wpList P ops Q (o :: rest) a w := by
  refine wpList_step fun K hK => ?_
  rw [if_pos (hw a S.frm)]
  unfold Oper.wp
  rw [hrun]
  show K (a.put o.dst undef) w'
  rw [hd]
  exact hK _ _ (k _ ⟨S.frm, hm⟩)
/-- move, assign -/
theorem sMove {ops : Array Oper} {rest : List Oper} {o : Oper} {Q : Exit → Act → World → Prop} {x : Operand} {d : Nat} (v : Value) (S : St dq E M w0 n a w F L D)
    (hw : ∀ a, Frm dq n a F → Region.wanted o (yielded ops a.tmps) = true) (ho : o.op = .move x ∨ o.op = .assign x) (hx : lookO F x = some v) (hd : o.dst = some d) (hn : d < n)
    (k : ∀ a, St dq E M w0 n a w ((d, v) :: F) L D → wpList P ops Q rest a w) : wpList P ops Q (o :: rest) a w := by
  have he := S.frm.eval hx
  refine sVal S hw hd hn ?_ S.mem k
  rcases ho with ho | ho <;> simp [execOp, ho, he, pure]
theorem sPickT {ops : Array Oper} {rest : List Oper} {o : Oper} {Q : Exit → Act → World → Prop} {c x y : Operand} {b : Bool} {d : Nat} (v : Value) (S : St dq E M w0 n a w F L D)
    (hw : ∀ a, Frm dq n a F → Region.wanted o (yielded ops a.tmps) = true) (ho : o.op = .pick c x y) (hc : lookO F c = some (.bool b)) (hb : b = true) (hx : lookO F x = some v) (hd : o.dst = some d) (hn : d < n)
    (k : ∀ a, St dq E M w0 n a w ((d, v) :: F) L D → wpList P ops Q rest a w) : wpList P ops Q (o :: rest) a w := by
  subst hb
  have he := S.frm.eval hx
  have hec := S.frm.eval hc
  exact sVal S hw hd hn (by simp [execOp, ho, he, hec, asBool, pure, bind, Sem.bind]) S.mem k
theorem sPickF {ops : Array Oper} {rest : List Oper} {o : Oper} {Q : Exit → Act → World → Prop} {c x y : Operand} {b : Bool} {d : Nat} (v : Value) (S : St dq E M w0 n a w F L D)
    (hw : ∀ a, Frm dq n a F → Region.wanted o (yielded ops a.tmps) = true) (ho : o.op = .pick c x y) (hc : lookO F c = some (.bool b)) (hb : b = false) (hy : lookO F y = some v) (hd : o.dst = some d) (hn : d < n)
    (k : ∀ a, St dq E M w0 n a w ((d, v) :: F) L D → wpList P ops Q rest a w) : wpList P ops Q (o :: rest) a w := by
  subst hb
  have he := S.frm.eval hy
  have hec := S.frm.eval hc
  exact sVal S hw hd hn (by simp [execOp, ho, he, hec, asBool, pure, bind, Sem.bind]) S.mem k
/-- an operation of two operands -/
theorem sBin {ops : Array Oper} {rest : List Oper} {o : Oper} {Q : Exit → Act → World → Prop} {op : BinOp} {t u : TypeId} {x y : Operand} {vx vy : Value} {d : Nat} (v : Value) (S : St dq E M w0 n a w F L D)
    (hw : ∀ a, Frm dq n a F → Region.wanted o (yielded ops a.tmps) = true) (ho : o.op = .binOp op t x y u) (hx : lookO F x = some vx) (hy : lookO F y = some vy)
    (hb : ∀ w, (eqGuard op t x y vx vy).run P w = .ok () w ∧ (binOp op t vx vy).run P w = .ok v w) (hd : o.dst = some d) (hn : d < n)
    (k : ∀ a, St dq E M w0 n a w ((d, v) :: F) L D → wpList P ops Q rest a w) : wpList P ops Q (o :: rest) a w := by
  have hex := S.frm.eval hx
  have hey := S.frm.eval hy
  refine sVal S hw hd hn ?_ S.mem k
  simp only [execOp, ho, hex, hey, Sem.run_bind, (hb w).1, (hb w).2, Result.andThen_ok, Sem.run_pure]
end

end Go.Proofs.Ytdbgkakmhlmpbaa
