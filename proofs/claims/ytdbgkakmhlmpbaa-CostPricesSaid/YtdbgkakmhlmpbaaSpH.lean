/- Struct literals, parts of values, slices of slices, calls, results. -/
import Derived.Test.YtdbgkakmhlmpbaaSpG
namespace Go.Proofs.Ytdbgkakmhlmpbaa
open Go.RowKit
set_option linter.unusedVariables false

section
variable {P : Program} {dq : List Deferred} {E : Nat → Prop} {M : List Nat} {w0 : World} {n : Nat} {a : Act} {w : World} {F : List (Nat × Value)} {L : List Ent} {D : List Fact} {Q : Exit → Act → World → Prop}
variable {ops : Array Oper} {rest : List Oper} {o : Oper} {d : Nat}

/-- what a function leaves: its value, what its caller owns by it, what is known -/
def Ret {X : Type} (E : Nat → Prop) (M : List Nat) (w0 : World) (val : X → Value) (B : X → List Ent) (D : X → List Fact) (e : Ending) (w : World) : Prop :=
  ∃ x, e = .returned (val x) ∧ St0 E M w0 w (B x) (D x)
theorem callee {f : FuncId} {fn : Func} (hf : P.funcs[f]? = some fn) (h1 : (fn.name == "runtime.NumGoroutine") = false) (h2 : fn.body.isNone = false) (vs : Array Value) (w : World) : (callFunc f vs).run P w = .ok (.enter f vs) w := by
  have h1' : ¬ fn.name = "runtime.NumGoroutine" := by simpa using h1
  have h2' : ¬ fn.body = none := fun e => by rw [e] at h2; cases h2
  simp [callFunc, hf, h1', h2']
theorem lookO_map {args : List Operand} {vs : List Value} (hf : Frm dq n a F) (h : args.map (lookO F) = vs.map some) : args.map a.eval = vs := by
  induction args generalizing vs with
  | nil => cases vs with | nil => rfl | cons _ _ => simp at h
  | cons x args ih =>
    cases vs with
    | nil => simp at h
    | cons v vs =>
      simp only [List.map_cons, List.cons.injEq] at h ⊢
      exact ⟨hf.eval h.1, ih h.2⟩
theorem wp_call {f : FuncId} {args : List Operand} {ts : Array TypeId} {vs : List Value} {X : Type} {E' : Nat → Prop} {M' : List Nat} {val : X → Value} {B' : X → List Ent} {D' : X → List Fact} {K : Act → World → Prop} (ho : o.op = .call { callee := .value (.func f), args := args.toArray, argTypes := ts })
    (hcallee : ∀ vs w, (callFunc f vs).run P w = .ok (.enter f vs) w) (hvs : args.map a.eval = vs) (hc : Calls P f vs.toArray w (Ret E' M' w val B' D')) (k : ∀ x w', St0 E' M' w w' (B' x) (D' x) → K (a.put o.dst (val x)) w') : o.wp P a w K Q := by
  subst hvs
  unfold Oper.wp
  have hrun : (execOp a.eval o).run P w = .ok (.enter f (args.map a.eval).toArray) w := by
    have he : a.eval (.func f) = .func (.func f) #[] #[] := rfl
    unfold execOp
    simp only [ho, resolve, he, Deferred.ofValue, Sem.run_bind, Sem.run_pure, Result.andThen_ok, invoke]
    simp [hcallee]
  rw [hrun]
  exact hc.mono fun e w' hr => by
    obtain ⟨x, rfl, hs⟩ := hr
    exact k x w' hs
theorem sCall {X : Type} {f : FuncId} {args : List Operand} {ts : Array TypeId} {vs : List Value} {val : X → Value} {B' : X → List Ent} {D' : X → List Fact} (B Rs : List Ent) (Dc : List Fact) (is js : List Nat) (S : St dq E M w0 n a w F L D)
    (hw : ∀ a, Frm dq n a F → Region.wanted o (yielded ops a.tmps) = true) (ho : o.op = .call { callee := .value (.func f), args := args.toArray, argTypes := ts })
    (hcallee : ∀ vs w, (callFunc f vs).run P w = .ok (.enter f vs) w) (hvs : args.map (lookO F) = vs.map some)
    (hnd : is.Nodup) (hL : is.map (fun i => L[i]?) = (B ++ Rs).map some) (hDc : js.map (fun i => D[i]?) = Dc.map some)
    (hc : ∀ (E' : Nat → Prop) w, St0 E' (keysL B) w w B Dc → Calls P f vs.toArray w (Ret E' (keysL B) w val B' D')) (hd : o.dst = some d) (hn : d < n)
    (k : ∀ x a w', St dq E M w0 n a w' ((d, val x) :: F) (B' x ++ Rs) (D' x ++ D) → wpList P ops Q rest a w') : wpList P ops Q (o :: rest) a w := by
  refine wpList_step fun K hK => ?_
  rw [if_pos (hw a S.frm)]
  have S1 : St0 E M w0 w (B ++ Rs) D := S.mem.sub (getList_mem hL) (getList_perm hnd hL S.mem.nodup) (fun _ h => h)
  have S2 := S1.enter (D := Dc) (getList_mem hDc)
  refine wp_call ho hcallee (lookO_map S.frm hvs) (hc _ w S2) fun x w' hs => ?_
  rw [hd]
  exact hK _ _ (k x _ w' ⟨S.frm.put hn _, S1.upd hs.chg (B' x) (D' x) hs⟩)
/-- a call without a result -/
theorem sCall0 {X : Type} {f : FuncId} {args : List Operand} {ts : Array TypeId} {vs : List Value} {val : X → Value} {B' : X → List Ent} {D' : X → List Fact} (B Rs : List Ent) (Dc : List Fact) (is js : List Nat) (S : St dq E M w0 n a w F L D)
    (hw : ∀ a, Frm dq n a F → Region.wanted o (yielded ops a.tmps) = true) (ho : o.op = .call { callee := .value (.func f), args := args.toArray, argTypes := ts })
    (hcallee : ∀ vs w, (callFunc f vs).run P w = .ok (.enter f vs) w) (hvs : args.map (lookO F) = vs.map some)
    (hnd : is.Nodup) (hL : is.map (fun i => L[i]?) = (B ++ Rs).map some) (hDc : js.map (fun i => D[i]?) = Dc.map some)
    (hc : ∀ (E' : Nat → Prop) w, St0 E' (keysL B) w w B Dc → Calls P f vs.toArray w (Ret E' (keysL B) w val B' D')) (hd : o.dst = none)
    (k : ∀ x a w', St dq E M w0 n a w' F (B' x ++ Rs) (D' x ++ D) → wpList P ops Q rest a w') : wpList P ops Q (o :: rest) a w := by
  refine wpList_step fun K hK => ?_
  rw [if_pos (hw a S.frm)]
  have S1 : St0 E M w0 w (B ++ Rs) D := S.mem.sub (getList_mem hL) (getList_perm hnd hL S.mem.nodup) (fun _ h => h)
  have S2 := S1.enter (D := Dc) (getList_mem hDc)
  refine wp_call ho hcallee (lookO_map S.frm hvs) (hc _ w S2) fun x w' hs => ?_
  rw [hd]
  exact hK _ _ (k x _ w' ⟨S.frm, S1.upd hs.chg (B' x) (D' x) hs⟩)

/-- a call that reads and returns numbers: rows of one's own may be lent to it (hpre: behind seals) -/
theorem St0.quiet {Dc : List Fact} (S : St0 E M w0 w L D) (js : List Nat) (hDc : js.map (fun i => D[i]?) = Dc.map some) : ∃ E1, St0 E1 [] w w [] Dc :=
  ⟨tot E L, by have := S.enter (B := []) (Rs := L) (D := Dc) (by simpa using getList_mem hDc); simpa [keysL] using this⟩
theorem St0.calm {w' : World} (S : St0 E M w0 w L D) (h : Chg [] w w') : St0 E M w0 w' L D := by
  have := St0.upd (B := []) (Rs := L) S (by simpa [keysL] using h) [] [] ⟨by simpa [keysL] using h, by simp, by simp, by simp [keysL], by simp [keysL], by
    intro b hb
    rcases hb with h | h
    · exact Nat.lt_of_lt_of_le (S.bnd b h) S.chg.size
    · exact S.lt b h⟩
  simpa using this
theorem sCallQ {X : Type} {f : FuncId} {args : List Operand} {ts : Array TypeId} {vs : List Value} {val : X → Value} {Dc : List Fact} (S : St dq E M w0 n a w F L D)
    (hw : ∀ a, Frm dq n a F → Region.wanted o (yielded ops a.tmps) = true) (ho : o.op = .call { callee := .value (.func f), args := args.toArray, argTypes := ts })
    (hcallee : ∀ vs w, (callFunc f vs).run P w = .ok (.enter f vs) w) (hvs : args.map (lookO F) = vs.map some) (hpre : ∃ E1, St0 E1 [] w w [] Dc)
    (hc : ∀ (E' : Nat → Prop) w, St0 E' [] w w [] Dc → Calls P f vs.toArray w (Ret E' [] w val (fun _ => []) (fun _ => []))) (hd : o.dst = some d) (hn : d < n)
    (k : ∀ x a w', St dq E M w0 n a w' ((d, val x) :: F) L D → wpList P ops Q rest a w') : wpList P ops Q (o :: rest) a w := by
  refine wpList_step fun K hK => ?_
  rw [if_pos (hw a S.frm)]
  obtain ⟨E1, h1⟩ := hpre
  refine wp_call ho hcallee (lookO_map S.frm hvs) (hc _ w h1) fun x w' hs => ?_
  rw [hd]
  exact hK _ _ (k x _ w' ⟨S.frm.put hn _, S.mem.calm hs.chg⟩)

/-- struct and array literals -/
theorem sBuild {t : TypeId} {parts : List (Nat × Operand)} (vs : List (Nat × Value)) (cs : List Value) (S : St dq E M w0 n a w F L D)
    (hw : ∀ a, Frm dq n a F → Region.wanted o (yielded ops a.tmps) = true) (ho : o.op = .build t parts.toArray) (hvs : parts.map (fun q => (q.1, lookO F q.2)) = vs.map (fun q => (q.1, some q.2))) (hb : P.built t vs = some cs.toArray) (hd : o.dst = some d) (hn : d < n)
    (k : ∀ a, St dq E M w0 n a w ((d, .agg cs.toArray) :: F) L D → wpList P ops Q rest a w) : wpList P ops Q (o :: rest) a w := by
  have hev : parts.map (fun q => (q.1, a.eval q.2)) = vs := by
    clear hb ho
    induction parts generalizing vs with
    | nil => cases vs with | nil => rfl | cons _ _ => simp at hvs
    | cons x parts ih =>
      cases vs with
      | nil => simp at hvs
      | cons v vs =>
        simp only [List.map_cons, List.cons.injEq, Prod.mk.injEq] at hvs ⊢
        refine ⟨?_, ih vs hvs.2⟩
        rw [hvs.1.1, S.frm.eval hvs.1.2]
  have hrun := run_build (P := P) w t vs.toArray cs.toArray (by simpa using hb)
  refine sVal S hw hd hn ?_ S.mem k
  unfold execOp
  simp only [ho, List.map_toArray, hev, Sem.run_bind, hrun, Result.andThen_ok, Sem.run_pure]
/-- a slice literal of scalars -/
theorem sLit {α : Type} {r : R α} {T t : TypeId} {xs : List α} {parts : List (Nat × Operand)} (vs : List (Nat × Value)) (m : Nat) (us : List Value) (cs : List Value) (z : Value) (bytes : Nat) (S : St dq E M w0 n a w F L D)
    (hw : ∀ a, Frm dq n a F → Region.wanted o (yielded ops a.tmps) = true) (ho : o.op = .buildSlice t m parts.toArray) (hvs : parts.map (fun q => (q.1, lookO F q.2)) = vs.map (fun q => (q.1, some q.2))) (ht : P.underlying t = some (.slice T)) (hinfo : (P.info? T).map (fun i => (i.zero, i.size, i.bytes)) = some (some z, r.sz, bytes))
    (hsmall : m * r.sz ≤ 16777216) (hpos : 0 < m) (hfill : Instr.fill (fun i => some (i * r.sz, r.sz)) ((Array.range (m * r.sz)).map (z.cells[· % z.cells.size]!)) vs = some cs.toArray)
    (hxs : xs.length = m) (hus : ∀ E' w', Ext (tot E L) E' w w' → All r E' w' us xs) (hcs : flat us = cs) (hd : o.dst = some d) (hn : d < n)
    (k : ∀ a w ad c, St dq E M w0 n a w ((d, .slice ad xs.length c) :: F) (eRow r T (.slice ad xs.length c) xs :: L) D → wpList P ops Q rest a w) : wpList P ops Q (o :: rest) a w := by
  obtain ⟨ie, hi, hzi, hsize, hbytes⟩ := info_parts hinfo
  refine sNewRow m us cs S hw (fun a hF => ?_) hxs hus hcs (Nat.le_trans (Nat.le_mul_of_pos_right m r.pos) (Nat.le_trans hsmall (by decide))) hd hn k
  have hev : parts.map (fun q => (q.1, a.eval q.2)) = vs := by
    clear hfill ho
    induction parts generalizing vs with
    | nil => cases vs with | nil => rfl | cons _ _ => simp at hvs
    | cons x parts ih =>
      cases vs with
      | nil => simp at hvs
      | cons v vs =>
        simp only [List.map_cons, List.cons.injEq, Prod.mk.injEq] at hvs ⊢
        refine ⟨?_, ih vs hvs.2⟩
        rw [hvs.1.1, hF.eval hvs.1.2]
  have hrun := run_buildSlice (P := P) w t T m vs.toArray cs.toArray ie z ht hi hzi (by rw [hsize]; omega) (by rw [hsize]; exact Nat.pos_iff_ne_zero.1 (Nat.mul_pos hpos r.pos)) (by rw [hsize]; simpa using hfill)
  unfold execOp
  simp only [ho, List.map_toArray, hev, Sem.run_bind, hrun, Result.andThen_ok, Sem.run_pure]
/-- a slice literal without elements -/
theorem sLit0 {α : Type} (r : R α) {T t : TypeId} (S : St dq E M w0 n a w F L D)
    (hw : ∀ a, Frm dq n a F → Region.wanted o (yielded ops a.tmps) = true) (ho : o.op = .buildSlice t 0 #[]) (ht : P.underlying t = some (.slice T)) (hm : cellsB P T = some r.sz) (hd : o.dst = some d) (hn : d < n)
    (k : ∀ a w ad c, St dq E M w0 n a w ((d, .slice ad 0 c) :: F) (eRow r T (.slice ad 0 c) ([] : List α) :: L) D → wpList P ops Q rest a w) : wpList P ops Q (o :: rest) a w := by
  refine sNewRow (r := r) (xs := []) (T := T) 0 [] [] S hw (fun a hF => ?_) rfl (fun _ _ _ => All.nil _ _ _) rfl (by omega) hd hn k
  unfold execOp
  have h0 : Array.range 0 = #[] := rfl
  simp [ho, Instr.buildSlice, run_underlying ht, run_sizeOf' hm, Instr.fill, newRow, h0]
/-- make with length 0 -/
theorem sMake0 {α : Type} (r : R α) {T t : TypeId} {l c : Operand} {m : Int} {u : Unit} (z : Value) (bytes : Nat) (S : St dq E M w0 n a w F L D)
    (hw : ∀ a, Frm dq n a F → Region.wanted o (yielded ops a.tmps) = true) (ho : o.op = .makeSlice t l c) (ht : P.underlying t = some (.slice T)) (hinfo : (P.info? T).map (fun i => (i.zero, i.size, i.bytes)) = some (some z, r.sz, bytes)) (hby : bytes ≤ 2048)
    (hl : lookO F l = some (.int .i64 0)) (hc : lookO F c = some (.int .i64 m)) (hm : capO m = some u) (hd : o.dst = some d) (hn : d < n)
    (k : ∀ a w ad c, St dq E M w0 n a w ((d, .slice ad 0 c) :: F) (eRow r T (.slice ad 0 c) ([] : List α) :: L) D → wpList P ops Q rest a w) : wpList P ops Q (o :: rest) a w := by
  obtain ⟨q, rfl, hq⟩ := capO_some hm
  have hel := S.frm.eval hl
  have hec := S.frm.eval hc
  obtain ⟨ie, hi, hzi, hsize, hbytes⟩ := info_parts hinfo
  obtain ⟨w', hr, h2, h3⟩ := run_make_own (P := P) w 0 t T ie z r.sz ht hi hzi hsize .i64 .i64 q (by rw [hbytes]; exact Nat.le_trans (Nat.mul_le_mul hby hq) (by decide)) (by unfold maxLen; omega) (Nat.zero_le _)
  have hgr : Chg [] w w' := Chg.grown h3 (by simp)
  have hE : tot (tot E L) [eRow r T (.slice (some ⟨w.heap.size, 0, none⟩) 0 q) ([] : List α)] = tot E (eRow r T (.slice (some ⟨w.heap.size, 0, none⟩) 0 q) ([] : List α) :: L) := by
    funext b
    simp only [tot, keysL, List.map_cons, List.flatten_cons, List.map_nil, List.flatten_nil, List.append_nil, List.mem_append]
    exact propext ⟨fun h => by rcases h with (h | h) | h; exact .inl h; exact .inr (.inr h); exact .inr (.inl h), fun h => by rcases h with h | h | h; exact .inl (.inl h); exact .inr h; exact .inl (.inr h)⟩
  have S' : St0 E M w0 w' (eRow r T (.slice (some ⟨w.heap.size, 0, none⟩) 0 q) ([] : List α) :: L) D := by
    have := St0.upd (B := []) (Rs := L) S.mem (by simpa [keysL] using hgr) [eRow r T (.slice (some ⟨w.heap.size, 0, none⟩) 0 q) ([] : List α)] [] ⟨by simpa [keysL] using hgr, by
      intro e he
      simp at he; subst he
      exact ⟨[], All.nil _ _ _, by simp, by simpa [flat] using h2⟩, by simp, by simp [keysL, eRow, vkeys], by
        intro b hb
        simp [keysL, eRow, vkeys] at hb
        subst hb
        refine ⟨.inl (Nat.le_refl _), fun h => ?_⟩
        rcases h with h | h
        · exact absurd (S.mem.bnd _ h) (by have := S.mem.chg.size; omega)
        · exact absurd (S.mem.lt _ h) (by omega), by
        intro b hb
        rcases hb with h | h
        · exact Nat.lt_of_lt_of_le (S.mem.bnd b h) S.mem.chg.size
        · exact S.mem.lt b h⟩
    simpa using this
  refine sVal S hw hd hn (w' := w') (v := .slice (some ⟨w.heap.size, 0, none⟩) 0 q) ?_ S' (fun a Sa => k a w' (some ⟨w.heap.size, 0, none⟩) q Sa)
  simp only [execOp, ho, hel, hec, Sem.run_bind, hr, Result.andThen_ok, Sem.run_pure]
/-- a part of a struct value -/
def partB (P : Program) (t : TypeId) (f : Nat) (cs : List Value) : Option Value := match P.underlying t with
  | some (.struct fs) => (fs[f]?).bind fun fl => match aggB P fl.type with
    | some true => (P.info? fl.type).map fun i => .agg (cs.toArray.extract fl.offset (fl.offset + i.size))
    | some false => cs[fl.offset]?
    | none => none
  | _ => none
theorem sPart {t : TypeId} {x : Operand} {f : Nat} {cs : List Value} (v : Value) (S : St dq E M w0 n a w F L D)
    (hw : ∀ a, Frm dq n a F → Region.wanted o (yielded ops a.tmps) = true) (ho : o.op = .field t x f) (hx : lookO F x = some (.agg cs.toArray)) (hv : partB P t f cs = some v) (hd : o.dst = some d) (hn : d < n)
    (k : ∀ a, St dq E M w0 n a w ((d, v) :: F) L D → wpList P ops Q rest a w) : wpList P ops Q (o :: rest) a w := by
  have he := S.frm.eval hx
  refine sVal S hw hd hn ?_ S.mem k
  unfold partB at hv
  split at hv
  · rename_i fs hu
    cases hf : fs[f]? with
    | none => simp [hf] at hv
    | some fl =>
      simp only [hf, Option.bind_some] at hv
      split at hv
      · rename_i hg
        cases hi : P.info? fl.type with
        | none => simp [hi] at hv
        | some i =>
          simp only [hi, Option.map_some, Option.some.injEq] at hv
          subst hv
          simp [execOp, ho, he, Instr.field, run_underlying hu, hf, part, run_isAgg hg, asAgg, sizeOf, typeInfo, hi]
      · rename_i hg
        simp [execOp, ho, he, Instr.field, run_underlying hu, hf, part, run_isAgg hg, asAgg, hv]
      · cases hv
  · cases hv
/-- a slice of what reads as a list -/
theorem run_sliceAt {t e : TypeId} {sz : Nat} (ht : P.underlying t = some (.slice e)) (hs : cellsB P e = some sz) (ad : Option Addr) (m c l k : Nat) (lo hi : Option Value) (hlo : lo = some (.int .i64 (l : Int)) ∨ lo = none ∧ l = 0) (hhi : hi = some (.int .i64 (k : Int)) ∨ hi = none ∧ k = m) (h1 : l ≤ k) (h2 : k ≤ m) (h3 : m ≤ c) (w : World) :
    (Instr.sliceAt t (.slice ad m c) lo hi none).run P w = .ok (.slice (if c = l then ad else ad.map (·.add (l * sz))) (k - l) (c - l)) w := by
  have hk : k ≤ c := by omega
  have hl : l ≤ m := by omega
  have hlc : l ≤ c := by omega
  rcases hlo with rfl | ⟨rfl, rfl⟩ <;> rcases hhi with rfl | ⟨rfl, rfl⟩ <;>
    simp [Instr.sliceAt, run_underlying ht, Instr.slice, Instr.sliceBounds, Instr.sliceBound, asIntOf, run_sizeOf' hs, *]
theorem sSlice {α : Type} {r : R α} {t e : TypeId} {x : Operand} {lo hi : Option Operand} {v : Value} {xs ys : List α} {vlo vhi : Option Value} {lo' hi' : Int} (i : Nat) (S : St dq E M w0 n a w F L D)
    (hw : ∀ a, Frm dq n a F → Region.wanted o (yielded ops a.tmps) = true) (ho : o.op = .slice t x lo hi none) (ht : P.underlying t = some (.slice e)) (hs : cellsB P e = some r.sz) (hx : lookO F x = some v) (hD : D[i]? = some (fRep (rL r) v xs))
    (hlo : lo.map (lookO F) = vlo.map some) (hhi : hi.map (lookO F) = vhi.map some) (hl : vlo = some (.int .i64 lo') ∨ vlo = none ∧ lo' = 0) (hh : vhi = some (.int .i64 hi') ∨ vhi = none ∧ hi' = (xs.length : Int)) (hsl : sliceO xs lo' hi' = some ys) (hd : o.dst = some d) (hn : d < n)
    (k : ∀ a ad c, St dq E M w0 n a w ((d, .slice ad ys.length c) :: F) L (fRep (rL r) (.slice ad ys.length c) ys :: D) → wpList P ops Q rest a w) : wpList P ops Q (o :: rest) a w := by
  obtain ⟨l, q, rfl, rfl, h1, h2, rfl⟩ := sliceO_some hsl
  obtain ⟨ad, c, vs, rfl, hc, hm, ha, hcell⟩ := S.mem.know hD
  have hex := S.frm.eval hx
  have elo : lo.map a.eval = vlo := by
    cases lo with
    | none => cases vlo with | none => rfl | some _ => simp at hlo
    | some y => cases vlo with | none => simp at hlo | some u => simp at hlo; simp [S.frm.eval hlo]
  have ehi : hi.map a.eval = vhi := by
    cases hi with
    | none => cases vhi with | none => rfl | some _ => simp at hhi
    | some y => cases vhi with | none => simp at hhi | some u => simp at hhi; simp [S.frm.eval hhi]
  have hrun := run_sliceAt (P := P) ht hs ad xs.length c l q vlo vhi (by rcases hl with h | ⟨h, h'⟩; exact .inl h; exact .inr ⟨h, by omega⟩) (by rcases hh with h | ⟨h, h'⟩; exact .inl h; exact .inr ⟨h, by omega⟩) h1 h2 hc w
  have hlen : ((xs.take q).drop l).length = q - l := by simp; omega
  rw [← hlen] at hrun
  refine sVal S hw hd hn (w' := w) ?_ (S.mem.learn (fRep (rL r) (.slice (if c = l then ad else ad.map (·.add (l * r.sz))) ((xs.take q).drop l).length (c - l)) ((xs.take q).drop l)) ?_) (fun a => k a _ _)
  · unfold execOp
    simp only [ho, hex, elo, ehi, Option.map_none, Sem.run_bind, hrun, Result.andThen_ok, Sem.run_pure]
  · have hA : All r (tot E L) w ((vs.take q).drop l) ((xs.take q).drop l) := by
      refine ⟨by simp [ha.1], fun j v x hv hx2 => ?_⟩
      rw [List.getElem?_drop, List.getElem?_take] at hv hx2
      split at hv
      · rename_i hj; rw [if_pos hj] at hx2; exact ha.2 _ v x hv hx2
      · cases hv
    refine ⟨_, _, (vs.take q).drop l, rfl, by rw [hlen]; omega, by rw [hlen]; omega, hA, fun j u hu => ?_⟩
    have hsz := fun v hv => (ha.cells v hv).1
    have hlt := (List.getElem?_eq_some_iff.1 hu).1
    have hfl := flat_length (fun v hv => (hA.cells v hv).1)
    rw [hfl] at hlt
    have hjl : ((vs.take q).drop l).length = q - l := by rw [hA.1, hlen]
    rw [hjl] at hlt
    have hjq : 0 < q - l := by
      rcases Nat.eq_zero_or_pos (q - l) with h | h
      · rw [h] at hlt; simp at hlt
      · exact h
    have hcl : ¬ c = l := by omega
    rw [if_neg hcl]
    -- the cell in the whole row
    have hu2 : (flat vs)[l * r.sz + j]? = some u := by
      have e1 : vs = (vs.take l) ++ ((vs.take q).drop l) ++ vs.drop q := by
        have : vs.take l = (vs.take q).take l := by rw [List.take_take]; congr 1; omega
        rw [this, List.take_append_drop, List.take_append_drop]
      rw [e1, flat_append, flat_append, List.append_assoc, List.getElem?_append_right (by rw [flat_length (fun v hv => hsz v (List.mem_of_mem_take hv)), List.length_take]; exact Nat.le_trans (Nat.mul_le_mul_right _ (Nat.min_le_left _ _)) (Nat.le_add_right _ _))]
      rw [flat_length (fun v hv => hsz v (List.mem_of_mem_take hv)), List.length_take, Nat.min_eq_left (by rw [ha.1]; omega), Nat.add_sub_cancel_left]
      rw [List.getElem?_append_left (by rw [hfl, hjl]; exact hlt)]
      exact hu
    obtain ⟨b, off, rfl, h3, h4, h5⟩ := hcell _ _ hu2
    refine ⟨b, off + l * r.sz, by simp [add_addr], h3, h4, by rw [Nat.add_assoc]; exact h5⟩

/-- results of a function: slots, and variables in memory -/
def rvRun (tmps : Array Value) : ResultVar → Sem Value
  | .tmp t => pure (tmps.getD t undef)
  | .cell c t => do loadVar t (← asAddr (tmps.getD c undef))
theorem rvT {t : Nat} {v : Value} (S : St dq E M w0 n a w F L D) (h : look F t = some v) : (rvRun a.tmps (.tmp t)).run P w = .ok v w := by
  simp [rvRun, Array.getD_eq_getD_getElem?, S.frm.get _ _ h]
theorem rvN {c : Nat} {t T : TypeId} {p : Nat} (i : Nat) (cs : List Value) (S : St dq E M w0 n a w F L D) (h : look F c = some (.pointer (some ⟨p, 0, none⟩))) (ht : aggB P t = some true) (hL : L[i]? = some (eBox p T cs)) (hm : cellsB P t = some cs.length) : (rvRun a.tmps (.cell c t)).run P w = .ok (.agg cs.toArray) w := by
  have hb : w.heap[p]? = some (.cells cs.toArray T (0, 0)) := S.mem.at hL
  have hc : ∀ j u, cs[j]? = some u → w.cell? ⟨p, 0 + j, none⟩ = some u := by
    intro j u hu
    simp [World.cell?, hb, hu]
  simp [rvRun, Array.getD_eq_getD_getElem?, S.frm.get _ _ h, asAddr, run_loadVar_agg cs ht hm w hc]
theorem rv1 {c : Nat} {t T : TypeId} {p : Nat} (i : Nat) (v : Value) (S : St dq E M w0 n a w F L D) (h : look F c = some (.pointer (some ⟨p, 0, none⟩))) (ht : aggB P t = some false) (hL : L[i]? = some (eBox p T [v])) : (rvRun a.tmps (.cell c t)).run P w = .ok v w := by
  have hb : w.heap[p]? = some (.cells [v].toArray T (0, 0)) := S.mem.at hL
  have hc : w.cell? ⟨p, 0, none⟩ = some v := by simp [World.cell?, hb]
  simp [rvRun, Array.getD_eq_getD_getElem?, S.frm.get _ _ h, asAddr, loadVar, run_isAgg ht, hc]
theorem results_eq (fn : Func) (tmps : Array Value) : results fn tmps = (do let vs ← fn.results.mapM (rvRun tmps); pure (if h : vs.size = 1 then vs[0] else .tuple vs)) := by
  unfold results
  congr 2
theorem rsl0 {fn : Func} (hres : fn.results = #[]) : (results fn a.tmps).run P w = .ok (.tuple #[]) w := by
  simp [results_eq, hres]
theorem rsl1 {fn : Func} {r1 : ResultVar} {v1 : Value} (hres : fn.results = #[r1]) (h1 : (rvRun a.tmps r1).run P w = .ok v1 w) : (results fn a.tmps).run P w = .ok v1 w := by
  simp [results_eq, hres, h1]
theorem rsl2 {fn : Func} {r1 r2 : ResultVar} {v1 v2 : Value} (hres : fn.results = #[r1, r2]) (h1 : (rvRun a.tmps r1).run P w = .ok v1 w) (h2 : (rvRun a.tmps r2).run P w = .ok v2 w) : (results fn a.tmps).run P w = .ok (.tuple #[v1, v2]) w := by
  simp [results_eq, hres, h1, h2]
theorem rsl3 {fn : Func} {r1 r2 r3 : ResultVar} {v1 v2 v3 : Value} (hres : fn.results = #[r1, r2, r3]) (h1 : (rvRun a.tmps r1).run P w = .ok v1 w) (h2 : (rvRun a.tmps r2).run P w = .ok v2 w) (h3 : (rvRun a.tmps r3).run P w = .ok v3 w) : (results fn a.tmps).run P w = .ok (.tuple #[v1, v2, v3]) w := by
  simp [results_eq, hres, h1, h2, h3]
theorem rsl4 {fn : Func} {r1 r2 r3 r4 : ResultVar} {v1 v2 v3 v4 : Value} (hres : fn.results = #[r1, r2, r3, r4]) (h1 : (rvRun a.tmps r1).run P w = .ok v1 w) (h2 : (rvRun a.tmps r2).run P w = .ok v2 w) (h3 : (rvRun a.tmps r3).run P w = .ok v3 w) (h4 : (rvRun a.tmps r4).run P w = .ok v4 w) : (results fn a.tmps).run P w = .ok (.tuple #[v1, v2, v3, v4]) w := by
  simp [results_eq, hres, h1, h2, h3, h4]
theorem rsl5 {fn : Func} {r1 r2 r3 r4 r5 : ResultVar} {v1 v2 v3 v4 v5 : Value} (hres : fn.results = #[r1, r2, r3, r4, r5]) (h1 : (rvRun a.tmps r1).run P w = .ok v1 w) (h2 : (rvRun a.tmps r2).run P w = .ok v2 w) (h3 : (rvRun a.tmps r3).run P w = .ok v3 w) (h4 : (rvRun a.tmps r4).run P w = .ok v4 w) (h5 : (rvRun a.tmps r5).run P w = .ok v5 w) : (results fn a.tmps).run P w = .ok (.tuple #[v1, v2, v3, v4, v5]) w := by
  simp [results_eq, hres, h1, h2, h3, h4, h5]
end

end Go.Proofs.Ytdbgkakmhlmpbaa
