/- Deferred calls: a function that defers one call of a function value; boxes lent to be written. -/
import Derived.Defers
import Derived.Test.YtdbgkakmhlmpbaaSpL
namespace Go.Proofs.Ytdbgkakmhlmpbaa
open Go.RowKit
set_option linter.unusedVariables false

section
variable {P : Program} {dq : List Deferred} {E : Nat → Prop} {M : List Nat} {w0 : World} {n : Nat} {a : Act} {w : World} {F : List (Nat × Value)} {L : List Ent} {D : List Fact} {Q : Exit → Act → World → Prop}
variable {ops : Array Oper} {rest : List Oper} {o : Oper} {d : Nat}
theorem enter_frm {fn : Func} {args : List Value} (m : Nat) (hm : fn.ntmps = m) (ha : args.length ≤ m) : Frm [] m { tmps := args.toArray ++ Array.replicate (fn.ntmps - args.toArray.size) undef, defers := [] } ((List.range args.length).zip args) := by
  refine ⟨rfl, ?_, ?_⟩
  · simp [hm]; omega
  · intro t v ht
    have key : ∀ (l : List Value) (k : Nat), look ((List.range' k l.length).zip l) t = some v → k ≤ t ∧ l[t - k]? = some v := by
      intro l
      induction l with
      | nil => intro k h; simp [look] at h
      | cons u l ih =>
        intro k h
        simp only [List.length_cons, List.range'_succ, List.zip_cons_cons, look] at h
        split at h
        · rename_i e; subst e; simpa using h
        · rename_i e
          have := ih (k + 1) h
          refine ⟨by omega, ?_⟩
          rw [show t - k = (t - (k + 1)) + 1 by omega]
          simpa using this.2
    rw [List.range_eq_range'] at ht
    have := (key args 0 ht).2
    simp at this
    have hlt : t < args.length := (List.getElem?_eq_some_iff.1 this).1
    rw [Array.getElem?_append_left (by simpa using hlt)]
    simpa using this
/-- the entry of a function that defers -/
theorem sEnterD {f : FuncId} {fn : Func} {c : Code} {args : List Value} {Rt : Ending → World → Prop} (m : Nat) (hf : P.funcs[f]? = some fn) (hb : fn.body = some c) (hm : fn.ntmps = m) (ha : args.length ≤ m) (S : St0 E M w0 w L D)
    (h : ∀ a, St [] E M w0 m a w ((List.range args.length).zip args) L D → c.wp P (bodyPostD P fn Rt) a w) : Calls P f args.toArray w Rt :=
  calls_of_wp_defers hf hb (h _ ⟨enter_frm m hm ha, S⟩)
/-- the entry of a function that is called by deferring -/
theorem sEnterC {f : FuncId} {fn : Func} {c : Code} {args : List Value} {u : FrameMode} {Rt : Ending → World → Prop} (m : Nat) (hf : P.funcs[f]? = some fn) (hb : fn.body = some c) (hm : fn.ntmps = m) (ha : args.length ≤ m) (S : St0 E M w0 w L D)
    (h : ∀ a, St [] E M w0 m a w ((List.range args.length).zip args) L D → c.wp P (bodyPost P fn Rt) a w) : CallsD P f args.toArray u w fun e u' w' => u' = u ∧ Rt e w' :=
  callsD_of_wp hf hb (h _ ⟨enter_frm m hm ha, S⟩)
/-- a call is deferred -/
theorem sDefer {g : FuncId} {fo : Operand} {caps : List Value} (S : St dq E M w0 n a w F L D)
    (hw : ∀ a, Frm dq n a F → Region.wanted o (yielded ops a.tmps) = true) (ho : o.op = .defer { callee := .value fo, args := #[], argTypes := #[] }) (hf : lookO F fo = some (.func (.func g) #[] caps.toArray)) (hd : o.dst = none)
    (k : ∀ a, St ({ target := .fn (.func g) caps.toArray, args := #[] } :: dq) E M w0 n a w F L D → wpList P ops Q rest a w) : wpList P ops Q (o :: rest) a w := by
  refine wpList_step fun K hK => ?_
  rw [if_pos (hw a S.frm)]
  unfold Oper.wp
  have hrun : (execOp a.eval o).run P w = .ok (.defer { target := .fn (.func g) caps.toArray, args := #[] }) w := by
    unfold execOp
    simp [ho, resolve, S.frm.eval hf, Deferred.ofValue]
  rw [hrun]
  show K ({ a with defers := _ :: a.defers }.put o.dst undef) w
  rw [hd]
  refine hK _ _ (k _ ⟨⟨?_, S.frm.size, S.frm.get⟩, S.mem⟩)
  show _ :: a.defers = _
  rw [S.frm.defers]
theorem sFin {fn : Func} {Rt : Ending → World → Prop} (v : Value) (S : St [] E M w0 n a w F L D) (hr : (results fn a.tmps).run P w = .ok v w) (h : Rt (.returned v) w) : ∃ v, (results fn a.tmps).run P w = .ok v w ∧ Rt (.returned v) w := ⟨v, hr, h⟩
/-- the way out: the deferred call is made, then the results are read -/
theorem sLeave {fn : Func} {Rt : Ending → World → Prop} {X : Type} {g : FuncId} {caps : List Value} {val : X → Value} {B' : X → List Ent} {D' : X → List Fact} (B Rs : List Ent) (Dc : List Fact) (is js : List Nat) (S : St [{ target := .fn (.func g) caps.toArray, args := #[] }] E M w0 n a w F L D)
    (hcallee : ∀ vs w, (callFunc g vs).run P w = .ok (.enter g vs) w) (hnd : is.Nodup) (hL : is.map (fun i => L[i]?) = (B ++ Rs).map some) (hDc : js.map (fun i => D[i]?) = Dc.map some)
    (hc : ∀ (E' : Nat → Prop) w, St0 E' (keysL B) w w B Dc → CallsD P g caps.toArray .returning w (fun e u' w' => u' = .returning ∧ Ret E' (keysL B) w val B' D' e w'))
    (k : ∀ x a w', St [] E M w0 n a w' F (B' x ++ Rs) (D' x ++ D) → ∃ v, (results fn a.tmps).run P w' = .ok v w' ∧ Rt (.returned v) w') : Leaves P fn a.tmps Rt a.defers .returning w := by
  rw [S.frm.defers]
  have S1 : St0 E M w0 w (B ++ Rs) D := S.mem.sub (getList_mem hL) (getList_perm hnd hL S.mem.nodup) (fun _ h => h)
  have S2 := S1.enter (D := Dc) (getList_mem hDc)
  refine leaves_cons (f := g) (args := caps.toArray) (by simp) (by simp [invoke, hcallee]) ((hc _ w S2).mono fun e u' w' hr => ?_)
  obtain ⟨rfl, x, rfl, hs⟩ := hr
  exact k x { a with defers := [] } w' ⟨⟨rfl, S.frm.size, S.frm.get⟩, S1.upd hs.chg (B' x) (D' x) hs⟩
end

end Go.Proofs.Ytdbgkakmhlmpbaa
