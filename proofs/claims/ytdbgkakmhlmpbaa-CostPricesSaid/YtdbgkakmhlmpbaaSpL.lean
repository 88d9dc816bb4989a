/- Function values; variables in memory that are lent to be read; rows that a call writes. -/
import Derived.Test.YtdbgkakmhlmpbaaSpK
namespace Go.Proofs.Ytdbgkakmhlmpbaa
open Go.RowKit
set_option linter.unusedVariables false

section
variable {P : Program} {dq : List Deferred} {E : Nat → Prop} {M : List Nat} {w0 : World} {n : Nat} {a : Act} {w : World} {F : List (Nat × Value)} {L : List Ent} {D : List Fact} {Q : Exit → Act → World → Prop}
variable {ops : Array Oper} {rest : List Oper} {o : Oper} {d : Nat}
/-- a variable in memory becomes something that is read -/
theorem St0.shutB {α : Type} {r : R α} {T : TypeId} {b : Nat} {cs : List Value} (i : Nat) (v : Value) (x : α) (S : St0 E M w0 w L D) (hi : L[i]? = some (eBox b T cs)) (hv : v.cells.toList = cs) (hr : r.rep (tot E L) w v x) : St0 E M w0 w (L.eraseIdx i) (fPtr r (.pointer (some ⟨b, 0, none⟩)) x :: D) := by
  have hperm := erase_perm hi
  have hn := keysL_perm hperm S.nodup
  have S1 := S.sub (L' := L.eraseIdx i) (D' := D) (fun e he => List.mem_of_mem_eraseIdx he) (nodup_sub (List.eraseIdx_sublist _ _) S.nodup) (fun _ h => h)
  have hb : w.heap[b]? = some (.cells cs.toArray T (0, 0)) := S.at hi
  have hext : Ext (tot E L) (tot E (L.eraseIdx i)) w w := ⟨Nat.le_refl _, fun _ _ _ => rfl, fun b _ h => h.imp id (fun h => by
    obtain ⟨e, h1, h2⟩ := keysL_mem.1 h
    exact keysL_mem.2 ⟨e, List.mem_of_mem_eraseIdx h1, h2⟩)⟩
  have hmem : b ∈ (eBox b T cs).keys := by simp [eBox]
  refine S1.learn (fPtr r (.pointer (some ⟨b, 0, none⟩)) x) ⟨b, 0, v, rfl, fun h => ?_, (Array.getElem?_eq_some_iff.1 hb).1, r.mono hext hr, fun j u hu => ?_⟩
  · rcases h with h | h
    · exact (S.key b (keysL_mem.2 ⟨_, List.mem_of_getElem? hi, hmem⟩)).2 h
    · simp only [keysL, List.map_cons, List.flatten_cons, List.nodup_append] at hn
      exact hn.2.2 b hmem b h rfl
  · rw [hv] at hu
    simp [World.cell?, hb, hu]
theorem sFunc {g : FuncId} {caps : List Operand} {vs : List Value} (S : St dq E M w0 n a w F L D)
    (hw : ∀ a, Frm dq n a F → Region.wanted o (yielded ops a.tmps) = true) (ho : o.op = .makeFunc (.func g) #[] caps.toArray) (hvs : caps.map (lookO F) = vs.map some) (hd : o.dst = some d) (hn : d < n)
    (k : ∀ a, St dq E M w0 n a w ((d, .func (.func g) #[] vs.toArray) :: F) L D → wpList P ops Q rest a w) : wpList P ops Q (o :: rest) a w := by
  have hev := lookO_map S.frm hvs
  subst hev
  exact sVal S hw hd hn (by simp [execOp, ho, Instr.makeFunc]) S.mem k
/-- calls of function values -/
theorem wp_callV {g : FuncId} {fo : Operand} {args : List Operand} {ts : Array TypeId} {vs caps : List Value} {X : Type} {E' : Nat → Prop} {M' : List Nat} {val : X → Value} {B' : X → List Ent} {D' : X → List Fact} {K : Act → World → Prop} (ho : o.op = .call { callee := .value fo, args := args.toArray, argTypes := ts })
    (hf : a.eval fo = .func (.func g) #[] caps.toArray) (hcallee : ∀ vs w, (callFunc g vs).run P w = .ok (.enter g vs) w) (hvs : args.map a.eval = vs) (hc : Calls P g (vs ++ caps).toArray w (Ret E' M' w val B' D')) (k : ∀ x w', St0 E' M' w w' (B' x) (D' x) → K (a.put o.dst (val x)) w') : o.wp P a w K Q := by
  subst hvs
  unfold Oper.wp
  have hrun : (execOp a.eval o).run P w = .ok (.enter g (args.map a.eval ++ caps).toArray) w := by
    unfold execOp
    simp only [ho, resolve, hf, Deferred.ofValue, Sem.run_bind, Sem.run_pure, Result.andThen_ok, invoke]
    simp [hcallee]
  rw [hrun]
  exact hc.mono fun e w' hr => by
    obtain ⟨x, rfl, hs⟩ := hr
    exact k x w' hs
theorem sCallVQ {X : Type} {g : FuncId} {fo : Operand} {args : List Operand} {ts : Array TypeId} {vs caps : List Value} {val : X → Value} {Dc : List Fact} (S : St dq E M w0 n a w F L D)
    (hw : ∀ a, Frm dq n a F → Region.wanted o (yielded ops a.tmps) = true) (ho : o.op = .call { callee := .value fo, args := args.toArray, argTypes := ts }) (hf : lookO F fo = some (.func (.func g) #[] caps.toArray))
    (hcallee : ∀ vs w, (callFunc g vs).run P w = .ok (.enter g vs) w) (hvs : args.map (lookO F) = vs.map some) (hpre : ∃ E1, St0 E1 [] w w [] Dc)
    (hc : ∀ (E' : Nat → Prop) w, St0 E' [] w w [] Dc → Calls P g (vs ++ caps).toArray w (Ret E' [] w val (fun _ => []) (fun _ => []))) (hd : o.dst = some d) (hn : d < n)
    (k : ∀ x a w', St dq E M w0 n a w' ((d, val x) :: F) L D → wpList P ops Q rest a w') : wpList P ops Q (o :: rest) a w := by
  refine wpList_step fun K hK => ?_
  rw [if_pos (hw a S.frm)]
  obtain ⟨E1, h1⟩ := hpre
  refine wp_callV ho (S.frm.eval hf) hcallee (lookO_map S.frm hvs) (hc _ w h1) fun x w' hs => ?_
  rw [hd]
  exact hK _ _ (k x _ w' ⟨S.frm.put hn _, S.mem.calm hs.chg⟩)
theorem sCallV {X : Type} {g : FuncId} {fo : Operand} {args : List Operand} {ts : Array TypeId} {vs caps : List Value} {val : X → Value} {B' : X → List Ent} {D' : X → List Fact} (B Rs : List Ent) (Dc : List Fact) (is js : List Nat) (S : St dq E M w0 n a w F L D)
    (hw : ∀ a, Frm dq n a F → Region.wanted o (yielded ops a.tmps) = true) (ho : o.op = .call { callee := .value fo, args := args.toArray, argTypes := ts }) (hf : lookO F fo = some (.func (.func g) #[] caps.toArray))
    (hcallee : ∀ vs w, (callFunc g vs).run P w = .ok (.enter g vs) w) (hvs : args.map (lookO F) = vs.map some)
    (hnd : is.Nodup) (hL : is.map (fun i => L[i]?) = (B ++ Rs).map some) (hDc : js.map (fun i => D[i]?) = Dc.map some)
    (hc : ∀ (E' : Nat → Prop) w, St0 E' (keysL B) w w B Dc → Calls P g (vs ++ caps).toArray w (Ret E' (keysL B) w val B' D')) (hd : o.dst = some d) (hn : d < n)
    (k : ∀ x a w', St dq E M w0 n a w' ((d, val x) :: F) (B' x ++ Rs) (D' x ++ D) → wpList P ops Q rest a w') : wpList P ops Q (o :: rest) a w := by
  refine wpList_step fun K hK => ?_
  rw [if_pos (hw a S.frm)]
  have S1 : St0 E M w0 w (B ++ Rs) D := S.mem.sub (getList_mem hL) (getList_perm hnd hL S.mem.nodup) (fun _ h => h)
  have S2 := S1.enter (D := Dc) (getList_mem hDc)
  refine wp_callV ho (S.frm.eval hf) hcallee (lookO_map S.frm hvs) (hc _ w S2) fun x w' hs => ?_
  rw [hd]
  exact hK _ _ (k x _ w' ⟨S.frm.put hn _, S1.upd hs.chg (B' x) (D' x) hs⟩)
theorem sCallV0 {X : Type} {g : FuncId} {fo : Operand} {args : List Operand} {ts : Array TypeId} {vs caps : List Value} {val : X → Value} {B' : X → List Ent} {D' : X → List Fact} (B Rs : List Ent) (Dc : List Fact) (is js : List Nat) (S : St dq E M w0 n a w F L D)
    (hw : ∀ a, Frm dq n a F → Region.wanted o (yielded ops a.tmps) = true) (ho : o.op = .call { callee := .value fo, args := args.toArray, argTypes := ts }) (hf : lookO F fo = some (.func (.func g) #[] caps.toArray))
    (hcallee : ∀ vs w, (callFunc g vs).run P w = .ok (.enter g vs) w) (hvs : args.map (lookO F) = vs.map some)
    (hnd : is.Nodup) (hL : is.map (fun i => L[i]?) = (B ++ Rs).map some) (hDc : js.map (fun i => D[i]?) = Dc.map some)
    (hc : ∀ (E' : Nat → Prop) w, St0 E' (keysL B) w w B Dc → Calls P g (vs ++ caps).toArray w (Ret E' (keysL B) w val B' D')) (hd : o.dst = none)
    (k : ∀ x a w', St dq E M w0 n a w' F (B' x ++ Rs) (D' x ++ D) → wpList P ops Q rest a w') : wpList P ops Q (o :: rest) a w := by
  refine wpList_step fun K hK => ?_
  rw [if_pos (hw a S.frm)]
  have S1 : St0 E M w0 w (B ++ Rs) D := S.mem.sub (getList_mem hL) (getList_perm hnd hL S.mem.nodup) (fun _ h => h)
  have S2 := S1.enter (D := Dc) (getList_mem hDc)
  refine wp_callV ho (S.frm.eval hf) hcallee (lookO_map S.frm hvs) (hc _ w S2) fun x w' hs => ?_
  rw [hd]
  exact hK _ _ (k x _ w' ⟨S.frm, S1.upd hs.chg (B' x) (D' x) hs⟩)
/-- a row's slice value: its length is the list's -/
theorem row_v {α : Type} {r : R α} {T : TypeId} {ad : Option Addr} {m c : Nat} {ys : List α} {E : Nat → Prop} {w : World} (h : (eRow r T (.slice ad m c) ys).p E w) : Value.slice ad m c = .slice ad ys.length c := by
  obtain ⟨ad', c', h1⟩ := row_slice h
  cases h1
  rfl
theorem St.shutB {α : Type} {r : R α} {T : TypeId} {b : Nat} {cs : List Value} (i : Nat) (v : Value) (x : α) (S : St dq E M w0 n a w F L D) (hi : L[i]? = some (eBox b T cs)) (hv : v.cells.toList = cs) (hr : r.rep (tot E L) w v x) : St dq E M w0 n a w F (L.eraseIdx i) (fPtr r (.pointer (some ⟨b, 0, none⟩)) x :: D) := ⟨S.frm, S.mem.shutB i v x hi hv hr⟩
theorem St0.hold {i : Nat} {e : Ent} (S : St0 E M w0 w L D) (h : L[i]? = some e) : e.p (tot E L) w := S.ent e (List.mem_of_getElem? h)
/-- rows that a call writes keep their lengths: the test is part of what is reckoned -/
def keepO {α : Type} (xs ys : List α) : Option (List α) := if ys.length = xs.length then some ys else none
theorem keepO_v {α : Type} {xs ys zs : List α} (h : keepO xs ys = some zs) (ad : Option Addr) (c : Nat) : Value.slice ad ys.length c = Value.slice ad xs.length c := by
  unfold keepO at h
  split at h
  · rename_i hl; rw [hl]
  · cases h
theorem keepO_of {α : Type} {xs ys : List α} (h : ys.length = xs.length) : keepO xs ys = some ys := by simp [keepO, h]
def andI (k : IntKind) (x y : Int) : Int := k.wrap ((BitVec.ofInt k.bits x &&& BitVec.ofInt k.bits y).toNat : Nat)
def orI (k : IntKind) (x y : Int) : Int := k.wrap ((BitVec.ofInt k.bits x ||| BitVec.ofInt k.bits y).toNat : Nat)
def xorI (k : IntKind) (x y : Int) : Int := k.wrap ((BitVec.ofInt k.bits x ^^^ BitVec.ofInt k.bits y).toNat : Nat)
def shlI (k : IntKind) (x y : Int) : Option Int := if y < 0 then none else some (k.wrap (x * 2 ^ (min y.toNat k.bits)))
def shrI (k : IntKind) (x y : Int) : Option Int := if y < 0 then none else some (x.fdiv (2 ^ (min y.toNat k.bits)))
theorem bAndK (t u : TypeId) (p q : Operand) (k : IntKind) (x y : Int) : ∀ w, (eqGuard .and t p q (.int k x) (.int k y)).run P w = .ok () w ∧ (binOp .and u (.int k x) (.int k y)).run P w = .ok (.int k (andI k x y)) w := fun w => ⟨rfl, by simp [binOp, Op.intBits, andI]⟩
theorem bOrK (t u : TypeId) (p q : Operand) (k : IntKind) (x y : Int) : ∀ w, (eqGuard .or t p q (.int k x) (.int k y)).run P w = .ok () w ∧ (binOp .or u (.int k x) (.int k y)).run P w = .ok (.int k (orI k x y)) w := fun w => ⟨rfl, by simp [binOp, Op.intBits, orI]⟩
theorem bXorK (t u : TypeId) (p q : Operand) (k : IntKind) (x y : Int) : ∀ w, (eqGuard .xor t p q (.int k x) (.int k y)).run P w = .ok () w ∧ (binOp .xor u (.int k x) (.int k y)).run P w = .ok (.int k (xorI k x y)) w := fun w => ⟨rfl, by simp [binOp, Op.intBits, xorI]⟩
theorem bShlK (t u : TypeId) (p q : Operand) {k k' : IntKind} {x y z : Int} (h : shlI k x y = some z) : ∀ w, (eqGuard .shl t p q (.int k x) (.int k' y)).run P w = .ok () w ∧ (binOp .shl u (.int k x) (.int k' y)).run P w = .ok (.int k z) w := fun w => by
  unfold shlI at h
  split at h
  · cases h
  · rename_i hy
    cases h
    exact ⟨rfl, by simp [binOp, Op.shift, hy]⟩
theorem bShrK (t u : TypeId) (p q : Operand) {k k' : IntKind} {x y z : Int} (h : shrI k x y = some z) : ∀ w, (eqGuard .shr t p q (.int k x) (.int k' y)).run P w = .ok () w ∧ (binOp .shr u (.int k x) (.int k' y)).run P w = .ok (.int k z) w := fun w => by
  unfold shrI at h
  split at h
  · cases h
  · rename_i hy
    cases h
    exact ⟨rfl, by simp [binOp, Op.shift, hy]⟩
/-- strings -/
def idxS (s : ByteArray) (i : Int) : Option Int := if 0 ≤ i then (s[i.toNat]?).map (fun b => (b.toNat : Int)) else none
theorem sIndexS {t : TypeId} {x ix : Operand} {v : ByteArray} {k : IntKind} {j y : Int} (S : St dq E M w0 n a w F L D)
    (hw : ∀ a, Frm dq n a F → Region.wanted o (yielded ops a.tmps) = true) (ho : o.op = .index t x ix) (ht : P.underlying t = some .string) (hx : lookO F x = some (.string v)) (hj : lookO F ix = some (.int k j))
    (hy : idxS v j = some y) (hd : o.dst = some d) (hn : d < n)
    (K : ∀ a, St dq E M w0 n a w ((d, .int .u8 y) :: F) L D → wpList P ops Q rest a w) : wpList P ops Q (o :: rest) a w := by
  have h1 := S.frm.eval hx
  have h2 := S.frm.eval hj
  unfold idxS at hy
  split at hy
  · rename_i h0
    obtain ⟨b, hb, rfl⟩ := Option.map_eq_some_iff.1 hy
    exact sVal S hw hd hn (by simp [execOp, ho, h1, h2, Instr.index, run_underlying ht, asIntOf, h0, hb]) S.mem K
  · cases hy
theorem bEqS (t u : TypeId) (p q : Operand) (x y : ByteArray) : ∀ w, (eqGuard .eql t p q (.string x) (.string y)).run P w = .ok () w ∧ (binOp .eql u (.string x) (.string y)).run P w = .ok (.bool (x == y)) w := fun w => ⟨rfl, by simp [binOp, Op.stringOp, bne, beq_toListBytes]⟩
theorem bNeS (t u : TypeId) (p q : Operand) (x y : ByteArray) : ∀ w, (eqGuard .neq t p q (.string x) (.string y)).run P w = .ok () w ∧ (binOp .neq u (.string x) (.string y)).run P w = .ok (.bool (x != y)) w := fun w => ⟨rfl, by simp [binOp, Op.stringOp, bne, beq_toListBytes]⟩
/-- a part of a string -/
def sliceS (s : ByteArray) (lo hi : Int) : Option ByteArray := if 0 ≤ lo ∧ lo ≤ hi ∧ hi ≤ (s.size : Int) then some (s.extract lo.toNat hi.toNat) else none
theorem sSliceS {t : TypeId} {x : Operand} {lo hi : Option Operand} {v u : ByteArray} {vlo vhi : Option Value} {lo' hi' : Int} (S : St dq E M w0 n a w F L D)
    (hw : ∀ a, Frm dq n a F → Region.wanted o (yielded ops a.tmps) = true) (ho : o.op = .slice t x lo hi none) (ht : P.underlying t = some .string) (hx : lookO F x = some (.string v))
    (hlo : lo.map (lookO F) = vlo.map some) (hhi : hi.map (lookO F) = vhi.map some) (hl : vlo = some (.int .i64 lo') ∨ vlo = none ∧ lo' = 0) (hh : vhi = some (.int .i64 hi') ∨ vhi = none ∧ hi' = (v.size : Int)) (hsl : sliceS v lo' hi' = some u) (hd : o.dst = some d) (hn : d < n)
    (k : ∀ a, St dq E M w0 n a w ((d, .string u) :: F) L D → wpList P ops Q rest a w) : wpList P ops Q (o :: rest) a w := by
  unfold sliceS at hsl
  split at hsl
  · rename_i hb
    obtain ⟨h0, h1, h2⟩ := hb
    cases hsl
    have hex := S.frm.eval hx
    have elo : lo.map a.eval = vlo := by
      cases lo with
      | none => cases vlo with | none => rfl | some _ => simp at hlo
      | some y => cases vlo with | none => simp at hlo | some u => simp at hlo; simp [S.frm.eval hlo]
    have ehi : hi.map a.eval = vhi := by
      cases hi with
      | none => cases vhi with | none => rfl | some _ => simp at hhi
      | some y => cases vhi with | none => simp at hhi | some u => simp at hhi; simp [S.frm.eval hhi]
    obtain ⟨l, rfl⟩ := Int.eq_ofNat_of_zero_le h0
    obtain ⟨q, rfl⟩ := Int.eq_ofNat_of_zero_le (show 0 ≤ hi' by omega)
    have e1 : l ≤ q := by omega
    have e2 : q ≤ v.size := by omega
    have hrun : (Instr.sliceAt t (.string v) vlo vhi none).run P w = .ok (.string (v.extract l q)) w := by
      rcases hl with rfl | ⟨rfl, hl⟩ <;> rcases hh with rfl | ⟨rfl, hh⟩ <;>
        (try (have hl' : l = 0 := by omega); try subst hl') <;> (try (have hh' : q = v.size := by omega); try subst hh') <;>
        simp [Instr.sliceAt, Instr.slice, run_underlying ht, Instr.sliceBounds, Instr.sliceBound, asIntOf, e1, e2]
    exact sVal S hw hd hn (by unfold execOp; simp only [ho, hex, elo, ehi, Option.map_none, Sem.run_bind, hrun, Result.andThen_ok, Sem.run_pure, Int.toNat_natCast]) S.mem k
  · cases hsl
def addS (x y : ByteArray) : Option ByteArray := if ((x.size + y.size : Nat) : Int) > IntKind.i64.max then none else some (x ++ y)
theorem bAddS (t u : TypeId) (p q : Operand) {x y z : ByteArray} (h : addS x y = some z) : ∀ w, (eqGuard .add t p q (.string x) (.string y)).run P w = .ok () w ∧ (binOp .add u (.string x) (.string y)).run P w = .ok (.string z) w := fun w => by
  unfold addS at h
  split at h
  · cases h
  · rename_i hy
    cases h
    exact ⟨rfl, by simp only [binOp, Op.stringOp, hy, if_false, Sem.run_pure]⟩
def ltS (x y : ByteArray) : Bool := Op.bytesLess x.toList y.toList
theorem bLssS (t u : TypeId) (p q : Operand) (x y : ByteArray) : ∀ w, (eqGuard .lss t p q (.string x) (.string y)).run P w = .ok () w ∧ (binOp .lss u (.string x) (.string y)).run P w = .ok (.bool (ltS x y)) w := fun w => ⟨rfl, by simp [binOp, Op.stringOp, ltS]⟩
theorem bGtrS (t u : TypeId) (p q : Operand) (x y : ByteArray) : ∀ w, (eqGuard .gtr t p q (.string x) (.string y)).run P w = .ok () w ∧ (binOp .gtr u (.string x) (.string y)).run P w = .ok (.bool (!(ltS x y || x == y))) w := fun w => ⟨rfl, by simp [binOp, Op.stringOp, ltS, beq_toListBytes]⟩
theorem bLeqS (t u : TypeId) (p q : Operand) (x y : ByteArray) : ∀ w, (eqGuard .leq t p q (.string x) (.string y)).run P w = .ok () w ∧ (binOp .leq u (.string x) (.string y)).run P w = .ok (.bool (ltS x y || x == y)) w := fun w => ⟨rfl, by simp [binOp, Op.stringOp, ltS, beq_toListBytes]⟩
theorem bGeqS (t u : TypeId) (p q : Operand) (x y : ByteArray) : ∀ w, (eqGuard .geq t p q (.string x) (.string y)).run P w = .ok () w ∧ (binOp .geq u (.string x) (.string y)).run P w = .ok (.bool (!ltS x y)) w := fun w => ⟨rfl, by simp [binOp, Op.stringOp, ltS]⟩
def min3 (p q r : Int) : Int := if r < (if q < p then q else p) then r else (if q < p then q else p)
def max3 (p q r : Int) : Int := if (if p < q then q else p) < r then r else (if p < q then q else p)
theorem sMin3 {ts : Array TypeId} {x y z : Operand} {p q r : Int} (S : St dq E M w0 n a w F L D)
    (hw : ∀ a, Frm dq n a F → Region.wanted o (yielded ops a.tmps) = true) (ho : o.op = .call { callee := .builtin .min, args := #[x, y, z], argTypes := ts }) (hx : lookO F x = some (.int .i64 p)) (hy : lookO F y = some (.int .i64 q)) (hz : lookO F z = some (.int .i64 r)) (hd : o.dst = some d) (hn : d < n)
    (k : ∀ a, St dq E M w0 n a w ((d, .int .i64 (min3 p q r)) :: F) L D → wpList P ops Q rest a w) : wpList P ops Q (o :: rest) a w := by
  have hex := S.frm.eval hx
  have hey := S.frm.eval hy
  have hez := S.frm.eval hz
  exact sVal S hw hd hn (by simp [execOp, ho, hex, hey, hez, resolve, invoke, builtin, Builtin.min_, Builtin.min2, min3]) S.mem k
theorem sMax3 {ts : Array TypeId} {x y z : Operand} {p q r : Int} (S : St dq E M w0 n a w F L D)
    (hw : ∀ a, Frm dq n a F → Region.wanted o (yielded ops a.tmps) = true) (ho : o.op = .call { callee := .builtin .max, args := #[x, y, z], argTypes := ts }) (hx : lookO F x = some (.int .i64 p)) (hy : lookO F y = some (.int .i64 q)) (hz : lookO F z = some (.int .i64 r)) (hd : o.dst = some d) (hn : d < n)
    (k : ∀ a, St dq E M w0 n a w ((d, .int .i64 (max3 p q r)) :: F) L D → wpList P ops Q rest a w) : wpList P ops Q (o :: rest) a w := by
  have hex := S.frm.eval hx
  have hey := S.frm.eval hy
  have hez := S.frm.eval hz
  exact sVal S hw hd hn (by simp [execOp, ho, hex, hey, hez, resolve, invoke, builtin, Builtin.max_, Builtin.max2, max3]) S.mem k
theorem box_at {α : Type} {g : α → Value} {xs : List α} {j : Int} {y : α} {vs : List Value} (pre post : List Value) (off : Nat) (h : idxO xs j = some y) (hv : vs = pre ++ (xs.map g ++ post)) (ho : pre.length = off) : vs[off + j.toNat * 1]? = some (g y) := by
  obtain ⟨h0, hlt, hget⟩ := idxO_some h
  subst hv
  subst ho
  rw [List.getElem?_append_right (by omega), show pre.length + j.toNat * 1 - pre.length = j.toNat by omega, List.getElem?_append_left (by simpa using hlt), List.getElem?_map, hget]
  rfl
theorem idxO_rng {α : Type} {xs : List α} {j : Int} {y : α} {m : Nat} (h : idxO xs j = some y) (hm : xs.length = m) : 0 ≤ j ∧ j < (m : Int) := by
  obtain ⟨h0, hlt, _⟩ := idxO_some h
  omega
/-- a list with one element set, element by element -/
def setIf {α : Type} (y : α) (j : Int) : List α → Int → List α
  | [], _ => []
  | x :: xs, k => (if j = k then y else x) :: setIf y j xs (k + 1)
theorem setIf_length {α : Type} (y : α) (j : Int) : ∀ (xs : List α) (k : Int), (setIf y j xs k).length = xs.length
  | [], _ => rfl
  | x :: xs, k => by simp [setIf, setIf_length y j xs]
theorem setIf_get {α : Type} (y : α) (j : Int) : ∀ (xs : List α) (k : Int) (m : Nat), (setIf y j xs k)[m]? = if j = k + m then (xs[m]?).map (fun _ => y) else xs[m]?
  | [], _, _ => by simp [setIf]
  | x :: xs, k, 0 => by
    simp only [setIf, List.getElem?_cons_zero, Int.natCast_zero, Int.add_zero, Option.map_some]
    split <;> rfl
  | x :: xs, k, m + 1 => by
    simp only [setIf, List.getElem?_cons_succ, setIf_get y j xs (k + 1) m]
    rw [show k + 1 + (m : Int) = k + ((m + 1 : Nat) : Int) by omega]
theorem over_at {α : Type} {g : α → Value} {xs ys : List α} {j : Int} {y z : α} {vs us : List Value} (pre post : List Value) (off : Nat) (h : idxO xs j = some z) (hv : vs = pre ++ (xs.map g ++ post)) (ho : pre.length = off) (hy : setIf y j xs 0 = ys) (hu : us = pre ++ (ys.map g ++ post)) : over vs (off + j.toNat * 1) [g y] = us := by
  obtain ⟨h0, hlt, hget⟩ := idxO_some h
  subst hv ho hy hu
  have e : (setIf y j xs 0).map g = (xs.map g).take j.toNat ++ [g y] ++ (xs.map g).drop (j.toNat + 1) := by
    refine List.ext_getElem? fun m => ?_
    rw [List.getElem?_map, setIf_get, List.append_assoc, List.getElem?_append, List.length_take, List.length_map, Nat.min_eq_left (by omega)]
    by_cases h1 : m < j.toNat
    · rw [if_neg (by omega), if_pos h1, List.getElem?_take_of_lt h1, List.getElem?_map]
    · rw [if_neg h1]
      by_cases h2 : m = j.toNat
      · subst h2
        rw [if_pos (by omega), hget]
        simp
      · rw [if_neg (by omega), List.getElem?_append_right (by simp; omega), List.getElem?_drop, List.getElem?_map]
        congr 2
        simp
        omega
  rw [e]
  unfold over
  have l1 : (pre ++ (xs.map g ++ post)).take (pre.length + j.toNat * 1) = pre ++ (xs.map g).take j.toNat := by
    rw [Nat.mul_one, List.take_append, List.take_of_length_le (Nat.le_add_right _ _), Nat.add_sub_cancel_left, List.take_append, List.length_map, show j.toNat - xs.length = 0 by omega, List.take_zero, List.append_nil]
  have l2 : (pre ++ (xs.map g ++ post)).drop (pre.length + j.toNat * 1 + [g y].length) = (xs.map g).drop (j.toNat + 1) ++ post := by
    simp only [List.length_singleton, Nat.mul_one, Nat.add_assoc, List.drop_append, Nat.add_sub_cancel_left, List.drop_eq_nil_of_le (Nat.le_add_right _ _), List.nil_append, List.length_map]
    rw [show j.toNat + 1 - xs.length = 0 by omega, List.drop_zero]
  rw [l1, l2]
  simp
theorem nilCheck_ok {x : Operand} {q : Addr} (S : St dq E M w0 n a w F L D)
    (hw : ∀ a, Frm dq n a F → Region.wanted o (yielded ops a.tmps) = true) (ho : o.op = .nilCheck x) (hx : lookO F x = some (.pointer (some q))) (hd : o.dst = some d) (hn : d < n)
    (k : ∀ a, St dq E M w0 n a w ((d, .pointer (some q)) :: F) L D → wpList P ops Q rest a w) : wpList P ops Q (o :: rest) a w := by
  have he := S.frm.eval hx
  exact sVal S hw hd hn (by simp [execOp, ho, he]) S.mem k
end
theorem sNilQ {dq : List Deferred} {α : Type} {P : Program} {E : Nat → Prop} {M : List Nat} {w0 : World} {n : Nat} {a : Act} {w : World} {F : List (Nat × Value)} {L : List Ent} {D : List Fact} {Q : Exit → Act → World → Prop} {ops : Array Oper} {rest : List Oper} {o : Oper} {d : Nat} {r : R α} {z : α} {x : Operand} {q : Value} (i : Nat) (S : St dq E M w0 n a w F L D)
    (hw : ∀ a, Frm dq n a F → Region.wanted o (yielded ops a.tmps) = true) (ho : o.op = .nilCheck x) (hx : lookO F x = some q) (hD : D[i]? = some (fPtr r q z)) (hd : o.dst = some d) (hn : d < n)
    (k : ∀ a, St dq E M w0 n a w ((d, q) :: F) L D → wpList P ops Q rest a w) : wpList P ops Q (o :: rest) a w := by
  obtain ⟨b, off, v, rfl, _⟩ := S.mem.know hD
  exact nilCheck_ok S hw ho hx hd hn k

end Go.Proofs.Ytdbgkakmhlmpbaa
