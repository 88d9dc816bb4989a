/- More operations: other kinds of numbers, equal structs, elements of array values, strings. -/
import Derived.Laws.StructEq
import Derived.ChangeKeysEq
import Derived.Test.YtdbgkakmhlmpbaaSpJ
namespace Go.Proofs.Ytdbgkakmhlmpbaa
open Go.RowKit
set_option linter.unusedVariables false

def quoK (k : IntKind) (x y : Int) : Option Int := if y = 0 then none else some (k.wrap (x.tdiv y))
theorem string_ext_eq (a b : ByteArray) : (a == b) = (a == b) := rfl
section
variable {P : Program} {dq : List Deferred} {E : Nat → Prop} {M : List Nat} {w0 : World} {n : Nat} {a : Act} {w : World} {F : List (Nat × Value)} {L : List Ent} {D : List Fact} {Q : Exit → Act → World → Prop}
variable {ops : Array Oper} {rest : List Oper} {o : Oper} {d : Nat}

theorem bAddK (t u : TypeId) (p q : Operand) (k : IntKind) (x y : Int) : ∀ w, (eqGuard .add t p q (.int k x) (.int k y)).run P w = .ok () w ∧ (binOp .add u (.int k x) (.int k y)).run P w = .ok (.int k (k.wrap (x + y))) w := fun w => ⟨rfl, by simp [binOp, Op.intArith]⟩
theorem bSubK (t u : TypeId) (p q : Operand) (k : IntKind) (x y : Int) : ∀ w, (eqGuard .sub t p q (.int k x) (.int k y)).run P w = .ok () w ∧ (binOp .sub u (.int k x) (.int k y)).run P w = .ok (.int k (k.wrap (x - y))) w := fun w => ⟨rfl, by simp [binOp, Op.intArith]⟩
theorem bMulK (t u : TypeId) (p q : Operand) (k : IntKind) (x y : Int) : ∀ w, (eqGuard .mul t p q (.int k x) (.int k y)).run P w = .ok () w ∧ (binOp .mul u (.int k x) (.int k y)).run P w = .ok (.int k (k.wrap (x * y))) w := fun w => ⟨rfl, by simp [binOp, Op.intArith]⟩
theorem bQuoK (t u : TypeId) (p q : Operand) {k : IntKind} {x y z : Int} (h : quoK k x y = some z) : ∀ w, (eqGuard .quo t p q (.int k x) (.int k y)).run P w = .ok () w ∧ (binOp .quo u (.int k x) (.int k y)).run P w = .ok (.int k z) w := fun w => by
  unfold quoK at h
  split at h
  · cases h
  · rename_i hy
    cases h
    exact ⟨rfl, by simp [binOp, Op.intDiv, hy]⟩
theorem bRemK (t u : TypeId) (p q : Operand) {k : IntKind} {x y z : Int} (h : remI x y = some z) : ∀ w, (eqGuard .rem t p q (.int k x) (.int k y)).run P w = .ok () w ∧ (binOp .rem u (.int k x) (.int k y)).run P w = .ok (.int k z) w := fun w => by
  unfold remI at h
  split at h
  · cases h
  · rename_i hy
    cases h
    exact ⟨rfl, by simp [binOp, Op.intDiv, hy]⟩
theorem sNegK {t : TypeId} {k : IntKind} {x : Operand} {b : Int} (S : St dq E M w0 n a w F L D)
    (hw : ∀ a, Frm dq n a F → Region.wanted o (yielded ops a.tmps) = true) (ho : o.op = .unOp .neg t x) (hx : lookO F x = some (.int k b)) (hd : o.dst = some d) (hn : d < n)
    (K : ∀ a, St dq E M w0 n a w ((d, .int k (k.wrap (0 - b))) :: F) L D → wpList P ops Q rest a w) : wpList P ops Q (o :: rest) a w := by
  have he := S.frm.eval hx
  exact sVal S hw hd hn (by simp [execOp, ho, he, Op.unary, Op.intArith]) S.mem K
/-- an element of an array value -/
theorem sIndexA {α : Type} {t e : TypeId} {x ix : Operand} {xs : List α} {g : α → Value} {k : IntKind} {j : Int} {y : α} (m : Nat) (cs : List Value) (S : St dq E M w0 n a w F L D)
    (hw : ∀ a, Frm dq n a F → Region.wanted o (yielded ops a.tmps) = true) (ho : o.op = .index t x ix) (ht : P.underlying t = some (.array m e)) (he : aggB P e = some false) (hs : cellsB P e = some 1) (hx : lookO F x = some (.agg cs.toArray)) (hj : lookO F ix = some (.int k j))
    (hcs : cs = xs.map g) (hm : xs.length = m) (hy : idxO xs j = some y) (hd : o.dst = some d) (hn : d < n)
    (K : ∀ a, St dq E M w0 n a w ((d, g y) :: F) L D → wpList P ops Q rest a w) : wpList P ops Q (o :: rest) a w := by
  have h1 := S.frm.eval hx
  have h2 := S.frm.eval hj
  obtain ⟨h0, hlt, hget⟩ := idxO_some hy
  subst hm
  have hlt2 : j < (xs.length : Int) := by omega
  have hc : cs[j.toNat]? = some (g y) := by rw [hcs, List.getElem?_map, hget]; rfl
  refine sVal S hw hd hn ?_ S.mem K
  simp [execOp, ho, h1, h2, Instr.index, run_underlying ht, asIntOf, h0, hlt2, part, run_isAgg he, run_sizeOf' hs, hc]
/-- equal structs: one fact for each type, proved by reckoning -/
def EqlV (P : Program) (t : TypeId) (x y : Value) (b : Bool) : Prop := ∀ w, (Op.equal t x y).run P w = .ok b w
def partP (P : Program) (t : TypeId) (cs : Array Value) (off : Nat) : Option Value := match aggB P t with
  | some true => (P.info? t).map fun i => .agg (cs.extract off (off + i.size))
  | some false => cs[off]?
  | none => none
theorem run_partP {t : TypeId} {cs : Array Value} {off : Nat} {v : Value} (h : partP P t cs off = some v) (w : World) : (part t cs off).run P w = .ok v w := by
  unfold partP at h
  split at h
  · rename_i hg
    cases hi : P.info? t with
    | none => simp [hi] at h
    | some i =>
      simp only [hi, Option.map_some, Option.some.injEq] at h
      subst h
      simp [part, run_isAgg hg, sizeOf, typeInfo, hi]
  · rename_i hg
    simp [part, run_isAgg hg, h]
  · cases h
def eqP (P : Program) : Nat → TypeId → Value → Value → Option Bool
  | 0, _, _, _ => none
  | d + 1, t, x, y => match P.underlying t, x, y with
    | some (.int _), .int k a, .int k' b => if k = k' then some (a == b) else none
    | some .bool, .bool a, .bool b => some (a == b)
    | some .string, .string a, .string b => some (a == b)
    | some (.struct fs), .agg xs, .agg ys => if P.stoodInHeld t then none else
      fs.toList.foldr (fun f acc => if f.name = "_" then acc else
        match partP P f.type xs f.offset, partP P f.type ys f.offset with
        | some a, some b => (eqP P d f.type a b).bind fun r => acc.map (r && ·)
        | _, _ => none) (some true)
    | some (.array n e), .agg xs, .agg ys => match P.info? e with
      | some _ => (List.range n).foldr (fun j acc =>
        match partP P e xs (j * P.cellsOf e), partP P e ys (j * P.cellsOf e) with
        | some a, some b => (eqP P d e a b).bind fun r => acc.map (r && ·)
        | _, _ => none) (some true)
      | none => none
    | _, _, _ => none
theorem run_eqP : ∀ (d : Nat) (t : TypeId) (x y : Value) (b : Bool), eqP P d t x y = some b → ∀ m w, d ≤ m → (Op.equalIn m t x y).run P w = .ok b w := by
  intro d
  induction d with
  | zero => intro t x y b h; simp [eqP] at h
  | succ d ih =>
    intro t x y b h m w hm
    obtain ⟨m, rfl⟩ : ∃ k, m = k + 1 := ⟨m - 1, by omega⟩
    unfold eqP at h
    split at h
    · rename_i hu
      split at h
      · rename_i hk; subst hk; cases h; simp [Op.equalIn, run_underlying hu]
      · cases h
    · rename_i hu; cases h; simp [Op.equalIn, run_underlying hu]
    · rename_i hu; cases h; simp [Op.equalIn, run_underlying hu]
    · rename_i fs xs ys hu
      split at h
      · cases h
      · rename_i hp
        have hf : P.fieldsOf t = fs := by simp [Program.fieldsOf, hu]
        rw [run_equalIn_struct w m t xs ys (by rw [hf]; exact hu) (by simpa using hp), hf]
        generalize fs.toList = l at h
        clear hf hu
        induction l generalizing b with
        | nil => simp at h; subst h; simp [Op.eqFields]
        | cons f l ihl =>
          simp only [List.foldr_cons] at h
          split at h
          · rename_i hn
            simp only [Op.eqFields, hn, ne_eq, not_true_eq_false, if_false]
            exact ihl _ h
          · rename_i hn
            split at h
            · rename_i va vb ha hb
              cases he : eqP P d f.type va vb with
              | none => simp [he] at h
              | some r =>
                rw [he] at h
                simp only [Option.bind_some, Option.map_eq_some_iff] at h
                obtain ⟨b', h1, rfl⟩ := h
                have h2 := ihl _ h1
                have h3 := ih f.type va vb r he m w (by omega)
                simp only [Op.eqFields, ne_eq, hn, not_false_eq_true, if_true, Sem.run_bind, run_partP ha, run_partP hb, Result.andThen_ok, h3]
                cases r
                · simp
                · simpa using h2
            · cases h
    · rename_i n e xs ys hu
      split at h
      · rename_i i hi
        rw [run_equalIn_array (w := w) m xs ys hu hi]
        generalize List.range n = l at h
        induction l generalizing b with
        | nil => simp at h; subst h; simp [Op.eqItems]
        | cons j l ihl =>
          simp only [List.foldr_cons] at h
          split at h
          · rename_i va vb ha hb
            cases he : eqP P d e va vb with
            | none => simp [he] at h
            | some r =>
              rw [he] at h
              simp only [Option.bind_some, Option.map_eq_some_iff] at h
              obtain ⟨b', h1, rfl⟩ := h
              have h2 := ihl _ h1
              have h3 := ih e va vb r he m w (by omega)
              simp only [Op.eqItems, Sem.run_bind, run_partP ha, run_partP hb, Result.andThen_ok, h3]
              cases r
              · simp
              · simpa using h2
          · cases h
      · cases h
    · cases h
theorem eqlV_of {t : TypeId} {x y : Value} {b : Bool} (h : eqP P 10 t x y = some b) : EqlV P t x y b := fun w => run_eqP 10 t x y b h 10000 w (by omega)
theorem bEqV (t u : TypeId) (p q : Operand) (cs ds : Array Value) (b : Bool) (hg : P.eqGuardType P.depth t = false) (h : EqlV P u (.agg cs) (.agg ds) b) : ∀ w, (eqGuard .eql t p q (.agg cs) (.agg ds)).run P w = .ok () w ∧ (binOp .eql u (.agg cs) (.agg ds)).run P w = .ok (.bool b) w := fun w => ⟨by simp [eqGuard, hg], by simp only [binOp, Sem.run_bind, h w, Result.andThen_ok, Sem.run_pure]⟩
theorem bNeV (t u : TypeId) (p q : Operand) (cs ds : Array Value) (b : Bool) (hg : P.eqGuardType P.depth t = false) (h : EqlV P u (.agg cs) (.agg ds) b) : ∀ w, (eqGuard .neq t p q (.agg cs) (.agg ds)).run P w = .ok () w ∧ (binOp .neq u (.agg cs) (.agg ds)).run P w = .ok (.bool (!b)) w := fun w => ⟨by simp [eqGuard, hg], by simp only [binOp, Sem.run_bind, h w, Result.andThen_ok, Sem.run_pure]⟩
theorem sLenS {t : TypeId} {x : Operand} {v : ByteArray} (S : St dq E M w0 n a w F L D)
    (hw : ∀ a, Frm dq n a F → Region.wanted o (yielded ops a.tmps) = true) (ho : o.op = .call { callee := .builtin .len, args := #[x], argTypes := #[t] }) (ht : P.underlying t = some .string) (hx : lookO F x = some (.string v)) (hd : o.dst = some d) (hn : d < n)
    (k : ∀ a, St dq E M w0 n a w ((d, .int .i64 (v.size : Int)) :: F) L D → wpList P ops Q rest a w) : wpList P ops Q (o :: rest) a w := by
  have he := S.frm.eval hx
  exact sVal S hw hd hn (by simp [execOp, ho, he, resolve, invoke, builtin, Builtin.len_, run_underlying ht, goInt]) S.mem k
theorem idxV_arr {t e : TypeId} {m sz : Nat} {b : Nat} {j : Int} (ht : P.underlying t = some (.array m e)) (hs : cellsB P e = some sz) (h0 : 0 ≤ j) (h1 : j < (m : Int)) (off : Nat) : IdxV P t (.pointer (some ⟨b, off, none⟩)) j (.pointer (some ⟨b, off + j.toNat * sz, none⟩)) := fun k w => by
  simp [Instr.indexAt, run_underlying ht, asIntOf, h0, h1, run_sizeOf' hs, add_addr, Instr.sureAddr]
end

end Go.Proofs.Ytdbgkakmhlmpbaa
