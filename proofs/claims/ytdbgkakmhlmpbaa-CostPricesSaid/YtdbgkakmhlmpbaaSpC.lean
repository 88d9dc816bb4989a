/- The rules for code: cuts, tests, loops, returns; what Go's numbers compute. -/
import Derived.Test.YtdbgkakmhlmpbaaSpB
namespace Go.Proofs.Ytdbgkakmhlmpbaa
open Go.RowKit
set_option linter.unusedVariables false

/-- a loop as a partial function: .inl s: another round; .inr t: left with t -/
def iterO {σ τ : Type} (B : σ → Option (σ ⊕ τ)) : Nat → σ → Option τ
  | 0, _ => none
  | n + 1, s => (B s).bind fun c => match c with | .inl s' => iterO B n s' | .inr t => some t
theorem iterO_mono {σ τ : Type} {B : σ → Option (σ ⊕ τ)} {n : Nat} {s : σ} {t : τ} (h : iterO B n s = some t) : iterO B (n + 1) s = some t := by
  induction n generalizing s with
  | zero => simp [iterO] at h
  | succ n ih =>
    unfold iterO at h ⊢
    cases hb : B s with
    | none => rw [hb] at h; simp at h
    | some c =>
      rw [hb] at h
      cases c with
      | inl s' => simp only [Option.bind_some] at h ⊢; exact ih h
      | inr u => simpa using h
theorem iterO_le {σ τ : Type} {B : σ → Option (σ ⊕ τ)} {n m : Nat} {s : σ} {t : τ} (h : iterO B n s = some t) (hm : n ≤ m) : iterO B m s = some t := by
  induction hm with
  | refl => exact h
  | step _ ih => exact iterO_mono ih
open Classical in
noncomputable def whileO {σ τ : Type} (B : σ → Option (σ ⊕ τ)) (s : σ) : Option τ :=
  if h : ∃ t n, iterO B n s = some t then some h.choose else none
theorem whileO_of {σ τ : Type} {B : σ → Option (σ ⊕ τ)} {s : σ} {t : τ} {n : Nat} (h : iterO B n s = some t) : whileO B s = some t := by
  have hx : ∃ t n, iterO B n s = some t := ⟨t, n, h⟩
  unfold whileO
  rw [dif_pos hx]
  obtain ⟨m, hm⟩ := hx.choose_spec
  have h1 := iterO_le h (Nat.le_max_left n m)
  have h2 := iterO_le hm (Nat.le_max_right n m)
  rw [h1] at h2
  exact h2.symm
theorem whileO_some {σ τ : Type} {B : σ → Option (σ ⊕ τ)} {s : σ} {t : τ} (h : whileO B s = some t) : ∃ n, iterO B n s = some t := by
  unfold whileO at h
  split at h
  · rename_i hx
    have := hx.choose_spec
    simp only [Option.some.injEq] at h
    rw [h] at this
    exact this
  · cases h
theorem whileO_step {σ τ : Type} {B : σ → Option (σ ⊕ τ)} {s s' : σ} (h : B s = some (.inl s')) : whileO B s = whileO B s' := by
  have hi : ∀ n, iterO B (n + 1) s = iterO B n s' := fun n => by rw [iterO, h]; rfl
  cases hx : whileO B s' with
  | some t =>
    obtain ⟨n, hn⟩ := whileO_some hx
    exact whileO_of (n := n + 1) (by rw [hi]; exact hn)
  | none =>
    cases hy : whileO B s with
    | none => rfl
    | some t =>
      obtain ⟨n, hn⟩ := whileO_some hy
      cases n with
      | zero => simp [iterO] at hn
      | succ n => rw [hi] at hn; rw [whileO_of hn] at hx; cases hx
theorem whileO_done {σ τ : Type} {B : σ → Option (σ ⊕ τ)} {s : σ} {t : τ} (h : B s = some (.inr t)) : whileO B s = some t :=
  whileO_of (n := 1) (by rw [iterO, h]; rfl)
/-- THE LAW OF LOOPS for plain proofs: what holds at the head holds on, a measure goes down -/
theorem whileO_inv {σ τ : Type} {B : σ → Option (σ ⊕ τ)} (I : σ → Prop) (μ : σ → Nat) (Pt : τ → Prop) {s : σ} (h0 : I s)
    (hr : ∀ s, I s → (∃ s', B s = some (.inl s') ∧ I s' ∧ μ s' < μ s) ∨ (∃ t, B s = some (.inr t) ∧ Pt t)) : ∃ t, whileO B s = some t ∧ Pt t := by
  have key : ∀ n s, μ s = n → I s → ∃ t, whileO B s = some t ∧ Pt t := by
    intro n
    induction n using Nat.strongRecOn with
    | _ n ih =>
      intro s hn hI
      rcases hr s hI with ⟨s', h1, h2, h3⟩ | ⟨t, h1, h2⟩
      · rw [whileO_step h1]
        exact ih _ (hn ▸ h3) _ rfl h2
      · exact ⟨t, whileO_done h1, h2⟩
  exact key _ s rfl h0

theorem bindSome {α β : Type} {x : Option α} {f : α → Option β} {r : β} (h : x.bind f = some r) : ∃ y, x = some y ∧ f y = some r := by
  cases x with
  | none => simp at h
  | some y => exact ⟨y, rfl, by simpa using h⟩
theorem iteSome {α : Type} {c : Bool} {x y : Option α} {r : α} (h : (if c = true then x else y) = some r) : (c = true ∧ x = some r) ∨ (c = false ∧ y = some r) := by
  cases c
  · exact .inr ⟨rfl, by simpa using h⟩
  · exact .inl ⟨rfl, by simpa using h⟩

section
variable {P : Program} {dq : List Deferred} {E : Nat → Prop} {M : List Nat} {w0 : World} {n : Nat} {a : Act} {w : World} {F : List (Nat × Value)} {L : List Ent} {D : List Fact} {Q : Exit → Act → World → Prop}

theorem sSeq {x y : Code} (h : ∀ K : Act → World → Prop, (∀ a w, y.wp P Q a w → K a w) → x.wp P (Exit.then K Q) a w) : (Code.seq x y).wp P Q a w := wp_seq_k h
/-- a cut: I holds between x and y -/
theorem sCut {x y : Code} (I : Act → World → Prop) (h1 : x.wp P (Exit.then I Q) a w) (h2 : ∀ a w, I a w → y.wp P Q a w) : (Code.seq x y).wp P Q a w :=
  wp_seq (wp_mono h1 fun e a w hq => by
    cases e with
    | normal => exact h2 a w hq
    | _ => exact hq)
theorem sRegion {id : Nat} {l : List Oper} (h : wpList P l.toArray Q l a w) : (Code.region id l.toArray false).wp P Q a w := wp_region_lit h
theorem sCondT {c : Operand} {b : Bool} {x y : Code} (S : St dq E M w0 n a w F L D) (hc : lookO F c = some (.bool b)) (hb : b = true) (h : x.wp P Q a w) : (Code.cond c x y).wp P Q a w :=
  wp_cond_true (by rw [S.frm.eval hc, hb]) h
theorem sCondF {c : Operand} {b : Bool} {x y : Code} (S : St dq E M w0 n a w F L D) (hc : lookO F c = some (.bool b)) (hb : b = false) (h : y.wp P Q a w) : (Code.cond c x y).wp P Q a w :=
  wp_cond_false (by rw [S.frm.eval hc, hb]) h
theorem sLoop {σ τ : Type} {c : Code} {B : σ → Option (σ ⊕ τ)} {s : σ} {t : τ} (hw : whileO B s = some t) (I : σ → Act → World → Prop) (h0 : I s a w)
    (round : ∀ s a w r, I s a w → B s = some r → (∀ u, r = .inr u → u = t) → c.wp P (Exit.then (fun a' w' => ∃ s', r = .inl s' ∧ I s' a' w') Q) a w) : (Code.loop c).wp P Q a w := by
  obtain ⟨m, hm⟩ := whileO_some hw
  clear hw
  intro b k cs
  have key : ∀ m s a w, iterO B m s = some t → I s a w →
      ∃ e a' w', Q e a' w' ∧ Arrives P (lone (b.at a (.code c :: .inLoop c :: k)) cs w) b k cs e a' w' := by
    intro m
    induction m with
    | zero => intro s a w hm; simp [iterO] at hm
    | succ m ih =>
      intro s a w hm hI
      rw [iterO] at hm
      obtain ⟨r, hr, hm⟩ := bindSome hm
      obtain ⟨e, a₁, w₁, hq, harr⟩ := round s a w r hI hr (by rintro u rfl; simpa using hm) b (.inLoop c :: k) cs
      cases e with
      | normal =>
        obtain ⟨s', rfl, hI'⟩ := hq
        obtain ⟨e₂, a₂, w₂, hq₂, harr₂⟩ := ih s' a₁ w₁ hm hI'
        exact ⟨e₂, a₂, w₂, hq₂, .of_steps (Steps.trans harr (.one step_inLoop)) harr₂⟩
      | exit id => exact ⟨_, a₁, w₁, hq, .pass (x := .inLoop c) rfl (fun _ _ => .inl (by simp)) harr⟩
      | goto l => exact ⟨_, a₁, w₁, hq, .pass (x := .inLoop c) rfl (fun _ _ => .inl (by simp)) harr⟩
      | ret => exact ⟨_, a₁, w₁, hq, .pass (x := .inLoop c) rfl (fun _ _ => .inl (by simp)) harr⟩
      | panic ch => exact ⟨_, a₁, w₁, hq, .pass (x := .inLoop c) rfl (fun _ _ => .inl (by simp)) harr⟩
      | outgrown => exact ⟨_, a₁, w₁, hq, .pass (x := .inLoop c) rfl (fun _ _ => .inl (by simp)) harr⟩
  obtain ⟨e, a', w', hq, harr⟩ := key m s a w hm h0
  exact ⟨e, a', w', hq, .of_steps (.one step_loop) harr⟩

/-- what is left at the end of a body -/
theorem sRet {fn : Func} {Rt : Ending → World → Prop} (v : Value) (S : St [] E M w0 n a w F L D) (hr : (results fn a.tmps).run P w = .ok v w) (h : Rt (.returned v) w) : bodyPost P fn Rt .ret a w := ⟨S.frm.defers, v, hr, h⟩
theorem sEnd {fn : Func} {Rt : Ending → World → Prop} (v : Value) (S : St [] E M w0 n a w F L D) (hr : (results fn a.tmps).run P w = .ok v w) (h : Rt (.returned v) w) : bodyPost P fn Rt .normal a w := ⟨S.frm.defers, v, hr, h⟩
/-- results in slots -/
theorem res0 {fn : Func} (hres : fn.results = #[]) : (results fn a.tmps).run P w = .ok (.tuple #[]) w := by
  simp [results, hres]
theorem res1 {fn : Func} {t1 : Nat} {v1 : Value} (hres : fn.results = #[.tmp t1]) (hf : Frm dq n a F) (h1 : look F t1 = some v1) : (results fn a.tmps).run P w = .ok v1 w := by
  have g1 := hf.get _ _ h1
  simp [results, hres, Array.getD_eq_getD_getElem?, g1]
theorem res2 {fn : Func} {t1 t2 : Nat} {v1 v2 : Value} (hres : fn.results = #[.tmp t1, .tmp t2]) (hf : Frm dq n a F) (h1 : look F t1 = some v1) (h2 : look F t2 = some v2) : (results fn a.tmps).run P w = .ok (.tuple #[v1, v2]) w := by
  have g1 := hf.get _ _ h1
  have g2 := hf.get _ _ h2
  simp [results, hres, Array.getD_eq_getD_getElem?, g1, g2]
theorem res3 {fn : Func} {t1 t2 t3 : Nat} {v1 v2 v3 : Value} (hres : fn.results = #[.tmp t1, .tmp t2, .tmp t3]) (hf : Frm dq n a F) (h1 : look F t1 = some v1) (h2 : look F t2 = some v2) (h3 : look F t3 = some v3) : (results fn a.tmps).run P w = .ok (.tuple #[v1, v2, v3]) w := by
  have g1 := hf.get _ _ h1
  have g2 := hf.get _ _ h2
  have g3 := hf.get _ _ h3
  simp [results, hres, Array.getD_eq_getD_getElem?, g1, g2, g3]
theorem res4 {fn : Func} {t1 t2 t3 t4 : Nat} {v1 v2 v3 v4 : Value} (hres : fn.results = #[.tmp t1, .tmp t2, .tmp t3, .tmp t4]) (hf : Frm dq n a F) (h1 : look F t1 = some v1) (h2 : look F t2 = some v2) (h3 : look F t3 = some v3) (h4 : look F t4 = some v4) : (results fn a.tmps).run P w = .ok (.tuple #[v1, v2, v3, v4]) w := by
  have g1 := hf.get _ _ h1
  have g2 := hf.get _ _ h2
  have g3 := hf.get _ _ h3
  have g4 := hf.get _ _ h4
  simp [results, hres, Array.getD_eq_getD_getElem?, g1, g2, g3, g4]

/-- Go's sums on 64 bits, and on other kinds -/
def w64 (x : Int) : Int := IntKind.i64.wrap x
theorem w64_id {x : Int} (h : -9223372036854775808 ≤ x ∧ x ≤ 9223372036854775807) : w64 x = x := by
  simp [w64, IntKind.wrap, IntKind.bits, IntKind.signed]
  omega
def quoI (x y : Int) : Option Int := if y = 0 then none else some (w64 (x.tdiv y))
def remI (x y : Int) : Option Int := if y = 0 then none else some (x.tmod y)
theorem bAdd (t u : TypeId) (p q : Operand) (x y : Int) : ∀ w, (eqGuard .add t p q (.int .i64 x) (.int .i64 y)).run P w = .ok () w ∧ (binOp .add u (.int .i64 x) (.int .i64 y)).run P w = .ok (.int .i64 (w64 (x + y))) w := fun w => ⟨rfl, rfl⟩
theorem bSub (t u : TypeId) (p q : Operand) (x y : Int) : ∀ w, (eqGuard .sub t p q (.int .i64 x) (.int .i64 y)).run P w = .ok () w ∧ (binOp .sub u (.int .i64 x) (.int .i64 y)).run P w = .ok (.int .i64 (w64 (x - y))) w := fun w => ⟨rfl, rfl⟩
theorem bMul (t u : TypeId) (p q : Operand) (x y : Int) : ∀ w, (eqGuard .mul t p q (.int .i64 x) (.int .i64 y)).run P w = .ok () w ∧ (binOp .mul u (.int .i64 x) (.int .i64 y)).run P w = .ok (.int .i64 (w64 (x * y))) w := fun w => ⟨rfl, rfl⟩
theorem bQuo (t u : TypeId) (p q : Operand) {x y z : Int} (h : quoI x y = some z) : ∀ w, (eqGuard .quo t p q (.int .i64 x) (.int .i64 y)).run P w = .ok () w ∧ (binOp .quo u (.int .i64 x) (.int .i64 y)).run P w = .ok (.int .i64 z) w := fun w => by
  unfold quoI at h
  split at h
  · cases h
  · rename_i hy
    cases h
    refine ⟨rfl, ?_⟩
    simp [binOp, Op.intDiv, hy, w64]
theorem bRem (t u : TypeId) (p q : Operand) {x y z : Int} (h : remI x y = some z) : ∀ w, (eqGuard .rem t p q (.int .i64 x) (.int .i64 y)).run P w = .ok () w ∧ (binOp .rem u (.int .i64 x) (.int .i64 y)).run P w = .ok (.int .i64 z) w := fun w => by
  unfold remI at h
  split at h
  · cases h
  · rename_i hy
    cases h
    refine ⟨rfl, ?_⟩
    simp [binOp, Op.intDiv, hy]
theorem bEq (t u : TypeId) (p q : Operand) (k : IntKind) (x y : Int) : ∀ w, (eqGuard .eql t p q (.int k x) (.int k y)).run P w = .ok () w ∧ (binOp .eql u (.int k x) (.int k y)).run P w = .ok (.bool (x == y)) w := fun w => ⟨rfl, by simp [binOp, Op.intCmp]⟩
theorem bNe (t u : TypeId) (p q : Operand) (k : IntKind) (x y : Int) : ∀ w, (eqGuard .neq t p q (.int k x) (.int k y)).run P w = .ok () w ∧ (binOp .neq u (.int k x) (.int k y)).run P w = .ok (.bool (x != y)) w := fun w => ⟨rfl, by simp [binOp, Op.intCmp]⟩
theorem bLt (t u : TypeId) (p q : Operand) (k : IntKind) (x y : Int) : ∀ w, (eqGuard .lss t p q (.int k x) (.int k y)).run P w = .ok () w ∧ (binOp .lss u (.int k x) (.int k y)).run P w = .ok (.bool (decide (x < y))) w := fun w => ⟨rfl, by simp [binOp, Op.intCmp]⟩
theorem bLe (t u : TypeId) (p q : Operand) (k : IntKind) (x y : Int) : ∀ w, (eqGuard .leq t p q (.int k x) (.int k y)).run P w = .ok () w ∧ (binOp .leq u (.int k x) (.int k y)).run P w = .ok (.bool (decide (x ≤ y))) w := fun w => ⟨rfl, by simp [binOp, Op.intCmp]⟩
theorem bGt (t u : TypeId) (p q : Operand) (k : IntKind) (x y : Int) : ∀ w, (eqGuard .gtr t p q (.int k x) (.int k y)).run P w = .ok () w ∧ (binOp .gtr u (.int k x) (.int k y)).run P w = .ok (.bool (decide (y < x))) w := fun w => ⟨rfl, by simp [binOp, Op.intCmp]⟩
theorem bGe (t u : TypeId) (p q : Operand) (k : IntKind) (x y : Int) : ∀ w, (eqGuard .geq t p q (.int k x) (.int k y)).run P w = .ok () w ∧ (binOp .geq u (.int k x) (.int k y)).run P w = .ok (.bool (decide (y ≤ x))) w := fun w => ⟨rfl, by simp [binOp, Op.intCmp]⟩
theorem run_equalIn_bool (d : Nat) {u : TypeId} (hu : P.underlying u = some .bool) (x y : Bool) (w : World) : (Op.equalIn (d + 1) u (.bool x) (.bool y)).run P w = .ok (x == y) w := by
  simp [Op.equalIn, run_underlying hu]
theorem bEqB (t u : TypeId) (p q : Operand) (hu : P.underlying u = some .bool) (x y : Bool) : ∀ w, (eqGuard .eql t p q (.bool x) (.bool y)).run P w = .ok () w ∧ (binOp .eql u (.bool x) (.bool y)).run P w = .ok (.bool (x == y)) w := fun w => ⟨rfl, by
  simp only [binOp]
  simp [Op.equal, Op.maxDepth, run_equalIn_bool 9999 hu]⟩
theorem bNeB (t u : TypeId) (p q : Operand) (hu : P.underlying u = some .bool) (x y : Bool) : ∀ w, (eqGuard .neq t p q (.bool x) (.bool y)).run P w = .ok () w ∧ (binOp .neq u (.bool x) (.bool y)).run P w = .ok (.bool (x != y)) w := fun w => ⟨rfl, by
  simp only [binOp]
  simp [Op.equal, Op.maxDepth, run_equalIn_bool 9999 hu, bne]⟩

theorem sNot {ops : Array Oper} {rest : List Oper} {o : Oper} {t : TypeId} {x : Operand} {b : Bool} {d : Nat} (S : St dq E M w0 n a w F L D)
    (hw : ∀ a, Frm dq n a F → Region.wanted o (yielded ops a.tmps) = true) (ho : o.op = .unOp .not t x) (hx : lookO F x = some (.bool b)) (hd : o.dst = some d) (hn : d < n)
    (k : ∀ a, St dq E M w0 n a w ((d, .bool (!b)) :: F) L D → wpList P ops Q rest a w) : wpList P ops Q (o :: rest) a w := by
  have he := S.frm.eval hx
  exact sVal S hw hd hn (by simp [execOp, ho, he, Op.unary]) S.mem k
theorem sNeg {ops : Array Oper} {rest : List Oper} {o : Oper} {t : TypeId} {x : Operand} {b : Int} {d : Nat} (S : St dq E M w0 n a w F L D)
    (hw : ∀ a, Frm dq n a F → Region.wanted o (yielded ops a.tmps) = true) (ho : o.op = .unOp .neg t x) (hx : lookO F x = some (.int .i64 b)) (hd : o.dst = some d) (hn : d < n)
    (k : ∀ a, St dq E M w0 n a w ((d, .int .i64 (w64 (0 - b))) :: F) L D → wpList P ops Q rest a w) : wpList P ops Q (o :: rest) a w := by
  have he := S.frm.eval hx
  exact sVal S hw hd hn (by simp [execOp, ho, he, Op.unary, Op.intArith, w64]) S.mem k
theorem sConv {ops : Array Oper} {rest : List Oper} {o : Oper} {t u : TypeId} {k k2 : IntKind} {ds : TypeDesc} {x : Operand} {b : Int} {d : Nat} (S : St dq E M w0 n a w F L D)
    (hw : ∀ a, Frm dq n a F → Region.wanted o (yielded ops a.tmps) = true) (ho : o.op = .convert t u x) (ht : P.underlying t = some ds) (hu : P.underlying u = some (.int k2)) (hx : lookO F x = some (.int k b)) (hd : o.dst = some d) (hn : d < n)
    (K : ∀ a, St dq E M w0 n a w ((d, .int k2 (k2.wrap b)) :: F) L D → wpList P ops Q rest a w) : wpList P ops Q (o :: rest) a w := by
  have he := S.frm.eval hx
  exact sVal S hw hd hn (by simp [execOp, ho, he, convert, run_underlying ht, run_underlying hu, Conv.intToInt]) S.mem K
theorem sExtract {ops : Array Oper} {rest : List Oper} {o : Oper} {i : Nat} {x : Operand} {vs : List Value} {d : Nat} (v : Value) (S : St dq E M w0 n a w F L D)
    (hw : ∀ a, Frm dq n a F → Region.wanted o (yielded ops a.tmps) = true) (ho : o.op = .extract x i) (hx : lookO F x = some (.tuple vs.toArray)) (hv : vs[i]? = some v) (hd : o.dst = some d) (hn : d < n)
    (k : ∀ a, St dq E M w0 n a w ((d, v) :: F) L D → wpList P ops Q rest a w) : wpList P ops Q (o :: rest) a w := by
  have he := S.frm.eval hx
  exact sVal S hw hd hn (by simp [execOp, ho, he, Instr.extract, hv]) S.mem k
theorem sLen {ops : Array Oper} {rest : List Oper} {o : Oper} {e t : TypeId} {x : Operand} {ad : Option Addr} {m c : Nat} {d : Nat} (S : St dq E M w0 n a w F L D)
    (hw : ∀ a, Frm dq n a F → Region.wanted o (yielded ops a.tmps) = true) (ho : o.op = .call { callee := .builtin .len, args := #[x], argTypes := #[t] }) (ht : P.underlying t = some (.slice e)) (hx : lookO F x = some (.slice ad m c)) (hd : o.dst = some d) (hn : d < n)
    (k : ∀ a, St dq E M w0 n a w ((d, .int .i64 (m : Int)) :: F) L D → wpList P ops Q rest a w) : wpList P ops Q (o :: rest) a w := by
  have he := S.frm.eval hx
  exact sVal S hw hd hn (by simp [execOp, ho, he, resolve, invoke, builtin, Builtin.len_, run_underlying ht, goInt]) S.mem k
end

end Go.Proofs.Ytdbgkakmhlmpbaa
