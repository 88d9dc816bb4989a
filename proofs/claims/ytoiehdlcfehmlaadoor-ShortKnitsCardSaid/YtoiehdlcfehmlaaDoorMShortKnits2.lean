/- Several texts in one: SpS SpU SpV SpW GTy SpO GOp KeA G18 G10 G19 G11 G20 G21 G28 G34 G26 G40 G33 -/
import Derived.WalkKit
import Derived.Maps.AppendAt
import Derived.Deep.AppendLies
import Derived.KernelRfl
import Derived.Laws.OwnMore
import Derived.Great.BuildSlice
import Derived.Orders
import Derived.Laws.StructEq
import Derived.ChangeKeysEq
import Derived.Defers
import Derived.Laws.BytesString
import Derived.RangeFuncNested
import Derived.RangeFuncBound
import Derived.RangeFuncCalls
import Derived.RangeFuncLeaves
import Derived.OrdersIn
import Derived.LoopNIn
import Derived.Test.YtoiehdlcfehmlaaDoorProg
import Derived.ProofKit
import Derived.OpenShut
import Derived.ChangeOld
import Derived.Deep.Slices
import Derived.Lib.SmallJoins
import Derived.JoinedOf
import Derived.JoinedAt
import Derived.Below
import Derived.Shelf.Strings.Builder1
import Derived.Shelf.Strings.Builder2
import Derived.Shelf.Strings.OnBuilder
import Derived.Test.YtoiehdlcfehmlaaDoorRows
import Derived.LaidMore
import Derived.SevenTiedAt
import Derived.Test.YtoiehdlcfehmlaaDoorCards
import Derived.Test.YtoiehdlcfehmlaaDoorTie
import Derived.Test.YtoiehdlcfehmlaaDoorMShortKnits1
namespace Go.Proofs.YtoiehdlcfehmlaaDoor
open Go.RowKit
set_option linter.unusedVariables false

section
variable {P : Program}
/-- a loop's body over a list: .inl: on; .inr: left -/
def foldO {σ X τ : Type} (B : σ → X → Option (σ ⊕ τ)) : σ → List X → Option (σ ⊕ τ)
  | s, [] => some (.inl s)
  | s, x :: xs => (B s x).bind fun r => match r with | .inl s' => foldO B s' xs | .inr t => some (.inr t)
theorem foldO_snoc {σ X τ : Type} {B : σ → X → Option (σ ⊕ τ)} {s0 s : σ} {pre : List X} (h : foldO B s0 pre = some (.inl s)) (x : X) (xs : List X) : foldO B s0 (pre ++ x :: xs) = (B s x).bind fun r => match r with | .inl s' => foldO B s' xs | .inr t => some (.inr t) := by
  induction pre generalizing s0 with
  | nil => simp only [foldO, Option.some.injEq, Sum.inl.injEq] at h; subst h; rfl
  | cons y pre ih =>
    simp only [foldO, List.cons_append] at h ⊢
    cases hb : B s0 y with
    | none => rw [hb] at h; cases h
    | some r =>
      rw [hb] at h
      cases r with
      | inl s' => exact ih h
      | inr t => cases h
/-- a step of memory, seen by whoever does not own the blocks O, that are O' behind it: cells outside O stay -/
structure Turn (O O' : Nat → Prop) (w w' : World) : Prop where
  os : w'.os = w.os
  tape : w'.tape = w.tape
  output : w'.output = w.output
  size : w.heap.size ≤ w'.heap.size
  same : ∀ b, b < w.heap.size → ¬ O b → IsC w b → w'.heap[b]? = w.heap[b]?
  excl : ∀ b, b < w.heap.size → O' b → O b
theorem Turn.refl (O : Nat → Prop) (w : World) : Turn O O w w := ⟨rfl, rfl, rfl, Nat.le_refl _, fun _ _ _ _ => rfl, fun _ _ h => h⟩
theorem Turn.trans {O O' O'' : Nat → Prop} {a b c : World} (h : Turn O O' a b) (k : Turn O' O'' b c) : Turn O O'' a c := by
  refine ⟨k.os.trans h.os, k.tape.trans h.tape, k.output.trans h.output, Nat.le_trans h.size k.size, fun i hi hn hc => ?_, fun i hi ho => h.excl i hi (k.excl i (Nat.lt_of_lt_of_le hi h.size) ho)⟩
  have e := h.same i hi hn hc
  have hc2 : IsC b i := by obtain ⟨cs, T, m, h1⟩ := hc; exact ⟨cs, T, m, by rw [e]; exact h1⟩
  rw [k.same i (Nat.lt_of_lt_of_le hi h.size) (fun ho => hn (h.excl i hi ho)) hc2, e]
theorem Turn.of_chg {K : List Nat} {O O' : Nat → Prop} {w w' : World} (h : Chg K w w') (hK : ∀ b, b ∈ K → O b) (he : ∀ b, b < w.heap.size → O' b → O b) : Turn O O' w w' :=
  ⟨h.os, h.tape, h.output, h.size, fun b hb hn _ => h.block b hb (fun hk => hn (hK b hk)), he⟩
theorem Turn.putObj {O : Nat → Prop} {w : World} {l : Nat} {o : Obj} (o' : Obj) (hl : w.heap[l]? = some o) (ho : o.isCells = false) : Turn O O w (w.putObj l o') := by
  have hg := grownBy_putObj' w l o'
  refine ⟨hg.os, hg.tape, hg.output, hg.size, fun b hb _ hc => hg.block b hb (fun e => ?_), fun _ _ h => h⟩
  obtain ⟨cs, T, m, h1⟩ := hc
  cases e
  rw [hl] at h1
  cases h1
  simp [Obj.isCells] at ho
/-- what is known and what is owned, behind such a step -/
theorem St0.turn {O O' : Nat → Prop} {w w' : World} {D : List Fact} (S : St0 O [] w w [] D) (h : Turn O O' w w') (hb : ∀ b, O' b → b < w'.heap.size) : St0 O' [] w' w' [] D := by
  have hext : Ext (tot O []) (tot O' []) w w' := by
    refine ⟨h.size, fun b h1 h2 h3 => h.same b h1 (fun ho => h2 (.inl ho)) (isC_of_cell h3), fun b h1 h2 => ?_⟩
    rcases h2 with h2 | h2
    · exact .inl (h.excl b h1 h2)
    · simp [keysL] at h2
  exact ⟨Chg.refl _ _, fun e he => (by cases he), fun d hd => d.mono hext (S.fact d hd), by simp [keysL], fun b hb => (by simp [keysL] at hb), hb⟩
/-- an iterator's word: over the list xs, for whatever body; Dc: what it reads of memory. O: the blocks that the loop owns, which its rounds may change -/
def SeqX (P : Program) (gf : Nat) (lb : Array Value) {X : Type} (enc : X → Array Value) (xs : List X) (Dc : List Fact) : Prop :=
  ∀ (l : Nat) (J : List X → (Nat → Prop) → World → Prop) (Jx : World → Prop) (O : Nat → Prop) (W : World), (∀ pre O A B, J pre O A → Chg [] A B → J pre O B) → (∀ A B, Jx A → Chg [] A B → Jx B) → (∀ pre O A, J pre O A → ∀ b, O b → b < A.heap.size) → St0 O [] W W [] Dc →
    (∀ pre x O W1, (pre ++ [x]) <+: xs → J pre O W1 → YieldAt Fence.wide 0 P l (enc x) W1 fun e W' =>
      (e = .returned (.bool true) ∧ ∃ O', J (pre ++ [x]) O' W' ∧ Turn O O' W1 W') ∨ (e = .returned (.bool false) ∧ Jx W')) →
    J [] O W → CallsIn Fence.wide 1 P gf (#[.func (.yield l) #[] #[]] ++ lb) W fun e W' => (∃ v, e = .returned v) ∧ ((∃ O', J xs O' W') ∨ Jx W')
/-- how a round may end -/
def roundPost {X : Type} (I : List X × (Nat → Prop) → World → Prop) (Ix : Code → World → Prop) (xs : List X) (O : Nat → Prop) (W : World) : Exit → Act → World → Prop
  | .normal, _, W' => KeepsOthers W W' ∧ ∃ O', I (xs, O') W' ∧ Turn O O' W W'
  | .ret, _, W' => KeepsOthers W W' ∧ Ix .ret W'
  | .exit id, _, W' => KeepsOthers W W' ∧ Ix (.exit id) W'
  | _, _, _ => False
theorem roundPost_out {X : Type} (I : List X × (Nat → Prop) → World → Prop) (Ix : Code → World → Prop) (xs : List X) (O : Nat → Prop) (W : World) : ¬ LetsOut (roundPost I Ix xs O W) := fun ⟨_, _, h⟩ => h
theorem grown_of_chg {w w' : World} (h : Chg [] w w') : w.grownBy w' none := ⟨h.os, h.tape, h.output, h.size, fun k hk _ => h.block k hk (by simp)⟩
theorem sRangeW {X : Type} {g : Operand} {ps : Array Tmp} {assign body : Code} {Q : Exit → Act → World → Prop} {a : Act} {w : World} {gf : Nat} {lb : Array Value} (hg : a.eval g = .func (.func gf) #[] lb) (eg : ∀ args w, (callFunc gf args).run P w = .ok (.enter gf args) w)
    (enc : X → Array Value) (xs : List X) (Dc : List Fact) (hseq : SeqX P gf lb enc xs Dc) (hps : ∀ x, (enc x).size = ps.size) (O0 : Nat → Prop) (hd0 : ∀ d, d ∈ Dc → d.p O0 w) (hO0 : ∀ b, O0 b → b < w.heap.size)
    (I : List X × (Nat → Prop) → World → Prop) (I2 : List X × (Nat → Prop) × X × Act → World → Prop) (Ix : Code → World → Prop) (hI : OwnFrom w.heap.size I) (hI2 : OwnFrom w.heap.size I2) (hIx : OwnFrom w.heap.size Ix) (hIo : ∀ pre O A, I (pre, O) A → ∀ b, O b → b < A.heap.size) (h0 : I ([], O0) w)
    (hassign : ∀ (l : Nat) (pre : List X) (O : Nat → Prop) (x : X) (W : World), (pre ++ [x]) <+: xs → I (pre, O) W → assign.wpIn (zf (some l)) 0 P (Exit.then (fun a' W' => KeepsOthers W W' ∧ Turn O O W W' ∧ I2 (pre, O, x, a') W') (fun _ _ _ => False)) { tmps := (ps.zip (enc x)).foldl (fun t (p, v) => t.setIfInBounds p v) a.tmps, defers := [] } W)
    (hbody : ∀ (l : Nat) (pre : List X) (O : Nat → Prop) (x : X) (a' : Act) (W : World), (pre ++ [x]) <+: xs → I2 (pre, O, x, a') W → body.wpIn (zf (some l)) 0 P (roundPost I Ix (pre ++ [x]) O W) a' W)
    (hdone : ∀ (D : Nat) (O : Nat → Prop) (W : World), w.heap.size ≤ D → I (xs, O) W → W.heap[D]? = some (.deferred (some [])) → Q .normal { a with defers := { target := .collected D, args := #[] } :: a.defers } W)
    (hstop : ∀ (D : Nat) (c : Code) (W : World), w.heap.size ≤ D → Ix c W → W.heap[D]? = some (.deferred (some [])) → c.wp P Q { a with defers := { target := .collected D, args := #[] } :: a.defers } W) :
    (Code.rangeFunc g ps assign body).wp P Q a w := by
  refine (wpIn_wide (n := 2)).1 (wpIn_rangeFunc fun fn hfn => ?_)
  -- the loop's record, and the block of what its rounds defer
  let rc : LoopState → Option Code → Loop := fun st pe => { state := st, pending := pe, fn, tmps := a.tmps, params := ps, assign, body, defers := w.heap.size }
  obtain ⟨W1, hW1⟩ : ∃ W1, (w.alloc (.deferred (some []))).alloc (.loop (rc .ready none)) = W1 := ⟨_, rfl⟩
  have hL1 : W1.heap[w.heap.size + 1]? = some (.loop (rc .ready none)) := by
    have := World.alloc_heap_new (w.alloc (.deferred (some []))) (.loop (rc .ready none))
    rw [World.size_alloc, hW1] at this
    exact this
  have hK1 : W1.heap[w.heap.size]? = some (.deferred (some [])) := by
    have := World.alloc_heap_new w (.deferred (some []))
    rw [← hW1]
    exact (Below.heap_alloc _ _ _ (by simp)).trans this
  have hI1 : I ([], O0) W1 := hW1 ▸ hI.alloc _ (hI.alloc _ h0)
  have hz1 : w.heap.size + 2 = W1.heap.size := by rw [← hW1]; simp
  have hc1 : Chg [] w W1 := by
    rw [← hW1]
    exact (Chg.alloc [] w _).trans (Chg.alloc [] _ _) (fun j hj => by cases hj)
  have hS1 : St0 O0 [] W1 W1 [] Dc := by
    have hext : Ext O0 (tot O0 []) w W1 := ⟨hc1.size, fun b hb _ _ => hc1.block b hb (by simp), fun b _ h => by
      rcases h with h | h
      · exact h
      · simp [keysL] at h⟩
    exact ⟨Chg.refl _ _, fun e he => (by cases he), fun d hd => d.mono hext (hd0 d hd), by simp [keysL], fun b hb => (by simp [keysL] at hb), fun b hb => Nat.lt_of_lt_of_le (hO0 b hb) hc1.size⟩
  refine ⟨w.heap.size + 1, [{ target := .collected w.heap.size, args := #[] }], W1, { target := .fn (.func gf) lb, args := #[.func (.yield (w.heap.size + 1)) #[] #[]] }, W1, gf, #[.func (.yield (w.heap.size + 1)) #[] #[]] ++ lb, W1, ?_, ?_, ?_, ?_, fun h => by simp [Fence.wide] at h, ?_⟩
  · rw [← hW1]; exact run_enterLoop_outer _ _ _ _ _
  · simp only [resolve, hg]
    simp [go_sem]
  · intro f' _; trivial
  · simp [invoke, go_sem, eg]
  have keep : ∀ {A B : World} {k : Nat} {o : Obj}, Chg [] A B → A.heap[k]? = some o → B.heap[k]? = some o :=
    fun hc hk => (hc.block _ (Array.getElem?_eq_some_iff.1 hk).1 (by simp)).trans hk
  refine (hseq (w.heap.size + 1)
    (fun pre O W => I (pre, O) W ∧ W.heap[w.heap.size + 1]? = some (.loop (rc .ready none)) ∧ W.heap[w.heap.size]? = some (.deferred (some [])))
    (fun W => ∃ c, Ix c W ∧ W.heap[w.heap.size + 1]? = some (.loop (rc .done (some c))) ∧ W.heap[w.heap.size]? = some (.deferred (some []))) O0 W1
    (fun pre O A B hs hc => ⟨hI _ A B none hs.1 (grown_of_chg hc) (fun r e => by cases e), keep hc hs.2.1, keep hc hs.2.2⟩)
    (fun A B hs hc => by
      obtain ⟨c, h1, h2, h3⟩ := hs
      exact ⟨c, hIx c A B none h1 (grown_of_chg hc) (fun r e => by cases e), keep hc h2, keep hc h3⟩)
    (fun pre O A hs => hIo pre O A hs.1) hS1 ?_ ⟨hI1, hL1, hK1⟩).mono ?_
  · rintro pre x O W hpre ⟨hi, hl, hk⟩
    have hy := run_yield (P := P) (args := enc x) hl (hps x)
    refine ⟨fn, _, assign, body, hy, roundIn_of_wpIn hfn (wpIn_mono (hassign _ pre O x W hpre hi) fun e a' Wa he => ?_)⟩
    cases e with
    | exit id => exact he.elim
    | goto t => exact he.elim
    | ret => exact he.elim
    | panic ch => exact he.elim
    | outgrown => exact he.elim
    | normal =>
    obtain ⟨hka, hta, hia⟩ := he
    have hla := hka.same _ _ hl rfl
    have hkk := hka.same _ _ hk rfl
    have hlt : w.heap.size + 1 < Wa.heap.size := (Array.getElem?_eq_some_iff.1 hla).1
    refine ⟨_, run_beginRound hla rfl, ?_⟩
    obtain ⟨Wb, hWb⟩ : ∃ Wb, Wa.putObj (w.heap.size + 1) (.loop { rc .ready none with state := .busy }) = Wb := ⟨_, rfl⟩
    have hl2 : Wb.heap[w.heap.size + 1]? = some (.loop { rc .ready none with state := .busy }) := hWb ▸ World.putObj_heap_same hlt
    have hk2 : Wb.heap[w.heap.size]? = some (.deferred (some [])) := hWb ▸ (World.putObj_heap_other (by omega)).trans hkk
    have hi2 : I2 (pre, O, x, a') Wb := hWb ▸ hI2.putObj _ hia (by omega) hla rfl
    have htb : Turn O O W Wb := hta.trans (hWb ▸ Turn.putObj _ hla rfl)
    rw [hWb]
    refine wpIn_mono (hbody _ pre O x a' _ hpre hi2) ?_
    have fin : ∀ (jump : Option Code) (W3 : World), KeepsOthers Wb W3 → ∃ W4, (Instr.endRound (w.heap.size + 1) jump).run P W3 = .ok (.bool jump.isNone) W4 ∧ W4 = W3.putObj (w.heap.size + 1) (.loop (rc (if jump.isNone then .ready else .done) jump)) ∧
        W3.heap[w.heap.size + 1]? = some (.loop { rc .ready none with state := .busy }) ∧ W4.heap[w.heap.size + 1]? = some (.loop (rc (if jump.isNone then .ready else .done) jump)) ∧ W4.heap[w.heap.size]? = some (.deferred (some [])) := fun jump W3 hk3 => by
      have hl3 := hk3.same _ _ hl2 rfl
      exact ⟨_, run_endRound (P := P) jump hl3, rfl, hl3, World.putObj_heap_same (Array.getElem?_eq_some_iff.1 hl3).1, (World.putObj_heap_other (by omega)).trans (hk3.same _ _ hk2 rfl)⟩
    rintro e a3 W3 hp
    cases e with
    | normal =>
      obtain ⟨hk3, O', hi3, ht3⟩ := hp
      obtain ⟨W4, hr, rfl, hl3, hl4, hk4⟩ := fin none W3 hk3
      exact ⟨_, _, hr, .inl ⟨rfl, O', ⟨hI.putObj _ hi3 (by omega) hl3 rfl, hl4, hk4⟩, (htb.trans ht3).trans (Turn.putObj _ hl3 rfl)⟩⟩
    | ret =>
      obtain ⟨hk3, hi3⟩ := hp
      obtain ⟨W4, hr, rfl, hl3, hl4, hk4⟩ := fin (some .ret) W3 hk3
      exact ⟨_, _, hr, .inr ⟨rfl, .ret, hIx.putObj _ hi3 (by omega) hl3 rfl, hl4, hk4⟩⟩
    | exit id =>
      obtain ⟨hk3, hi3⟩ := hp
      obtain ⟨W4, hr, rfl, hl3, hl4, hk4⟩ := fin (some (.exit id)) W3 hk3
      exact ⟨_, _, hr, .inr ⟨rfl, .exit id, hIx.putObj _ hi3 (by omega) hl3 rfl, hl4, hk4⟩⟩
    | goto t => exact hp.elim
    | panic ch => exact hp.elim
    | outgrown => exact hp.elim
  · rintro e W2 ⟨⟨v, rfl⟩, (⟨O', hi, hl, hk⟩ | ⟨c, hi, hl, hk⟩)⟩
    · exact ⟨none, _, run_endLoop (P := P) hl (by simp [rc]), hdone _ _ _ (Nat.le_refl _) (hI.putObj _ hi (by omega) hl rfl) ((World.putObj_heap_other (by omega)).trans hk)⟩
    · exact ⟨some c, _, run_endLoop (P := P) hl (by simp [rc]), wpIn_wide.2 (hstop _ c _ (Nat.le_refl _) (hIx.putObj _ hi (by omega) hl rfl) ((World.putObj_heap_other (by omega)).trans hk))⟩
end
section
variable {P : Program} {dq : List Deferred} {E : Nat → Prop} {M : List Nat} {w0 : World} {n : Nat} {a : Act} {w : World} {F : List (Nat × Value)} {L : List Ent} {D : List Fact} {Q : Exit → Act → World → Prop} {l : Option Nat}
theorem sLoopR {σ τ : Type} {c : Code} {B : σ → Option (σ ⊕ τ)} {s : σ} {t : τ} (hw : whileO B s = some t) (I : σ → Act → World → Prop) (h0 : I s a w)
    (round : ∀ s a w r, I s a w → B s = some r → (∀ u, r = .inr u → u = t) → c.wpIn (zf l) 0 P (Exit.then (fun a' w' => ∃ s', r = .inl s' ∧ I s' a' w') Q) a w) : (Code.loop c).wpIn (zf l) 0 P Q a w := by
  obtain ⟨m, hm⟩ := whileO_some hw
  clear hw
  refine wpIn_loop_rounds m ?_
  induction m generalizing s a w with
  | zero => simp [iterO] at hm
  | succ m ih =>
    rw [iterO] at hm
    obtain ⟨r, hr, hm⟩ := bindSome hm
    refine wpIn_mono (round s a w r h0 hr (by rintro u rfl; simpa using hm)) fun e a' w' hq => ?_
    cases e with
    | normal =>
      obtain ⟨s', rfl, hI⟩ := hq
      exact ih hI hm
    | exit id => exact hq
    | goto l => exact hq
    | ret => exact hq
    | panic ch => exact hq
    | outgrown => exact hq
/-- a call of the loop's own function: a round -/
theorem sYield {ops : Array Oper} {rest : List Oper} {o : Oper} {d : Nat} {y : Nat} {fo : Operand} {args : List Operand} {ts : Array TypeId} {vs : List Value} {T U : World → Prop} (S : St [] E M w0 n a w F L D)
    (hw : ∀ a, Frm [] n a F → Region.wanted o (yielded ops a.tmps) = true) (ho : o.op = .call { callee := .value fo, args := args.toArray, argTypes := ts }) (hf : lookO F fo = some (.func (.yield y) #[] #[])) (hvs : args.map (lookO F) = vs.map some) (hd : o.dst = some d) (hn : d < n)
    (hY : YieldAt Fence.wide 0 P y vs.toArray w fun e W' => (e = .returned (.bool true) ∧ T W') ∨ (e = .returned (.bool false) ∧ U W'))
    (kT : ∀ a' w', Frm [] n a' ((d, .bool true) :: F) → T w' → wpListIn (zf none) 0 P ops Q rest a' w') (kF : ∀ a' w', Frm [] n a' ((d, .bool false) :: F) → U w' → wpListIn (zf none) 0 P ops Q rest a' w') : wpListIn (zf none) 0 P ops Q (o :: rest) a w := by
  obtain ⟨fn, tmps, assign, body, hy, hR⟩ := hY
  unfold wpListIn
  rw [if_pos (hw a S.frm)]
  refine ⟨fun _ _ => trivial, ?_⟩
  have hev := lookO_map S.frm hvs
  have hrun : (execOp a.eval o).run P w = .ok (.round y fn tmps assign body) w := by
    unfold execOp
    simp only [ho, resolve, S.frm.eval hf, Deferred.ofValue, Sem.run_bind, Sem.run_pure, Result.andThen_ok, invoke]
    simpa [hev] using hy
  show o.uponIn _ 0 P a _ Q ((execOp a.eval o).run P w)
  rw [hrun, Oper.uponIn_round]
  refine ⟨fun h => by simp [zf, Fence.wide] at h, hR.mono fun e w' he => ?_⟩
  rcases he with ⟨rfl, h⟩ | ⟨rfl, h⟩
  · show wpListIn _ _ _ _ _ _ (a.put o.dst _) w'
    rw [hd]
    exact kT _ _ (S.frm.put hn _) h
  · show wpListIn _ _ _ _ _ _ (a.put o.dst _) w'
    rw [hd]
    exact kF _ _ (S.frm.put hn _) h
end

end Go.Proofs.YtoiehdlcfehmlaaDoor
namespace Go.Proofs.YtoiehdlcfehmlaaDoor
open Go.RowKit
set_option linter.unusedVariables false

section
variable {P : Program}
theorem lo_then {K : Act → World → Prop} {Q : Exit → Act → World → Prop} (h : ¬ LetsOut Q) : ¬ LetsOut (Exit.then K Q) := fun ⟨a, w, q⟩ => h ⟨a, w, q⟩
theorem lo_block {id : Nat} {Q : Exit → Act → World → Prop} (h : ¬ LetsOut Q) : ¬ LetsOut (Exit.inBlock id Q) := fun ⟨a, w, q⟩ => h ⟨a, w, q⟩
/-- what a round is handed -/
def fA1 {α : Type} (r : R α) (x : α) (vs : Array Value) : Fact := ⟨fun E w => ∃ v, vs = #[v] ∧ r.rep E w v x, fun h ⟨v, e, k⟩ => ⟨v, e, r.mono h k⟩⟩
def fA2 {α β : Type} (r : R α) (q : R β) (x : α × β) (vs : Array Value) : Fact := ⟨fun E w => ∃ v u, vs = #[v, u] ∧ r.rep E w v x.1 ∧ q.rep E w u x.2, fun h ⟨v, u, e, k1, k2⟩ => ⟨v, u, e, r.mono h k1, q.mono h k2⟩⟩
/-- the block of what a loop's rounds defer: nothing -/
def eDef (b : Nat) : Ent where
  keys := [b]
  p := fun _ w => w.heap[b]? = some (.deferred (some []))
  mono := fun _ hs h => by rw [hs b (by simp)]; exact h
  lt := fun h k hk => by
    simp at hk; subst hk
    exact (Array.getElem?_eq_some_iff.1 h).1
def mark (b : Nat) : Deferred := { target := .collected b, args := #[] }
/-- an iterator's word: what it reckons, it does with whatever body -/
def SeqF (P : Program) (gf : Nat) (lb : Array Value) {X : Type} (FX : X → Array Value → Fact) (I : ∀ (σ τ : Type), (σ → X → Option (σ ⊕ τ)) → σ → Option (σ ⊕ τ)) (Dc : List Fact) : Prop :=
  ∀ (σ τ : Type) (B : σ → X → Option (σ ⊕ τ)) (s0 : σ) (r : σ ⊕ τ), I σ τ B s0 = some r →
  ∀ (l : Nat) (J : σ → (Nat → Prop) → World → Prop) (Jx : τ → World → Prop) (O : Nat → Prop) (W : World),
    (∀ s O A B, J s O A → Chg [] A B → J s O B) → (∀ t A B, Jx t A → Chg [] A B → Jx t B) → (∀ s O A, J s O A → ∀ b, O b → b < A.heap.size) → St0 O [] W W [] Dc →
    (∀ s x vs b O W1, B s x = some b → (FX x vs).p O W1 → J s O W1 → YieldAt Fence.wide 0 P l vs W1 fun e W' =>
      (e = .returned (.bool true) ∧ ∃ s' O', b = .inl s' ∧ J s' O' W' ∧ Turn O O' W1 W') ∨ (e = .returned (.bool false) ∧ ∃ t, b = .inr t ∧ Jx t W')) →
    J s0 O W → CallsIn Fence.wide 1 P gf (#[.func (.yield l) #[] #[]] ++ lb) W fun e W' => (∃ v, e = .returned v) ∧ ((∃ s O', r = .inl s ∧ J s O' W') ∨ ∃ t, r = .inr t ∧ Jx t W')
theorem St0.putL {E : Nat → Prop} {M : List Nat} {w0 w : World} {L : List Ent} {D : List Fact} (S : St0 E M w0 w L D) {l : Nat} {o : Obj} (o' : Obj) (hl : w.heap[l]? = some o) (ho : o.isCells = false) (hm : w0.heap.size ≤ l) (hk : l ∉ keysL L) : St0 E M w0 (w.putObj l o') L D := by
  have hg := grownBy_putObj' w l o'
  have hsame : ∀ b, b < w.heap.size → b ≠ l → (w.putObj l o').heap[b]? = w.heap[b]? := fun b hb hn => hg.block b hb (fun e => hn (by cases e; rfl))
  have hext : Ext (tot E L) (tot E L) w (w.putObj l o') := by
    refine ⟨hg.size, fun b h1 _ h3 => hsame b h1 (fun e => ?_), fun b _ h => h⟩
    subst e
    obtain ⟨cs, T, m, h1⟩ := isC_of_cell h3
    rw [hl] at h1
    cases h1
    simp [Obj.isCells] at ho
  refine ⟨S.chg.trans (K' := [l]) (Chg.grown hg (fun k e => by cases e; simp)) (fun j hj => ?_), fun e he => e.mono hext (fun b h => hsame b (S.lt b (keysL_mem.2 ⟨e, he, h⟩)) (fun e' => hk (e' ▸ keysL_mem.2 ⟨e, he, h⟩))) (S.ent e he), fun d hd => d.mono hext (S.fact d hd), S.nodup, S.key, S.bnd⟩
  simp at hj
  subst hj
  exact .inr hm
/-- how a round may end -/
def roundU {σ τ : Type} (E : Nat → Prop) (n : Nat) (IL : σ → List Ent → List Fact → Prop) (IX : τ → Code → List Ent → List Fact → Prop) (b : σ ⊕ τ) (K : List Nat) (W : World) : Exit → Act → World → Prop
  | .normal, a, W' => ∃ s' L' D' F', b = .inl s' ∧ IL s' L' D' ∧ St [] E K W n a W' F' L' D'
  | .ret, a, W' => ∃ t L' D' F', b = .inr t ∧ IX t .ret L' D' ∧ St [] E K W n a W' F' L' D'
  | .exit id, a, W' => ∃ t L' D' F', b = .inr t ∧ IX t (.exit id) L' D' ∧ St [] E K W n a W' F' L' D'
  | _, _, _ => False
theorem roundU_out {σ τ : Type} {E : Nat → Prop} {n : Nat} {IL : σ → List Ent → List Fact → Prop} {IX : τ → Code → List Ent → List Fact → Prop} {b : σ ⊕ τ} {K : List Nat} {W : World} : ¬ LetsOut (roundU E n IL IX b K W) := fun ⟨_, _, h⟩ => h
/-- behind the assignment of the loop's variables: the body's walk -/
def roundK {σ τ : Type} (P : Program) (l : Nat) (body : Code) (E : Nat → Prop) (n : Nat) (IL : σ → List Ent → List Fact → Prop) (IX : τ → Code → List Ent → List Fact → Prop) (b : σ ⊕ τ) (K : List Nat) (W : World) (a : Act) (W' : World) : Prop :=
  ∃ La Da Fa, St [] E K W n a W' Fa La Da ∧ ∀ K' a Wb, K' = keysL La → St [] E K' Wb n a Wb Fa La Da → body.wpIn (zf (some l)) 0 P (roundU E n IL IX b K' Wb) a Wb
theorem sRange {σ τ X : Type} {g : Operand} {ps : Array Tmp} {assign body : Code} {Q : Exit → Act → World → Prop} {dq : List Deferred} {E : Nat → Prop} {M : List Nat} {w0 w : World} {n : Nat} {a : Act} {F : List (Nat × Value)} {L : List Ent} {D : List Fact} {gf : Nat} {lb : List Value}
    {FX : X → Array Value → Fact} {I : ∀ (σ τ : Type), (σ → X → Option (σ ⊕ τ)) → σ → Option (σ ⊕ τ)} {Dc : List Fact} {B : σ → X → Option (σ ⊕ τ)} {s0 : σ} {r : σ ⊕ τ}
    (IL : σ → List Ent → List Fact → Prop) (IX : τ → Code → List Ent → List Fact → Prop) (js : List Nat) (S : St dq E M w0 n a w F L D) (h : I σ τ B s0 = some r) (hg : lookO F g = some (.func (.func gf) #[] lb.toArray)) (eg : ∀ args w, (callFunc gf args).run P w = .ok (.enter gf args) w)
    (hseq : SeqF P gf lb.toArray FX I Dc) (hDc : js.map (fun i => D[i]?) = Dc.map some) (hps : ∀ x vs E w, (FX x vs).p E w → vs.size = ps.size) (h0 : IL s0 L D)
    (hround : ∀ (E : Nat → Prop) (l : Nat) (s : σ) (x : X) (vs : Array Value) (b : σ ⊕ τ) (L : List Ent) (D : List Fact) (K : List Nat) (W : World), K = keysL L → IL s L D → B s x = some b → St0 E K W W L (FX x vs :: D) →
      assign.wpIn (zf (some l)) 0 P (Exit.then (roundK P l body E n IL IX b K W) (fun _ _ _ => False)) { tmps := (ps.zip vs).foldl (fun t (p, v) => t.setIfInBounds p v) a.tmps, defers := [] } W)
    (hdone : ∀ (Dk : Nat) (s : σ) (L : List Ent) (D : List Fact) (a : Act) (W : World), r = .inl s → IL s L D → St (mark Dk :: dq) E M w0 n a W F (L ++ [eDef Dk]) D → Q .normal a W)
    (hstop : ∀ (Dk : Nat) (c : Code) (t : τ) (L : List Ent) (D : List Fact) (a : Act) (W : World), r = .inr t → IX t c L D → St (mark Dk :: dq) E M w0 n a W F (L ++ [eDef Dk]) D → c.wp P Q a W) :
    (Code.rangeFunc g ps assign body).wp P Q a w := by
  refine (wpIn_wide (n := 2)).1 (wpIn_rangeFunc fun fn hfn => ?_)
  let rc : LoopState → Option Code → Loop := fun st pe => { state := st, pending := pe, fn, tmps := a.tmps, params := ps, assign, body, defers := w.heap.size }
  obtain ⟨W1, hW1⟩ : ∃ W1, (w.alloc (.deferred (some []))).alloc (.loop (rc .ready none)) = W1 := ⟨_, rfl⟩
  obtain ⟨Dk, hDk⟩ : ∃ Dk, w.heap.size = Dk := ⟨_, rfl⟩
  have hL1 : W1.heap[Dk + 1]? = some (.loop (rc .ready none)) := by
    have := World.alloc_heap_new (w.alloc (.deferred (some []))) (.loop (rc .ready none))
    rw [World.size_alloc, hW1, hDk] at this
    exact this
  have hK1 : W1.heap[Dk]? = some (.deferred (some [])) := by
    have := World.alloc_heap_new w (.deferred (some []))
    rw [← hW1, ← hDk]
    exact (Below.heap_alloc _ _ _ (by simp)).trans this
  have hz1 : Dk + 2 = W1.heap.size := by rw [← hW1, ← hDk]; simp
  have hc1 : Chg [] w W1 := by
    rw [← hW1]
    exact (Chg.alloc [] w _).trans (Chg.alloc [] _ _) (fun j hj => by cases hj)
  have hw0 : w0.heap.size ≤ Dk := hDk ▸ S.mem.chg.size
  -- the deferred block is owned from here on
  have hS1 : St0 E M w0 W1 (L ++ [eDef Dk]) D := by
    have hT : ∀ b, b < w.heap.size → tot E (L ++ [eDef Dk]) b → tot E L b := by
      intro b hb h
      rcases h with h | h
      · exact .inl h
      · rw [keysL_append, List.mem_append] at h
        rcases h with h | h
        · exact .inr h
        · simp [keysL, eDef] at h; omega
    have hext : Ext (tot E L) (tot E (L ++ [eDef Dk])) w W1 := ⟨hc1.size, fun b hb _ _ => hc1.block b hb (by simp), hT⟩
    refine ⟨S.mem.chg.trans hc1 (fun j hj => by cases hj), fun e he => ?_, fun d hd => d.mono hext (S.mem.fact d hd), ?_, fun b hb => ?_, S.mem.bnd⟩
    · rcases List.mem_append.1 he with he | he
      · exact e.mono hext (fun b hb => hc1.block b (S.mem.lt b (keysL_mem.2 ⟨e, he, hb⟩)) (by simp)) (S.mem.ent e he)
      · simp at he; subst he; exact hK1
    · rw [keysL_append, List.nodup_append]
      refine ⟨S.mem.nodup, by simp [keysL, eDef], fun b hb c hc e => ?_⟩
      have := S.mem.lt b hb
      simp [keysL, eDef] at hc
      omega
    · rw [keysL_append, List.mem_append] at hb
      rcases hb with hb | hb
      · exact S.mem.key b hb
      · simp [keysL, eDef] at hb
        subst hb
        exact ⟨.inl hw0, fun h => by have := S.mem.bnd _ h; omega⟩
  have hDmem : ∀ d, d ∈ Dc → d ∈ D := getList_mem hDc
  have hSeq0 : St0 (tot E (L ++ [eDef Dk])) [] W1 W1 [] Dc := by
    refine ⟨Chg.refl _ _, fun e he => (by cases he), fun d hd => ?_, by simp [keysL], fun b hb => (by simp [keysL] at hb), fun b hb => ?_⟩
    · refine d.mono ?_ (hS1.fact d (hDmem d hd))
      exact ⟨Nat.le_refl _, fun _ _ _ _ => rfl, fun b _ h => by
        rcases h with h | h
        · exact h
        · simp [keysL] at h⟩
    · rcases hb with hb | hb
      · exact Nat.lt_of_lt_of_le (hS1.bnd b hb) hS1.chg.size
      · exact hS1.lt b hb
  refine ⟨Dk + 1, [mark Dk], W1, { target := .fn (.func gf) lb.toArray, args := #[.func (.yield (Dk + 1)) #[] #[]] }, W1, gf, #[.func (.yield (Dk + 1)) #[] #[]] ++ lb.toArray, W1, ?_, ?_, ?_, ?_, fun h => by simp [Fence.wide] at h, ?_⟩
  · rw [← hW1, ← hDk]; exact run_enterLoop_outer _ _ _ _ _
  · simp only [resolve, S.frm.eval hg]
    simp [go_sem]
  · intro f' _; trivial
  · simp [invoke, go_sem, eg]
  have keep : ∀ {A B : World} {k : Nat} {o : Obj}, Chg [] A B → A.heap[k]? = some o → B.heap[k]? = some o :=
    fun hc hk => (hc.block _ (Array.getElem?_eq_some_iff.1 hk).1 (by simp)).trans hk
  refine (hseq σ τ B s0 r h (Dk + 1)
    (fun s O W => (∃ L D, IL s L D ∧ St0 E M w0 W (L ++ [eDef Dk]) D ∧ O = tot E (L ++ [eDef Dk]) ∧ Dk + 1 ∉ keysL L) ∧ W.heap[Dk + 1]? = some (.loop (rc .ready none)))
    (fun t W => ∃ c, (∃ L D, IX t c L D ∧ St0 E M w0 W (L ++ [eDef Dk]) D ∧ Dk + 1 ∉ keysL L) ∧ W.heap[Dk + 1]? = some (.loop (rc .done (some c)))) (tot E (L ++ [eDef Dk])) W1
    ?_ ?_ ?_ hSeq0 ?_ ⟨⟨L, D, h0, hS1, rfl, fun hb => ?_⟩, hL1⟩).mono ?_
  · rintro s O A B ⟨⟨L, D, h1, h2, h3, h4⟩, h5⟩ hc
    exact ⟨⟨L, D, h1, h2.calm hc, h3, h4⟩, keep hc h5⟩
  · rintro t A B ⟨c, ⟨L, D, h1, h2, h4⟩, h5⟩ hc
    exact ⟨c, ⟨L, D, h1, h2.calm hc, h4⟩, keep hc h5⟩
  · rintro s O A ⟨⟨L, D, h1, h2, rfl, h4⟩, h5⟩ b hb
    rcases hb with hb | hb
    · exact Nat.lt_of_lt_of_le (h2.bnd b hb) h2.chg.size
    · exact h2.lt b hb
  · rintro s x vs b O W hb hfx ⟨⟨L, D, hIL, hS, rfl, hnl⟩, hl⟩
    have hy := run_yield (P := P) (args := vs) hl (hps x vs _ _ hfx)
    have hSx : St0 E M w0 W (L ++ [eDef Dk]) (FX x vs :: D) := hS.learn (FX x vs) hfx
    have hSr : St0 (tot E [eDef Dk]) (keysL L) W W L (FX x vs :: D) := hSx.enter (fun _ h => h)
    refine ⟨fn, _, assign, body, hy, roundIn_of_wpIn hfn (wpIn_mono (hround _ (Dk + 1) s x vs b L D _ W rfl hIL hb hSr) fun e a' Wa he => ?_)⟩
    cases e with
    | exit id => exact he.elim
    | goto t => exact he.elim
    | ret => exact he.elim
    | panic ch => exact he.elim
    | outgrown => exact he.elim
    | normal =>
    obtain ⟨La, Da, Fa, hSa, hbody⟩ := he
    have hlW : Dk + 1 < W.heap.size := (Array.getElem?_eq_some_iff.1 hl).1
    have hla : Wa.heap[Dk + 1]? = some (.loop (rc .ready none)) := (hSa.mem.chg.block _ hlW hnl).trans hl
    have hnla : Dk + 1 ∉ keysL La := fun hm => by
      rcases (hSa.mem.key _ hm).1 with h1 | h1
      · omega
      · exact hnl h1
    have hga : St0 E M w0 Wa (La ++ [eDef Dk]) (Da ++ (FX x vs :: D)) := hSx.upd hSa.mem.chg La Da hSa.mem
    refine ⟨_, run_beginRound hla rfl, ?_⟩
    obtain ⟨Wb, hWb⟩ : ∃ Wb, Wa.putObj (Dk + 1) (.loop { rc .ready none with state := .busy }) = Wb := ⟨_, rfl⟩
    have hl2 : Wb.heap[Dk + 1]? = some (.loop { rc .ready none with state := .busy }) := hWb ▸ World.putObj_heap_same (Array.getElem?_eq_some_iff.1 hla).1
    have hnk : Dk + 1 ∉ keysL (La ++ [eDef Dk]) := by
      rw [keysL_append, List.mem_append]
      rintro (h1 | h1)
      · exact hnla h1
      · simp [keysL, eDef] at h1
    have hgb : St0 E M w0 Wb (La ++ [eDef Dk]) (Da ++ (FX x vs :: D)) := hWb ▸ hga.putL _ hla rfl (by omega) hnk
    have hSb : St0 (tot E [eDef Dk]) (keysL La) Wb Wb La Da := hgb.enter (fun _ h => List.mem_append_left _ h)
    have htot : ∀ (A B : World), Chg (keysL L) W A → A = B → (∀ b, b ∈ keysL La → W.heap.size ≤ b ∨ b ∈ keysL L) → Turn (tot E (L ++ [eDef Dk])) (tot E (La ++ [eDef Dk])) W B := by
      rintro A _ hc rfl hk
      refine Turn.of_chg hc (fun b hb => .inr (by rw [keysL_append]; exact List.mem_append_left _ hb)) (fun b hb ho => ?_)
      rcases ho with ho | ho
      · exact .inl ho
      · rw [keysL_append, List.mem_append] at ho
        rcases ho with ho | ho
        · rcases hk b ho with h1 | h1
          · omega
          · exact .inr (by rw [keysL_append]; exact List.mem_append_left _ h1)
        · exact .inr (by rw [keysL_append]; exact List.mem_append_right _ ho)
    have hta : Turn (tot E (L ++ [eDef Dk])) (tot E (La ++ [eDef Dk])) W Wa := htot _ _ hSa.mem.chg rfl (fun b hb => (hSa.mem.key b hb).1)
    have htb : Turn (tot E (L ++ [eDef Dk])) (tot E (La ++ [eDef Dk])) W Wb := hta.trans (hWb ▸ Turn.putObj _ hla rfl)
    rw [hWb]
    refine wpIn_mono (hbody _ _ Wb rfl ⟨hSa.frm, hSb⟩) ?_
    have hlb : Dk + 1 < Wb.heap.size := (Array.getElem?_eq_some_iff.1 hl2).1
    -- the end of a round, whatever way
    have fin : ∀ (jump : Option Code) (a3 : Act) (W3 : World) (F' : List (Nat × Value)) (L' : List Ent) (D' : List Fact), St [] (tot E [eDef Dk]) (keysL La) Wb n a3 W3 F' L' D' →
        ∃ W4, (Instr.endRound (Dk + 1) jump).run P W3 = .ok (.bool jump.isNone) W4 ∧ St0 E M w0 W4 (L' ++ [eDef Dk]) D' ∧ W4.heap[Dk + 1]? = some (.loop (rc (if jump.isNone then .ready else .done) jump)) ∧ Dk + 1 ∉ keysL L' ∧ Turn (tot E (La ++ [eDef Dk])) (tot E (L' ++ [eDef Dk])) Wb W4 := by
      intro jump a3 W3 F' L' D' S3
      have hl3 : W3.heap[Dk + 1]? = some (.loop { rc .ready none with state := .busy }) := (S3.mem.chg.block _ hlb hnla).trans hl2
      have hn3 : Dk + 1 ∉ keysL L' := fun hm => by
        rcases (S3.mem.key _ hm).1 with h1 | h1
        · omega
        · exact hnla h1
      have hn3' : Dk + 1 ∉ keysL (L' ++ [eDef Dk]) := by
        rw [keysL_append, List.mem_append]
        rintro (h1 | h1)
        · exact hn3 h1
        · simp [keysL, eDef] at h1
      have hg3 : St0 E M w0 W3 (L' ++ [eDef Dk]) (D' ++ (Da ++ (FX x vs :: D))) := hgb.upd S3.mem.chg L' D' S3.mem
      have hg3' : St0 E M w0 W3 (L' ++ [eDef Dk]) D' := hg3.sub (fun _ h => h) hg3.nodup (fun _ h => List.mem_append_left _ h)
      have ht3 : Turn (tot E (La ++ [eDef Dk])) (tot E (L' ++ [eDef Dk])) Wb W3 := by
        refine Turn.of_chg S3.mem.chg (fun b hb => .inr (by rw [keysL_append]; exact List.mem_append_left _ hb)) (fun b hb ho => ?_)
        rcases ho with ho | ho
        · exact .inl ho
        · rw [keysL_append, List.mem_append] at ho
          rcases ho with ho | ho
          · rcases (S3.mem.key b ho).1 with h1 | h1
            · omega
            · exact .inr (by rw [keysL_append]; exact List.mem_append_left _ h1)
          · exact .inr (by rw [keysL_append]; exact List.mem_append_right _ ho)
      exact ⟨_, run_endRound (P := P) jump hl3, hg3'.putL _ hl3 rfl (by omega) hn3', World.putObj_heap_same (Array.getElem?_eq_some_iff.1 hl3).1, hn3, ht3.trans (Turn.putObj _ hl3 rfl)⟩
    rintro e a3 W3 hp
    cases e with
    | normal =>
      obtain ⟨s', L', D', F', rfl, hi, S3⟩ := hp
      obtain ⟨W4, hr, hS4, hl4, hn4, ht4⟩ := fin none a3 W3 F' L' D' S3
      exact ⟨_, _, hr, .inl ⟨rfl, s', _, rfl, ⟨⟨L', D', hi, hS4, rfl, hn4⟩, hl4⟩, htb.trans ht4⟩⟩
    | ret =>
      obtain ⟨t, L', D', F', rfl, hi, S3⟩ := hp
      obtain ⟨W4, hr, hS4, hl4, hn4, ht4⟩ := fin (some .ret) a3 W3 F' L' D' S3
      exact ⟨_, _, hr, .inr ⟨rfl, t, rfl, .ret, ⟨L', D', hi, hS4, hn4⟩, hl4⟩⟩
    | exit id =>
      obtain ⟨t, L', D', F', rfl, hi, S3⟩ := hp
      obtain ⟨W4, hr, hS4, hl4, hn4, ht4⟩ := fin (some (.exit id)) a3 W3 F' L' D' S3
      exact ⟨_, _, hr, .inr ⟨rfl, t, rfl, .exit id, ⟨L', D', hi, hS4, hn4⟩, hl4⟩⟩
    | goto t => exact hp.elim
    | panic ch => exact hp.elim
    | outgrown => exact hp.elim
  · have := S.mem.lt _ hb
    omega
  · rintro e W2 ⟨⟨v, rfl⟩, (⟨s, O', rfl, ⟨L', D', hi, hS, -, hn⟩, hl⟩ | ⟨t, rfl, c, ⟨L', D', hi, hS, hn⟩, hl⟩)⟩
    · refine ⟨none, _, run_endLoop (P := P) hl (by simp [rc]), hdone Dk s L' D' _ _ rfl hi ⟨⟨by simp [S.frm.defers, mark], S.frm.size, S.frm.get⟩, hS.putL _ hl rfl (by omega) ?_⟩⟩
      rw [keysL_append, List.mem_append]
      rintro (h1 | h1)
      · exact hn h1
      · simp [keysL, eDef] at h1
    · refine ⟨some c, _, run_endLoop (P := P) hl (by simp [rc]), wpIn_wide.2 (hstop Dk c t L' D' _ _ rfl hi ⟨⟨by simp [S.frm.defers, mark], S.frm.size, S.frm.get⟩, hS.putL _ hl rfl (by omega) ?_⟩)⟩
      rw [keysL_append, List.mem_append]
      rintro (h1 | h1)
      · exact hn h1
      · simp [keysL, eDef] at h1
end

end Go.Proofs.YtoiehdlcfehmlaaDoor
namespace Go.Proofs.YtoiehdlcfehmlaaDoor
open Go.RowKit
set_option linter.unusedVariables false

section
variable {P : Program}
/-- what an iterator is handed by a loop -/
structure ItC {σ τ X : Type} (P : Program) (l : Nat) (FX : X → Array Value → Fact) (B : σ → X → Option (σ ⊕ τ)) (J : σ → (Nat → Prop) → World → Prop) (Jx : τ → World → Prop) : Prop where
  jm : ∀ s O A B, J s O A → Chg [] A B → J s O B
  xm : ∀ t A B, Jx t A → Chg [] A B → Jx t B
  bd : ∀ s O A, J s O A → ∀ b, O b → b < A.heap.size
  yl : ∀ s x vs b O W1, B s x = some b → (FX x vs).p O W1 → J s O W1 → YieldAt Fence.wide 0 P l vs W1 fun e W' =>
      (e = .returned (.bool true) ∧ ∃ s' O', b = .inl s' ∧ J s' O' W' ∧ Turn O O' W1 W') ∨ (e = .returned (.bool false) ∧ ∃ t, b = .inr t ∧ Jx t W')
/-- what it leaves -/
def itR {σ τ : Type} (r : σ ⊕ τ) (J : σ → (Nat → Prop) → World → Prop) (Jx : τ → World → Prop) (e : Ending) (W' : World) : Prop := (∃ v, e = .returned v) ∧ ((∃ s O', r = .inl s ∧ J s O' W') ∨ ∃ t, r = .inr t ∧ Jx t W')
theorem seqF_of {gf : Nat} {lb : List Value} {X : Type} {FX : X → Array Value → Fact} {I : ∀ (σ τ : Type), (σ → X → Option (σ ⊕ τ)) → σ → Option (σ ⊕ τ)} {Dc : List Fact}
    (h : ∀ (σ τ : Type) (B : σ → X → Option (σ ⊕ τ)) (z : σ) (r : σ ⊕ τ), I σ τ B z = some r → ∀ (l : Nat) (J : σ → (Nat → Prop) → World → Prop) (Jx : τ → World → Prop) (E : Nat → Prop) (w0 : World), ItC P l FX B J Jx → St0 E [] w0 w0 [] Dc → J z E w0 →
      CallsIn Fence.wide 1 P gf (Value.func (.yield l) #[] #[] :: lb).toArray w0 (itR r J Jx)) : SeqF P gf lb.toArray FX I Dc :=
  fun σ τ B z r hI l J Jx E w0 h1 h2 h3 S hy hJ => by
    have := h σ τ B z r hI l J Jx E w0 ⟨h1, h2, h3, hy⟩ S hJ
    have e : (#[Value.func (.yield l) #[] #[]] ++ lb.toArray) = (Value.func (.yield l) #[] #[] :: lb).toArray := by simp
    rw [e]
    exact this
variable {dq : List Deferred} {E : Nat → Prop} {M : List Nat} {w0 : World} {n : Nat} {a : Act} {w : World} {F : List (Nat × Value)} {L : List Ent} {D : List Fact} {Q : Exit → Act → World → Prop}
theorem sEnterI {f : FuncId} {fn : Func} {c : Code} {args : List Value} {Rt : Ending → World → Prop} (m : Nat) (hf : P.funcs[f]? = some fn) (hb : fn.body = some c) (hm : fn.ntmps = m) (ha : args.length ≤ m) (S : St0 E M w0 w L D)
    (h : ∀ a, St [] E M w0 m a w ((List.range args.length).zip args) L D → c.wp P (bodyPost P fn Rt) a w) : CallsIn Fence.wide 1 P f args.toArray w Rt :=
  callsIn_of_wp hf hb trivial (wpIn_wide.2 (h _ ⟨enter_frm m hm ha, S⟩))
theorem it_out {σ τ : Type} {fn : Func} {r : σ ⊕ τ} {J : σ → (Nat → Prop) → World → Prop} {Jx : τ → World → Prop} : ¬ LetsOut (bodyPost P fn (itR r J Jx)) := by
  rintro ⟨a, w, h⟩
  have h' : itR r J Jx .outgrown w := h
  obtain ⟨⟨v, hv⟩, _⟩ := h'
  cases hv
theorem sRegionY {id : Nat} {ops : List Oper} (h : wpListIn (zf none) 0 P ops.toArray Q ops a w) : (Code.region id ops.toArray false).wp P Q a w := (wpIn_wide (n := 0)).1 (wpIn_region_lit h)
theorem sSplitR {ops : List Oper} {opsA : Array Oper} (hq : ¬ LetsOut Q) (i : Nat) (hn : (ops.take i).all noDefer = true) (h : ∀ K : Act → World → Prop, (∀ a w, wpListIn (zf none) 0 P opsA Q (ops.drop i) a w → K a w) → wpList P opsA (fun e a w => e = .normal ∧ K a w) (ops.take i) a w) : wpListIn (zf none) 0 P opsA Q ops a w :=
  app_inR hq i (fun a w => wpListIn (zf none) 0 P opsA Q (ops.drop i) a w) hn (h _ fun _ _ h => h) fun _ _ h => h
theorem tot_nil (E : Nat → Prop) : tot E [] = E := funext fun b => propext ⟨fun h => by
  rcases h with h | h
  · exact h
  · simp [keysL] at h, .inl⟩
theorem sYieldI {σ τ X : Type} {FX : X → Array Value → Fact} {B : σ → X → Option (σ ⊕ τ)} {J : σ → (Nat → Prop) → World → Prop} {Jx : τ → World → Prop} {ops : Array Oper} {rest : List Oper} {o : Oper} {d : Nat} {l : Nat} {fo : Operand} {args : List Operand} {ts : Array TypeId} {z : σ} {b : σ ⊕ τ} (x : X) (vs : List Value)
    (S : St [] E [] w0 n a w F [] D) (hC : ItC P l FX B J Jx) (hJ : J z E w0) (hB : B z x = some b) (hfx : (FX x vs.toArray).p (tot E []) w)
    (hw : ∀ a, Frm [] n a F → Region.wanted o (yielded ops a.tmps) = true) (ho : o.op = .call { callee := .value fo, args := args.toArray, argTypes := ts }) (hf : lookO F fo = some (.func (.yield l) #[] #[])) (hvs : args.map (lookO F) = vs.map some) (hd : o.dst = some d) (hn : d < n)
    (kT : ∀ z' E a w, b = .inl z' → J z' E w → St [] E [] w n a w ((d, .bool true) :: F) [] D → wpListIn (zf none) 0 P ops Q rest a w)
    (kF : ∀ t a w, b = .inr t → Jx t w → St [] (fun _ => False) [] w n a w ((d, .bool false) :: F) [] [] → wpListIn (zf none) 0 P ops Q rest a w) : wpListIn (zf none) 0 P ops Q (o :: rest) a w := by
  have hfx' : (FX x vs.toArray).p E w := tot_nil E ▸ hfx
  have hJw := hC.jm _ _ _ _ hJ S.mem.chg
  have S0 : St0 E [] w w [] D := ⟨Chg.refl _ _, S.mem.ent, S.mem.fact, S.mem.nodup, fun b hb => (by simp [keysL] at hb), fun b hb => Nat.lt_of_lt_of_le (S.mem.bnd b hb) S.mem.chg.size⟩
  refine sYield (T := fun w' => ∃ s' O', b = .inl s' ∧ J s' O' w' ∧ Turn E O' w w') (U := fun w' => ∃ t, b = .inr t ∧ Jx t w') S hw ho hf hvs hd hn (hC.yl _ _ _ _ _ _ hB hfx' hJw) ?_ ?_
  · rintro a' w' hfr ⟨s', O', hb, hj, ht⟩
    exact kT s' O' a' w' hb hj ⟨hfr, S0.turn ht (hC.bd _ _ _ hj)⟩
  · rintro a' w' hfr ⟨t, hb, hj⟩
    exact kF t a' w' hb hj ⟨hfr, ⟨Chg.refl _ _, fun e he => (by cases he), fun d hd => (by cases hd), by simp [keysL], fun b hb => (by simp [keysL] at hb), fun b hb => hb.elim⟩⟩
/-- the iterator's ends -/
theorem sGoI {σ τ X : Type} {FX : X → Array Value → Fact} {B : σ → X → Option (σ ⊕ τ)} {J : σ → (Nat → Prop) → World → Prop} {Jx : τ → World → Prop} {l : Nat} {r : σ ⊕ τ} {z : σ} (S : St [] E [] w0 n a w F L D) (hC : ItC P l FX B J Jx) (hJ : J z E w0) (hr : Sum.inl z = r) (v : Value) : itR r J Jx (.returned v) w :=
  ⟨⟨v, rfl⟩, .inl ⟨z, E, hr.symm, hC.jm _ _ _ _ hJ S.mem.chg⟩⟩
theorem sStopI {σ τ X : Type} {FX : X → Array Value → Fact} {B : σ → X → Option (σ ⊕ τ)} {J : σ → (Nat → Prop) → World → Prop} {Jx : τ → World → Prop} {l : Nat} {r : σ ⊕ τ} {t : τ} (S : St [] E [] w0 n a w F L D) (hC : ItC P l FX B J Jx) (hJ : Jx t w0) (hr : Sum.inr t = r) (v : Value) : itR r J Jx (.returned v) w :=
  ⟨⟨v, rfl⟩, .inr ⟨t, hr.symm, hC.xm _ _ _ hJ S.mem.chg⟩⟩
/-- functions with a loop over a function: they leave past a mark -/
theorem sEnterM {f : FuncId} {fn : Func} {c : Code} {args : List Value} {Rt : Ending → World → Prop} (m : Nat) (hf : P.funcs[f]? = some fn) (hb : fn.body = some c) (hm : fn.ntmps = m) (ha : args.length ≤ m) (S : St0 E M w0 w L D)
    (h : ∀ a, St [] E M w0 m a w ((List.range args.length).zip args) L D → c.wp P (bodyPostM Fence.wide 1 P fn Rt) a w) : Calls P f args.toArray w Rt :=
  callsIn_wide.1 (callsIn_of_wp_marks hf hb trivial (wpIn_wide.2 (h _ ⟨enter_frm m hm ha, S⟩)))
theorem leavesM {fn : Func} {Rt : Ending → World → Prop} : (S : St dq E M w0 n a w F L D) → (h : LeavesInM Fence.wide 1 P fn a.tmps Rt dq .returning w) → LeavesInM Fence.wide 1 P fn a.tmps Rt a.defers .returning w := by
  intro S h
  rw [S.frm.defers]
  exact h
theorem sRetM0 {fn : Func} {Rt : Ending → World → Prop} (v : Value) (S : St [] E M w0 n a w F L D) (hr : (results fn a.tmps).run P w = .ok v w) (h : Rt (.returned v) w) : bodyPostM Fence.wide 1 P fn Rt .ret a w := leavesM (P := P) S ⟨v, hr, h⟩
theorem sEndM0 {fn : Func} {Rt : Ending → World → Prop} (v : Value) (S : St [] E M w0 n a w F L D) (hr : (results fn a.tmps).run P w = .ok v w) (h : Rt (.returned v) w) : bodyPostM Fence.wide 1 P fn Rt .normal a w := leavesM (P := P) S ⟨v, hr, h⟩
theorem leavesM1 {fn : Func} {Rt : Ending → World → Prop} {b : Nat} (i : Nat) (S : St [mark b] E M w0 n a w F L D) (hi : L[i]? = some (eDef b))
    (k : ∀ a w, St [] E M w0 n a w F (L.eraseIdx i) D → ∃ v, (results fn a.tmps).run P w = .ok v w ∧ Rt (.returned v) w) : LeavesInM Fence.wide 1 P fn a.tmps Rt a.defers .returning w := by
  refine leavesM S ?_
  have hb : w.heap[b]? = some (.deferred (some [])) := S.mem.at hi
  have hmem : b ∈ (eDef b).keys := by simp [eDef]
  have hkey := S.mem.key b (keysL_mem.2 ⟨_, List.mem_of_getElem? hi, hmem⟩)
  have hperm := erase_perm hi
  have hn := keysL_perm hperm S.mem.nodup
  have S1 : St0 E M w0 w ([eDef b] ++ L.eraseIdx i) D := S.mem.sub (fun e he => hperm.mem_iff.1 he) hn (fun _ h => h)
  have hg := grownBy_putObj' w b (.deferred none)
  have S2 : St0 E M w0 (w.putObj b (.deferred none)) ([] ++ L.eraseIdx i) ([] ++ D) := S1.upd (Chg.grown hg (fun k e => by cases e; simp [keysL, eDef])) [] [] ⟨Chg.grown hg (fun k e => by cases e; simp [keysL, eDef]), fun e he => (by cases he), fun d hd => (by cases hd), by simp [keysL], fun b hb => (by simp [keysL] at hb), fun c hc => by
    rcases hc with hc | hc
    · exact Nat.lt_of_lt_of_le (S1.bnd c hc) S1.chg.size
    · exact S1.lt c (by rw [keysL_append]; exact List.mem_append_right _ hc)⟩
  obtain ⟨v, h1, h2⟩ := k { a with defers := [] } _ ⟨⟨rfl, S.frm.size, S.frm.get⟩, S2⟩
  exact ⟨by simp, .inl ⟨b, _, rfl, run_takeDeferred hb, ⟨v, h1, h2⟩⟩⟩
theorem sRetM1 {fn : Func} {Rt : Ending → World → Prop} {b : Nat} (i : Nat) (S : St [mark b] E M w0 n a w F L D) (hi : L[i]? = some (eDef b))
    (k : ∀ a w, St [] E M w0 n a w F (L.eraseIdx i) D → ∃ v, (results fn a.tmps).run P w = .ok v w ∧ Rt (.returned v) w) : bodyPostM Fence.wide 1 P fn Rt .ret a w := leavesM1 i S hi k
theorem sEndM1 {fn : Func} {Rt : Ending → World → Prop} {b : Nat} (i : Nat) (S : St [mark b] E M w0 n a w F L D) (hi : L[i]? = some (eDef b))
    (k : ∀ a w, St [] E M w0 n a w F (L.eraseIdx i) D → ∃ v, (results fn a.tmps).run P w = .ok v w ∧ Rt (.returned v) w) : bodyPostM Fence.wide 1 P fn Rt .normal a w := leavesM1 i S hi k
theorem Frm.put1 {a : Act} {F : List (Nat × Value)} (h : Frm dq n a F) {p : Nat} (hp : p < n) (v : Value) : Frm [] n { tmps := ((#[p] : Array Tmp).zip #[v]).foldl (fun t (p, v) => t.setIfInBounds p v) a.tmps, defers := [] } ((p, v) :: F) := by
  have := (Frm.put (dq := []) (a := { a with defers := [] }) ⟨rfl, h.size, h.get⟩ hp v)
  exact ⟨rfl, by simpa [Act.put] using this.size, fun t u ht => by simpa [Act.put] using this.get t u ht⟩
theorem Frm.put2 {a : Act} {F : List (Nat × Value)} (h : Frm dq n a F) {p q : Nat} (hp : p < n) (hq : q < n) (v u : Value) : Frm [] n { tmps := ((#[p, q] : Array Tmp).zip #[v, u]).foldl (fun t (p, v) => t.setIfInBounds p v) a.tmps, defers := [] } ((q, u) :: (p, v) :: F) := by
  have := (Frm.put (dq := []) (a := { a with defers := [] }) ⟨rfl, h.size, h.get⟩ hp v).put hq u
  exact ⟨rfl, by simpa [Act.put] using this.size, fun t u ht => by simpa [Act.put] using this.get t u ht⟩
theorem sRange2 {σ τ X Y : Type} {g : Operand} {assign body : Code} {gf : Nat} {lb : List Value} {rx : R X} {ry : R Y} {I : ∀ (σ τ : Type), (σ → X × Y → Option (σ ⊕ τ)) → σ → Option (σ ⊕ τ)} {Dc : List Fact} {B : σ → X × Y → Option (σ ⊕ τ)} {s0 : σ} {r : σ ⊕ τ} {p q : Nat}
    (IL : σ → List Ent → List Fact → Prop) (IX : τ → Code → List Ent → List Fact → Prop) (js : List Nat) (S : St dq E M w0 n a w F L D) (h : I σ τ B s0 = some r) (hg : lookO F g = some (.func (.func gf) #[] lb.toArray)) (eg : ∀ args w, (callFunc gf args).run P w = .ok (.enter gf args) w)
    (hseq : SeqF P gf lb.toArray (fA2 rx ry) I Dc) (hDc : js.map (fun i => D[i]?) = Dc.map some) (hp : p < n) (hq : q < n) (h0 : IL s0 L D)
    (hround : ∀ (E : Nat → Prop) (l : Nat) (s : σ) (x : X) (y : Y) (v u : Value) (b : σ ⊕ τ) (L : List Ent) (D : List Fact) (K : List Nat) (a : Act) (w0 : World), K = keysL L → IL s L D → B s (x, y) = some b → St [] E K w0 n a w0 ((q, u) :: (p, v) :: F) L (fRep rx v x :: fRep ry u y :: D) →
      assign.wpIn (zf (some l)) 0 P (Exit.then (roundK P l body E n IL IX b K w0) (fun _ _ _ => False)) a w0)
    (hdone : ∀ (Dk : Nat) (s : σ) (L : List Ent) (D : List Fact) (a : Act) (W : World), r = .inl s → IL s L D → St (mark Dk :: dq) E M w0 n a W F (L ++ [eDef Dk]) D → Q .normal a W)
    (hstop : ∀ (Dk : Nat) (c : Code) (t : τ) (L : List Ent) (D : List Fact) (a : Act) (W : World), r = .inr t → IX t c L D → St (mark Dk :: dq) E M w0 n a W F (L ++ [eDef Dk]) D → c.wp P Q a W) :
    (Code.rangeFunc g #[p, q] assign body).wp P Q a w := by
  refine sRange IL IX js S h hg eg hseq hDc ?_ h0 ?_ hdone hstop
  · rintro x vs E w ⟨v, u, rfl, -, -⟩; rfl
  · rintro E l s ⟨x, y⟩ vs b L D K W hK hIL hB S0
    obtain ⟨v, u, rfl, h1, h2⟩ := S0.fact _ (List.mem_cons_self ..)
    have S1 := (S0.learn (fRep ry u y) h2).learn (fRep rx v x) h1
    have S2 : St0 E K W W L (fRep rx v x :: fRep ry u y :: D) := S1.sub (fun _ h => h) S1.nodup (fun d hd => by
      simp only [List.mem_cons] at hd ⊢
      rcases hd with h | h | h
      · exact .inl h
      · exact .inr (.inl h)
      · exact .inr (.inr (.inr h)))
    exact hround E l s x y v u b L D K _ W hK hIL hB ⟨S.frm.put2 hp hq v u, S2⟩
theorem sRange1 {σ τ X : Type} {g : Operand} {assign body : Code} {gf : Nat} {lb : List Value} {rx : R X} {I : ∀ (σ τ : Type), (σ → X → Option (σ ⊕ τ)) → σ → Option (σ ⊕ τ)} {Dc : List Fact} {B : σ → X → Option (σ ⊕ τ)} {s0 : σ} {r : σ ⊕ τ} {p : Nat}
    (IL : σ → List Ent → List Fact → Prop) (IX : τ → Code → List Ent → List Fact → Prop) (js : List Nat) (S : St dq E M w0 n a w F L D) (h : I σ τ B s0 = some r) (hg : lookO F g = some (.func (.func gf) #[] lb.toArray)) (eg : ∀ args w, (callFunc gf args).run P w = .ok (.enter gf args) w)
    (hseq : SeqF P gf lb.toArray (fA1 rx) I Dc) (hDc : js.map (fun i => D[i]?) = Dc.map some) (hp : p < n) (h0 : IL s0 L D)
    (hround : ∀ (E : Nat → Prop) (l : Nat) (s : σ) (x : X) (v : Value) (b : σ ⊕ τ) (L : List Ent) (D : List Fact) (K : List Nat) (a : Act) (w0 : World), K = keysL L → IL s L D → B s x = some b → St [] E K w0 n a w0 ((p, v) :: F) L (fRep rx v x :: D) →
      assign.wpIn (zf (some l)) 0 P (Exit.then (roundK P l body E n IL IX b K w0) (fun _ _ _ => False)) a w0)
    (hdone : ∀ (Dk : Nat) (s : σ) (L : List Ent) (D : List Fact) (a : Act) (W : World), r = .inl s → IL s L D → St (mark Dk :: dq) E M w0 n a W F (L ++ [eDef Dk]) D → Q .normal a W)
    (hstop : ∀ (Dk : Nat) (c : Code) (t : τ) (L : List Ent) (D : List Fact) (a : Act) (W : World), r = .inr t → IX t c L D → St (mark Dk :: dq) E M w0 n a W F (L ++ [eDef Dk]) D → c.wp P Q a W) :
    (Code.rangeFunc g #[p] assign body).wp P Q a w := by
  refine sRange IL IX js S h hg eg hseq hDc ?_ h0 ?_ hdone hstop
  · rintro x vs E w ⟨v, rfl, -⟩; rfl
  · rintro E l s x vs b L D K W hK hIL hB S0
    obtain ⟨v, rfl, h1⟩ := S0.fact _ (List.mem_cons_self ..)
    have S1 := S0.learn (fRep rx v x) h1
    have S2 : St0 E K W W L (fRep rx v x :: D) := S1.sub (fun _ h => h) S1.nodup (fun d hd => by
      simp only [List.mem_cons] at hd ⊢
      rcases hd with h | h
      · exact .inl h
      · exact .inr (.inr h))
    exact hround E l s x v b L D K _ W hK hIL hB ⟨S.frm.put1 hp v, S2⟩
theorem rnN {σ τ : Type} {IL : σ → List Ent → List Fact → Prop} {IX : τ → Code → List Ent → List Fact → Prop} {b : σ ⊕ τ} {K : List Nat} {W : World} (s' : σ) (L' : List Ent) (D' : List Fact) (F' : List (Nat × Value)) (hb : Sum.inl s' = b) (hi : IL s' L' D') (S : St [] E K W n a w F' L' D') : roundU E n IL IX b K W .normal a w := ⟨s', L', D', F', hb.symm, hi, S⟩
theorem rnR {σ τ : Type} {IL : σ → List Ent → List Fact → Prop} {IX : τ → Code → List Ent → List Fact → Prop} {b : σ ⊕ τ} {K : List Nat} {W : World} (t : τ) (L' : List Ent) (D' : List Fact) (F' : List (Nat × Value)) (hb : Sum.inr t = b) (hi : IX t .ret L' D') (S : St [] E K W n a w F' L' D') : roundU E n IL IX b K W .ret a w := ⟨t, L', D', F', hb.symm, hi, S⟩
theorem rnX {σ τ : Type} {IL : σ → List Ent → List Fact → Prop} {IX : τ → Code → List Ent → List Fact → Prop} {b : σ ⊕ τ} {K : List Nat} {W : World} {id : Nat} (t : τ) (L' : List Ent) (D' : List Fact) (F' : List (Nat × Value)) (hb : Sum.inr t = b) (hi : IX t (.exit id) L' D') (S : St [] E K W n a w F' L' D') : roundU E n IL IX b K W (.exit id) a w := ⟨t, L', D', F', hb.symm, hi, S⟩
theorem fA1_mk {α : Type} {r : R α} {E : Nat → Prop} {w : World} {v : Value} {x : α} (h : r.rep E w v x) : (fA1 r x #[v]).p E w := ⟨v, rfl, h⟩
theorem fA2_mk {α β : Type} {r : R α} {q : R β} {E : Nat → Prop} {w : World} {v u : Value} {x : α} {y : β} (h : r.rep E w v x) (k : q.rep E w u y) : (fA2 r q (x, y) #[v, u]).p E w := ⟨v, u, rfl, h, k⟩
theorem lo_false : ¬ LetsOut (fun _ _ _ => False) := fun ⟨_, _, h⟩ => h
end

end Go.Proofs.YtoiehdlcfehmlaaDoor
namespace Go.Proofs.YtoiehdlcfehmlaaDoor
open Go.RowKit
set_option linter.unusedVariables false

def iv (x : Int) : Value := .int .i64 x
theorem lb {a b : Nat} (h : Nat.ble (a + 1) b = true) : a < b := Nat.le_of_ble_eq_true h
def OwnF (sz : Nat) (v q : Value) (j k : Nat) : Prop := ∃ g m c, v = .slice (some ⟨g, 0, none⟩) m c ∧ q = .pointer (some ⟨g, j * sz + k, none⟩)
/-- what reads as z may be stored at the offset k into what reads as x, it reads as y then -/
def Upd {α β : Type} (r : R α) (s : R β) (k : Nat) (x : α) (z : β) (y : α) : Prop := ∀ E w v u, r.rep E w v x → s.rep E w u z → ∃ v', r.rep E w v' y ∧ v'.cells.toList = over v.cells.toList k u.cells.toList ∧ k + s.sz ≤ r.sz
theorem over_over {cur vc uc : List Value} {o k : Nat} (h : ∀ j, j < vc.length → cur[o + j]? = vc[j]?) (hk : k + uc.length ≤ vc.length) (hl : o + vc.length ≤ cur.length) : over cur o (over vc k uc) = over cur (o + k) uc := by
  apply List.ext_getElem?
  intro m
  have hlen := over_length (l := vc) (off := k) (cs := uc) hk
  rw [over_get (l := cur) (off := o) (cs := over vc k uc) (by rw [hlen]; exact hl), over_get (l := cur) (off := o + k) (cs := uc) (by omega), hlen]
  by_cases h1 : o ≤ m ∧ m < o + vc.length
  · rw [if_pos h1, over_get hk]
    by_cases h2 : k ≤ m - o ∧ m - o < k + uc.length
    · rw [if_pos h2, if_pos (by omega)]; congr 1; omega
    · rw [if_neg h2, if_neg (by omega), ← h (m - o) (by omega)]; congr 1; omega
  · rw [if_neg h1, if_neg (by omega)]
section
variable {P : Program} {dq : List Deferred} {E : Nat → Prop} {M : List Nat} {w0 : World} {n : Nat} {a : Act} {w : World} {F : List (Nat × Value)} {L : List Ent} {D : List Fact} {Q : Exit → Act → World → Prop}
variable {ops : Array Oper} {rest : List Oper} {o : Oper} {d : Nat}
theorem pFldR {sz j : Nat} {v q : Value} (s f k : Nat) (hp : OwnP sz v q j) (hf : fieldB P s f = some k) : ∃ q', FldV P s f q q' ∧ OwnF sz v q' j k := by
  obtain ⟨g, m, c, rfl, rfl⟩ := hp
  exact ⟨_, fun w => run_fieldAt hf g _ w, ⟨g, m, c, rfl, rfl⟩⟩
theorem sLoadF {α β : Type} {r : R α} {s : R β} {g : α → β} {T : TypeId} {xs : List α} {x : α} {t : TypeId} {q : Operand} {v vq : Value} {j : Int} (i kf : Nat) (u : Value) (S : St dq E M w0 n a w F L D) (hp : OwnF r.sz v vq j.toNat kf)
    (hw : ∀ a, Frm dq n a F → Region.wanted o (yielded ops a.tmps) = true) (ho : o.op = .load t q) (hq : lookO F q = some vq) (hL : L[i]? = some (eRow r T v xs)) (hx : idxO xs j = some x) (hc : Comp r s kf g) (hu : ∀ E w v, s.rep E w v (g x) → v = u) (hr : Scal s) (ht : aggB P t = some false) (hd : o.dst = some d) (hn : d < n)
    (k : ∀ a, St dq E M w0 n a w ((d, u) :: F) L D → wpList P ops Q rest a w) : wpList P ops Q (o :: rest) a w := by
  obtain ⟨h0, h1, h2⟩ := idxO_some hx
  obtain ⟨b, c, u', rfl, hrep, hcell⟩ := row_at (S.mem.at hL) h2
  obtain ⟨z, h3, h4⟩ := hc _ _ _ _ hrep
  have hz := hr _ _ _ _ h3
  obtain rfl := hu _ _ _ h3
  obtain ⟨g', m', c', e1, rfl⟩ := hp
  cases e1
  have he := S.frm.eval hq
  have hcc : w.cell? ⟨b, j.toNat * r.sz + kf, none⟩ = some z := hcell kf z (by simpa using h4 0 z (by rw [hz]; rfl))
  exact sVal S hw hd hn (by simp [execOp, ho, he, Instr.loadAt, Instr.sureAddr, loadVar, run_isAgg ht, hcc]) S.mem k
theorem sStoreF {α β : Type} {r : R α} {s : R β} {T : TypeId} {xs ys : List α} {x y : α} {z : β} {t : TypeId} {q xo : Operand} {v vq u : Value} {j : Int} (i kf : Nat) (S : St dq E M w0 n a w F L D) (hp : OwnF r.sz v vq j.toNat kf)
    (hw : ∀ a, Frm dq n a F → Region.wanted o (yielded ops a.tmps) = true) (ho : o.op = .store t q xo) (hq : lookO F q = some vq) (hxo : lookO F xo = some u) (hL : L[i]? = some (eRow r T v xs)) (hu0 : (fRep s u z).p (tot E L) w) (hix : idxO xs j = some x) (hup : Upd r s kf x z y) (hs : setO xs j y = some ys) (hm : cellsB P t = some s.sz) (hd : o.dst = none)
    (k : ∀ a w, St dq E M w0 n a w F (eRow r T v ys :: L.eraseIdx i) D → wpList P ops Q rest a w) : wpList P ops Q (o :: rest) a w := by
  obtain ⟨h0, h1, rfl⟩ := setO_some hs
  obtain ⟨_, _, hxj⟩ := idxO_some hix
  obtain ⟨vs, ha, hlen, hown⟩ := S.mem.at hL
  obtain ⟨g, m, c, rfl, rfl⟩ := hp
  have he := S.frm.eval hq
  have hex := S.frm.eval hxo
  have hsu := s.size hu0
  have hj : j.toNat < vs.length := by rw [ha.1]; exact h1
  have hvj : vs[j.toNat]? = some vs[j.toNat] := List.getElem?_eq_getElem hj
  have hrep := ha.2 _ _ _ hvj hxj
  have hsv := r.size hrep
  obtain ⟨v', hu, hcl, hle0⟩ := hup _ _ _ _ hrep hu0
  have hsz := r.size hu
  have hown1 := hown
  rcases hown.2 with ⟨h, _⟩ | ⟨g', cap, cur, h, hb, hg, hnc, hcm, hcs, htake⟩
  · cases h
  obtain ⟨rfl, rfl, rfl⟩ : g = g' ∧ m = xs.length ∧ c = cap := by simpa using h
  have hle : (j.toNat + 1) * r.sz ≤ xs.length * r.sz := Nat.mul_le_mul_right _ h1
  have hle2 : xs.length * r.sz ≤ c * r.sz := Nat.mul_le_mul_right _ hnc
  rw [Nat.add_mul, Nat.one_mul] at hle
  have heq : over cur.toList (j.toNat * r.sz + kf) u.cells.toList = over cur.toList (j.toNat * r.sz) v'.cells.toList := by
    rw [hcl]
    refine (over_over (fun b hb => ?_) (by simp [hsv, hsu]; omega) (by simp [hsv, hcs]; omega)).symm
    have hb2 : b < r.sz := by simpa [hsv] using hb
    have e := congrArg (fun l : List Value => l[j.toNat * r.sz + b]?) htake
    simp only [List.getElem?_take, if_pos (show j.toNat * r.sz + b < xs.length * r.sz by omega)] at e
    rw [e, flat_get (fun v hv => (ha.cells v hv).1) hvj hb2]
  have hst := run_storeVar (P := P) (t := t) (off := j.toNat * r.sz + kf) (by rw [hsu]; exact hm) (s.one hu0) hg (by rw [hsu, hcs]; omega)
  rw [heq] at hst
  have hchg : Chg (eRow r T (.slice (some ⟨g, 0, none⟩) xs.length c) xs).keys w (w.setRow g (over cur.toList (j.toNat * r.sz) v'.cells.toList).toArray) := ⟨rfl, rfl, rfl, by simp [World.setRow], fun k _ hk => setRow_other w g k _ (fun e => hk (by simp [eRow, vkeys, e]))⟩
  have hext : Ext (tot E L) (tot E (eRow r T (.slice (some ⟨g, 0, none⟩) xs.length c) (xs.set j.toNat y) :: L.eraseIdx i)) w (w.setRow g (over cur.toList (j.toNat * r.sz) v'.cells.toList).toArray) := by
    refine ⟨hchg.size, fun b hb hn _ => hchg.block b hb (fun e => hn (.inr (keysL_mem.2 ⟨_, List.mem_of_getElem? hL, e⟩))), fun b hb h => ?_⟩
    rcases h with h | h
    · exact .inl h
    · obtain ⟨e, h2, h3⟩ := keysL_mem.1 h
      rcases List.mem_cons.1 h2 with rfl | h2
      · exact .inr (keysL_mem.2 ⟨_, List.mem_of_getElem? hL, h3⟩)
      · exact .inr (keysL_mem.2 ⟨e, List.mem_of_mem_eraseIdx h2, h3⟩)
  refine sUnit S hw hd (w' := w.setRow g (over cur.toList (j.toNat * r.sz) v'.cells.toList).toArray) ?_ (S.mem.put hL (eRow r T (.slice (some ⟨g, 0, none⟩) xs.length c) (xs.set j.toNat y)) hchg (fun b hb => .inl hb) (by simp [eRow, vkeys]) ?_) (fun a => k a _)
  · simp only [execOp, ho, he, hex, Instr.storeAt, Instr.sureAddr, Sem.run_bind, Sem.run_pure, Result.andThen_ok, hst]
  · refine ⟨vs.set j.toNat v', (ha.mono hext).set _ (r.mono hext hu), by simpa using hlen, ?_⟩
    rw [flat_set (fun v hv => (ha.cells v hv).1) hj hsz]
    have hfl := flat_length (fun v hv => (ha.cells v hv).1)
    rw [ha.1] at hfl
    refine ⟨?_, .inr ⟨g, c, (over cur.toList (j.toNat * r.sz) v'.cells.toList).toArray, by simp, Nat.zero_le _, setRow_heap w g cur _ T _ hg, by simpa using hnc, hcm, ?_, ?_⟩⟩
    · rw [over_length (by rw [hfl]; simp [hsz]; omega), hfl]; simp
    · simp only [List.size_toArray]; rw [over_length (by simp [hsz, hcs]; omega)]; simpa using hcs
    · simp only [List.length_set]
      rw [over_take (by simp [hsz]; omega) (by simp [hcs]; omega), htake]
end

end Go.Proofs.YtoiehdlcfehmlaaDoor
namespace Go.Proofs.YtoiehdlcfehmlaaDoor
open Go.RowKit
set_option linter.unusedVariables false

structure api_Stitch where
  Kind : Int
  Purl : Bool
  A : Int
  B : Int
def r_api_Stitch : R api_Stitch where
  sz := 4
  rep := fun E w v x => v = .agg #[.int .u8 x.Kind, .bool x.Purl, .int .i64 x.A, .int .i64 x.B]
  pos := by decide
  size := by rintro _ _ _ _ rfl; rfl
  one := by
    rintro _ _ _ _ rfl u hu
    simp [Value.cells] at hu
    rcases hu with rfl | rfl | rfl | rfl
    · rfl
    · rfl
    · rfl
    · rfl
  mono := fun _ h => h
theorem aggr_api_Stitch : Aggr r_api_Stitch := by rintro _ _ _ _ rfl; exact ⟨_, rfl⟩
theorem comp_api_Stitch_Kind : Comp r_api_Stitch (rI .u8) 0 (·.Kind) := by
  rintro _ _ _ x rfl
  refine ⟨.int .u8 x.Kind, rfl, fun j c hj => ?_⟩
  match j, hj with
  | 0, hj => exact hj
  | j + 1, hj => exact absurd (List.getElem?_eq_some_iff.1 hj).1 (by simp [Value.cells])
theorem comp_api_Stitch_Purl : Comp r_api_Stitch rB 1 (·.Purl) := by
  rintro _ _ _ x rfl
  refine ⟨.bool x.Purl, rfl, fun j c hj => ?_⟩
  match j, hj with
  | 0, hj => exact hj
  | j + 1, hj => exact absurd (List.getElem?_eq_some_iff.1 hj).1 (by simp [Value.cells])
theorem comp_api_Stitch_A : Comp r_api_Stitch (rI .i64) 2 (·.A) := by
  rintro _ _ _ x rfl
  refine ⟨.int .i64 x.A, rfl, fun j c hj => ?_⟩
  match j, hj with
  | 0, hj => exact hj
  | j + 1, hj => exact absurd (List.getElem?_eq_some_iff.1 hj).1 (by simp [Value.cells])
theorem comp_api_Stitch_B : Comp r_api_Stitch (rI .i64) 3 (·.B) := by
  rintro _ _ _ x rfl
  refine ⟨.int .i64 x.B, rfl, fun j c hj => ?_⟩
  match j, hj with
  | 0, hj => exact hj
  | j + 1, hj => exact absurd (List.getElem?_eq_some_iff.1 hj).1 (by simp [Value.cells])
structure api_Row where
  Back : Bool
  Cells : (List api_Stitch)
def r_api_Row : R api_Row where
  sz := 2
  rep := fun E w v x => ∃ v0, v = .agg #[.bool x.Back, v0] ∧ (rL r_api_Stitch).rep E w v0 x.Cells
  pos := by decide
  size := by rintro _ _ _ _ ⟨v0, rfl, h0⟩; rfl
  one := by
    rintro _ _ _ _ ⟨v0, rfl, h0⟩ u hu
    simp [Value.cells] at hu
    rcases hu with rfl | rfl
    · rfl
    · exact (rL r_api_Stitch).one h0 _ (by rw [scal_L _ _ _ _ _ h0]; simp)
  mono := by
    rintro _ _ _ _ _ _ h ⟨v0, e, h0⟩
    exact ⟨v0, e, (rL r_api_Stitch).mono h h0⟩
theorem aggr_api_Row : Aggr r_api_Row := by rintro _ _ _ _ ⟨v0, rfl, h0⟩; exact ⟨_, rfl⟩
theorem comp_api_Row_Back : Comp r_api_Row rB 0 (·.Back) := by
  rintro _ _ _ x ⟨v0, rfl, h0⟩
  refine ⟨.bool x.Back, rfl, fun j c hj => ?_⟩
  match j, hj with
  | 0, hj => exact hj
  | j + 1, hj => exact absurd (List.getElem?_eq_some_iff.1 hj).1 (by simp [Value.cells])
theorem comp_api_Row_Cells : Comp r_api_Row (rL r_api_Stitch) 1 (·.Cells) := by
  rintro _ _ _ x ⟨v0, rfl, h0⟩
  refine ⟨v0, h0, fun j c hj => ?_⟩
  rw [scal_L _ _ _ _ _ h0] at hj
  match j, hj with
  | 0, hj => exact hj
  | j + 1, hj => exact absurd (List.getElem?_eq_some_iff.1 hj).1 (by simp)
structure api_Chart where
  Start : Int
  Rows : (List api_Row)
def r_api_Chart : R api_Chart where
  sz := 2
  rep := fun E w v x => ∃ v0, v = .agg #[.int .i64 x.Start, v0] ∧ (rL r_api_Row).rep E w v0 x.Rows
  pos := by decide
  size := by rintro _ _ _ _ ⟨v0, rfl, h0⟩; rfl
  one := by
    rintro _ _ _ _ ⟨v0, rfl, h0⟩ u hu
    simp [Value.cells] at hu
    rcases hu with rfl | rfl
    · rfl
    · exact (rL r_api_Row).one h0 _ (by rw [scal_L _ _ _ _ _ h0]; simp)
  mono := by
    rintro _ _ _ _ _ _ h ⟨v0, e, h0⟩
    exact ⟨v0, e, (rL r_api_Row).mono h h0⟩
theorem aggr_api_Chart : Aggr r_api_Chart := by rintro _ _ _ _ ⟨v0, rfl, h0⟩; exact ⟨_, rfl⟩
theorem comp_api_Chart_Start : Comp r_api_Chart (rI .i64) 0 (·.Start) := by
  rintro _ _ _ x ⟨v0, rfl, h0⟩
  refine ⟨.int .i64 x.Start, rfl, fun j c hj => ?_⟩
  match j, hj with
  | 0, hj => exact hj
  | j + 1, hj => exact absurd (List.getElem?_eq_some_iff.1 hj).1 (by simp [Value.cells])
theorem comp_api_Chart_Rows : Comp r_api_Chart (rL r_api_Row) 1 (·.Rows) := by
  rintro _ _ _ x ⟨v0, rfl, h0⟩
  refine ⟨v0, h0, fun j c hj => ?_⟩
  rw [scal_L _ _ _ _ _ h0] at hj
  match j, hj with
  | 0, hj => exact hj
  | j + 1, hj => exact absurd (List.getElem?_eq_some_iff.1 hj).1 (by simp)
def r_A2_Int : R (Int × Int) where
  sz := 2
  rep := fun E w v x => v = .agg #[.int .i64 x.1, .int .i64 x.2]
  pos := by decide
  size := by rintro _ _ _ _ rfl; rfl
  one := by
    rintro _ _ _ _ rfl u hu
    simp [Value.cells] at hu
    rcases hu with rfl | rfl
    · rfl
    · rfl
  mono := fun _ h => h
theorem aggr_A2_Int : Aggr r_A2_Int := by rintro _ _ _ _ rfl; exact ⟨_, rfl⟩
structure stitch_form where
  letter : ByteArray
  a : (Int × Int)
  b : (Int × Int)
  sided : Bool
  uses : Int
  made : Int
def r_stitch_form : R stitch_form where
  sz := 8
  rep := fun E w v x => v = .agg #[.string x.letter, .int .i64 x.a.1, .int .i64 x.a.2, .int .i64 x.b.1, .int .i64 x.b.2, .bool x.sided, .int .i64 x.uses, .int .i64 x.made]
  pos := by decide
  size := by rintro _ _ _ _ rfl; rfl
  one := by
    rintro _ _ _ _ rfl u hu
    simp [Value.cells] at hu
    rcases hu with rfl | rfl | rfl | rfl | rfl | rfl | rfl | rfl
    · rfl
    · rfl
    · rfl
    · rfl
    · rfl
    · rfl
    · rfl
    · rfl
  mono := fun _ h => h
theorem aggr_stitch_form : Aggr r_stitch_form := by rintro _ _ _ _ rfl; exact ⟨_, rfl⟩
theorem comp_stitch_form_letter : Comp r_stitch_form rS 0 (·.letter) := by
  rintro _ _ _ x rfl
  refine ⟨.string x.letter, rfl, fun j c hj => ?_⟩
  match j, hj with
  | 0, hj => exact hj
  | j + 1, hj => exact absurd (List.getElem?_eq_some_iff.1 hj).1 (by simp [Value.cells])
theorem comp_stitch_form_a : Comp r_stitch_form r_A2_Int 1 (·.a) := by
  rintro _ _ _ x rfl
  refine ⟨.agg #[.int .i64 x.a.1, .int .i64 x.a.2], rfl, fun j c hj => ?_⟩
  match j, hj with
  | 0, hj => exact hj
  | 1, hj => exact hj
  | j + 2, hj => exact absurd (List.getElem?_eq_some_iff.1 hj).1 (by simp [Value.cells])
theorem comp_stitch_form_b : Comp r_stitch_form r_A2_Int 3 (·.b) := by
  rintro _ _ _ x rfl
  refine ⟨.agg #[.int .i64 x.b.1, .int .i64 x.b.2], rfl, fun j c hj => ?_⟩
  match j, hj with
  | 0, hj => exact hj
  | 1, hj => exact hj
  | j + 2, hj => exact absurd (List.getElem?_eq_some_iff.1 hj).1 (by simp [Value.cells])
theorem comp_stitch_form_sided : Comp r_stitch_form rB 5 (·.sided) := by
  rintro _ _ _ x rfl
  refine ⟨.bool x.sided, rfl, fun j c hj => ?_⟩
  match j, hj with
  | 0, hj => exact hj
  | j + 1, hj => exact absurd (List.getElem?_eq_some_iff.1 hj).1 (by simp [Value.cells])
theorem comp_stitch_form_uses : Comp r_stitch_form (rI .i64) 6 (·.uses) := by
  rintro _ _ _ x rfl
  refine ⟨.int .i64 x.uses, rfl, fun j c hj => ?_⟩
  match j, hj with
  | 0, hj => exact hj
  | j + 1, hj => exact absurd (List.getElem?_eq_some_iff.1 hj).1 (by simp [Value.cells])
theorem comp_stitch_form_made : Comp r_stitch_form (rI .i64) 7 (·.made) := by
  rintro _ _ _ x rfl
  refine ⟨.int .i64 x.made, rfl, fun j c hj => ?_⟩
  match j, hj with
  | 0, hj => exact hj
  | j + 1, hj => exact absurd (List.getElem?_eq_some_iff.1 hj).1 (by simp [Value.cells])
def r_A24_Int : R (Int × Int × Int × Int × Int × Int × Int × Int × Int × Int × Int × Int × Int × Int × Int × Int × Int × Int × Int × Int × Int × Int × Int × Int) where
  sz := 24
  rep := fun E w v x => v = .agg #[.int .u8 x.1, .int .u8 x.2.1, .int .u8 x.2.2.1, .int .u8 x.2.2.2.1, .int .u8 x.2.2.2.2.1, .int .u8 x.2.2.2.2.2.1, .int .u8 x.2.2.2.2.2.2.1, .int .u8 x.2.2.2.2.2.2.2.1, .int .u8 x.2.2.2.2.2.2.2.2.1, .int .u8 x.2.2.2.2.2.2.2.2.2.1, .int .u8 x.2.2.2.2.2.2.2.2.2.2.1, .int .u8 x.2.2.2.2.2.2.2.2.2.2.2.1, .int .u8 x.2.2.2.2.2.2.2.2.2.2.2.2.1, .int .u8 x.2.2.2.2.2.2.2.2.2.2.2.2.2.1, .int .u8 x.2.2.2.2.2.2.2.2.2.2.2.2.2.2.1, .int .u8 x.2.2.2.2.2.2.2.2.2.2.2.2.2.2.2.1, .int .u8 x.2.2.2.2.2.2.2.2.2.2.2.2.2.2.2.2.1, .int .u8 x.2.2.2.2.2.2.2.2.2.2.2.2.2.2.2.2.2.1, .int .u8 x.2.2.2.2.2.2.2.2.2.2.2.2.2.2.2.2.2.2.1, .int .u8 x.2.2.2.2.2.2.2.2.2.2.2.2.2.2.2.2.2.2.2.1, .int .u8 x.2.2.2.2.2.2.2.2.2.2.2.2.2.2.2.2.2.2.2.2.1, .int .u8 x.2.2.2.2.2.2.2.2.2.2.2.2.2.2.2.2.2.2.2.2.2.1, .int .u8 x.2.2.2.2.2.2.2.2.2.2.2.2.2.2.2.2.2.2.2.2.2.2.1, .int .u8 x.2.2.2.2.2.2.2.2.2.2.2.2.2.2.2.2.2.2.2.2.2.2.2]
  pos := by decide
  size := by rintro _ _ _ _ rfl; rfl
  one := by
    rintro _ _ _ _ rfl u hu
    simp [Value.cells] at hu
    rcases hu with rfl | rfl | rfl | rfl | rfl | rfl | rfl | rfl | rfl | rfl | rfl | rfl | rfl | rfl | rfl | rfl | rfl | rfl | rfl | rfl | rfl | rfl | rfl | rfl
    · rfl
    · rfl
    · rfl
    · rfl
    · rfl
    · rfl
    · rfl
    · rfl
    · rfl
    · rfl
    · rfl
    · rfl
    · rfl
    · rfl
    · rfl
    · rfl
    · rfl
    · rfl
    · rfl
    · rfl
    · rfl
    · rfl
    · rfl
    · rfl
  mono := fun _ h => h
theorem aggr_A24_Int : Aggr r_A24_Int := by rintro _ _ _ _ rfl; exact ⟨_, rfl⟩
def gl_stitch_form (x : stitch_form) : List Value := [.string x.letter, .int .i64 x.a.1, .int .i64 x.a.2, .int .i64 x.b.1, .int .i64 x.b.2, .bool x.sided, .int .i64 x.uses, .int .i64 x.made]
def gv_stitch_form (x : stitch_form) : Value := .agg (gl_stitch_form x).toArray
def gl_A24_Int (x : (Int × Int × Int × Int × Int × Int × Int × Int × Int × Int × Int × Int × Int × Int × Int × Int × Int × Int × Int × Int × Int × Int × Int × Int)) : List Value := [.int .u8 x.1, .int .u8 x.2.1, .int .u8 x.2.2.1, .int .u8 x.2.2.2.1, .int .u8 x.2.2.2.2.1, .int .u8 x.2.2.2.2.2.1, .int .u8 x.2.2.2.2.2.2.1, .int .u8 x.2.2.2.2.2.2.2.1, .int .u8 x.2.2.2.2.2.2.2.2.1, .int .u8 x.2.2.2.2.2.2.2.2.2.1, .int .u8 x.2.2.2.2.2.2.2.2.2.2.1, .int .u8 x.2.2.2.2.2.2.2.2.2.2.2.1, .int .u8 x.2.2.2.2.2.2.2.2.2.2.2.2.1, .int .u8 x.2.2.2.2.2.2.2.2.2.2.2.2.2.1, .int .u8 x.2.2.2.2.2.2.2.2.2.2.2.2.2.2.1, .int .u8 x.2.2.2.2.2.2.2.2.2.2.2.2.2.2.2.1, .int .u8 x.2.2.2.2.2.2.2.2.2.2.2.2.2.2.2.2.1, .int .u8 x.2.2.2.2.2.2.2.2.2.2.2.2.2.2.2.2.2.1, .int .u8 x.2.2.2.2.2.2.2.2.2.2.2.2.2.2.2.2.2.2.1, .int .u8 x.2.2.2.2.2.2.2.2.2.2.2.2.2.2.2.2.2.2.2.1, .int .u8 x.2.2.2.2.2.2.2.2.2.2.2.2.2.2.2.2.2.2.2.2.1, .int .u8 x.2.2.2.2.2.2.2.2.2.2.2.2.2.2.2.2.2.2.2.2.2.1, .int .u8 x.2.2.2.2.2.2.2.2.2.2.2.2.2.2.2.2.2.2.2.2.2.2.1, .int .u8 x.2.2.2.2.2.2.2.2.2.2.2.2.2.2.2.2.2.2.2.2.2.2.2]
def gv_A24_Int (x : (Int × Int × Int × Int × Int × Int × Int × Int × Int × Int × Int × Int × Int × Int × Int × Int × Int × Int × Int × Int × Int × Int × Int × Int)) : Value := .agg (gl_A24_Int x).toArray
theorem callee3 : ∀ vs w, (callFunc 3 vs).run Tryd.prog w = .ok (.enter 3 vs) w := callee Tryd.func3 rfl rfl
theorem callee4 : ∀ vs w, (callFunc 4 vs).run Tryd.prog w = .ok (.enter 4 vs) w := callee Tryd.func4 rfl rfl
theorem callee5 : ∀ vs w, (callFunc 5 vs).run Tryd.prog w = .ok (.enter 5 vs) w := callee Tryd.func5 rfl rfl
theorem callee6 : ∀ vs w, (callFunc 6 vs).run Tryd.prog w = .ok (.enter 6 vs) w := callee Tryd.func6 rfl rfl
theorem callee7 : ∀ vs w, (callFunc 7 vs).run Tryd.prog w = .ok (.enter 7 vs) w := callee Tryd.func7 rfl rfl
theorem callee8 : ∀ vs w, (callFunc 8 vs).run Tryd.prog w = .ok (.enter 8 vs) w := callee Tryd.func8 rfl rfl
theorem callee9 : ∀ vs w, (callFunc 9 vs).run Tryd.prog w = .ok (.enter 9 vs) w := callee Tryd.func9 rfl rfl
theorem callee10 : ∀ vs w, (callFunc 10 vs).run Tryd.prog w = .ok (.enter 10 vs) w := callee Tryd.func10 rfl rfl
theorem callee11 : ∀ vs w, (callFunc 11 vs).run Tryd.prog w = .ok (.enter 11 vs) w := callee Tryd.func11 rfl rfl
theorem callee12 : ∀ vs w, (callFunc 12 vs).run Tryd.prog w = .ok (.enter 12 vs) w := callee Tryd.func12 rfl rfl
theorem callee13 : ∀ vs w, (callFunc 13 vs).run Tryd.prog w = .ok (.enter 13 vs) w := callee Tryd.func13 rfl rfl
theorem callee14 : ∀ vs w, (callFunc 14 vs).run Tryd.prog w = .ok (.enter 14 vs) w := callee Tryd.func14 rfl rfl
theorem callee15 : ∀ vs w, (callFunc 15 vs).run Tryd.prog w = .ok (.enter 15 vs) w := callee Tryd.func15 rfl rfl
theorem callee16 : ∀ vs w, (callFunc 16 vs).run Tryd.prog w = .ok (.enter 16 vs) w := callee Tryd.func16 rfl rfl
theorem callee17 : ∀ vs w, (callFunc 17 vs).run Tryd.prog w = .ok (.enter 17 vs) w := callee Tryd.func17 rfl rfl
theorem callee18 : ∀ vs w, (callFunc 18 vs).run Tryd.prog w = .ok (.enter 18 vs) w := callee Tryd.func18 rfl rfl
theorem callee19 : ∀ vs w, (callFunc 19 vs).run Tryd.prog w = .ok (.enter 19 vs) w := callee Tryd.func19 rfl rfl
theorem callee20 : ∀ vs w, (callFunc 20 vs).run Tryd.prog w = .ok (.enter 20 vs) w := callee Tryd.func20 rfl rfl
theorem callee21 : ∀ vs w, (callFunc 21 vs).run Tryd.prog w = .ok (.enter 21 vs) w := callee Tryd.func21 rfl rfl
theorem callee22 : ∀ vs w, (callFunc 22 vs).run Tryd.prog w = .ok (.enter 22 vs) w := callee Tryd.func22 rfl rfl
theorem callee23 : ∀ vs w, (callFunc 23 vs).run Tryd.prog w = .ok (.enter 23 vs) w := callee Tryd.func23 rfl rfl
theorem callee24 : ∀ vs w, (callFunc 24 vs).run Tryd.prog w = .ok (.enter 24 vs) w := callee Tryd.func24 rfl rfl
theorem callee25 : ∀ vs w, (callFunc 25 vs).run Tryd.prog w = .ok (.enter 25 vs) w := callee Tryd.func25 rfl rfl
theorem callee26 : ∀ vs w, (callFunc 26 vs).run Tryd.prog w = .ok (.enter 26 vs) w := callee Tryd.func26 rfl rfl
theorem callee27 : ∀ vs w, (callFunc 27 vs).run Tryd.prog w = .ok (.enter 27 vs) w := callee Tryd.func27 rfl rfl
theorem callee28 : ∀ vs w, (callFunc 28 vs).run Tryd.prog w = .ok (.enter 28 vs) w := callee Tryd.func28 rfl rfl
theorem callee29 : ∀ vs w, (callFunc 29 vs).run Tryd.prog w = .ok (.enter 29 vs) w := callee Tryd.func29 rfl rfl
theorem callee30 : ∀ vs w, (callFunc 30 vs).run Tryd.prog w = .ok (.enter 30 vs) w := callee Tryd.func30 rfl rfl
theorem callee31 : ∀ vs w, (callFunc 31 vs).run Tryd.prog w = .ok (.enter 31 vs) w := callee Tryd.func31 rfl rfl
theorem callee32 : ∀ vs w, (callFunc 32 vs).run Tryd.prog w = .ok (.enter 32 vs) w := callee Tryd.func32 rfl rfl
theorem callee33 : ∀ vs w, (callFunc 33 vs).run Tryd.prog w = .ok (.enter 33 vs) w := callee Tryd.func33 rfl rfl
theorem callee34 : ∀ vs w, (callFunc 34 vs).run Tryd.prog w = .ok (.enter 34 vs) w := callee Tryd.func34 rfl rfl
theorem callee35 : ∀ vs w, (callFunc 35 vs).run Tryd.prog w = .ok (.enter 35 vs) w := callee Tryd.func35 rfl rfl
theorem callee36 : ∀ vs w, (callFunc 36 vs).run Tryd.prog w = .ok (.enter 36 vs) w := callee Tryd.func36 rfl rfl
theorem callee37 : ∀ vs w, (callFunc 37 vs).run Tryd.prog w = .ok (.enter 37 vs) w := callee Tryd.func37 rfl rfl
theorem callee38 : ∀ vs w, (callFunc 38 vs).run Tryd.prog w = .ok (.enter 38 vs) w := callee Tryd.func38 rfl rfl
theorem callee39 : ∀ vs w, (callFunc 39 vs).run Tryd.prog w = .ok (.enter 39 vs) w := callee Tryd.func39 rfl rfl
theorem callee40 : ∀ vs w, (callFunc 40 vs).run Tryd.prog w = .ok (.enter 40 vs) w := callee Tryd.func40 rfl rfl
theorem callee41 : ∀ vs w, (callFunc 41 vs).run Tryd.prog w = .ok (.enter 41 vs) w := callee Tryd.func41 rfl rfl
theorem callee45 : ∀ vs w, (callFunc 45 vs).run Tryd.prog w = .ok (.enter 45 vs) w := callee Tryd.func45 rfl rfl
theorem callee48 : ∀ vs w, (callFunc 48 vs).run Tryd.prog w = .ok (.enter 48 vs) w := callee Tryd.func48 rfl rfl
theorem callee49 : ∀ vs w, (callFunc 49 vs).run Tryd.prog w = .ok (.enter 49 vs) w := callee Tryd.func49 rfl rfl
theorem callee54 : ∀ vs w, (callFunc 54 vs).run Tryd.prog w = .ok (.enter 54 vs) w := callee Tryd.func54 rfl rfl
theorem callee55 : ∀ vs w, (callFunc 55 vs).run Tryd.prog w = .ok (.enter 55 vs) w := callee Tryd.func55 rfl rfl

end Go.Proofs.YtoiehdlcfehmlaaDoor
namespace Go.Proofs.YtoiehdlcfehmlaaDoor
open Go.RowKit
set_option linter.unusedVariables false

open Go.ChangeShapes Go.WideShapes Go.ChangeAt Go.Joins
def InK (k : IntKind) (x : Int) : Prop := (Lit.int k x).wf = true
theorem inK_64 {x : Int} (h : InK .i64 x) : -9223372036854775808 ≤ x ∧ x ≤ 9223372036854775807 := by
  simpa [InK, Lit.wf, IntKind.min, IntKind.max, IntKind.signed, IntKind.bits] using h
theorem inK_u8 {x : Int} (h : InK .u8 x) : 0 ≤ x ∧ x ≤ 255 := by
  simpa [InK, Lit.wf, IntKind.min, IntKind.max, IntKind.signed, IntKind.bits] using h
def Wl {α : Type} (p : α → Prop) (xs : List α) : Prop := xs.length ≤ 9223372036854775807 ∧ ∀ x, x ∈ xs → p x
/-- cells of a type read, well formed -/
def OpC {α : Type} (P : Program) (t : TypeId) (r : R α) (p : α → Prop) : Prop :=
  ∀ (H : Type) (enc : TypeId × Value → H) (w : World) (base : Nat) (spare : Nat → Bool) (held : Bool) (fuel : Nat) (cs : List Value) (x : DataW H × List MemPlace),
    DataW.trod enc P w base spare held fuel t cs = some x → ∃ v y, v.cells.toList = cs ∧ r.rep (fun _ => False) w v y ∧ p y
section
variable {P : Program}
theorem op_int {t : TypeId} (k : IntKind) (ht : P.underlying t = some (.int k)) : OpC P t (rI k) (InK k) := fun H enc w base spare held fuel cs x h => by
  obtain ⟨n, rfl, _, hw⟩ := DataW.trod_int ht h
  exact ⟨_, n, rfl, rfl, hw⟩
theorem op_bool {t : TypeId} (ht : P.underlying t = some .bool) : OpC P t rB (fun _ => True) := fun H enc w base spare held fuel cs x h => by
  obtain ⟨n, rfl, _⟩ := DataW.trod_bool ht h
  exact ⟨_, n, rfl, rfl, trivial⟩
theorem op_string {t : TypeId} (ht : P.underlying t = some .string) : OpC P t rS (fun s => s.size ≤ 9223372036854775807) := fun H enc w base spare held fuel cs x h => by
  obtain ⟨n, rfl, _, hw⟩ := DataW.trod_string ht h
  exact ⟨_, n, rfl, rfl, by simpa [maxLen] using hw⟩
theorem choose_list {α : Type} {n : Nat} {p : Nat → α → Prop} (h : ∀ i, i < n → ∃ x, p i x) : ∃ l : List α, l.length = n ∧ ∀ i x, l[i]? = some x → p i x := by
  induction n with
  | zero => exact ⟨[], rfl, fun i x hi => by simp at hi⟩
  | succ n ih =>
    obtain ⟨l, hl, hp⟩ := ih fun i hi => h i (by omega)
    obtain ⟨x, hx⟩ := h n (by omega)
    refine ⟨l ++ [x], by simp [hl], fun i y hi => ?_⟩
    by_cases e : i < l.length
    · rw [List.getElem?_append_left e] at hi; exact hp i y hi
    · rw [List.getElem?_append_right (by omega)] at hi
      have : i - l.length = 0 := by
        have := (List.getElem?_eq_some_iff.1 hi).1
        simp at this; omega
      rw [this] at hi
      simp at hi; subst hi
      have : i = n := by omega
      subst this; exact hx
theorem op_slice {α : Type} {t e : TypeId} {r : R α} {p : α → Prop} (ht : P.underlying t = some (.slice e)) (hc : P.cellsOf e = r.sz) (he : OpC P e r p) : OpC P t (rL r) (Wl p) := fun H enc w base spare held fuel cs x h => by
  rcases Go.Deep.open_slice ht h with ⟨rfl, _⟩ | ⟨a, len, cap, m, n, D, Pl, rfl, _, hl, hm, hmm, _, hx⟩
  · exact ⟨_, [], rfl, rL_nil _ _ _, by simp, fun x hx => by simp at hx⟩
  · have hlm : len ≤ m := by rw [hmm]; split <;> omega
    obtain ⟨b, off, spot⟩ := a
    have hcell : ∀ i, i < len → ∃ vy : Value × α, (∀ j, j < r.sz → w.cell? ((⟨b, off, spot⟩ : Addr).add (i * r.sz + j)) = vy.1.cells.toList[j]?) ∧ r.rep (fun _ => False) w vy.1 vy.2 ∧ p vy.2 := fun i hi => by
      obtain ⟨cs, h1, h2⟩ := hx i (by omega)
      obtain ⟨_, h3, h4⟩ := World.cells?_some h1
      obtain ⟨v, y, h5, h6, h7⟩ := he _ _ _ _ _ _ _ _ _ h2
      refine ⟨(v, y), fun j hj => ?_, h6, h7⟩
      have := h4 j (by rw [hc]; exact hj)
      rw [Addr.add_add, hc] at this
      rw [this, h5]
    obtain ⟨l, hll, hlp⟩ := choose_list hcell
    subst hll
    have hA : All r (fun _ => False) w (l.map (·.1)) (l.map (·.2)) := ⟨by simp, fun k v x hv hx => by
      rw [List.getElem?_map] at hv hx
      cases hk : l[k]? with
      | none => rw [hk] at hv; cases hv
      | some q => rw [hk] at hv hx; simp at hv hx; subst hv hx; exact (hlp k q hk).2.1⟩
    refine ⟨.slice (some ⟨b, off, spot⟩) l.length cap, l.map (·.2), rfl, ?_, by simp [maxLen] at hm ⊢; omega, fun x hx => ?_⟩
    · refine ⟨some ⟨b, off, spot⟩, cap, l.map (·.1), by simp, by simpa using hl, by simp [maxLen] at hm ⊢; omega, hA, fun k u hu => ?_⟩
      have hsz := fun v hv => (hA.cells v hv).1
      have hk := (List.getElem?_eq_some_iff.1 hu).1
      rw [flat_length hsz] at hk
      simp only [List.length_map] at hk
      have hi : k / r.sz < l.length := Nat.div_lt_of_lt_mul (by rw [Nat.mul_comm]; exact hk)
      have hj := Nat.mod_lt k r.pos
      have hq : l[k / r.sz]? = some l[k / r.sz] := List.getElem?_eq_getElem hi
      have h1 := (hlp _ _ hq).1 (k % r.sz) hj
      have h2 := flat_get hsz (k := k / r.sz) (v := l[k / r.sz].1) (by rw [List.getElem?_map, hq]; rfl) hj
      rw [Nat.mul_comm, Nat.div_add_mod] at h1 h2
      rw [hu] at h2
      rw [← h2] at h1
      have hspot : spot = none := by
        have h0 : 0 < l.length := Nat.lt_of_le_of_lt (Nat.zero_le _) hi
        have hq0 : l[0]? = some l[0] := List.getElem?_eq_getElem h0
        have h3 := (hlp 0 _ hq0).1 0 r.pos
        have hs0 := r.size (hlp 0 _ hq0).2.1
        rw [List.getElem?_eq_getElem (by rw [Array.length_toList, hs0]; exact r.pos)] at h3
        simpa [Addr.add] using World.cell?_spot h3
      subst hspot
      rw [add_addr] at h1
      exact ⟨b, off, rfl, not_false, World.block_lt_of_cell? w _ h1, h1⟩
    · obtain ⟨q, hq, rfl⟩ := List.mem_map.1 hx
      obtain ⟨k, hk, rfl⟩ := List.getElem_of_mem hq
      exact (hlp k _ (List.getElem?_eq_getElem hk)).2.2
/-- an argument that is a slice; a struct; numbers -/
theorem top_slice {α : Type} {H : Type} {enc : TypeId × Value → H} {w : World} {base b0 : Nat} {spare : Nat → Bool} {held : Bool} {rr : Reach} {v : Value} {d : DataW H} {p : List MemPlace} {t e : TypeId} {r : R α} {q : List α → Prop} (ht : P.underlying t = some (.slice e)) (ho : OpC P t (rL r) q)
    (hv : Value.okWide P w rr b0 t v) (h : DataW.Trod enc P w base spare held t v d p) : ∃ y, (rL r).rep (fun _ => False) w v y ∧ q y := by
  obtain ⟨a, n, c, rfl⟩ := okWide_slice ht hv
  obtain ⟨fuel, hf⟩ := h
  obtain ⟨v, y, h1, h2, h3⟩ := ho _ _ _ _ _ _ _ _ _ hf
  have hs := scal_L _ _ _ _ _ h2
  rw [hs] at h1
  simp [Value.cells] at h1
  subst h1
  exact ⟨y, h2, h3⟩
theorem top_agg {α : Type} {H : Type} {enc : TypeId × Value → H} {w : World} {base b0 : Nat} {spare : Nat → Bool} {held : Bool} {rr : Reach} {v : Value} {d : DataW H} {p : List MemPlace} {t : TypeId} {fs : Array Field} {r : R α} {q : α → Prop} (ht : P.underlying t = some (.struct fs)) (hr : Aggr r) (ho : OpC P t r q)
    (hv : Value.okWide P w rr b0 t v) (h : DataW.Trod enc P w base spare held t v d p) : ∃ y, r.rep (fun _ => False) w v y ∧ q y := by
  obtain ⟨cs, rfl, hsz⟩ := okWide_struct ht hv
  obtain ⟨fuel, hf⟩ := h
  obtain ⟨v, y, h1, h2, h3⟩ := ho _ _ _ _ _ _ _ _ _ hf
  obtain ⟨ds, rfl⟩ := hr _ _ _ _ h2
  simp [Value.cells] at h1
  subst h1
  exact ⟨y, h2, h3⟩
theorem St0.start {w : World} {D : List Fact} (h : ∀ d, d ∈ D → d.p (fun _ => False) w) : St0 (fun _ => False) [] w w [] D := by
  have hE : tot (fun _ => False) [] = (fun _ => False) := by funext b; simp [tot, keysL]
  exact ⟨Chg.refl _ _, by simp, fun d hd => by rw [hE]; exact h d hd, by simp [keysL], by simp [keysL], fun _ h => h.elim⟩
theorem Chg.below {w w' : World} (h : Chg [] w w') : Below w.heap.size w w' := ⟨h.os, h.tape, h.output, h.size, fun k hk => h.block k hk (by simp)⟩
theorem len1 {α : Type} {l : List α} (h : l.length = 1) : ∃ a, l = [a] := by match l, h with | [a], _ => exact ⟨a, rfl⟩
theorem len2 {α : Type} {l : List α} (h : l.length = 2) : ∃ a b, l = [a, b] := by match l, h with | [a, b], _ => exact ⟨a, b, rfl⟩
theorem len3 {α : Type} {l : List α} (h : l.length = 3) : ∃ a b c, l = [a, b, c] := by match l, h with | [a, b, c], _ => exact ⟨a, b, c, rfl⟩
theorem len4 {α : Type} {l : List α} (h : l.length = 4) : ∃ a b c d, l = [a, b, c, d] := by match l, h with | [a, b, c, d], _ => exact ⟨a, b, c, d, rfl⟩
theorem len5 {α : Type} {l : List α} (h : l.length = 5) : ∃ a b c d e, l = [a, b, c, d, e] := by match l, h with | [a, b, c, d, e], _ => exact ⟨a, b, c, d, e, rfl⟩
theorem len6 {α : Type} {l : List α} (h : l.length = 6) : ∃ a b c d e f, l = [a, b, c, d, e, f] := by match l, h with | [a, b, c, d, e, f], _ => exact ⟨a, b, c, d, e, f, rfl⟩
end
theorem fld {α : Type} {x : Option α} {ys : List α} {i : Nat} (h : x = ys[i]?) (hi : i < ys.length) : ∃ z, x = some z := ⟨ys[i], by rw [h]; exact List.getElem?_eq_getElem hi⟩

end Go.Proofs.YtoiehdlcfehmlaaDoor
namespace Go.Proofs.YtoiehdlcfehmlaaDoor
open Go.RowKit
set_option linter.unusedVariables false

open Go.ChangeShapes Go.WideShapes Go.ChangeAt Go.Joins
theorem lenSx {α : Type} {l : List α} {n : Nat} (h : l.length = n + 1) : ∃ a k, l = a :: k ∧ k.length = n := by
  cases l with
  | nil => simp at h
  | cons a k => exact ⟨a, k, rfl, by simpa using h⟩
theorem len8 {α : Type} {l : List α} (h : l.length = 8) : ∃ c0 c1 c2 c3 c4 c5 c6 c7, l = [c0, c1, c2, c3, c4, c5, c6, c7] := by
  obtain ⟨c0, l1, rfl, h1⟩ := lenSx h
  obtain ⟨c1, l2, rfl, h2⟩ := lenSx h1
  obtain ⟨c2, l3, rfl, h3⟩ := lenSx h2
  obtain ⟨c3, l4, rfl, h4⟩ := lenSx h3
  obtain ⟨c4, l5, rfl, h5⟩ := lenSx h4
  obtain ⟨c5, l6, rfl, h6⟩ := lenSx h5
  obtain ⟨c6, l7, rfl, h7⟩ := lenSx h6
  obtain ⟨c7, l8, rfl, h8⟩ := lenSx h7
  obtain rfl := List.eq_nil_of_length_eq_zero h8
  exact ⟨c0, c1, c2, c3, c4, c5, c6, c7, rfl⟩
theorem len24 {α : Type} {l : List α} (h : l.length = 24) : ∃ c0 c1 c2 c3 c4 c5 c6 c7 c8 c9 c10 c11 c12 c13 c14 c15 c16 c17 c18 c19 c20 c21 c22 c23, l = [c0, c1, c2, c3, c4, c5, c6, c7, c8, c9, c10, c11, c12, c13, c14, c15, c16, c17, c18, c19, c20, c21, c22, c23] := by
  obtain ⟨c0, l1, rfl, h1⟩ := lenSx h
  obtain ⟨c1, l2, rfl, h2⟩ := lenSx h1
  obtain ⟨c2, l3, rfl, h3⟩ := lenSx h2
  obtain ⟨c3, l4, rfl, h4⟩ := lenSx h3
  obtain ⟨c4, l5, rfl, h5⟩ := lenSx h4
  obtain ⟨c5, l6, rfl, h6⟩ := lenSx h5
  obtain ⟨c6, l7, rfl, h7⟩ := lenSx h6
  obtain ⟨c7, l8, rfl, h8⟩ := lenSx h7
  obtain ⟨c8, l9, rfl, h9⟩ := lenSx h8
  obtain ⟨c9, l10, rfl, h10⟩ := lenSx h9
  obtain ⟨c10, l11, rfl, h11⟩ := lenSx h10
  obtain ⟨c11, l12, rfl, h12⟩ := lenSx h11
  obtain ⟨c12, l13, rfl, h13⟩ := lenSx h12
  obtain ⟨c13, l14, rfl, h14⟩ := lenSx h13
  obtain ⟨c14, l15, rfl, h15⟩ := lenSx h14
  obtain ⟨c15, l16, rfl, h16⟩ := lenSx h15
  obtain ⟨c16, l17, rfl, h17⟩ := lenSx h16
  obtain ⟨c17, l18, rfl, h18⟩ := lenSx h17
  obtain ⟨c18, l19, rfl, h19⟩ := lenSx h18
  obtain ⟨c19, l20, rfl, h20⟩ := lenSx h19
  obtain ⟨c20, l21, rfl, h21⟩ := lenSx h20
  obtain ⟨c21, l22, rfl, h22⟩ := lenSx h21
  obtain ⟨c22, l23, rfl, h23⟩ := lenSx h22
  obtain ⟨c23, l24, rfl, h24⟩ := lenSx h23
  obtain rfl := List.eq_nil_of_length_eq_zero h24
  exact ⟨c0, c1, c2, c3, c4, c5, c6, c7, c8, c9, c10, c11, c12, c13, c14, c15, c16, c17, c18, c19, c20, c21, c22, c23, rfl⟩
def wf_api_Stitch (x : api_Stitch) : Prop := (InK .u8) x.Kind ∧ (fun _ => True) x.Purl ∧ (InK .i64) x.A ∧ (InK .i64) x.B
theorem op_api_Stitch : OpC Tryd.prog 38 r_api_Stitch wf_api_Stitch := fun H enc w base spare held fuel cs x h => by
  obtain ⟨ys, m, _, _, hl, hy, hf⟩ := DataW.trod_struct Tryd.underlying38 h
  obtain ⟨c0, c1, c2, c3, rfl⟩ := len4 (hl.trans (by kernel_rfl))
  obtain ⟨z0, f0⟩ := fld (hf 0 _ rfl) (by rw [hy]; decide)
  obtain ⟨u0, y0, k0, r0, w0⟩ := (op_int .u8 Tryd.underlying5) _ _ _ _ _ _ _ _ _ f0
  replace k0 : u0.cells.toList = [c0] := k0.trans (by kernel_rfl)
  obtain rfl : u0 = .int .u8 y0 := r0
  obtain rfl : Value.int .u8 y0 = c0 := by simpa [Value.cells] using k0
  obtain ⟨z1, f1⟩ := fld (hf 1 _ rfl) (by rw [hy]; decide)
  obtain ⟨u1, y1, k1, r1, w1⟩ := (op_bool Tryd.underlying4) _ _ _ _ _ _ _ _ _ f1
  replace k1 : u1.cells.toList = [c1] := k1.trans (by kernel_rfl)
  obtain rfl : u1 = .bool y1 := r1
  obtain rfl : Value.bool y1 = c1 := by simpa [Value.cells] using k1
  obtain ⟨z2, f2⟩ := fld (hf 2 _ rfl) (by rw [hy]; decide)
  obtain ⟨u2, y2, k2, r2, w2⟩ := (op_int .i64 Tryd.underlying3) _ _ _ _ _ _ _ _ _ f2
  replace k2 : u2.cells.toList = [c2] := k2.trans (by kernel_rfl)
  obtain rfl : u2 = .int .i64 y2 := r2
  obtain rfl : Value.int .i64 y2 = c2 := by simpa [Value.cells] using k2
  obtain ⟨z3, f3⟩ := fld (hf 3 _ rfl) (by rw [hy]; decide)
  obtain ⟨u3, y3, k3, r3, w3⟩ := (op_int .i64 Tryd.underlying3) _ _ _ _ _ _ _ _ _ f3
  replace k3 : u3.cells.toList = [c3] := k3.trans (by kernel_rfl)
  obtain rfl : u3 = .int .i64 y3 := r3
  obtain rfl : Value.int .i64 y3 = c3 := by simpa [Value.cells] using k3
  exact ⟨_, ⟨y0, y1, y2, y3⟩, rfl, rfl, ⟨w0, w1, w2, w3⟩⟩
def wf_api_Row (x : api_Row) : Prop := (fun _ => True) x.Back ∧ (Wl wf_api_Stitch) x.Cells
theorem op_api_Row : OpC Tryd.prog 41 r_api_Row wf_api_Row := fun H enc w base spare held fuel cs x h => by
  obtain ⟨ys, m, _, _, hl, hy, hf⟩ := DataW.trod_struct Tryd.underlying41 h
  obtain ⟨c0, c1, rfl⟩ := len2 (hl.trans (by kernel_rfl))
  obtain ⟨z0, f0⟩ := fld (hf 0 _ rfl) (by rw [hy]; decide)
  obtain ⟨u0, y0, k0, r0, w0⟩ := (op_bool Tryd.underlying4) _ _ _ _ _ _ _ _ _ f0
  replace k0 : u0.cells.toList = [c0] := k0.trans (by kernel_rfl)
  obtain rfl : u0 = .bool y0 := r0
  obtain rfl : Value.bool y0 = c0 := by simpa [Value.cells] using k0
  obtain ⟨z1, f1⟩ := fld (hf 1 _ rfl) (by rw [hy]; decide)
  obtain ⟨u1, y1, k1, r1, w1⟩ := (op_slice (r := r_api_Stitch) Tryd.underlying39 (by kernel_rfl) op_api_Stitch) _ _ _ _ _ _ _ _ _ f1
  replace k1 : u1.cells.toList = [c1] := k1.trans (by kernel_rfl)
  rw [scal_L _ _ _ _ _ r1] at k1
  obtain rfl : u1 = c1 := by simpa using k1
  exact ⟨_, ⟨y0, y1⟩, rfl, ⟨_, rfl, r1⟩, ⟨w0, w1⟩⟩
def wf_api_Chart (x : api_Chart) : Prop := (InK .i64) x.Start ∧ (Wl wf_api_Row) x.Rows
theorem op_api_Chart : OpC Tryd.prog 32 r_api_Chart wf_api_Chart := fun H enc w base spare held fuel cs x h => by
  obtain ⟨ys, m, _, _, hl, hy, hf⟩ := DataW.trod_struct Tryd.underlying32 h
  obtain ⟨c0, c1, rfl⟩ := len2 (hl.trans (by kernel_rfl))
  obtain ⟨z0, f0⟩ := fld (hf 0 _ rfl) (by rw [hy]; decide)
  obtain ⟨u0, y0, k0, r0, w0⟩ := (op_int .i64 Tryd.underlying3) _ _ _ _ _ _ _ _ _ f0
  replace k0 : u0.cells.toList = [c0] := k0.trans (by kernel_rfl)
  obtain rfl : u0 = .int .i64 y0 := r0
  obtain rfl : Value.int .i64 y0 = c0 := by simpa [Value.cells] using k0
  obtain ⟨z1, f1⟩ := fld (hf 1 _ rfl) (by rw [hy]; decide)
  obtain ⟨u1, y1, k1, r1, w1⟩ := (op_slice (r := r_api_Row) Tryd.underlying30 (by kernel_rfl) op_api_Row) _ _ _ _ _ _ _ _ _ f1
  replace k1 : u1.cells.toList = [c1] := k1.trans (by kernel_rfl)
  rw [scal_L _ _ _ _ _ r1] at k1
  obtain rfl : u1 = c1 := by simpa using k1
  exact ⟨_, ⟨y0, y1⟩, rfl, ⟨_, rfl, r1⟩, ⟨w0, w1⟩⟩
def wf_A2_Int (x : (Int × Int)) : Prop := (InK .i64) x.1 ∧ (InK .i64) x.2
theorem op_A2_Int : OpC Tryd.prog 65 r_A2_Int wf_A2_Int := fun H enc w base spare held fuel cs x h => by
  obtain ⟨ys, m, _, _, hl, hy, hf⟩ := DataW.trod_array Tryd.underlying65 h
  obtain ⟨c0, c1, rfl⟩ := len2 (hl.trans (by kernel_rfl))
  obtain ⟨z0, f0⟩ := fld (hf 0 (by decide)) (by rw [hy]; decide)
  obtain ⟨u0, y0, k0, r0, w0⟩ := (op_int .i64 Tryd.underlying3) _ _ _ _ _ _ _ _ _ f0
  replace k0 : u0.cells.toList = [c0] := k0.trans (by kernel_rfl)
  obtain rfl : u0 = .int .i64 y0 := r0
  obtain rfl : Value.int .i64 y0 = c0 := by simpa [Value.cells] using k0
  obtain ⟨z1, f1⟩ := fld (hf 1 (by decide)) (by rw [hy]; decide)
  obtain ⟨u1, y1, k1, r1, w1⟩ := (op_int .i64 Tryd.underlying3) _ _ _ _ _ _ _ _ _ f1
  replace k1 : u1.cells.toList = [c1] := k1.trans (by kernel_rfl)
  obtain rfl : u1 = .int .i64 y1 := r1
  obtain rfl : Value.int .i64 y1 = c1 := by simpa [Value.cells] using k1
  exact ⟨_, (y0, y1), rfl, rfl, ⟨w0, w1⟩⟩
def wf_stitch_form (x : stitch_form) : Prop := (fun s => s.size ≤ 9223372036854775807) x.letter ∧ wf_A2_Int x.a ∧ wf_A2_Int x.b ∧ (fun _ => True) x.sided ∧ (InK .i64) x.uses ∧ (InK .i64) x.made
theorem op_stitch_form : OpC Tryd.prog 67 r_stitch_form wf_stitch_form := fun H enc w base spare held fuel cs x h => by
  obtain ⟨ys, m, _, _, hl, hy, hf⟩ := DataW.trod_struct Tryd.underlying67 h
  obtain ⟨c0, c1, c2, c3, c4, c5, c6, c7, rfl⟩ := len8 (hl.trans (by kernel_rfl))
  obtain ⟨z0, f0⟩ := fld (hf 0 _ rfl) (by rw [hy]; decide)
  obtain ⟨u0, y0, k0, r0, w0⟩ := (op_string Tryd.underlying9) _ _ _ _ _ _ _ _ _ f0
  replace k0 : u0.cells.toList = [c0] := k0.trans (by kernel_rfl)
  obtain rfl : u0 = .string y0 := r0
  obtain rfl : Value.string y0 = c0 := by simpa [Value.cells] using k0
  obtain ⟨z1, f1⟩ := fld (hf 1 _ rfl) (by rw [hy]; decide)
  obtain ⟨u1, y1, k1, r1, w1⟩ := op_A2_Int _ _ _ _ _ _ _ _ _ f1
  replace k1 : u1.cells.toList = [c1, c2] := k1.trans (by kernel_rfl)
  obtain rfl : u1 = .agg #[.int .i64 y1.1, .int .i64 y1.2] := r1
  simp only [Value.cells, List.cons.injEq, and_true] at k1
  obtain ⟨rfl, rfl⟩ := k1
  obtain ⟨z2, f2⟩ := fld (hf 2 _ rfl) (by rw [hy]; decide)
  obtain ⟨u2, y2, k2, r2, w2⟩ := op_A2_Int _ _ _ _ _ _ _ _ _ f2
  replace k2 : u2.cells.toList = [c3, c4] := k2.trans (by kernel_rfl)
  obtain rfl : u2 = .agg #[.int .i64 y2.1, .int .i64 y2.2] := r2
  simp only [Value.cells, List.cons.injEq, and_true] at k2
  obtain ⟨rfl, rfl⟩ := k2
  obtain ⟨z3, f3⟩ := fld (hf 3 _ rfl) (by rw [hy]; decide)
  obtain ⟨u3, y3, k3, r3, w3⟩ := (op_bool Tryd.underlying4) _ _ _ _ _ _ _ _ _ f3
  replace k3 : u3.cells.toList = [c5] := k3.trans (by kernel_rfl)
  obtain rfl : u3 = .bool y3 := r3
  obtain rfl : Value.bool y3 = c5 := by simpa [Value.cells] using k3
  obtain ⟨z4, f4⟩ := fld (hf 4 _ rfl) (by rw [hy]; decide)
  obtain ⟨u4, y4, k4, r4, w4⟩ := (op_int .i64 Tryd.underlying3) _ _ _ _ _ _ _ _ _ f4
  replace k4 : u4.cells.toList = [c6] := k4.trans (by kernel_rfl)
  obtain rfl : u4 = .int .i64 y4 := r4
  obtain rfl : Value.int .i64 y4 = c6 := by simpa [Value.cells] using k4
  obtain ⟨z5, f5⟩ := fld (hf 5 _ rfl) (by rw [hy]; decide)
  obtain ⟨u5, y5, k5, r5, w5⟩ := (op_int .i64 Tryd.underlying3) _ _ _ _ _ _ _ _ _ f5
  replace k5 : u5.cells.toList = [c7] := k5.trans (by kernel_rfl)
  obtain rfl : u5 = .int .i64 y5 := r5
  obtain rfl : Value.int .i64 y5 = c7 := by simpa [Value.cells] using k5
  exact ⟨_, ⟨y0, y1, y2, y3, y4, y5⟩, rfl, rfl, ⟨w0, w1, w2, w3, w4, w5⟩⟩
def wf_A24_Int (x : (Int × Int × Int × Int × Int × Int × Int × Int × Int × Int × Int × Int × Int × Int × Int × Int × Int × Int × Int × Int × Int × Int × Int × Int)) : Prop := (InK .u8) x.1 ∧ (InK .u8) x.2.1 ∧ (InK .u8) x.2.2.1 ∧ (InK .u8) x.2.2.2.1 ∧ (InK .u8) x.2.2.2.2.1 ∧ (InK .u8) x.2.2.2.2.2.1 ∧ (InK .u8) x.2.2.2.2.2.2.1 ∧ (InK .u8) x.2.2.2.2.2.2.2.1 ∧ (InK .u8) x.2.2.2.2.2.2.2.2.1 ∧ (InK .u8) x.2.2.2.2.2.2.2.2.2.1 ∧ (InK .u8) x.2.2.2.2.2.2.2.2.2.2.1 ∧ (InK .u8) x.2.2.2.2.2.2.2.2.2.2.2.1 ∧ (InK .u8) x.2.2.2.2.2.2.2.2.2.2.2.2.1 ∧ (InK .u8) x.2.2.2.2.2.2.2.2.2.2.2.2.2.1 ∧ (InK .u8) x.2.2.2.2.2.2.2.2.2.2.2.2.2.2.1 ∧ (InK .u8) x.2.2.2.2.2.2.2.2.2.2.2.2.2.2.2.1 ∧ (InK .u8) x.2.2.2.2.2.2.2.2.2.2.2.2.2.2.2.2.1 ∧ (InK .u8) x.2.2.2.2.2.2.2.2.2.2.2.2.2.2.2.2.2.1 ∧ (InK .u8) x.2.2.2.2.2.2.2.2.2.2.2.2.2.2.2.2.2.2.1 ∧ (InK .u8) x.2.2.2.2.2.2.2.2.2.2.2.2.2.2.2.2.2.2.2.1 ∧ (InK .u8) x.2.2.2.2.2.2.2.2.2.2.2.2.2.2.2.2.2.2.2.2.1 ∧ (InK .u8) x.2.2.2.2.2.2.2.2.2.2.2.2.2.2.2.2.2.2.2.2.2.1 ∧ (InK .u8) x.2.2.2.2.2.2.2.2.2.2.2.2.2.2.2.2.2.2.2.2.2.2.1 ∧ (InK .u8) x.2.2.2.2.2.2.2.2.2.2.2.2.2.2.2.2.2.2.2.2.2.2.2
theorem op_A24_Int : OpC Tryd.prog 96 r_A24_Int wf_A24_Int := fun H enc w base spare held fuel cs x h => by
  obtain ⟨ys, m, _, _, hl, hy, hf⟩ := DataW.trod_array Tryd.underlying96 h
  obtain ⟨c0, c1, c2, c3, c4, c5, c6, c7, c8, c9, c10, c11, c12, c13, c14, c15, c16, c17, c18, c19, c20, c21, c22, c23, rfl⟩ := len24 (hl.trans (by kernel_rfl))
  obtain ⟨z0, f0⟩ := fld (hf 0 (by decide)) (by rw [hy]; decide)
  obtain ⟨u0, y0, k0, r0, w0⟩ := (op_int .u8 Tryd.underlying5) _ _ _ _ _ _ _ _ _ f0
  replace k0 : u0.cells.toList = [c0] := k0.trans (by kernel_rfl)
  obtain rfl : u0 = .int .u8 y0 := r0
  obtain rfl : Value.int .u8 y0 = c0 := by simpa [Value.cells] using k0
  obtain ⟨z1, f1⟩ := fld (hf 1 (by decide)) (by rw [hy]; decide)
  obtain ⟨u1, y1, k1, r1, w1⟩ := (op_int .u8 Tryd.underlying5) _ _ _ _ _ _ _ _ _ f1
  replace k1 : u1.cells.toList = [c1] := k1.trans (by kernel_rfl)
  obtain rfl : u1 = .int .u8 y1 := r1
  obtain rfl : Value.int .u8 y1 = c1 := by simpa [Value.cells] using k1
  obtain ⟨z2, f2⟩ := fld (hf 2 (by decide)) (by rw [hy]; decide)
  obtain ⟨u2, y2, k2, r2, w2⟩ := (op_int .u8 Tryd.underlying5) _ _ _ _ _ _ _ _ _ f2
  replace k2 : u2.cells.toList = [c2] := k2.trans (by kernel_rfl)
  obtain rfl : u2 = .int .u8 y2 := r2
  obtain rfl : Value.int .u8 y2 = c2 := by simpa [Value.cells] using k2
  obtain ⟨z3, f3⟩ := fld (hf 3 (by decide)) (by rw [hy]; decide)
  obtain ⟨u3, y3, k3, r3, w3⟩ := (op_int .u8 Tryd.underlying5) _ _ _ _ _ _ _ _ _ f3
  replace k3 : u3.cells.toList = [c3] := k3.trans (by kernel_rfl)
  obtain rfl : u3 = .int .u8 y3 := r3
  obtain rfl : Value.int .u8 y3 = c3 := by simpa [Value.cells] using k3
  obtain ⟨z4, f4⟩ := fld (hf 4 (by decide)) (by rw [hy]; decide)
  obtain ⟨u4, y4, k4, r4, w4⟩ := (op_int .u8 Tryd.underlying5) _ _ _ _ _ _ _ _ _ f4
  replace k4 : u4.cells.toList = [c4] := k4.trans (by kernel_rfl)
  obtain rfl : u4 = .int .u8 y4 := r4
  obtain rfl : Value.int .u8 y4 = c4 := by simpa [Value.cells] using k4
  obtain ⟨z5, f5⟩ := fld (hf 5 (by decide)) (by rw [hy]; decide)
  obtain ⟨u5, y5, k5, r5, w5⟩ := (op_int .u8 Tryd.underlying5) _ _ _ _ _ _ _ _ _ f5
  replace k5 : u5.cells.toList = [c5] := k5.trans (by kernel_rfl)
  obtain rfl : u5 = .int .u8 y5 := r5
  obtain rfl : Value.int .u8 y5 = c5 := by simpa [Value.cells] using k5
  obtain ⟨z6, f6⟩ := fld (hf 6 (by decide)) (by rw [hy]; decide)
  obtain ⟨u6, y6, k6, r6, w6⟩ := (op_int .u8 Tryd.underlying5) _ _ _ _ _ _ _ _ _ f6
  replace k6 : u6.cells.toList = [c6] := k6.trans (by kernel_rfl)
  obtain rfl : u6 = .int .u8 y6 := r6
  obtain rfl : Value.int .u8 y6 = c6 := by simpa [Value.cells] using k6
  obtain ⟨z7, f7⟩ := fld (hf 7 (by decide)) (by rw [hy]; decide)
  obtain ⟨u7, y7, k7, r7, w7⟩ := (op_int .u8 Tryd.underlying5) _ _ _ _ _ _ _ _ _ f7
  replace k7 : u7.cells.toList = [c7] := k7.trans (by kernel_rfl)
  obtain rfl : u7 = .int .u8 y7 := r7
  obtain rfl : Value.int .u8 y7 = c7 := by simpa [Value.cells] using k7
  obtain ⟨z8, f8⟩ := fld (hf 8 (by decide)) (by rw [hy]; decide)
  obtain ⟨u8, y8, k8, r8, w8⟩ := (op_int .u8 Tryd.underlying5) _ _ _ _ _ _ _ _ _ f8
  replace k8 : u8.cells.toList = [c8] := k8.trans (by kernel_rfl)
  obtain rfl : u8 = .int .u8 y8 := r8
  obtain rfl : Value.int .u8 y8 = c8 := by simpa [Value.cells] using k8
  obtain ⟨z9, f9⟩ := fld (hf 9 (by decide)) (by rw [hy]; decide)
  obtain ⟨u9, y9, k9, r9, w9⟩ := (op_int .u8 Tryd.underlying5) _ _ _ _ _ _ _ _ _ f9
  replace k9 : u9.cells.toList = [c9] := k9.trans (by kernel_rfl)
  obtain rfl : u9 = .int .u8 y9 := r9
  obtain rfl : Value.int .u8 y9 = c9 := by simpa [Value.cells] using k9
  obtain ⟨z10, f10⟩ := fld (hf 10 (by decide)) (by rw [hy]; decide)
  obtain ⟨u10, y10, k10, r10, w10⟩ := (op_int .u8 Tryd.underlying5) _ _ _ _ _ _ _ _ _ f10
  replace k10 : u10.cells.toList = [c10] := k10.trans (by kernel_rfl)
  obtain rfl : u10 = .int .u8 y10 := r10
  obtain rfl : Value.int .u8 y10 = c10 := by simpa [Value.cells] using k10
  obtain ⟨z11, f11⟩ := fld (hf 11 (by decide)) (by rw [hy]; decide)
  obtain ⟨u11, y11, k11, r11, w11⟩ := (op_int .u8 Tryd.underlying5) _ _ _ _ _ _ _ _ _ f11
  replace k11 : u11.cells.toList = [c11] := k11.trans (by kernel_rfl)
  obtain rfl : u11 = .int .u8 y11 := r11
  obtain rfl : Value.int .u8 y11 = c11 := by simpa [Value.cells] using k11
  obtain ⟨z12, f12⟩ := fld (hf 12 (by decide)) (by rw [hy]; decide)
  obtain ⟨u12, y12, k12, r12, w12⟩ := (op_int .u8 Tryd.underlying5) _ _ _ _ _ _ _ _ _ f12
  replace k12 : u12.cells.toList = [c12] := k12.trans (by kernel_rfl)
  obtain rfl : u12 = .int .u8 y12 := r12
  obtain rfl : Value.int .u8 y12 = c12 := by simpa [Value.cells] using k12
  obtain ⟨z13, f13⟩ := fld (hf 13 (by decide)) (by rw [hy]; decide)
  obtain ⟨u13, y13, k13, r13, w13⟩ := (op_int .u8 Tryd.underlying5) _ _ _ _ _ _ _ _ _ f13
  replace k13 : u13.cells.toList = [c13] := k13.trans (by kernel_rfl)
  obtain rfl : u13 = .int .u8 y13 := r13
  obtain rfl : Value.int .u8 y13 = c13 := by simpa [Value.cells] using k13
  obtain ⟨z14, f14⟩ := fld (hf 14 (by decide)) (by rw [hy]; decide)
  obtain ⟨u14, y14, k14, r14, w14⟩ := (op_int .u8 Tryd.underlying5) _ _ _ _ _ _ _ _ _ f14
  replace k14 : u14.cells.toList = [c14] := k14.trans (by kernel_rfl)
  obtain rfl : u14 = .int .u8 y14 := r14
  obtain rfl : Value.int .u8 y14 = c14 := by simpa [Value.cells] using k14
  obtain ⟨z15, f15⟩ := fld (hf 15 (by decide)) (by rw [hy]; decide)
  obtain ⟨u15, y15, k15, r15, w15⟩ := (op_int .u8 Tryd.underlying5) _ _ _ _ _ _ _ _ _ f15
  replace k15 : u15.cells.toList = [c15] := k15.trans (by kernel_rfl)
  obtain rfl : u15 = .int .u8 y15 := r15
  obtain rfl : Value.int .u8 y15 = c15 := by simpa [Value.cells] using k15
  obtain ⟨z16, f16⟩ := fld (hf 16 (by decide)) (by rw [hy]; decide)
  obtain ⟨u16, y16, k16, r16, w16⟩ := (op_int .u8 Tryd.underlying5) _ _ _ _ _ _ _ _ _ f16
  replace k16 : u16.cells.toList = [c16] := k16.trans (by kernel_rfl)
  obtain rfl : u16 = .int .u8 y16 := r16
  obtain rfl : Value.int .u8 y16 = c16 := by simpa [Value.cells] using k16
  obtain ⟨z17, f17⟩ := fld (hf 17 (by decide)) (by rw [hy]; decide)
  obtain ⟨u17, y17, k17, r17, w17⟩ := (op_int .u8 Tryd.underlying5) _ _ _ _ _ _ _ _ _ f17
  replace k17 : u17.cells.toList = [c17] := k17.trans (by kernel_rfl)
  obtain rfl : u17 = .int .u8 y17 := r17
  obtain rfl : Value.int .u8 y17 = c17 := by simpa [Value.cells] using k17
  obtain ⟨z18, f18⟩ := fld (hf 18 (by decide)) (by rw [hy]; decide)
  obtain ⟨u18, y18, k18, r18, w18⟩ := (op_int .u8 Tryd.underlying5) _ _ _ _ _ _ _ _ _ f18
  replace k18 : u18.cells.toList = [c18] := k18.trans (by kernel_rfl)
  obtain rfl : u18 = .int .u8 y18 := r18
  obtain rfl : Value.int .u8 y18 = c18 := by simpa [Value.cells] using k18
  obtain ⟨z19, f19⟩ := fld (hf 19 (by decide)) (by rw [hy]; decide)
  obtain ⟨u19, y19, k19, r19, w19⟩ := (op_int .u8 Tryd.underlying5) _ _ _ _ _ _ _ _ _ f19
  replace k19 : u19.cells.toList = [c19] := k19.trans (by kernel_rfl)
  obtain rfl : u19 = .int .u8 y19 := r19
  obtain rfl : Value.int .u8 y19 = c19 := by simpa [Value.cells] using k19
  obtain ⟨z20, f20⟩ := fld (hf 20 (by decide)) (by rw [hy]; decide)
  obtain ⟨u20, y20, k20, r20, w20⟩ := (op_int .u8 Tryd.underlying5) _ _ _ _ _ _ _ _ _ f20
  replace k20 : u20.cells.toList = [c20] := k20.trans (by kernel_rfl)
  obtain rfl : u20 = .int .u8 y20 := r20
  obtain rfl : Value.int .u8 y20 = c20 := by simpa [Value.cells] using k20
  obtain ⟨z21, f21⟩ := fld (hf 21 (by decide)) (by rw [hy]; decide)
  obtain ⟨u21, y21, k21, r21, w21⟩ := (op_int .u8 Tryd.underlying5) _ _ _ _ _ _ _ _ _ f21
  replace k21 : u21.cells.toList = [c21] := k21.trans (by kernel_rfl)
  obtain rfl : u21 = .int .u8 y21 := r21
  obtain rfl : Value.int .u8 y21 = c21 := by simpa [Value.cells] using k21
  obtain ⟨z22, f22⟩ := fld (hf 22 (by decide)) (by rw [hy]; decide)
  obtain ⟨u22, y22, k22, r22, w22⟩ := (op_int .u8 Tryd.underlying5) _ _ _ _ _ _ _ _ _ f22
  replace k22 : u22.cells.toList = [c22] := k22.trans (by kernel_rfl)
  obtain rfl : u22 = .int .u8 y22 := r22
  obtain rfl : Value.int .u8 y22 = c22 := by simpa [Value.cells] using k22
  obtain ⟨z23, f23⟩ := fld (hf 23 (by decide)) (by rw [hy]; decide)
  obtain ⟨u23, y23, k23, r23, w23⟩ := (op_int .u8 Tryd.underlying5) _ _ _ _ _ _ _ _ _ f23
  replace k23 : u23.cells.toList = [c23] := k23.trans (by kernel_rfl)
  obtain rfl : u23 = .int .u8 y23 := r23
  obtain rfl : Value.int .u8 y23 = c23 := by simpa [Value.cells] using k23
  exact ⟨_, (y0, y1, y2, y3, y4, y5, y6, y7, y8, y9, y10, y11, y12, y13, y14, y15, y16, y17, y18, y19, y20, y21, y22, y23), rfl, rfl, ⟨w0, w1, w2, w3, w4, w5, w6, w7, w8, w9, w10, w11, w12, w13, w14, w15, w16, w17, w18, w19, w20, w21, w22, w23⟩⟩

end Go.Proofs.YtoiehdlcfehmlaaDoor
namespace Go.Proofs.YtoiehdlcfehmlaaDoor
open Go.RowKit
set_option linter.unusedVariables false

def Le {α : Type} (a b : Option α) : Prop := ∀ r, a = some r → b = some r
theorem Le.rfl {α : Type} (a : Option α) : Le a a := fun _ h => h
theorem Le.bind {α β : Type} {a b : Option α} {f g : α → Option β} (h : Le a b) (hf : ∀ x, Le (f x) (g x)) : Le (Option.bind a f) (Option.bind b g) := by
  intro r hr
  cases ha : a with
  | none => rw [ha] at hr; cases hr
  | some x =>
    rw [ha] at hr
    rw [h x ha]
    exact hf x r hr
theorem Le.ite {α : Type} {c : Prop} [Decidable c] {a b a' b' : Option α} (h : Le a b) (h' : Le a' b') : Le (if c then a else a') (if c then b else b') := by
  by_cases hc : c
  · rw [if_pos hc, if_pos hc]; exact h
  · rw [if_neg hc, if_neg hc]; exact h'
theorem Le.sum {α β γ : Type} {f g : α ⊕ β → Option γ} (h : ∀ a, Le (f (.inl a)) (g (.inl a))) (h' : ∀ b, Le (f (.inr b)) (g (.inr b))) : ∀ z, Le (f z) (g z)
  | .inl a => h a
  | .inr b => h' b
theorem Le.prod {α β γ : Type} {f g : α × β → Option γ} (h : ∀ a b, Le (f (a, b)) (g (a, b))) : ∀ z, Le (f z) (g z)
  | (a, b) => h a b
theorem iterO_Le {σ τ : Type} {B B' : σ → Option (σ ⊕ τ)} (h : ∀ s, Le (B s) (B' s)) : ∀ (n : Nat) (s : σ), Le (iterO B n s) (iterO B' n s) := by
  intro n
  induction n with
  | zero => intro s r hr; cases hr
  | succ n ih =>
    intro s r hr
    unfold iterO at hr ⊢
    cases hB : B s with
    | none => rw [hB] at hr; cases hr
    | some x =>
      rw [hB] at hr
      rw [h s x hB]
      cases x with
      | inl s' => exact ih s' r hr
      | inr t => exact hr
def whileK {σ τ : Type} (B : σ → Option (σ ⊕ τ)) (s : σ) : Option τ := iterO B 1000000 s
theorem Le.loop {σ τ : Type} {B B' : σ → Option (σ ⊕ τ)} (s : σ) (h : ∀ s, Le (B s) (B' s)) : Le (whileK B s) (whileO B' s) :=
  fun r hr => whileO_of (iterO_Le h 1000000 s r hr)

end Go.Proofs.YtoiehdlcfehmlaaDoor
namespace Go.Proofs.YtoiehdlcfehmlaaDoor
open Go.RowKit
set_option linter.unusedVariables false

noncomputable def F_short_within (p0 : Int) (p1 : Int) (p2 : Int) : Option Bool :=
  Option.bind (α := Bool) (
    if decide (p1 ≤ p0) then
      some (decide (p0 ≤ p2))
    else
      some false) fun o2 =>
  some o2
set_option maxHeartbeats 4000000 in
set_option maxRecDepth 100000 in
theorem c_short_within (E : Nat → Prop) (w0 : World) (p0 : Int) (p1 : Int) (p2 : Int) (r : Bool) (h : F_short_within p0 p1 p2 = some r) (S : St0 E [] w0 w0 [] []) :
    Calls Tryd.prog 18 #[iv p0, iv p1, iv p2] w0 (Ret (X := Unit) E [] w0 (fun _ => .bool r) (fun _ => []) (fun _ => [])) := by
  unfold F_short_within at h
  refine sEnter (args := [iv p0, iv p1, iv p2]) 15 Tryd.func18 rfl rfl (by simp) S (fun a S => ?_)
  refine sSeq (fun K1 hK1 => ?_)
  refine sRegion ?_
  refine sMove (.bool false) S (wN rfl) (.inr rfl) rfl rfl (lb rfl) fun a S => ?_
  refine leafL (leafT (hK1 _ _ ?_))
  obtain ⟨t3, h, g4⟩ := bindSome h
  refine sCut (fun a w => ∃ o2, o2 = t3 ∧ St [] E [] w0 15 a w [(6, .bool o2)] [] []) ?_ (fun a w hI => ?_)
  rotate_left
  · obtain ⟨o2, rfl, S⟩ := hI
    have h := g4
    clear g4
    try dsimp only at h
    obtain rfl := Option.some.inj h
    exact wp_ret (sRet (.bool o2) S (rsl1 rfl (rvT (t := 6) (v := .bool o2) S rfl)) ⟨(), rfl, S.mem.sel [] [] (by decide) rfl rfl⟩)
  refine sRegion ?_
  refine sMove (iv p0) S (wN rfl) (.inl rfl) rfl rfl (lb rfl) fun a S => ?_
  refine sMove (iv p1) S (wN rfl) (.inl rfl) rfl rfl (lb rfl) fun a S => ?_
  refine sBin (.bool (decide (p1 ≤ p0))) S (wN rfl) rfl rfl rfl (bGe _ _ _ _ .i64 p0 p1) rfl (lb rfl) fun a S => ?_
  refine sMove (.bool (decide (p1 ≤ p0))) S (wN rfl) (.inl rfl) rfl rfl (lb rfl) fun a S => ?_
  rcases iteSome h with ⟨hc5, h⟩ | ⟨hc5, h⟩
  rotate_left
  · refine sSkip 3 true 10 11 S rfl rfl rfl hc5 rfl (lb rfl) fun a S => ?_
    refine sSkip 3 true 10 12 S rfl rfl rfl hc5 rfl (lb rfl) fun a S => ?_
    refine sSkip 3 true 10 13 S rfl rfl rfl hc5 rfl (lb rfl) fun a S => ?_
    refine sPickF (.bool false) S (wN rfl) rfl rfl hc5 rfl rfl (lb rfl) fun a S => ?_
    refine sMove (.bool false) S (wN rfl) (.inr rfl) rfl rfl (lb rfl) fun a S => ?_
    exact leafL (leafT (⟨false, Option.some.inj h, S.fix [] [] (by decide) rfl rfl rfl⟩))
  refine sMove (iv p0) S (wG 3 true 10 rfl rfl rfl hc5) (.inl rfl) rfl rfl (lb rfl) fun a S => ?_
  refine sMove (iv p2) S (wG 3 true 10 rfl rfl rfl hc5) (.inl rfl) rfl rfl (lb rfl) fun a S => ?_
  refine sBin (.bool (decide (p0 ≤ p2))) S (wG 3 true 10 rfl rfl rfl hc5) rfl rfl rfl (bLe _ _ _ _ .i64 p0 p2) rfl (lb rfl) fun a S => ?_
  refine sPickT (.bool (decide (p0 ≤ p2))) S (wN rfl) rfl rfl hc5 rfl rfl (lb rfl) fun a S => ?_
  refine sMove (.bool (decide (p0 ≤ p2))) S (wN rfl) (.inr rfl) rfl rfl (lb rfl) fun a S => ?_
  exact leafL (leafT (⟨decide (p0 ≤ p2), Option.some.inj h, S.fix [] [] (by decide) rfl rfl rfl⟩))

end Go.Proofs.YtoiehdlcfehmlaaDoor
namespace Go.Proofs.YtoiehdlcfehmlaaDoor
open Go.RowKit
set_option linter.unusedVariables false

noncomputable def short_Fit_l1 (p0 : (List Int)) : Int → Option (Int ⊕ (((List Int) × Int) ⊕ Unit)) := fun s0 => match s0 with
  | s15 =>
    if decide (s15 < (p0.length : Int)) then
      Option.bind (idxO p0 s15) fun x24 =>
      Option.bind (α := Bool) (
        Option.bind (F_short_within x24 0 50) fun r32 =>
        if !r32 then
          some true
        else
          if decide (0 < s15) then
            Option.bind (idxO p0 (w64 (s15 - 1))) fun x36 =>
            some (decide (x36 < x24))
          else
            some false) fun o29 =>
      if o29 then
        some (.inr (.inl (([] : (List Int)), 2)))
      else
        some (.inl (w64 (s15 + 1)))
    else
      some (.inr (.inr ()))
noncomputable def short_Fit_l2 (p0 : (List Int)) (s58 : Int) : Int → Option (Int ⊕ Int) := fun s0 => match s0 with
  | s77 =>
    Option.bind (idxO p0 (w64 (s77 - 1))) fun x84 =>
    if decide (x84 < s58) then
      some (.inl (w64 (s77 - 1)))
    else
      some (.inr s77)
noncomputable def short_Fit_l3 (p0 : (List Int)) : (List Int × Int) → Option ((List Int × Int) ⊕ List Int) := fun s0 => match s0 with
  | (s55, s58) =>
    if decide (0 < s58) then
      Option.bind (α := List Int) (
        Option.bind (α := Int) (
          Option.bind (whileO (short_Fit_l2 p0 s58) (p0.length : Int)) fun e81 =>
            some e81) fun o74 =>
        Option.bind (appO ([o74] : List Int) s55) fun l92 =>
        some l92) fun o68 =>
      some (.inl (o68, w64 (s58 - 1)))
    else
      some (.inr s55)
noncomputable def F_short_Fit (p0 : (List Int)) : Option ((List Int) × Int) :=
  if decide (200 < (p0.length : Int)) then
    some (([] : (List Int)), 4)
  else
    if (p0.length : Int) == 0 then
      some (([] : (List Int)), 2)
    else
      Option.bind (α := Unit ⊕ ((List Int) × Int)) (
        Option.bind (whileO (short_Fit_l1 p0) 0) fun z0 => match z0 with
          | .inl z =>
            some (.inr z)
          | .inr _ =>
            some (.inl ())) fun z0 => match z0 with
        | .inl _ =>
          Option.bind (α := List Int) (
            Option.bind (idxO p0 0) fun x50 =>
            Option.bind (whileO (short_Fit_l3 p0) (([] : List Int), x50)) fun e62 =>
              some e62) fun o44 =>
          some (o44, 0)
        | .inr z =>
          some z
def c_short_Fit_val (r : ((List Int) × Int)) (x : Value) : Value := .tuple #[x, .int .i64 r.2]
def c_short_Fit_D (r : ((List Int) × Int)) (x : Value) : List Fact := [fRep (rL (rI .i64)) x r.1]
set_option maxHeartbeats 4000000 in
set_option maxRecDepth 100000 in
theorem c_short_Fit (E : Nat → Prop) (w0 : World) (p0 : (List Int)) (v0 : Value) (r : ((List Int) × Int)) (h : F_short_Fit p0 = some r) (S : St0 E [] w0 w0 [] [fRep (rL (rI .i64)) (v0) p0]) :
    Calls Tryd.prog 10 #[v0] w0 (Ret (X := Value) E [] w0 (c_short_Fit_val r) (fun _ => []) (c_short_Fit_D r)) := by
  unfold F_short_Fit at h
  obtain ⟨ad1, cp2, _, rfl, _⟩ := S.know (i := 0) (e := fRep (rL (rI .i64)) (v0) p0) rfl
  refine sEnter (args := [.slice ad1 p0.length cp2]) 62 Tryd.func10 rfl rfl (by simp) S (fun a S => ?_)
  refine sSeq (fun K3 hK3 => ?_)
  refine sRegion ?_
  refine sMove (.slice none 0 0) S (wN rfl) (.inr rfl) rfl rfl (lb rfl) fun a S => ?_
  refine sMove (iv 0) S (wN rfl) (.inr rfl) rfl rfl (lb rfl) fun a S => ?_
  refine leafL (leafT (hK3 _ _ ?_))
  refine sSeq (fun K4 hK4 => ?_)
  refine sSeq (fun K5 hK5 => ?_)
  refine sRegion ?_
  refine sMove (.slice ad1 p0.length cp2) S (wN rfl) (.inl rfl) rfl rfl (lb rfl) fun a S => ?_
  refine sLen (ad := ad1) (m := p0.length) (c := cp2) S (wN rfl) rfl Tryd.underlying22 rfl rfl (lb rfl) fun a S => ?_
  refine sBin (.bool (decide (200 < (p0.length : Int)))) S (wN rfl) rfl rfl rfl (bGt _ _ _ _ .i64 (p0.length : Int) 200) rfl (lb rfl) fun a S => ?_
  refine leafL (leafT (hK5 _ _ ?_))
  rcases iteSome h with ⟨hc6, h⟩ | ⟨hc6, h⟩
  · refine sCondT S rfl hc6 ?_
    refine sSeq (fun K7 hK7 => ?_)
    refine sRegion ?_
    refine sMove (.slice none 0 0) S (wN rfl) (.inr rfl) rfl rfl (lb rfl) fun a S => ?_
    refine sMove (iv 4) S (wN rfl) (.inr rfl) rfl rfl (lb rfl) fun a S => ?_
    refine leafL (leafT (hK7 _ _ ?_))
    obtain rfl := Option.some.inj h
    have S := S.learn (fRep (rL (rI .i64)) (.slice none 0 0) ([] : (List Int))) (rL_nil _ _ _)
    exact wp_ret (rThen (sRet (.tuple #[.slice none 0 0, iv 4]) S (rsl2 rfl (rvT (t := 2) (v := .slice none 0 0) S rfl) (rvT (t := 3) (v := iv 4) S rfl)) ⟨(.slice none 0 0), rfl, S.mem.sel [] [0] (by decide) rfl rfl⟩))
  refine sCondF S rfl hc6 ?_
  refine wp_skip (leafT (hK4 _ _ ?_))
  refine sSeq (fun K8 hK8 => ?_)
  refine sSeq (fun K9 hK9 => ?_)
  refine sRegion ?_
  refine sMove (.slice ad1 p0.length cp2) S (wN rfl) (.inl rfl) rfl rfl (lb rfl) fun a S => ?_
  refine sLen (ad := ad1) (m := p0.length) (c := cp2) S (wN rfl) rfl Tryd.underlying22 rfl rfl (lb rfl) fun a S => ?_
  refine sBin (.bool ((p0.length : Int) == 0)) S (wN rfl) rfl rfl rfl (bEq _ _ _ _ .i64 (p0.length : Int) 0) rfl (lb rfl) fun a S => ?_
  refine leafL (leafT (hK9 _ _ ?_))
  rcases iteSome h with ⟨hc10, h⟩ | ⟨hc10, h⟩
  · refine sCondT S rfl hc10 ?_
    refine sSeq (fun K11 hK11 => ?_)
    refine sRegion ?_
    refine sMove (.slice none 0 0) S (wN rfl) (.inr rfl) rfl rfl (lb rfl) fun a S => ?_
    refine sMove (iv 2) S (wN rfl) (.inr rfl) rfl rfl (lb rfl) fun a S => ?_
    refine leafL (leafT (hK11 _ _ ?_))
    obtain rfl := Option.some.inj h
    have S := S.learn (fRep (rL (rI .i64)) (.slice none 0 0) ([] : (List Int))) (rL_nil _ _ _)
    exact wp_ret (rThen (sRet (.tuple #[.slice none 0 0, iv 2]) S (rsl2 rfl (rvT (t := 2) (v := .slice none 0 0) S rfl) (rvT (t := 3) (v := iv 2) S rfl)) ⟨(.slice none 0 0), rfl, S.mem.sel [] [0] (by decide) rfl rfl⟩))
  refine sCondF S rfl hc10 ?_
  refine wp_skip (leafT (hK8 _ _ ?_))
  obtain ⟨t12, h, g13⟩ := bindSome h
  refine sCut (fun a w => .inl () = t12 ∧ St [] E [] w0 62 a w [(0, .slice ad1 p0.length cp2)] [] [fRep (rL (rI .i64)) (.slice ad1 p0.length cp2) p0]) ?_ (fun a w hI => ?_)
  · refine sSeq (fun K14 hK14 => ?_)
    refine sRegion ?_
    refine sMove (.slice ad1 p0.length cp2) S (wN rfl) (.inl rfl) rfl rfl (lb rfl) fun a S => ?_
    refine sLen (ad := ad1) (m := p0.length) (c := cp2) S (wN rfl) rfl Tryd.underlying22 rfl rfl (lb rfl) fun a S => ?_
    refine sMove (iv 0) S (wN rfl) (.inl rfl) rfl rfl (lb rfl) fun a S => ?_
    refine leafL (leafT (hK14 _ _ ?_))
    refine wp_block ?_
    obtain ⟨t18, hl, g17⟩ := bindSome h
    refine sLoop hl (fun s0 a w => match s0 with | s15 => St [] E [] w0 62 a w [(0, .slice ad1 p0.length cp2), (15, .slice ad1 p0.length cp2), (16, iv (p0.length : Int)), (17, iv s15)] [] [fRep (rL (rI .i64)) (.slice ad1 p0.length cp2) p0]) (S.fix [] [0] (by decide) rfl rfl rfl) ?_
    clear hl h
    intro s15 a w c0 hI h hu16
    unfold short_Fit_l1 at h
    dsimp only at h hI
    have S := hI
    refine sSeq (fun K19 hK19 => ?_)
    refine sRegion ?_
    refine sBin (.bool (decide (s15 < (p0.length : Int)))) S (wN rfl) rfl rfl rfl (bLt _ _ _ _ .i64 s15 (p0.length : Int)) rfl (lb rfl) fun a S => ?_
    refine leafL (leafT (hK19 _ _ ?_))
    refine sSeq (fun K20 hK20 => ?_)
    rcases iteSome h with ⟨hc21, h⟩ | ⟨hc21, h⟩
    rotate_left
    · refine sCondF S rfl hc21 ?_
      obtain rfl := Option.some.inj h
      obtain rfl := hu16 _ rfl
      have h := g17
      clear g17
      try dsimp only at h
      exact wp_exit (xThen (xThen (xHit (leafT (⟨Option.some.inj h, S.fix [] [0] (by decide) rfl rfl rfl⟩)))))
    refine sCondT S rfl hc21 ?_
    refine wp_skip (leafT (hK20 _ _ ?_))
    refine sSeq (fun K22 hK22 => ?_)
    refine wp_block ?_
    refine sSeq (fun K23 hK23 => ?_)
    refine sRegion ?_
    refine sMove (iv s15) S (wN rfl) (.inl rfl) rfl rfl (lb rfl) fun a S => ?_
    obtain ⟨x24, hx25, h⟩ := bindSome h
    obtain ⟨q26, hq27, S⟩ := pIdx (P := Tryd.prog) (r := (rI .i64)) (v := .slice ad1 p0.length cp2) (xs := p0) (j := s15) 22 3 0 S Tryd.underlying22 rfl rfl hx25
    refine sIdxV (v := .slice ad1 p0.length cp2) (k := .i64) (j := s15) S (wN rfl) rfl rfl rfl hq27 rfl (lb rfl) fun a S => ?_
    obtain ⟨u28, S⟩ := pLoad (r := (rI .i64)) (q := q26) (x := x24) 0 S rfl
    obtain rfl : u28 = iv x24 := S.mem.know (i := 1) (e := fRep (rI .i64) (u28) x24) rfl
    refine sLoadV1 (vq := q26) 0 (iv x24) S (wN rfl) rfl rfl rfl rfl rfl (lb rfl) fun a S => ?_
    refine sMove (iv s15) S (wN rfl) (.inr rfl) rfl rfl (lb rfl) fun a S => ?_
    refine sMove (iv x24) S (wN rfl) (.inr rfl) rfl rfl (lb rfl) fun a S => ?_
    refine leafL (leafT (hK23 _ _ ?_))
    obtain ⟨t30, h, g31⟩ := bindSome h
    refine sCut (fun a w => ∃ o29, o29 = t30 ∧ St [] E [] w0 62 a w [(0, .slice ad1 p0.length cp2), (15, .slice ad1 p0.length cp2), (16, iv (p0.length : Int)), (17, iv s15), (37, .bool o29)] [] [fRep (rL (rI .i64)) (.slice ad1 p0.length cp2) p0]) ?_ (fun a w hI => ?_)
    rotate_left
    · obtain ⟨o29, rfl, S⟩ := hI
      have h := g31
      clear g31
      try dsimp only at h
      rcases iteSome h with ⟨hc41, h⟩ | ⟨hc41, h⟩
      rotate_left
      · refine sCondF S rfl hc41 ?_
        refine wp_skip (leafB (leafT (hK22 _ _ ?_)))
        refine sRegion ?_
        refine sBin (iv (w64 (s15 + 1))) S (wN rfl) rfl rfl rfl (bAdd _ _ _ _ s15 1) rfl (lb rfl) fun a S => ?_
        refine sMove (iv (w64 (s15 + 1))) S (wN rfl) (.inl rfl) rfl rfl (lb rfl) fun a S => ?_
        exact leafL (leafT (⟨w64 (s15 + 1), (Option.some.inj h).symm, (S.fix [] [0] (by decide) rfl rfl rfl)⟩))
      refine sCondT S rfl hc41 ?_
      refine sSeq (fun K42 hK42 => ?_)
      refine sRegion ?_
      refine sMove (.slice none 0 0) S (wN rfl) (.inr rfl) rfl rfl (lb rfl) fun a S => ?_
      refine sMove (iv 2) S (wN rfl) (.inr rfl) rfl rfl (lb rfl) fun a S => ?_
      refine leafL (leafT (hK42 _ _ ?_))
      obtain rfl := Option.some.inj h
      obtain rfl := hu16 _ rfl
      have h := g17
      clear g17
      try dsimp only at h
      obtain rfl := Option.some.inj h
      have h := g13
      clear g13
      try dsimp only at h
      obtain rfl := Option.some.inj h
      have S := S.learn (fRep (rL (rI .i64)) (.slice none 0 0) ([] : (List Int))) (rL_nil _ _ _)
      exact wp_ret (rBlock (rThen (rThen (rBlock (rThen (sRet (.tuple #[.slice none 0 0, iv 2]) S (rsl2 rfl (rvT (t := 2) (v := .slice none 0 0) S rfl) (rvT (t := 3) (v := iv 2) S rfl)) ⟨(.slice none 0 0), rfl, S.mem.sel [] [0] (by decide) rfl rfl⟩))))))
    refine sRegion ?_
    refine sMove (iv x24) S (wN rfl) (.inl rfl) rfl rfl (lb rfl) fun a S => ?_
    obtain ⟨r32, hx33, h⟩ := bindSome h
    have S1 := S.mem
    refine sCallQ (X := Unit) (f := 18) (vs := [iv x24, iv 0, iv 50]) (val := fun _ => .bool r32) S (wN rfl) rfl callee18 rfl (S1.quiet [] rfl) (fun E1 w1 S1 => c_short_within E1 w1 x24 0 50 r32 hx33 S1) rfl (lb rfl) fun _ a w S => ?_
    refine sNot (b := r32) S (wN rfl) rfl rfl rfl (lb rfl) fun a S => ?_
    refine sMove (.bool (!r32)) S (wN rfl) (.inl rfl) rfl rfl (lb rfl) fun a S => ?_
    rcases iteSome h with ⟨hc34, h⟩ | ⟨hc34, h⟩
    · refine sSkip 3 false 25 26 S rfl rfl rfl hc34 rfl (lb rfl) fun a S => ?_
      refine sSkip 3 false 25 27 S rfl rfl rfl hc34 rfl (lb rfl) fun a S => ?_
      refine sSkip 3 false 25 28 S rfl rfl rfl hc34 rfl (lb rfl) fun a S => ?_
      refine sSkipU 6 true 28 29 S rfl rfl rfl rfl (lb rfl) fun a S => ?_
      refine sSkipU 6 true 28 30 S rfl rfl rfl rfl (lb rfl) fun a S => ?_
      refine sSkipU 6 true 28 31 S rfl rfl rfl rfl (lb rfl) fun a S => ?_
      refine sSkipU 6 true 28 32 S rfl rfl rfl rfl (lb rfl) fun a S => ?_
      refine sSkipU 6 true 28 33 S rfl rfl rfl rfl (lb rfl) fun a S => ?_
      refine sSkipU 6 true 28 34 S rfl rfl rfl rfl (lb rfl) fun a S => ?_
      refine sSkipU 6 true 28 35 S rfl rfl rfl rfl (lb rfl) fun a S => ?_
      refine sSkip 3 false 25 36 S rfl rfl rfl hc34 rfl (lb rfl) fun a S => ?_
      refine sPickT (.bool true) S (wN rfl) rfl rfl hc34 rfl rfl (lb rfl) fun a S => ?_
      exact leafL (leafT (⟨true, Option.some.inj h, S.fix [] [3] (by decide) rfl rfl rfl⟩))
    refine sMove (iv s15) S (wG 3 false 25 rfl rfl rfl hc34) (.inl rfl) rfl rfl (lb rfl) fun a S => ?_
    refine sBin (.bool (decide (0 < s15))) S (wG 3 false 25 rfl rfl rfl hc34) rfl rfl rfl (bGt _ _ _ _ .i64 s15 0) rfl (lb rfl) fun a S => ?_
    refine sMove (.bool (decide (0 < s15))) S (wG 3 false 25 rfl rfl rfl hc34) (.inl rfl) rfl rfl (lb rfl) fun a S => ?_
    rcases iteSome h with ⟨hc35, h⟩ | ⟨hc35, h⟩
    rotate_left
    · refine sSkip 6 true 28 29 S rfl rfl rfl hc35 rfl (lb rfl) fun a S => ?_
      refine sSkip 6 true 28 30 S rfl rfl rfl hc35 rfl (lb rfl) fun a S => ?_
      refine sSkip 6 true 28 31 S rfl rfl rfl hc35 rfl (lb rfl) fun a S => ?_
      refine sSkip 6 true 28 32 S rfl rfl rfl hc35 rfl (lb rfl) fun a S => ?_
      refine sSkip 6 true 28 33 S rfl rfl rfl hc35 rfl (lb rfl) fun a S => ?_
      refine sSkip 6 true 28 34 S rfl rfl rfl hc35 rfl (lb rfl) fun a S => ?_
      refine sSkip 6 true 28 35 S rfl rfl rfl hc35 rfl (lb rfl) fun a S => ?_
      refine sPickF (.bool false) S (wG 3 false 25 rfl rfl rfl hc34) rfl rfl hc35 rfl rfl (lb rfl) fun a S => ?_
      refine sPickF (.bool false) S (wN rfl) rfl rfl hc34 rfl rfl (lb rfl) fun a S => ?_
      exact leafL (leafT (⟨false, Option.some.inj h, S.fix [] [3] (by decide) rfl rfl rfl⟩))
    refine sMove (iv x24) S (wG 6 true 28 rfl rfl rfl hc35) (.inl rfl) rfl rfl (lb rfl) fun a S => ?_
    refine sMove (.slice ad1 p0.length cp2) S (wG 6 true 28 rfl rfl rfl hc35) (.inl rfl) rfl rfl (lb rfl) fun a S => ?_
    refine sMove (iv s15) S (wG 6 true 28 rfl rfl rfl hc35) (.inl rfl) rfl rfl (lb rfl) fun a S => ?_
    refine sBin (iv (w64 (s15 - 1))) S (wG 6 true 28 rfl rfl rfl hc35) rfl rfl rfl (bSub _ _ _ _ s15 1) rfl (lb rfl) fun a S => ?_
    obtain ⟨x36, hx37, h⟩ := bindSome h
    obtain ⟨q38, hq39, S⟩ := pIdx (P := Tryd.prog) (r := (rI .i64)) (v := .slice ad1 p0.length cp2) (xs := p0) (j := w64 (s15 - 1)) 22 3 3 S Tryd.underlying22 rfl rfl hx37
    refine sIdxV (v := .slice ad1 p0.length cp2) (k := .i64) (j := w64 (s15 - 1)) S (wG 6 true 28 rfl rfl rfl hc35) rfl rfl rfl hq39 rfl (lb rfl) fun a S => ?_
    obtain ⟨u40, S⟩ := pLoad (r := (rI .i64)) (q := q38) (x := x36) 0 S rfl
    obtain rfl : u40 = iv x36 := S.mem.know (i := 1) (e := fRep (rI .i64) (u40) x36) rfl
    refine sLoadV1 (vq := q38) 0 (iv x36) S (wG 6 true 28 rfl rfl rfl hc35) rfl rfl rfl rfl rfl (lb rfl) fun a S => ?_
    refine sBin (.bool (decide (x36 < x24))) S (wG 6 true 28 rfl rfl rfl hc35) rfl rfl rfl (bGt _ _ _ _ .i64 x24 x36) rfl (lb rfl) fun a S => ?_
    refine sPickT (.bool (decide (x36 < x24))) S (wG 3 false 25 rfl rfl rfl hc34) rfl rfl hc35 rfl rfl (lb rfl) fun a S => ?_
    refine sPickF (.bool (decide (x36 < x24))) S (wN rfl) rfl rfl hc34 rfl rfl (lb rfl) fun a S => ?_
    exact leafL (leafT (⟨decide (x36 < x24), Option.some.inj h, S.fix [] [6] (by decide) rfl rfl rfl⟩))
  obtain ⟨rfl, S⟩ := hI
  have h := g13
  clear g13
  try dsimp only at h
  refine sSeq (fun K43 hK43 => ?_)
  refine sRegion ?_
  refine sMove (.slice none 0 0) S (wN rfl) (.inr rfl) rfl rfl (lb rfl) fun a S => ?_
  refine leafL (leafT (hK43 _ _ ?_))
  obtain ⟨t47, h, g48⟩ := bindSome h
  refine sCut (fun a w => ∃ o44, o44 = t47 ∧ ∃ ad45, ∃ cp46, St [] E [] w0 62 a w [(6, .slice ad45 o44.length cp46)] [eRow (rI .i64) 3 (.slice ad45 o44.length cp46) o44] []) ?_ (fun a w hI => ?_)
  rotate_left
  · obtain ⟨o44, rfl, ad45, cp46, S⟩ := hI
    have h := g48
    clear g48
    try dsimp only at h
    refine sSeq (fun K96 hK96 => ?_)
    refine sRegion ?_
    refine sMove (.slice ad45 o44.length cp46) S (wN rfl) (.inl rfl) rfl rfl (lb rfl) fun a S => ?_
    refine sMove (.slice ad45 o44.length cp46) S (wN rfl) (.inr rfl) rfl rfl (lb rfl) fun a S => ?_
    refine sMove (iv 0) S (wN rfl) (.inr rfl) rfl rfl (lb rfl) fun a S => ?_
    refine leafL (leafT (hK96 _ _ ?_))
    obtain rfl := Option.some.inj h
    have S := S.shutR (r := (rI .i64)) (T := 3) (v := .slice ad45 o44.length cp46) (xs := o44) 0 rfl
    exact wp_ret (sRet (.tuple #[.slice ad45 o44.length cp46, iv 0]) S (rsl2 rfl (rvT (t := 2) (v := .slice ad45 o44.length cp46) S rfl) (rvT (t := 3) (v := iv 0) S rfl)) ⟨(.slice ad45 o44.length cp46), rfl, S.mem.sel [] [0] (by decide) rfl rfl⟩)
  refine sSeq (fun K49 hK49 => ?_)
  refine sRegion ?_
  refine sMove (.slice ad1 p0.length cp2) S (wN rfl) (.inl rfl) rfl rfl (lb rfl) fun a S => ?_
  obtain ⟨x50, hx51, h⟩ := bindSome h
  obtain ⟨q52, hq53, S⟩ := pIdx (P := Tryd.prog) (r := (rI .i64)) (v := .slice ad1 p0.length cp2) (xs := p0) (j := 0) 22 3 0 S Tryd.underlying22 rfl rfl hx51
  refine sIdxV (v := .slice ad1 p0.length cp2) (k := .i64) (j := 0) S (wN rfl) rfl rfl rfl hq53 rfl (lb rfl) fun a S => ?_
  obtain ⟨u54, S⟩ := pLoad (r := (rI .i64)) (q := q52) (x := x50) 0 S rfl
  obtain rfl : u54 = iv x50 := S.mem.know (i := 1) (e := fRep (rI .i64) (u54) x50) rfl
  refine sLoadV1 (vq := q52) 0 (iv x50) S (wN rfl) rfl rfl rfl rfl rfl (lb rfl) fun a S => ?_
  refine sMove (iv x50) S (wN rfl) (.inr rfl) rfl rfl (lb rfl) fun a S => ?_
  refine leafL (leafT (hK49 _ _ ?_))
  refine wp_block ?_
  have S := S.nilRow (rI .i64) 3 (α := Int)
  obtain ⟨t61, hl, g60⟩ := bindSome h
  refine sLoop hl (fun s0 a w => match s0 with | (s55, s58) => ∃ ad56, ∃ cp57, St [] E [] w0 62 a w [(0, .slice ad1 p0.length cp2), (6, .slice ad56 s55.length cp57), (7, iv s58)] [eRow (rI .i64) 3 (.slice ad56 s55.length cp57) s55] [fRep (rL (rI .i64)) (.slice ad1 p0.length cp2) p0]) ⟨none, 0, S.fix [0] [3] (by decide) rfl rfl rfl⟩ ?_
  clear hl h
  intro s0 a w c0 hI h hu59
  obtain ⟨s55, s58⟩ := s0
  unfold short_Fit_l3 at h
  dsimp only at h hI
  obtain ⟨ad56, cp57, S⟩ := hI
  refine sSeq (fun K65 hK65 => ?_)
  refine sSeq (fun K66 hK66 => ?_)
  refine sRegion ?_
  refine sMove (iv s58) S (wN rfl) (.inl rfl) rfl rfl (lb rfl) fun a S => ?_
  refine sBin (.bool (decide (0 < s58))) S (wN rfl) rfl rfl rfl (bGt _ _ _ _ .i64 s58 0) rfl (lb rfl) fun a S => ?_
  refine leafL (leafT (hK66 _ _ ?_))
  rcases iteSome h with ⟨hc67, h⟩ | ⟨hc67, h⟩
  rotate_left
  · refine sCondF S rfl hc67 ?_
    obtain rfl := Option.some.inj h
    obtain rfl := hu59 _ rfl
    have h := g60
    clear g60
    try dsimp only at h
    exact wp_exit (xThen (xThen (xHit (leafT (⟨s55, Option.some.inj h, ad56, cp57, S.fix [0] [] (by decide) rfl rfl rfl⟩)))))
  refine sCondT S rfl hc67 ?_
  refine wp_skip (leafT (hK65 _ _ ?_))
  obtain ⟨t71, h, g72⟩ := bindSome h
  refine sCut (fun a w => ∃ o68, o68 = t71 ∧ ∃ ad69, ∃ cp70, St [] E [] w0 62 a w [(0, .slice ad1 p0.length cp2), (6, .slice ad69 o68.length cp70), (7, iv s58)] [eRow (rI .i64) 3 (.slice ad69 o68.length cp70) o68] [fRep (rL (rI .i64)) (.slice ad1 p0.length cp2) p0]) ?_ (fun a w hI => ?_)
  rotate_left
  · obtain ⟨o68, rfl, ad69, cp70, S⟩ := hI
    have h := g72
    clear g72
    try dsimp only at h
    refine sRegion ?_
    refine sMove (iv s58) S (wN rfl) (.inl rfl) rfl rfl (lb rfl) fun a S => ?_
    refine sBin (iv (w64 (s58 - 1))) S (wN rfl) rfl rfl rfl (bSub _ _ _ _ s58 1) rfl (lb rfl) fun a S => ?_
    refine sMove (iv (w64 (s58 - 1))) S (wN rfl) (.inr rfl) rfl rfl (lb rfl) fun a S => ?_
    exact leafL (leafT (⟨(o68, w64 (s58 - 1)), (Option.some.inj h).symm, ⟨ad69, cp70, S.fix [0] [0] (by decide) rfl rfl rfl⟩⟩))
  refine wp_block ?_
  refine sSeq (fun K73 hK73 => ?_)
  refine sRegion ?_
  refine sMove (.slice ad1 p0.length cp2) S (wN rfl) (.inl rfl) rfl rfl (lb rfl) fun a S => ?_
  refine sLen (ad := ad1) (m := p0.length) (c := cp2) S (wN rfl) rfl Tryd.underlying22 rfl rfl (lb rfl) fun a S => ?_
  refine sMove (iv (p0.length : Int)) S (wN rfl) (.inr rfl) rfl rfl (lb rfl) fun a S => ?_
  refine leafL (leafT (hK73 _ _ ?_))
  obtain ⟨t75, h, g76⟩ := bindSome h
  refine sCut (fun a w => ∃ o74, o74 = t75 ∧ St [] E [] w0 62 a w [(0, .slice ad1 p0.length cp2), (6, .slice ad56 s55.length cp57), (7, iv s58), (8, iv o74)] [eRow (rI .i64) 3 (.slice ad56 s55.length cp57) s55] [fRep (rL (rI .i64)) (.slice ad1 p0.length cp2) p0]) ?_ (fun a w hI => ?_)
  rotate_left
  · obtain ⟨o74, rfl, S⟩ := hI
    have h := g76
    clear g76
    try dsimp only at h
    refine sRegion ?_
    refine sMove (iv o74) S (wN rfl) (.inl rfl) rfl rfl (lb rfl) fun a S => ?_
    refine sLit (r := (rI .i64)) (T := 3) (xs := ([o74] : List Int)) [(0, iv o74)] 1 [iv o74] [iv o74] (iv 0) 8 S (wN rfl) rfl rfl Tryd.underlying22 rfl (by decide) (by decide) (by kernel_rfl) rfl (fun E1 w1 hE => All.cons rfl (All.nil _ _ _)) rfl rfl (lb rfl) fun a w ad90 cp91 S => ?_
    refine sMove (.slice ad56 s55.length cp57) S (wN rfl) (.inl rfl) rfl rfl (lb rfl) fun a S => ?_
    obtain ⟨l92, hx93, h⟩ := bindSome h
    refine sApp (r := (rI .i64)) (T := 3) (xs := ([o74] : List Int)) (ys := s55) (v := .slice ad90 ([o74] : List Int).length cp91) (u := .slice ad56 s55.length cp57) 0 (iv 0) 8 S (wN rfl) rfl Tryd.underlying22 rfl rfl (by decide) rfl rfl rfl (src_R (T := 3) 1 S.mem rfl) hx93 rfl (lb rfl) fun a w ad94 cp95 S => ?_
    refine sMove (.slice ad94 l92.length cp95) S (wN rfl) (.inr rfl) rfl rfl (lb rfl) fun a S => ?_
    exact leafL (leafB (leafT (⟨l92, Option.some.inj h, ad94, cp95, S.fix [0] [0] (by decide) rfl rfl rfl⟩)))
  refine wp_block ?_
  obtain ⟨t80, hl, g79⟩ := bindSome h
  refine sLoop hl (fun s0 a w => match s0 with | s77 => St [] E [] w0 62 a w [(0, .slice ad1 p0.length cp2), (6, .slice ad56 s55.length cp57), (7, iv s58), (8, iv s77)] [eRow (rI .i64) 3 (.slice ad56 s55.length cp57) s55] [fRep (rL (rI .i64)) (.slice ad1 p0.length cp2) p0]) (S.fix [0] [0] (by decide) rfl rfl rfl) ?_
  clear hl h
  intro s77 a w c0 hI h hu78
  unfold short_Fit_l2 at h
  dsimp only at h hI
  have S := hI
  refine sSeq (fun K82 hK82 => ?_)
  refine sSeq (fun K83 hK83 => ?_)
  refine sRegion ?_
  refine sMove (.slice ad1 p0.length cp2) S (wN rfl) (.inl rfl) rfl rfl (lb rfl) fun a S => ?_
  refine sMove (iv s77) S (wN rfl) (.inl rfl) rfl rfl (lb rfl) fun a S => ?_
  refine sBin (iv (w64 (s77 - 1))) S (wN rfl) rfl rfl rfl (bSub _ _ _ _ s77 1) rfl (lb rfl) fun a S => ?_
  obtain ⟨x84, hx85, h⟩ := bindSome h
  obtain ⟨q86, hq87, S⟩ := pIdx (P := Tryd.prog) (r := (rI .i64)) (v := .slice ad1 p0.length cp2) (xs := p0) (j := w64 (s77 - 1)) 22 3 0 S Tryd.underlying22 rfl rfl hx85
  refine sIdxV (v := .slice ad1 p0.length cp2) (k := .i64) (j := w64 (s77 - 1)) S (wN rfl) rfl rfl rfl hq87 rfl (lb rfl) fun a S => ?_
  obtain ⟨u88, S⟩ := pLoad (r := (rI .i64)) (q := q86) (x := x84) 0 S rfl
  obtain rfl : u88 = iv x84 := S.mem.know (i := 1) (e := fRep (rI .i64) (u88) x84) rfl
  refine sLoadV1 (vq := q86) 0 (iv x84) S (wN rfl) rfl rfl rfl rfl rfl (lb rfl) fun a S => ?_
  refine sMove (iv s58) S (wN rfl) (.inl rfl) rfl rfl (lb rfl) fun a S => ?_
  refine sBin (.bool (decide (x84 < s58))) S (wN rfl) rfl rfl rfl (bLt _ _ _ _ .i64 x84 s58) rfl (lb rfl) fun a S => ?_
  refine leafL (leafT (hK83 _ _ ?_))
  rcases iteSome h with ⟨hc89, h⟩ | ⟨hc89, h⟩
  rotate_left
  · refine sCondF S rfl hc89 ?_
    obtain rfl := Option.some.inj h
    obtain rfl := hu78 _ rfl
    have h := g79
    clear g79
    try dsimp only at h
    exact wp_exit (xThen (xThen (xHit (leafT (⟨s77, Option.some.inj h, S.fix [0] [3] (by decide) rfl rfl rfl⟩)))))
  refine sCondT S rfl hc89 ?_
  refine wp_skip (leafT (hK82 _ _ ?_))
  refine wp_block ?_
  refine sRegion ?_
  refine sMove (iv s77) S (wN rfl) (.inl rfl) rfl rfl (lb rfl) fun a S => ?_
  refine sBin (iv (w64 (s77 - 1))) S (wN rfl) rfl rfl rfl (bSub _ _ _ _ s77 1) rfl (lb rfl) fun a S => ?_
  refine sMove (iv (w64 (s77 - 1))) S (wN rfl) (.inr rfl) rfl rfl (lb rfl) fun a S => ?_
  exact leafL (leafB (leafT (⟨w64 (s77 - 1), (Option.some.inj h).symm, (S.fix [0] [3] (by decide) rfl rfl rfl)⟩)))

end Go.Proofs.YtoiehdlcfehmlaaDoor
namespace Go.Proofs.YtoiehdlcfehmlaaDoor
open Go.RowKit
set_option linter.unusedVariables false

noncomputable def short_check_l1 (p1 : (List Int)) (p0 : Int) : Int → Option (Int ⊕ (Int ⊕ Unit)) := fun s0 => match s0 with
  | s17 =>
    if decide (s17 < (p1.length : Int)) then
      Option.bind (idxO p1 s17) fun x26 =>
      Option.bind (F_short_within x26 1 p0) fun r32 =>
      if !r32 then
        some (.inr (.inl 2))
      else
        some (.inl (w64 (s17 + 1)))
    else
      some (.inr (.inr ()))
noncomputable def F_short_check (p0 : Int) (p1 : (List Int)) : Option Int :=
  Option.bind (F_short_within p0 1 200) fun r6 =>
  if !r6 then
    some 2
  else
    if decide (50 < (p1.length : Int)) then
      some 4
    else
      Option.bind (α := Unit ⊕ Int) (
        Option.bind (whileO (short_check_l1 p1 p0) 0) fun z0 => match z0 with
          | .inl z =>
            some (.inr z)
          | .inr _ =>
            some (.inl ())) fun z0 => match z0 with
        | .inl _ =>
          some 0
        | .inr z =>
          some z
set_option maxHeartbeats 4000000 in
set_option maxRecDepth 100000 in
theorem c_short_check (E : Nat → Prop) (w0 : World) (p0 : Int) (p1 : (List Int)) (v1 : Value) (r : Int) (h : F_short_check p0 p1 = some r) (S : St0 E [] w0 w0 [] [fRep (rL (rI .i64)) (v1) p1]) :
    Calls Tryd.prog 19 #[iv p0, v1] w0 (Ret (X := Unit) E [] w0 (fun _ => .int .i64 r) (fun _ => []) (fun _ => [])) := by
  unfold F_short_check at h
  obtain ⟨ad1, cp2, _, rfl, _⟩ := S.know (i := 0) (e := fRep (rL (rI .i64)) (v1) p1) rfl
  refine sEnter (args := [iv p0, .slice ad1 p1.length cp2]) 24 Tryd.func19 rfl rfl (by simp) S (fun a S => ?_)
  refine sSeq (fun K3 hK3 => ?_)
  refine sRegion ?_
  refine sMove (iv 0) S (wN rfl) (.inr rfl) rfl rfl (lb rfl) fun a S => ?_
  refine leafL (leafT (hK3 _ _ ?_))
  refine sSeq (fun K4 hK4 => ?_)
  refine sSeq (fun K5 hK5 => ?_)
  refine sRegion ?_
  refine sMove (iv p0) S (wN rfl) (.inl rfl) rfl rfl (lb rfl) fun a S => ?_
  obtain ⟨r6, hx7, h⟩ := bindSome h
  have S1 := S.mem
  refine sCallQ (X := Unit) (f := 18) (vs := [iv p0, iv 1, iv 200]) (val := fun _ => .bool r6) S (wN rfl) rfl callee18 rfl (S1.quiet [] rfl) (fun E1 w1 S1 => c_short_within E1 w1 p0 1 200 r6 hx7 S1) rfl (lb rfl) fun _ a w S => ?_
  refine sNot (b := r6) S (wN rfl) rfl rfl rfl (lb rfl) fun a S => ?_
  refine leafL (leafT (hK5 _ _ ?_))
  rcases iteSome h with ⟨hc8, h⟩ | ⟨hc8, h⟩
  · refine sCondT S rfl hc8 ?_
    refine sSeq (fun K9 hK9 => ?_)
    refine sRegion ?_
    refine sMove (iv 2) S (wN rfl) (.inr rfl) rfl rfl (lb rfl) fun a S => ?_
    refine leafL (leafT (hK9 _ _ ?_))
    obtain rfl := Option.some.inj h
    exact wp_ret (rThen (sRet (iv 2) S (rsl1 rfl (rvT (t := 4) (v := iv 2) S rfl)) ⟨(), rfl, S.mem.sel [] [] (by decide) rfl rfl⟩))
  refine sCondF S rfl hc8 ?_
  refine wp_skip (leafT (hK4 _ _ ?_))
  refine sSeq (fun K10 hK10 => ?_)
  refine sSeq (fun K11 hK11 => ?_)
  refine sRegion ?_
  refine sMove (.slice ad1 p1.length cp2) S (wN rfl) (.inl rfl) rfl rfl (lb rfl) fun a S => ?_
  refine sLen (ad := ad1) (m := p1.length) (c := cp2) S (wN rfl) rfl Tryd.underlying22 rfl rfl (lb rfl) fun a S => ?_
  refine sBin (.bool (decide (50 < (p1.length : Int)))) S (wN rfl) rfl rfl rfl (bGt _ _ _ _ .i64 (p1.length : Int) 50) rfl (lb rfl) fun a S => ?_
  refine leafL (leafT (hK11 _ _ ?_))
  rcases iteSome h with ⟨hc12, h⟩ | ⟨hc12, h⟩
  · refine sCondT S rfl hc12 ?_
    refine sSeq (fun K13 hK13 => ?_)
    refine sRegion ?_
    refine sMove (iv 4) S (wN rfl) (.inr rfl) rfl rfl (lb rfl) fun a S => ?_
    refine leafL (leafT (hK13 _ _ ?_))
    obtain rfl := Option.some.inj h
    exact wp_ret (rThen (sRet (iv 4) S (rsl1 rfl (rvT (t := 4) (v := iv 4) S rfl)) ⟨(), rfl, S.mem.sel [] [] (by decide) rfl rfl⟩))
  refine sCondF S rfl hc12 ?_
  refine wp_skip (leafT (hK10 _ _ ?_))
  obtain ⟨t14, h, g15⟩ := bindSome h
  refine sCut (fun a w => .inl () = t14 ∧ St [] E [] w0 24 a w [] [] []) ?_ (fun a w hI => ?_)
  rotate_left
  · obtain ⟨rfl, S⟩ := hI
    have h := g15
    clear g15
    try dsimp only at h
    refine sSeq (fun K36 hK36 => ?_)
    refine sRegion ?_
    refine sMove (iv 0) S (wN rfl) (.inr rfl) rfl rfl (lb rfl) fun a S => ?_
    refine leafL (leafT (hK36 _ _ ?_))
    obtain rfl := Option.some.inj h
    exact wp_ret (sRet (iv 0) S (rsl1 rfl (rvT (t := 4) (v := iv 0) S rfl)) ⟨(), rfl, S.mem.sel [] [] (by decide) rfl rfl⟩)
  refine sSeq (fun K16 hK16 => ?_)
  refine sRegion ?_
  refine sMove (.slice ad1 p1.length cp2) S (wN rfl) (.inl rfl) rfl rfl (lb rfl) fun a S => ?_
  refine sLen (ad := ad1) (m := p1.length) (c := cp2) S (wN rfl) rfl Tryd.underlying22 rfl rfl (lb rfl) fun a S => ?_
  refine sMove (iv 0) S (wN rfl) (.inl rfl) rfl rfl (lb rfl) fun a S => ?_
  refine leafL (leafT (hK16 _ _ ?_))
  refine wp_block ?_
  obtain ⟨t20, hl, g19⟩ := bindSome h
  refine sLoop hl (fun s0 a w => match s0 with | s17 => St [] E [] w0 24 a w [(0, iv p0), (13, .slice ad1 p1.length cp2), (14, iv (p1.length : Int)), (15, iv s17)] [] [fRep (rL (rI .i64)) (.slice ad1 p1.length cp2) p1]) (S.fix [] [0] (by decide) rfl rfl rfl) ?_
  clear hl h
  intro s17 a w c0 hI h hu18
  unfold short_check_l1 at h
  dsimp only at h hI
  have S := hI
  refine sSeq (fun K21 hK21 => ?_)
  refine sRegion ?_
  refine sBin (.bool (decide (s17 < (p1.length : Int)))) S (wN rfl) rfl rfl rfl (bLt _ _ _ _ .i64 s17 (p1.length : Int)) rfl (lb rfl) fun a S => ?_
  refine leafL (leafT (hK21 _ _ ?_))
  refine sSeq (fun K22 hK22 => ?_)
  rcases iteSome h with ⟨hc23, h⟩ | ⟨hc23, h⟩
  rotate_left
  · refine sCondF S rfl hc23 ?_
    obtain rfl := Option.some.inj h
    obtain rfl := hu18 _ rfl
    have h := g19
    clear g19
    try dsimp only at h
    exact wp_exit (xThen (xThen (xHit (leafT (⟨Option.some.inj h, S.fix [] [] (by decide) rfl rfl rfl⟩)))))
  refine sCondT S rfl hc23 ?_
  refine wp_skip (leafT (hK22 _ _ ?_))
  refine sSeq (fun K24 hK24 => ?_)
  refine wp_block ?_
  refine sSeq (fun K25 hK25 => ?_)
  refine sRegion ?_
  obtain ⟨x26, hx27, h⟩ := bindSome h
  obtain ⟨q28, hq29, S⟩ := pIdx (P := Tryd.prog) (r := (rI .i64)) (v := .slice ad1 p1.length cp2) (xs := p1) (j := s17) 22 3 0 S Tryd.underlying22 rfl rfl hx27
  refine sIdxV (v := .slice ad1 p1.length cp2) (k := .i64) (j := s17) S (wN rfl) rfl rfl rfl hq29 rfl (lb rfl) fun a S => ?_
  obtain ⟨u30, S⟩ := pLoad (r := (rI .i64)) (q := q28) (x := x26) 0 S rfl
  obtain rfl : u30 = iv x26 := S.mem.know (i := 1) (e := fRep (rI .i64) (u30) x26) rfl
  refine sLoadV1 (vq := q28) 0 (iv x26) S (wN rfl) rfl rfl rfl rfl rfl (lb rfl) fun a S => ?_
  refine sMove (iv x26) S (wN rfl) (.inr rfl) rfl rfl (lb rfl) fun a S => ?_
  refine leafL (leafT (hK25 _ _ ?_))
  refine sSeq (fun K31 hK31 => ?_)
  refine sRegion ?_
  refine sMove (iv x26) S (wN rfl) (.inl rfl) rfl rfl (lb rfl) fun a S => ?_
  refine sMove (iv p0) S (wN rfl) (.inl rfl) rfl rfl (lb rfl) fun a S => ?_
  obtain ⟨r32, hx33, h⟩ := bindSome h
  have S1 := S.mem
  refine sCallQ (X := Unit) (f := 18) (vs := [iv x26, iv 1, iv p0]) (val := fun _ => .bool r32) S (wN rfl) rfl callee18 rfl (S1.quiet [] rfl) (fun E1 w1 S1 => c_short_within E1 w1 x26 1 p0 r32 hx33 S1) rfl (lb rfl) fun _ a w S => ?_
  refine sNot (b := r32) S (wN rfl) rfl rfl rfl (lb rfl) fun a S => ?_
  refine leafL (leafT (hK31 _ _ ?_))
  rcases iteSome h with ⟨hc34, h⟩ | ⟨hc34, h⟩
  rotate_left
  · refine sCondF S rfl hc34 ?_
    refine wp_skip (leafB (leafT (hK24 _ _ ?_)))
    refine sRegion ?_
    refine sBin (iv (w64 (s17 + 1))) S (wN rfl) rfl rfl rfl (bAdd _ _ _ _ s17 1) rfl (lb rfl) fun a S => ?_
    refine sMove (iv (w64 (s17 + 1))) S (wN rfl) (.inl rfl) rfl rfl (lb rfl) fun a S => ?_
    exact leafL (leafT (⟨w64 (s17 + 1), (Option.some.inj h).symm, (S.fix [] [3] (by decide) rfl rfl rfl)⟩))
  refine sCondT S rfl hc34 ?_
  refine sSeq (fun K35 hK35 => ?_)
  refine sRegion ?_
  refine sMove (iv 2) S (wN rfl) (.inr rfl) rfl rfl (lb rfl) fun a S => ?_
  refine leafL (leafT (hK35 _ _ ?_))
  obtain rfl := Option.some.inj h
  obtain rfl := hu18 _ rfl
  have h := g19
  clear g19
  try dsimp only at h
  obtain rfl := Option.some.inj h
  have h := g15
  clear g15
  try dsimp only at h
  obtain rfl := Option.some.inj h
  exact wp_ret (rBlock (rThen (rThen (rBlock (rThen (sRet (iv 2) S (rsl1 rfl (rvT (t := 4) (v := iv 2) S rfl)) ⟨(), rfl, S.mem.sel [] [] (by decide) rfl rfl⟩))))))

end Go.Proofs.YtoiehdlcfehmlaaDoor
namespace Go.Proofs.YtoiehdlcfehmlaaDoor
open Go.RowKit
set_option linter.unusedVariables false

noncomputable def short_Worked_l1 (p1 : (List Int)) : (Int × Int) → Option ((Int × Int) ⊕ Int) := fun s0 => match s0 with
  | (s16, s17) =>
    if decide (s17 < (p1.length : Int)) then
      Option.bind (idxO p1 s17) fun x27 =>
      some (.inl (w64 (s16 + (w64 (2 * x27))), w64 (s17 + 1)))
    else
      some (.inr s16)
noncomputable def F_short_Worked (p0 : Int) (p1 : (List Int)) : Option (Int × Int) :=
  Option.bind (F_short_check p0 p1) fun r6 =>
  if r6 != 0 then
    some (0, r6)
  else
    Option.bind (α := Int) (
      Option.bind (whileO (short_Worked_l1 p1) (0, 0)) fun e21 =>
        some e21) fun o12 =>
    some (o12, 0)
set_option maxHeartbeats 4000000 in
set_option maxRecDepth 100000 in
theorem c_short_Worked (E : Nat → Prop) (w0 : World) (p0 : Int) (p1 : (List Int)) (v1 : Value) (r : (Int × Int)) (h : F_short_Worked p0 p1 = some r) (S : St0 E [] w0 w0 [] [fRep (rL (rI .i64)) (v1) p1]) :
    Calls Tryd.prog 11 #[iv p0, v1] w0 (Ret (X := Unit) E [] w0 (fun _ => .tuple #[.int .i64 r.1, .int .i64 r.2]) (fun _ => []) (fun _ => [])) := by
  unfold F_short_Worked at h
  obtain ⟨ad1, cp2, _, rfl, _⟩ := S.know (i := 0) (e := fRep (rL (rI .i64)) (v1) p1) rfl
  refine sEnter (args := [iv p0, .slice ad1 p1.length cp2]) 28 Tryd.func11 rfl rfl (by simp) S (fun a S => ?_)
  refine sSeq (fun K3 hK3 => ?_)
  refine sRegion ?_
  refine sMove (iv 0) S (wN rfl) (.inr rfl) rfl rfl (lb rfl) fun a S => ?_
  refine sMove (iv 0) S (wN rfl) (.inr rfl) rfl rfl (lb rfl) fun a S => ?_
  refine leafL (leafT (hK3 _ _ ?_))
  refine sSeq (fun K4 hK4 => ?_)
  refine sSeq (fun K5 hK5 => ?_)
  refine sRegion ?_
  refine sMove (iv p0) S (wN rfl) (.inl rfl) rfl rfl (lb rfl) fun a S => ?_
  refine sMove (.slice ad1 p1.length cp2) S (wN rfl) (.inl rfl) rfl rfl (lb rfl) fun a S => ?_
  obtain ⟨r6, hx7, h⟩ := bindSome h
  have S1 := S.mem
  refine sCallQ (X := Unit) (f := 19) (vs := [iv p0, .slice ad1 p1.length cp2]) (val := fun _ => iv r6) S (wN rfl) rfl callee19 rfl (S1.quiet [0] rfl) (fun E1 w1 S1 => c_short_check E1 w1 p0 p1 (.slice ad1 p1.length cp2) r6 hx7 S1) rfl (lb rfl) fun _ a w S => ?_
  refine sMove (iv r6) S (wN rfl) (.inr rfl) rfl rfl (lb rfl) fun a S => ?_
  refine leafL (leafT (hK5 _ _ ?_))
  refine sSeq (fun K8 hK8 => ?_)
  refine sRegion ?_
  refine sMove (iv r6) S (wN rfl) (.inl rfl) rfl rfl (lb rfl) fun a S => ?_
  refine sBin (.bool (r6 != 0)) S (wN rfl) rfl rfl rfl (bNe _ _ _ _ .i64 r6 0) rfl (lb rfl) fun a S => ?_
  refine leafL (leafT (hK8 _ _ ?_))
  rcases iteSome h with ⟨hc9, h⟩ | ⟨hc9, h⟩
  · refine sCondT S rfl hc9 ?_
    refine sSeq (fun K10 hK10 => ?_)
    refine sRegion ?_
    refine sMove (iv r6) S (wN rfl) (.inl rfl) rfl rfl (lb rfl) fun a S => ?_
    refine sMove (iv 0) S (wN rfl) (.inr rfl) rfl rfl (lb rfl) fun a S => ?_
    refine sMove (iv r6) S (wN rfl) (.inr rfl) rfl rfl (lb rfl) fun a S => ?_
    refine leafL (leafT (hK10 _ _ ?_))
    obtain rfl := Option.some.inj h
    exact wp_ret (rThen (sRet (.tuple #[iv 0, iv r6]) S (rsl2 rfl (rvT (t := 4) (v := iv 0) S rfl) (rvT (t := 5) (v := iv r6) S rfl)) ⟨(), rfl, S.mem.sel [] [] (by decide) rfl rfl⟩))
  refine sCondF S rfl hc9 ?_
  refine wp_skip (leafT (hK4 _ _ ?_))
  refine sSeq (fun K11 hK11 => ?_)
  refine sRegion ?_
  refine sMove (iv 0) S (wN rfl) (.inr rfl) rfl rfl (lb rfl) fun a S => ?_
  refine leafL (leafT (hK11 _ _ ?_))
  obtain ⟨t13, h, g14⟩ := bindSome h
  refine sCut (fun a w => ∃ o12, o12 = t13 ∧ St [] E [] w0 28 a w [(7, iv o12)] [] []) ?_ (fun a w hI => ?_)
  rotate_left
  · obtain ⟨o12, rfl, S⟩ := hI
    have h := g14
    clear g14
    try dsimp only at h
    refine sSeq (fun K32 hK32 => ?_)
    refine sRegion ?_
    refine sMove (iv o12) S (wN rfl) (.inl rfl) rfl rfl (lb rfl) fun a S => ?_
    refine sMove (iv o12) S (wN rfl) (.inr rfl) rfl rfl (lb rfl) fun a S => ?_
    refine sMove (iv 0) S (wN rfl) (.inr rfl) rfl rfl (lb rfl) fun a S => ?_
    refine leafL (leafT (hK32 _ _ ?_))
    obtain rfl := Option.some.inj h
    exact wp_ret (sRet (.tuple #[iv o12, iv 0]) S (rsl2 rfl (rvT (t := 4) (v := iv o12) S rfl) (rvT (t := 5) (v := iv 0) S rfl)) ⟨(), rfl, S.mem.sel [] [] (by decide) rfl rfl⟩)
  refine sSeq (fun K15 hK15 => ?_)
  refine sRegion ?_
  refine sMove (.slice ad1 p1.length cp2) S (wN rfl) (.inl rfl) rfl rfl (lb rfl) fun a S => ?_
  refine sLen (ad := ad1) (m := p1.length) (c := cp2) S (wN rfl) rfl Tryd.underlying22 rfl rfl (lb rfl) fun a S => ?_
  refine sMove (iv 0) S (wN rfl) (.inl rfl) rfl rfl (lb rfl) fun a S => ?_
  refine leafL (leafT (hK15 _ _ ?_))
  refine wp_block ?_
  obtain ⟨t20, hl, g19⟩ := bindSome h
  refine sLoop hl (fun s0 a w => match s0 with | (s16, s17) => St [] E [] w0 28 a w [(7, iv s16), (16, .slice ad1 p1.length cp2), (17, iv (p1.length : Int)), (18, iv s17)] [] [fRep (rL (rI .i64)) (.slice ad1 p1.length cp2) p1]) (S.fix [] [0] (by decide) rfl rfl rfl) ?_
  clear hl h
  intro s0 a w c0 hI h hu18
  obtain ⟨s16, s17⟩ := s0
  unfold short_Worked_l1 at h
  dsimp only at h hI
  have S := hI
  refine sSeq (fun K22 hK22 => ?_)
  refine sRegion ?_
  refine sBin (.bool (decide (s17 < (p1.length : Int)))) S (wN rfl) rfl rfl rfl (bLt _ _ _ _ .i64 s17 (p1.length : Int)) rfl (lb rfl) fun a S => ?_
  refine leafL (leafT (hK22 _ _ ?_))
  refine sSeq (fun K23 hK23 => ?_)
  rcases iteSome h with ⟨hc24, h⟩ | ⟨hc24, h⟩
  rotate_left
  · refine sCondF S rfl hc24 ?_
    obtain rfl := Option.some.inj h
    obtain rfl := hu18 _ rfl
    have h := g19
    clear g19
    try dsimp only at h
    exact wp_exit (xThen (xThen (xHit (leafT (⟨s16, Option.some.inj h, S.fix [] [] (by decide) rfl rfl rfl⟩)))))
  refine sCondT S rfl hc24 ?_
  refine wp_skip (leafT (hK23 _ _ ?_))
  refine sSeq (fun K25 hK25 => ?_)
  refine wp_block ?_
  refine sSeq (fun K26 hK26 => ?_)
  refine sRegion ?_
  obtain ⟨x27, hx28, h⟩ := bindSome h
  obtain ⟨q29, hq30, S⟩ := pIdx (P := Tryd.prog) (r := (rI .i64)) (v := .slice ad1 p1.length cp2) (xs := p1) (j := s17) 22 3 0 S Tryd.underlying22 rfl rfl hx28
  refine sIdxV (v := .slice ad1 p1.length cp2) (k := .i64) (j := s17) S (wN rfl) rfl rfl rfl hq30 rfl (lb rfl) fun a S => ?_
  obtain ⟨u31, S⟩ := pLoad (r := (rI .i64)) (q := q29) (x := x27) 0 S rfl
  obtain rfl : u31 = iv x27 := S.mem.know (i := 1) (e := fRep (rI .i64) (u31) x27) rfl
  refine sLoadV1 (vq := q29) 0 (iv x27) S (wN rfl) rfl rfl rfl rfl rfl (lb rfl) fun a S => ?_
  refine sMove (iv x27) S (wN rfl) (.inr rfl) rfl rfl (lb rfl) fun a S => ?_
  refine leafL (leafT (hK26 _ _ ?_))
  refine sRegion ?_
  refine sMove (iv s16) S (wN rfl) (.inl rfl) rfl rfl (lb rfl) fun a S => ?_
  refine sMove (iv x27) S (wN rfl) (.inl rfl) rfl rfl (lb rfl) fun a S => ?_
  refine sBin (iv (w64 (2 * x27))) S (wN rfl) rfl rfl rfl (bMul _ _ _ _ 2 x27) rfl (lb rfl) fun a S => ?_
  refine sBin (iv (w64 (s16 + (w64 (2 * x27))))) S (wN rfl) rfl rfl rfl (bAdd _ _ _ _ s16 (w64 (2 * x27))) rfl (lb rfl) fun a S => ?_
  refine sMove (iv (w64 (s16 + (w64 (2 * x27))))) S (wN rfl) (.inr rfl) rfl rfl (lb rfl) fun a S => ?_
  refine leafL (leafB (leafT (hK25 _ _ ?_)))
  refine sRegion ?_
  refine sBin (iv (w64 (s17 + 1))) S (wN rfl) rfl rfl rfl (bAdd _ _ _ _ s17 1) rfl (lb rfl) fun a S => ?_
  refine sMove (iv (w64 (s17 + 1))) S (wN rfl) (.inl rfl) rfl rfl (lb rfl) fun a S => ?_
  exact leafL (leafT (⟨(w64 (s16 + (w64 (2 * x27))), w64 (s17 + 1)), (Option.some.inj h).symm, (S.fix [] [3] (by decide) rfl rfl rfl)⟩))

end Go.Proofs.YtoiehdlcfehmlaaDoor
namespace Go.Proofs.YtoiehdlcfehmlaaDoor
open Go.RowKit
set_option linter.unusedVariables false

noncomputable def short_joined_l1 (p0 : (List (List api_Stitch))) : (List api_Stitch × Int) → Option ((List api_Stitch × Int) ⊕ List api_Stitch) := fun s0 => match s0 with
  | (s11, s14) =>
    if decide (s14 < (p0.length : Int)) then
      Option.bind (idxO p0 s14) fun x26 =>
      Option.bind (appO s11 x26) fun l33 =>
      some (.inl (l33, w64 (s14 + 1)))
    else
      some (.inr s11)
noncomputable def F_short_joined (p0 : (List (List api_Stitch))) : Option (List api_Stitch) :=
  Option.bind (α := List api_Stitch) (
    Option.bind (whileO (short_joined_l1 p0) (([] : List api_Stitch), 0)) fun e18 =>
      some e18) fun o5 =>
  some o5
def c_short_joined_val (r : (List api_Stitch)) (x : Value) : Value := x
def c_short_joined_D (r : (List api_Stitch)) (x : Value) : List Fact := [fRep (rL r_api_Stitch) x r]
set_option maxHeartbeats 4000000 in
set_option maxRecDepth 100000 in
theorem c_short_joined (E : Nat → Prop) (w0 : World) (p0 : (List (List api_Stitch))) (v0 : Value) (r : (List api_Stitch)) (h : F_short_joined p0 = some r) (S : St0 E [] w0 w0 [] [fRep (rL (rL r_api_Stitch)) (v0) p0]) :
    Calls Tryd.prog 20 #[v0] w0 (Ret (X := Value) E [] w0 (c_short_joined_val r) (fun _ => []) (c_short_joined_D r)) := by
  unfold F_short_joined at h
  obtain ⟨ad1, cp2, _, rfl, _⟩ := S.know (i := 0) (e := fRep (rL (rL r_api_Stitch)) (v0) p0) rfl
  refine sEnter (args := [.slice ad1 p0.length cp2]) 17 Tryd.func20 rfl rfl (by simp) S (fun a S => ?_)
  refine sSeq (fun K3 hK3 => ?_)
  refine sRegion ?_
  refine sMove (.slice none 0 0) S (wN rfl) (.inr rfl) rfl rfl (lb rfl) fun a S => ?_
  refine leafL (leafT (hK3 _ _ ?_))
  refine sSeq (fun K4 hK4 => ?_)
  refine sRegion ?_
  refine sMove (.slice none 0 0) S (wN rfl) (.inr rfl) rfl rfl (lb rfl) fun a S => ?_
  refine leafL (leafT (hK4 _ _ ?_))
  obtain ⟨t8, h, g9⟩ := bindSome h
  refine sCut (fun a w => ∃ o5, o5 = t8 ∧ ∃ ad6, ∃ cp7, St [] E [] w0 17 a w [(3, .slice ad6 o5.length cp7)] [eRow r_api_Stitch 38 (.slice ad6 o5.length cp7) o5] []) ?_ (fun a w hI => ?_)
  rotate_left
  · obtain ⟨o5, rfl, ad6, cp7, S⟩ := hI
    have h := g9
    clear g9
    try dsimp only at h
    refine sSeq (fun K37 hK37 => ?_)
    refine sRegion ?_
    refine sMove (.slice ad6 o5.length cp7) S (wN rfl) (.inl rfl) rfl rfl (lb rfl) fun a S => ?_
    refine sMove (.slice ad6 o5.length cp7) S (wN rfl) (.inr rfl) rfl rfl (lb rfl) fun a S => ?_
    refine leafL (leafT (hK37 _ _ ?_))
    obtain rfl := Option.some.inj h
    have S := S.shutR (r := r_api_Stitch) (T := 38) (v := .slice ad6 o5.length cp7) (xs := o5) 0 rfl
    exact wp_ret (sRet (.slice ad6 o5.length cp7) S (rsl1 rfl (rvT (t := 2) (v := .slice ad6 o5.length cp7) S rfl)) ⟨(.slice ad6 o5.length cp7), rfl, S.mem.sel [] [0] (by decide) rfl rfl⟩)
  refine sSeq (fun K10 hK10 => ?_)
  refine sRegion ?_
  refine sMove (.slice ad1 p0.length cp2) S (wN rfl) (.inl rfl) rfl rfl (lb rfl) fun a S => ?_
  refine sLen (ad := ad1) (m := p0.length) (c := cp2) S (wN rfl) rfl Tryd.underlying61 rfl rfl (lb rfl) fun a S => ?_
  refine sMove (iv 0) S (wN rfl) (.inl rfl) rfl rfl (lb rfl) fun a S => ?_
  refine leafL (leafT (hK10 _ _ ?_))
  refine wp_block ?_
  have S := S.nilRow r_api_Stitch 38 (α := api_Stitch)
  obtain ⟨t17, hl, g16⟩ := bindSome h
  refine sLoop hl (fun s0 a w => match s0 with | (s11, s14) => ∃ ad12, ∃ cp13, St [] E [] w0 17 a w [(3, .slice ad12 s11.length cp13), (6, .slice ad1 p0.length cp2), (7, iv (p0.length : Int)), (8, iv s14)] [eRow r_api_Stitch 38 (.slice ad12 s11.length cp13) s11] [fRep (rL (rL r_api_Stitch)) (.slice ad1 p0.length cp2) p0]) ⟨none, 0, S.fix [0] [0] (by decide) rfl rfl rfl⟩ ?_
  clear hl h
  intro s0 a w c0 hI h hu15
  obtain ⟨s11, s14⟩ := s0
  unfold short_joined_l1 at h
  dsimp only at h hI
  obtain ⟨ad12, cp13, S⟩ := hI
  refine sSeq (fun K21 hK21 => ?_)
  refine sRegion ?_
  refine sBin (.bool (decide (s14 < (p0.length : Int)))) S (wN rfl) rfl rfl rfl (bLt _ _ _ _ .i64 s14 (p0.length : Int)) rfl (lb rfl) fun a S => ?_
  refine leafL (leafT (hK21 _ _ ?_))
  refine sSeq (fun K22 hK22 => ?_)
  rcases iteSome h with ⟨hc23, h⟩ | ⟨hc23, h⟩
  rotate_left
  · refine sCondF S rfl hc23 ?_
    obtain rfl := Option.some.inj h
    obtain rfl := hu15 _ rfl
    have h := g16
    clear g16
    try dsimp only at h
    exact wp_exit (xThen (xThen (xHit (leafT (⟨s11, Option.some.inj h, ad12, cp13, S.fix [0] [] (by decide) rfl rfl rfl⟩)))))
  refine sCondT S rfl hc23 ?_
  refine wp_skip (leafT (hK22 _ _ ?_))
  refine sSeq (fun K24 hK24 => ?_)
  refine wp_block ?_
  refine sSeq (fun K25 hK25 => ?_)
  refine sRegion ?_
  obtain ⟨x26, hx27, h⟩ := bindSome h
  obtain ⟨q28, hq29, S⟩ := pIdx (P := Tryd.prog) (r := (rL r_api_Stitch)) (v := .slice ad1 p0.length cp2) (xs := p0) (j := s14) 61 39 0 S Tryd.underlying61 rfl rfl hx27
  refine sIdxV (v := .slice ad1 p0.length cp2) (k := .i64) (j := s14) S (wN rfl) rfl rfl rfl hq29 rfl (lb rfl) fun a S => ?_
  obtain ⟨u30, S⟩ := pLoad (r := (rL r_api_Stitch)) (q := q28) (x := x26) 0 S rfl
  obtain ⟨ad31, cp32, _, rfl, _⟩ := S.mem.know (i := 1) (e := fRep (rL r_api_Stitch) (u30) x26) rfl
  refine sLoadV1 (vq := q28) 0 (.slice ad31 x26.length cp32) S (wN rfl) rfl rfl rfl rfl rfl (lb rfl) fun a S => ?_
  refine sMove (.slice ad31 x26.length cp32) S (wN rfl) (.inr rfl) rfl rfl (lb rfl) fun a S => ?_
  refine leafL (leafT (hK25 _ _ ?_))
  refine sRegion ?_
  refine sMove (.slice ad12 s11.length cp13) S (wN rfl) (.inl rfl) rfl rfl (lb rfl) fun a S => ?_
  refine sMove (.slice ad31 x26.length cp32) S (wN rfl) (.inl rfl) rfl rfl (lb rfl) fun a S => ?_
  obtain ⟨l33, hx34, h⟩ := bindSome h
  refine sApp (r := r_api_Stitch) (T := 38) (xs := s11) (ys := x26) (v := .slice ad12 s11.length cp13) (u := .slice ad31 x26.length cp32) 0 (.agg #[.int .u8 0, .bool false, iv 0, iv 0]) 24 S (wN rfl) rfl Tryd.underlying39 rfl rfl (by decide) rfl rfl rfl (src_D 1 S.mem rfl) hx34 rfl (lb rfl) fun a w ad35 cp36 S => ?_
  refine sMove (.slice ad35 l33.length cp36) S (wN rfl) (.inr rfl) rfl rfl (lb rfl) fun a S => ?_
  refine leafL (leafB (leafT (hK24 _ _ ?_)))
  refine sRegion ?_
  refine sBin (iv (w64 (s14 + 1))) S (wN rfl) rfl rfl rfl (bAdd _ _ _ _ s14 1) rfl (lb rfl) fun a S => ?_
  refine sMove (iv (w64 (s14 + 1))) S (wN rfl) (.inl rfl) rfl rfl (lb rfl) fun a S => ?_
  exact leafL (leafT (⟨(l33, w64 (s14 + 1)), (Option.some.inj h).symm, ⟨ad35, cp36, S.fix [0] [3] (by decide) rfl rfl rfl⟩⟩))

end Go.Proofs.YtoiehdlcfehmlaaDoor
namespace Go.Proofs.YtoiehdlcfehmlaaDoor
open Go.RowKit
set_option linter.unusedVariables false

noncomputable def short_several_l1 (p1 : Int) (p0 : Int) : (List api_Stitch × Int) → Option ((List api_Stitch × Int) ⊕ List api_Stitch) := fun s0 => match s0 with
  | (s13, s16) =>
    if decide (s16 < p1) then
      Option.bind (appO s13 [(api_Stitch.mk p0 false 0 0)]) fun l29 =>
      some (.inl (l29, w64 (s16 + 1)))
    else
      some (.inr s13)
noncomputable def F_short_several (p0 : Int) (p1 : Int) : Option (List api_Stitch) :=
  Option.bind (capO p1) fun z5 =>
  Option.bind (α := List api_Stitch) (
    Option.bind (whileO (short_several_l1 p1 p0) (([] : List api_Stitch), 0)) fun e20 =>
      some e20) fun o7 =>
  some o7
def c_short_several_val (r : (List api_Stitch)) (x : Value) : Value := x
def c_short_several_D (r : (List api_Stitch)) (x : Value) : List Fact := [fRep (rL r_api_Stitch) x r]
set_option maxHeartbeats 4000000 in
set_option maxRecDepth 100000 in
theorem c_short_several (E : Nat → Prop) (w0 : World) (p0 : Int) (p1 : Int) (r : (List api_Stitch)) (h : F_short_several p0 p1 = some r) (S : St0 E [] w0 w0 [] []) :
    Calls Tryd.prog 21 #[.int .u8 p0, iv p1] w0 (Ret (X := Value) E [] w0 (c_short_several_val r) (fun _ => []) (c_short_several_D r)) := by
  unfold F_short_several at h
  refine sEnter (args := [.int .u8 p0, iv p1]) 18 Tryd.func21 rfl rfl (by simp) S (fun a S => ?_)
  refine sSeq (fun K1 hK1 => ?_)
  refine sRegion ?_
  refine sMove (.slice none 0 0) S (wN rfl) (.inr rfl) rfl rfl (lb rfl) fun a S => ?_
  refine leafL (leafT (hK1 _ _ ?_))
  refine sSeq (fun K2 hK2 => ?_)
  refine sRegion ?_
  refine sMove (iv p1) S (wN rfl) (.inl rfl) rfl rfl (lb rfl) fun a S => ?_
  obtain ⟨z5, hx6, h⟩ := bindSome h
  refine sMake0 r_api_Stitch (m := p1) (u := z5) (.agg #[.int .u8 0, .bool false, iv 0, iv 0]) 24 S (wN rfl) rfl Tryd.underlying39 rfl (by decide) rfl rfl hx6 rfl (lb rfl) fun a w ad3 cp4 S => ?_
  refine sMove (.slice ad3 ([] : List api_Stitch).length cp4) S (wN rfl) (.inr rfl) rfl rfl (lb rfl) fun a S => ?_
  refine leafL (leafT (hK2 _ _ ?_))
  obtain ⟨t10, h, g11⟩ := bindSome h
  refine sCut (fun a w => ∃ o7, o7 = t10 ∧ ∃ ad8, ∃ cp9, St [] E [] w0 18 a w [(5, .slice ad8 o7.length cp9)] [eRow r_api_Stitch 38 (.slice ad8 o7.length cp9) o7] []) ?_ (fun a w hI => ?_)
  rotate_left
  · obtain ⟨o7, rfl, ad8, cp9, S⟩ := hI
    have h := g11
    clear g11
    try dsimp only at h
    refine sSeq (fun K33 hK33 => ?_)
    refine sRegion ?_
    refine sMove (.slice ad8 o7.length cp9) S (wN rfl) (.inl rfl) rfl rfl (lb rfl) fun a S => ?_
    refine sMove (.slice ad8 o7.length cp9) S (wN rfl) (.inr rfl) rfl rfl (lb rfl) fun a S => ?_
    refine leafL (leafT (hK33 _ _ ?_))
    obtain rfl := Option.some.inj h
    have S := S.shutR (r := r_api_Stitch) (T := 38) (v := .slice ad8 o7.length cp9) (xs := o7) 0 rfl
    exact wp_ret (sRet (.slice ad8 o7.length cp9) S (rsl1 rfl (rvT (t := 4) (v := .slice ad8 o7.length cp9) S rfl)) ⟨(.slice ad8 o7.length cp9), rfl, S.mem.sel [] [0] (by decide) rfl rfl⟩)
  refine sSeq (fun K12 hK12 => ?_)
  refine sRegion ?_
  refine sMove (iv p1) S (wN rfl) (.inl rfl) rfl rfl (lb rfl) fun a S => ?_
  refine sMove (iv 0) S (wN rfl) (.inl rfl) rfl rfl (lb rfl) fun a S => ?_
  refine leafL (leafT (hK12 _ _ ?_))
  refine wp_block ?_
  obtain ⟨t19, hl, g18⟩ := bindSome h
  refine sLoop hl (fun s0 a w => match s0 with | (s13, s16) => ∃ ad14, ∃ cp15, St [] E [] w0 18 a w [(0, .int .u8 p0), (5, .slice ad14 s13.length cp15), (8, iv p1), (9, iv s16)] [eRow r_api_Stitch 38 (.slice ad14 s13.length cp15) s13] []) ⟨ad3, cp4, S.fix [0] [] (by decide) rfl rfl rfl⟩ ?_
  clear hl h
  intro s0 a w c0 hI h hu17
  obtain ⟨s13, s16⟩ := s0
  unfold short_several_l1 at h
  dsimp only at h hI
  obtain ⟨ad14, cp15, S⟩ := hI
  refine sSeq (fun K23 hK23 => ?_)
  refine sRegion ?_
  refine sBin (.bool (decide (s16 < p1))) S (wN rfl) rfl rfl rfl (bLt _ _ _ _ .i64 s16 p1) rfl (lb rfl) fun a S => ?_
  refine leafL (leafT (hK23 _ _ ?_))
  refine sSeq (fun K24 hK24 => ?_)
  rcases iteSome h with ⟨hc25, h⟩ | ⟨hc25, h⟩
  rotate_left
  · refine sCondF S rfl hc25 ?_
    obtain rfl := Option.some.inj h
    obtain rfl := hu17 _ rfl
    have h := g18
    clear g18
    try dsimp only at h
    exact wp_exit (xThen (xThen (xHit (leafT (⟨s13, Option.some.inj h, ad14, cp15, S.fix [0] [] (by decide) rfl rfl rfl⟩)))))
  refine sCondT S rfl hc25 ?_
  refine wp_skip (leafT (hK24 _ _ ?_))
  refine sSeq (fun K26 hK26 => ?_)
  refine wp_block ?_
  refine sRegion ?_
  refine sMove (.slice ad14 s13.length cp15) S (wN rfl) (.inl rfl) rfl rfl (lb rfl) fun a S => ?_
  refine sMove (.int .u8 p0) S (wN rfl) (.inl rfl) rfl rfl (lb rfl) fun a S => ?_
  refine sBuild [(0, .int .u8 p0)] [.int .u8 p0, .bool false, iv 0, iv 0] S (wN rfl) rfl rfl rfl rfl (lb rfl) fun a S => ?_
  have S := S.learn (fRep r_api_Stitch (.agg #[.int .u8 p0, .bool false, iv 0, iv 0]) (api_Stitch.mk p0 false 0 0)) rfl
  refine sLit (r := r_api_Stitch) (T := 38) (xs := [(api_Stitch.mk p0 false 0 0)]) [(0, .agg #[.int .u8 p0, .bool false, iv 0, iv 0])] 1 [.agg #[.int .u8 p0, .bool false, iv 0, iv 0]] [.int .u8 p0, .bool false, iv 0, iv 0] (.agg #[.int .u8 0, .bool false, iv 0, iv 0]) 24 S (wN rfl) rfl rfl Tryd.underlying39 rfl (by decide) (by decide) (by kernel_rfl) rfl (fun E1 w1 hE => All.cons (r_api_Stitch.mono hE (S.mem.know (i := 0) (e := fRep r_api_Stitch (.agg #[.int .u8 p0, .bool false, iv 0, iv 0]) (api_Stitch.mk p0 false 0 0)) rfl)) (All.nil _ _ _)) rfl rfl (lb rfl) fun a w ad27 cp28 S => ?_
  obtain ⟨l29, hx30, h⟩ := bindSome h
  refine sApp (r := r_api_Stitch) (T := 38) (xs := s13) (ys := [(api_Stitch.mk p0 false 0 0)]) (v := .slice ad14 s13.length cp15) (u := .slice ad27 [(api_Stitch.mk p0 false 0 0)].length cp28) 1 (.agg #[.int .u8 0, .bool false, iv 0, iv 0]) 24 S (wN rfl) rfl Tryd.underlying39 rfl rfl (by decide) rfl rfl rfl (src_R (T := 38) 0 S.mem rfl) hx30 rfl (lb rfl) fun a w ad31 cp32 S => ?_
  refine sMove (.slice ad31 l29.length cp32) S (wN rfl) (.inr rfl) rfl rfl (lb rfl) fun a S => ?_
  refine leafL (leafB (leafT (hK26 _ _ ?_)))
  refine sRegion ?_
  refine sBin (iv (w64 (s16 + 1))) S (wN rfl) rfl rfl rfl (bAdd _ _ _ _ s16 1) rfl (lb rfl) fun a S => ?_
  refine sMove (iv (w64 (s16 + 1))) S (wN rfl) (.inl rfl) rfl rfl (lb rfl) fun a S => ?_
  exact leafL (leafT (⟨(l29, w64 (s16 + 1)), (Option.some.inj h).symm, ⟨ad31, cp32, S.fix [0] [] (by decide) rfl rfl rfl⟩⟩))

end Go.Proofs.YtoiehdlcfehmlaaDoor
namespace Go.Proofs.YtoiehdlcfehmlaaDoor
open Go.RowKit
set_option linter.unusedVariables false

noncomputable def F_stitch_forms (p0 : Int) : Option (stitch_form × Bool) :=
  Option.bind (α := Bool) (
    if decide (p0 < 1) then
      some true
    else
      some (decide (([(stitch_form.mk (⟨#[]⟩ : ByteArray) (0, 0) (0, 0) true 1 1), (stitch_form.mk (⟨#[]⟩ : ByteArray) (0, 0) (0, 0) false 0 1), (stitch_form.mk (⟨#[102]⟩ : ByteArray) (2, 4) (0, 0) true 2 1), (stitch_form.mk (⟨#[108]⟩ : ByteArray) (2, 4) (0, 0) true 2 1), (stitch_form.mk (⟨#[109]⟩ : ByteArray) (2, 4) (0, 0) true 1 2), (stitch_form.mk (⟨#[120]⟩ : ByteArray) (1, 6) (1, 6) true 3 3), (stitch_form.mk (⟨#[121]⟩ : ByteArray) (1, 6) (1, 6) true 3 3), (stitch_form.mk (⟨#[115]⟩ : ByteArray) (0, 0) (0, 0) true 1 1), (stitch_form.mk (⟨#[]⟩ : ByteArray) (1, 200) (0, 0) false 0 2), (stitch_form.mk (⟨#[111]⟩ : ByteArray) (1, 200) (0, 0) true 2 0)].length : Int) < (IntKind.i64.wrap p0)))) fun o12 =>
  if o12 then
    some ((stitch_form.mk (⟨#[]⟩ : ByteArray) (0, 0) (0, 0) false 0 0), false)
  else
    Option.bind (idxO [(stitch_form.mk (⟨#[]⟩ : ByteArray) (0, 0) (0, 0) true 1 1), (stitch_form.mk (⟨#[]⟩ : ByteArray) (0, 0) (0, 0) false 0 1), (stitch_form.mk (⟨#[102]⟩ : ByteArray) (2, 4) (0, 0) true 2 1), (stitch_form.mk (⟨#[108]⟩ : ByteArray) (2, 4) (0, 0) true 2 1), (stitch_form.mk (⟨#[109]⟩ : ByteArray) (2, 4) (0, 0) true 1 2), (stitch_form.mk (⟨#[120]⟩ : ByteArray) (1, 6) (1, 6) true 3 3), (stitch_form.mk (⟨#[121]⟩ : ByteArray) (1, 6) (1, 6) true 3 3), (stitch_form.mk (⟨#[115]⟩ : ByteArray) (0, 0) (0, 0) true 1 1), (stitch_form.mk (⟨#[]⟩ : ByteArray) (1, 200) (0, 0) false 0 2), (stitch_form.mk (⟨#[111]⟩ : ByteArray) (1, 200) (0, 0) true 2 0)] (IntKind.u8.wrap (p0 - 1))) fun x19 =>
    some (x19, true)
def c_stitch_forms_val (r : (stitch_form × Bool)) (x : Value) : Value := .tuple #[x, .bool r.2]
def c_stitch_forms_D (r : (stitch_form × Bool)) (x : Value) : List Fact := [fRep r_stitch_form x r.1]
set_option maxHeartbeats 4000000 in
set_option maxRecDepth 100000 in
theorem c_stitch_forms (E : Nat → Prop) (w0 : World) (p0 : Int) (r : (stitch_form × Bool)) (h : F_stitch_forms p0 = some r) (S : St0 E [] w0 w0 [] []) :
    Calls Tryd.prog 28 #[.int .u8 p0] w0 (Ret (X := Value) E [] w0 (c_stitch_forms_val r) (fun _ => []) (c_stitch_forms_D r)) := by
  unfold F_stitch_forms at h
  refine sEnter (args := [.int .u8 p0]) 57 Tryd.func28 rfl rfl (by simp) S (fun a S => ?_)
  refine sSeq (fun K1 hK1 => ?_)
  refine sRegion ?_
  refine sAlloc (gv_stitch_form (stitch_form.mk (⟨#[]⟩ : ByteArray) (0, 0) (0, 0) false 0 0)) S (wN rfl) rfl rfl (gl_stitch_form (stitch_form.mk (⟨#[]⟩ : ByteArray) (0, 0) (0, 0) false 0 0)) rfl rfl (lb rfl) fun a b2 w S => ?_
  refine sMove (.bool false) S (wN rfl) (.inr rfl) rfl rfl (lb rfl) fun a S => ?_
  refine leafL (leafT (hK1 _ _ ?_))
  refine sSeq (fun K3 hK3 => ?_)
  refine sRegion ?_
  refine sBuild [(0, iv 2), (1, iv 4)] [iv 2, iv 4] S (wN rfl) rfl rfl rfl rfl (lb rfl) fun a S => ?_
  refine sBuild [(0, iv 1), (1, iv 6)] [iv 1, iv 6] S (wN rfl) rfl rfl rfl rfl (lb rfl) fun a S => ?_
  refine sAlloc (.agg #[iv 0, iv 0]) S (wN rfl) rfl rfl [iv 0, iv 0] rfl rfl (lb rfl) fun a b4 w S => ?_
  refine sAlloc (.agg #[iv 0, iv 0]) S (wN rfl) rfl rfl [iv 0, iv 0] rfl rfl (lb rfl) fun a b5 w S => ?_
  refine sStore (p := b4) (off := 0) (T := 65) (vs := [iv 0, iv 0]) (v := .agg #[iv 2, iv 4]) 1 [iv 2, iv 4] S (wN rfl) rfl rfl rfl rfl rfl rfl rfl (by simp) rfl fun a w S => ?_
  refine sStore (p := b5) (off := 0) (T := 65) (vs := [iv 0, iv 0]) (v := .agg #[iv 1, iv 6]) 1 [iv 1, iv 6] S (wN rfl) rfl rfl rfl rfl rfl rfl rfl (by simp) rfl fun a w S => ?_
  refine leafL (leafT (hK3 _ _ ?_))
  refine sSeq (fun K6 hK6 => ?_)
  refine sRegion ?_
  refine sBuild [(0, iv 1), (1, iv 200)] [iv 1, iv 200] S (wN rfl) rfl rfl rfl rfl (lb rfl) fun a S => ?_
  refine sAlloc (.agg #[iv 0, iv 0]) S (wN rfl) rfl rfl [iv 0, iv 0] rfl rfl (lb rfl) fun a b7 w S => ?_
  refine sStore (p := b7) (off := 0) (T := 65) (vs := [iv 0, iv 0]) (v := .agg #[iv 1, iv 200]) 0 [iv 1, iv 200] S (wN rfl) rfl rfl rfl rfl rfl rfl rfl (by simp) rfl fun a w S => ?_
  refine leafL (leafT (hK6 _ _ ?_))
  refine sSeq (fun K8 hK8 => ?_)
  refine sRegion ?_
  refine sBuild [] [iv 0, iv 0] S (wN rfl) rfl rfl rfl rfl (lb rfl) fun a S => ?_
  refine sBuild [] [iv 0, iv 0] S (wN rfl) rfl rfl rfl rfl (lb rfl) fun a S => ?_
  refine sBuild [(0, .string (⟨#[]⟩ : ByteArray)), (1, .agg #[iv 0, iv 0]), (2, .agg #[iv 0, iv 0]), (3, .bool true), (4, iv 1), (5, iv 1)] (gl_stitch_form (stitch_form.mk (⟨#[]⟩ : ByteArray) (0, 0) (0, 0) true 1 1)) S (wN rfl) rfl rfl rfl rfl (lb rfl) fun a S => ?_
  refine sBuild [] [iv 0, iv 0] S (wN rfl) rfl rfl rfl rfl (lb rfl) fun a S => ?_
  refine sBuild [] [iv 0, iv 0] S (wN rfl) rfl rfl rfl rfl (lb rfl) fun a S => ?_
  refine sBuild [(0, .string (⟨#[]⟩ : ByteArray)), (1, .agg #[iv 0, iv 0]), (2, .agg #[iv 0, iv 0]), (3, .bool false), (4, iv 0), (5, iv 1)] (gl_stitch_form (stitch_form.mk (⟨#[]⟩ : ByteArray) (0, 0) (0, 0) false 0 1)) S (wN rfl) rfl rfl rfl rfl (lb rfl) fun a S => ?_
  refine sLoadN (p := b4) (off := 0) (T := 65) (vs := [iv 2, iv 4]) 2 [iv 2, iv 4] S (wN rfl) rfl rfl rfl rfl rfl rfl rfl (lb rfl) fun a S => ?_
  refine sBuild [] [iv 0, iv 0] S (wN rfl) rfl rfl rfl rfl (lb rfl) fun a S => ?_
  refine sBuild [(0, .string (⟨#[102]⟩ : ByteArray)), (1, .agg #[iv 2, iv 4]), (2, .agg #[iv 0, iv 0]), (3, .bool true), (4, iv 2), (5, iv 1)] (gl_stitch_form (stitch_form.mk (⟨#[102]⟩ : ByteArray) (2, 4) (0, 0) true 2 1)) S (wN rfl) rfl rfl rfl rfl (lb rfl) fun a S => ?_
  refine sLoadN (p := b4) (off := 0) (T := 65) (vs := [iv 2, iv 4]) 2 [iv 2, iv 4] S (wN rfl) rfl rfl rfl rfl rfl rfl rfl (lb rfl) fun a S => ?_
  refine sBuild [] [iv 0, iv 0] S (wN rfl) rfl rfl rfl rfl (lb rfl) fun a S => ?_
  refine sBuild [(0, .string (⟨#[108]⟩ : ByteArray)), (1, .agg #[iv 2, iv 4]), (2, .agg #[iv 0, iv 0]), (3, .bool true), (4, iv 2), (5, iv 1)] (gl_stitch_form (stitch_form.mk (⟨#[108]⟩ : ByteArray) (2, 4) (0, 0) true 2 1)) S (wN rfl) rfl rfl rfl rfl (lb rfl) fun a S => ?_
  refine sLoadN (p := b4) (off := 0) (T := 65) (vs := [iv 2, iv 4]) 2 [iv 2, iv 4] S (wN rfl) rfl rfl rfl rfl rfl rfl rfl (lb rfl) fun a S => ?_
  refine sBuild [] [iv 0, iv 0] S (wN rfl) rfl rfl rfl rfl (lb rfl) fun a S => ?_
  refine sBuild [(0, .string (⟨#[109]⟩ : ByteArray)), (1, .agg #[iv 2, iv 4]), (2, .agg #[iv 0, iv 0]), (3, .bool true), (4, iv 1), (5, iv 2)] (gl_stitch_form (stitch_form.mk (⟨#[109]⟩ : ByteArray) (2, 4) (0, 0) true 1 2)) S (wN rfl) rfl rfl rfl rfl (lb rfl) fun a S => ?_
  refine sLoadN (p := b5) (off := 0) (T := 65) (vs := [iv 1, iv 6]) 1 [iv 1, iv 6] S (wN rfl) rfl rfl rfl rfl rfl rfl rfl (lb rfl) fun a S => ?_
  refine sLoadN (p := b5) (off := 0) (T := 65) (vs := [iv 1, iv 6]) 1 [iv 1, iv 6] S (wN rfl) rfl rfl rfl rfl rfl rfl rfl (lb rfl) fun a S => ?_
  refine sBuild [(0, .string (⟨#[120]⟩ : ByteArray)), (1, .agg #[iv 1, iv 6]), (2, .agg #[iv 1, iv 6]), (3, .bool true), (4, iv 3), (5, iv 3)] (gl_stitch_form (stitch_form.mk (⟨#[120]⟩ : ByteArray) (1, 6) (1, 6) true 3 3)) S (wN rfl) rfl rfl rfl rfl (lb rfl) fun a S => ?_
  refine sLoadN (p := b5) (off := 0) (T := 65) (vs := [iv 1, iv 6]) 1 [iv 1, iv 6] S (wN rfl) rfl rfl rfl rfl rfl rfl rfl (lb rfl) fun a S => ?_
  refine sLoadN (p := b5) (off := 0) (T := 65) (vs := [iv 1, iv 6]) 1 [iv 1, iv 6] S (wN rfl) rfl rfl rfl rfl rfl rfl rfl (lb rfl) fun a S => ?_
  refine sBuild [(0, .string (⟨#[121]⟩ : ByteArray)), (1, .agg #[iv 1, iv 6]), (2, .agg #[iv 1, iv 6]), (3, .bool true), (4, iv 3), (5, iv 3)] (gl_stitch_form (stitch_form.mk (⟨#[121]⟩ : ByteArray) (1, 6) (1, 6) true 3 3)) S (wN rfl) rfl rfl rfl rfl (lb rfl) fun a S => ?_
  refine sBuild [] [iv 0, iv 0] S (wN rfl) rfl rfl rfl rfl (lb rfl) fun a S => ?_
  refine sBuild [] [iv 0, iv 0] S (wN rfl) rfl rfl rfl rfl (lb rfl) fun a S => ?_
  refine sBuild [(0, .string (⟨#[115]⟩ : ByteArray)), (1, .agg #[iv 0, iv 0]), (2, .agg #[iv 0, iv 0]), (3, .bool true), (4, iv 1), (5, iv 1)] (gl_stitch_form (stitch_form.mk (⟨#[115]⟩ : ByteArray) (0, 0) (0, 0) true 1 1)) S (wN rfl) rfl rfl rfl rfl (lb rfl) fun a S => ?_
  refine sLoadN (p := b7) (off := 0) (T := 65) (vs := [iv 1, iv 200]) 0 [iv 1, iv 200] S (wN rfl) rfl rfl rfl rfl rfl rfl rfl (lb rfl) fun a S => ?_
  refine sBuild [] [iv 0, iv 0] S (wN rfl) rfl rfl rfl rfl (lb rfl) fun a S => ?_
  refine sBuild [(0, .string (⟨#[]⟩ : ByteArray)), (1, .agg #[iv 1, iv 200]), (2, .agg #[iv 0, iv 0]), (3, .bool false), (4, iv 0), (5, iv 2)] (gl_stitch_form (stitch_form.mk (⟨#[]⟩ : ByteArray) (1, 200) (0, 0) false 0 2)) S (wN rfl) rfl rfl rfl rfl (lb rfl) fun a S => ?_
  refine sLoadN (p := b7) (off := 0) (T := 65) (vs := [iv 1, iv 200]) 0 [iv 1, iv 200] S (wN rfl) rfl rfl rfl rfl rfl rfl rfl (lb rfl) fun a S => ?_
  refine sBuild [] [iv 0, iv 0] S (wN rfl) rfl rfl rfl rfl (lb rfl) fun a S => ?_
  refine sBuild [(0, .string (⟨#[111]⟩ : ByteArray)), (1, .agg #[iv 1, iv 200]), (2, .agg #[iv 0, iv 0]), (3, .bool true), (4, iv 2), (5, iv 0)] (gl_stitch_form (stitch_form.mk (⟨#[111]⟩ : ByteArray) (1, 200) (0, 0) true 2 0)) S (wN rfl) rfl rfl rfl rfl (lb rfl) fun a S => ?_
  have S := S.learn (fRep r_stitch_form (gv_stitch_form (stitch_form.mk (⟨#[]⟩ : ByteArray) (0, 0) (0, 0) true 1 1)) (stitch_form.mk (⟨#[]⟩ : ByteArray) (0, 0) (0, 0) true 1 1)) rfl
  have S := S.learn (fRep r_stitch_form (gv_stitch_form (stitch_form.mk (⟨#[]⟩ : ByteArray) (0, 0) (0, 0) false 0 1)) (stitch_form.mk (⟨#[]⟩ : ByteArray) (0, 0) (0, 0) false 0 1)) rfl
  have S := S.learn (fRep r_stitch_form (gv_stitch_form (stitch_form.mk (⟨#[102]⟩ : ByteArray) (2, 4) (0, 0) true 2 1)) (stitch_form.mk (⟨#[102]⟩ : ByteArray) (2, 4) (0, 0) true 2 1)) rfl
  have S := S.learn (fRep r_stitch_form (gv_stitch_form (stitch_form.mk (⟨#[108]⟩ : ByteArray) (2, 4) (0, 0) true 2 1)) (stitch_form.mk (⟨#[108]⟩ : ByteArray) (2, 4) (0, 0) true 2 1)) rfl
  have S := S.learn (fRep r_stitch_form (gv_stitch_form (stitch_form.mk (⟨#[109]⟩ : ByteArray) (2, 4) (0, 0) true 1 2)) (stitch_form.mk (⟨#[109]⟩ : ByteArray) (2, 4) (0, 0) true 1 2)) rfl
  have S := S.learn (fRep r_stitch_form (gv_stitch_form (stitch_form.mk (⟨#[120]⟩ : ByteArray) (1, 6) (1, 6) true 3 3)) (stitch_form.mk (⟨#[120]⟩ : ByteArray) (1, 6) (1, 6) true 3 3)) rfl
  have S := S.learn (fRep r_stitch_form (gv_stitch_form (stitch_form.mk (⟨#[121]⟩ : ByteArray) (1, 6) (1, 6) true 3 3)) (stitch_form.mk (⟨#[121]⟩ : ByteArray) (1, 6) (1, 6) true 3 3)) rfl
  have S := S.learn (fRep r_stitch_form (gv_stitch_form (stitch_form.mk (⟨#[115]⟩ : ByteArray) (0, 0) (0, 0) true 1 1)) (stitch_form.mk (⟨#[115]⟩ : ByteArray) (0, 0) (0, 0) true 1 1)) rfl
  have S := S.learn (fRep r_stitch_form (gv_stitch_form (stitch_form.mk (⟨#[]⟩ : ByteArray) (1, 200) (0, 0) false 0 2)) (stitch_form.mk (⟨#[]⟩ : ByteArray) (1, 200) (0, 0) false 0 2)) rfl
  have S := S.learn (fRep r_stitch_form (gv_stitch_form (stitch_form.mk (⟨#[111]⟩ : ByteArray) (1, 200) (0, 0) true 2 0)) (stitch_form.mk (⟨#[111]⟩ : ByteArray) (1, 200) (0, 0) true 2 0)) rfl
  refine sLit (r := r_stitch_form) (T := 67) (xs := [(stitch_form.mk (⟨#[]⟩ : ByteArray) (0, 0) (0, 0) true 1 1), (stitch_form.mk (⟨#[]⟩ : ByteArray) (0, 0) (0, 0) false 0 1), (stitch_form.mk (⟨#[102]⟩ : ByteArray) (2, 4) (0, 0) true 2 1), (stitch_form.mk (⟨#[108]⟩ : ByteArray) (2, 4) (0, 0) true 2 1), (stitch_form.mk (⟨#[109]⟩ : ByteArray) (2, 4) (0, 0) true 1 2), (stitch_form.mk (⟨#[120]⟩ : ByteArray) (1, 6) (1, 6) true 3 3), (stitch_form.mk (⟨#[121]⟩ : ByteArray) (1, 6) (1, 6) true 3 3), (stitch_form.mk (⟨#[115]⟩ : ByteArray) (0, 0) (0, 0) true 1 1), (stitch_form.mk (⟨#[]⟩ : ByteArray) (1, 200) (0, 0) false 0 2), (stitch_form.mk (⟨#[111]⟩ : ByteArray) (1, 200) (0, 0) true 2 0)]) [(0, gv_stitch_form (stitch_form.mk (⟨#[]⟩ : ByteArray) (0, 0) (0, 0) true 1 1)), (1, gv_stitch_form (stitch_form.mk (⟨#[]⟩ : ByteArray) (0, 0) (0, 0) false 0 1)), (2, gv_stitch_form (stitch_form.mk (⟨#[102]⟩ : ByteArray) (2, 4) (0, 0) true 2 1)), (3, gv_stitch_form (stitch_form.mk (⟨#[108]⟩ : ByteArray) (2, 4) (0, 0) true 2 1)), (4, gv_stitch_form (stitch_form.mk (⟨#[109]⟩ : ByteArray) (2, 4) (0, 0) true 1 2)), (5, gv_stitch_form (stitch_form.mk (⟨#[120]⟩ : ByteArray) (1, 6) (1, 6) true 3 3)), (6, gv_stitch_form (stitch_form.mk (⟨#[121]⟩ : ByteArray) (1, 6) (1, 6) true 3 3)), (7, gv_stitch_form (stitch_form.mk (⟨#[115]⟩ : ByteArray) (0, 0) (0, 0) true 1 1)), (8, gv_stitch_form (stitch_form.mk (⟨#[]⟩ : ByteArray) (1, 200) (0, 0) false 0 2)), (9, gv_stitch_form (stitch_form.mk (⟨#[111]⟩ : ByteArray) (1, 200) (0, 0) true 2 0))] 10 [gv_stitch_form (stitch_form.mk (⟨#[]⟩ : ByteArray) (0, 0) (0, 0) true 1 1), gv_stitch_form (stitch_form.mk (⟨#[]⟩ : ByteArray) (0, 0) (0, 0) false 0 1), gv_stitch_form (stitch_form.mk (⟨#[102]⟩ : ByteArray) (2, 4) (0, 0) true 2 1), gv_stitch_form (stitch_form.mk (⟨#[108]⟩ : ByteArray) (2, 4) (0, 0) true 2 1), gv_stitch_form (stitch_form.mk (⟨#[109]⟩ : ByteArray) (2, 4) (0, 0) true 1 2), gv_stitch_form (stitch_form.mk (⟨#[120]⟩ : ByteArray) (1, 6) (1, 6) true 3 3), gv_stitch_form (stitch_form.mk (⟨#[121]⟩ : ByteArray) (1, 6) (1, 6) true 3 3), gv_stitch_form (stitch_form.mk (⟨#[115]⟩ : ByteArray) (0, 0) (0, 0) true 1 1), gv_stitch_form (stitch_form.mk (⟨#[]⟩ : ByteArray) (1, 200) (0, 0) false 0 2), gv_stitch_form (stitch_form.mk (⟨#[111]⟩ : ByteArray) (1, 200) (0, 0) true 2 0)] [.string (⟨#[]⟩ : ByteArray), iv 0, iv 0, iv 0, iv 0, .bool true, iv 1, iv 1, .string (⟨#[]⟩ : ByteArray), iv 0, iv 0, iv 0, iv 0, .bool false, iv 0, iv 1, .string (⟨#[102]⟩ : ByteArray), iv 2, iv 4, iv 0, iv 0, .bool true, iv 2, iv 1, .string (⟨#[108]⟩ : ByteArray), iv 2, iv 4, iv 0, iv 0, .bool true, iv 2, iv 1, .string (⟨#[109]⟩ : ByteArray), iv 2, iv 4, iv 0, iv 0, .bool true, iv 1, iv 2, .string (⟨#[120]⟩ : ByteArray), iv 1, iv 6, iv 1, iv 6, .bool true, iv 3, iv 3, .string (⟨#[121]⟩ : ByteArray), iv 1, iv 6, iv 1, iv 6, .bool true, iv 3, iv 3, .string (⟨#[115]⟩ : ByteArray), iv 0, iv 0, iv 0, iv 0, .bool true, iv 1, iv 1, .string (⟨#[]⟩ : ByteArray), iv 1, iv 200, iv 0, iv 0, .bool false, iv 0, iv 2, .string (⟨#[111]⟩ : ByteArray), iv 1, iv 200, iv 0, iv 0, .bool true, iv 2, iv 0] (gv_stitch_form (stitch_form.mk (⟨#[]⟩ : ByteArray) (0, 0) (0, 0) false 0 0)) 72 S (wN rfl) rfl rfl Tryd.underlying76 rfl (by decide) (by decide) (by kernel_rfl) rfl (fun E1 w1 hE => All.cons (r_stitch_form.mono hE (S.mem.know (i := 9) (e := fRep r_stitch_form (gv_stitch_form (stitch_form.mk (⟨#[]⟩ : ByteArray) (0, 0) (0, 0) true 1 1)) (stitch_form.mk (⟨#[]⟩ : ByteArray) (0, 0) (0, 0) true 1 1)) rfl)) (All.cons (r_stitch_form.mono hE (S.mem.know (i := 8) (e := fRep r_stitch_form (gv_stitch_form (stitch_form.mk (⟨#[]⟩ : ByteArray) (0, 0) (0, 0) false 0 1)) (stitch_form.mk (⟨#[]⟩ : ByteArray) (0, 0) (0, 0) false 0 1)) rfl)) (All.cons (r_stitch_form.mono hE (S.mem.know (i := 7) (e := fRep r_stitch_form (gv_stitch_form (stitch_form.mk (⟨#[102]⟩ : ByteArray) (2, 4) (0, 0) true 2 1)) (stitch_form.mk (⟨#[102]⟩ : ByteArray) (2, 4) (0, 0) true 2 1)) rfl)) (All.cons (r_stitch_form.mono hE (S.mem.know (i := 6) (e := fRep r_stitch_form (gv_stitch_form (stitch_form.mk (⟨#[108]⟩ : ByteArray) (2, 4) (0, 0) true 2 1)) (stitch_form.mk (⟨#[108]⟩ : ByteArray) (2, 4) (0, 0) true 2 1)) rfl)) (All.cons (r_stitch_form.mono hE (S.mem.know (i := 5) (e := fRep r_stitch_form (gv_stitch_form (stitch_form.mk (⟨#[109]⟩ : ByteArray) (2, 4) (0, 0) true 1 2)) (stitch_form.mk (⟨#[109]⟩ : ByteArray) (2, 4) (0, 0) true 1 2)) rfl)) (All.cons (r_stitch_form.mono hE (S.mem.know (i := 4) (e := fRep r_stitch_form (gv_stitch_form (stitch_form.mk (⟨#[120]⟩ : ByteArray) (1, 6) (1, 6) true 3 3)) (stitch_form.mk (⟨#[120]⟩ : ByteArray) (1, 6) (1, 6) true 3 3)) rfl)) (All.cons (r_stitch_form.mono hE (S.mem.know (i := 3) (e := fRep r_stitch_form (gv_stitch_form (stitch_form.mk (⟨#[121]⟩ : ByteArray) (1, 6) (1, 6) true 3 3)) (stitch_form.mk (⟨#[121]⟩ : ByteArray) (1, 6) (1, 6) true 3 3)) rfl)) (All.cons (r_stitch_form.mono hE (S.mem.know (i := 2) (e := fRep r_stitch_form (gv_stitch_form (stitch_form.mk (⟨#[115]⟩ : ByteArray) (0, 0) (0, 0) true 1 1)) (stitch_form.mk (⟨#[115]⟩ : ByteArray) (0, 0) (0, 0) true 1 1)) rfl)) (All.cons (r_stitch_form.mono hE (S.mem.know (i := 1) (e := fRep r_stitch_form (gv_stitch_form (stitch_form.mk (⟨#[]⟩ : ByteArray) (1, 200) (0, 0) false 0 2)) (stitch_form.mk (⟨#[]⟩ : ByteArray) (1, 200) (0, 0) false 0 2)) rfl)) (All.cons (r_stitch_form.mono hE (S.mem.know (i := 0) (e := fRep r_stitch_form (gv_stitch_form (stitch_form.mk (⟨#[111]⟩ : ByteArray) (1, 200) (0, 0) true 2 0)) (stitch_form.mk (⟨#[111]⟩ : ByteArray) (1, 200) (0, 0) true 2 0)) rfl)) (All.nil _ _ _))))))))))) rfl rfl (lb rfl) fun a w ad9 cp10 S => ?_
  refine sMove (.slice ad9 [(stitch_form.mk (⟨#[]⟩ : ByteArray) (0, 0) (0, 0) true 1 1), (stitch_form.mk (⟨#[]⟩ : ByteArray) (0, 0) (0, 0) false 0 1), (stitch_form.mk (⟨#[102]⟩ : ByteArray) (2, 4) (0, 0) true 2 1), (stitch_form.mk (⟨#[108]⟩ : ByteArray) (2, 4) (0, 0) true 2 1), (stitch_form.mk (⟨#[109]⟩ : ByteArray) (2, 4) (0, 0) true 1 2), (stitch_form.mk (⟨#[120]⟩ : ByteArray) (1, 6) (1, 6) true 3 3), (stitch_form.mk (⟨#[121]⟩ : ByteArray) (1, 6) (1, 6) true 3 3), (stitch_form.mk (⟨#[115]⟩ : ByteArray) (0, 0) (0, 0) true 1 1), (stitch_form.mk (⟨#[]⟩ : ByteArray) (1, 200) (0, 0) false 0 2), (stitch_form.mk (⟨#[111]⟩ : ByteArray) (1, 200) (0, 0) true 2 0)].length cp10) S (wN rfl) (.inr rfl) rfl rfl (lb rfl) fun a S => ?_
  refine leafL (leafT (hK8 _ _ ?_))
  refine sSeq (fun K11 hK11 => ?_)
  obtain ⟨t13, h, g14⟩ := bindSome h
  refine sCut (fun a w => ∃ o12, o12 = t13 ∧ St [] E [] w0 57 a w [(0, .int .u8 p0), (2, .pointer (some ⟨b2, 0, none⟩)), (7, .slice ad9 [(stitch_form.mk (⟨#[]⟩ : ByteArray) (0, 0) (0, 0) true 1 1), (stitch_form.mk (⟨#[]⟩ : ByteArray) (0, 0) (0, 0) false 0 1), (stitch_form.mk (⟨#[102]⟩ : ByteArray) (2, 4) (0, 0) true 2 1), (stitch_form.mk (⟨#[108]⟩ : ByteArray) (2, 4) (0, 0) true 2 1), (stitch_form.mk (⟨#[109]⟩ : ByteArray) (2, 4) (0, 0) true 1 2), (stitch_form.mk (⟨#[120]⟩ : ByteArray) (1, 6) (1, 6) true 3 3), (stitch_form.mk (⟨#[121]⟩ : ByteArray) (1, 6) (1, 6) true 3 3), (stitch_form.mk (⟨#[115]⟩ : ByteArray) (0, 0) (0, 0) true 1 1), (stitch_form.mk (⟨#[]⟩ : ByteArray) (1, 200) (0, 0) false 0 2), (stitch_form.mk (⟨#[111]⟩ : ByteArray) (1, 200) (0, 0) true 2 0)].length cp10), (50, .bool o12)] [eBox b2 67 (gl_stitch_form (stitch_form.mk (⟨#[]⟩ : ByteArray) (0, 0) (0, 0) false 0 0)), eRow r_stitch_form 67 (.slice ad9 [(stitch_form.mk (⟨#[]⟩ : ByteArray) (0, 0) (0, 0) true 1 1), (stitch_form.mk (⟨#[]⟩ : ByteArray) (0, 0) (0, 0) false 0 1), (stitch_form.mk (⟨#[102]⟩ : ByteArray) (2, 4) (0, 0) true 2 1), (stitch_form.mk (⟨#[108]⟩ : ByteArray) (2, 4) (0, 0) true 2 1), (stitch_form.mk (⟨#[109]⟩ : ByteArray) (2, 4) (0, 0) true 1 2), (stitch_form.mk (⟨#[120]⟩ : ByteArray) (1, 6) (1, 6) true 3 3), (stitch_form.mk (⟨#[121]⟩ : ByteArray) (1, 6) (1, 6) true 3 3), (stitch_form.mk (⟨#[115]⟩ : ByteArray) (0, 0) (0, 0) true 1 1), (stitch_form.mk (⟨#[]⟩ : ByteArray) (1, 200) (0, 0) false 0 2), (stitch_form.mk (⟨#[111]⟩ : ByteArray) (1, 200) (0, 0) true 2 0)].length cp10) [(stitch_form.mk (⟨#[]⟩ : ByteArray) (0, 0) (0, 0) true 1 1), (stitch_form.mk (⟨#[]⟩ : ByteArray) (0, 0) (0, 0) false 0 1), (stitch_form.mk (⟨#[102]⟩ : ByteArray) (2, 4) (0, 0) true 2 1), (stitch_form.mk (⟨#[108]⟩ : ByteArray) (2, 4) (0, 0) true 2 1), (stitch_form.mk (⟨#[109]⟩ : ByteArray) (2, 4) (0, 0) true 1 2), (stitch_form.mk (⟨#[120]⟩ : ByteArray) (1, 6) (1, 6) true 3 3), (stitch_form.mk (⟨#[121]⟩ : ByteArray) (1, 6) (1, 6) true 3 3), (stitch_form.mk (⟨#[115]⟩ : ByteArray) (0, 0) (0, 0) true 1 1), (stitch_form.mk (⟨#[]⟩ : ByteArray) (1, 200) (0, 0) false 0 2), (stitch_form.mk (⟨#[111]⟩ : ByteArray) (1, 200) (0, 0) true 2 0)]] []) ?_ (fun a w hI => ?_)
  · refine sRegion ?_
    refine sMove (.int .u8 p0) S (wN rfl) (.inl rfl) rfl rfl (lb rfl) fun a S => ?_
    refine sBin (.bool (decide (p0 < 1))) S (wN rfl) rfl rfl rfl (bLt _ _ _ _ .u8 p0 1) rfl (lb rfl) fun a S => ?_
    refine sMove (.bool (decide (p0 < 1))) S (wN rfl) (.inl rfl) rfl rfl (lb rfl) fun a S => ?_
    rcases iteSome h with ⟨hc15, h⟩ | ⟨hc15, h⟩
    · refine sSkip 2 false 44 45 S rfl rfl rfl hc15 rfl (lb rfl) fun a S => ?_
      refine sSkip 2 false 44 46 S rfl rfl rfl hc15 rfl (lb rfl) fun a S => ?_
      refine sSkip 2 false 44 47 S rfl rfl rfl hc15 rfl (lb rfl) fun a S => ?_
      refine sSkip 2 false 44 48 S rfl rfl rfl hc15 rfl (lb rfl) fun a S => ?_
      refine sSkip 2 false 44 49 S rfl rfl rfl hc15 rfl (lb rfl) fun a S => ?_
      refine sPickT (.bool true) S (wN rfl) rfl rfl hc15 rfl rfl (lb rfl) fun a S => ?_
      exact leafL (leafT (⟨true, Option.some.inj h, S.fix [4, 0] [] (by decide) rfl rfl rfl⟩))
    refine sMove (.int .u8 p0) S (wG 2 false 44 rfl rfl rfl hc15) (.inl rfl) rfl rfl (lb rfl) fun a S => ?_
    refine sConv (k := .u8) (k2 := .i64) (b := p0) S (wG 2 false 44 rfl rfl rfl hc15) rfl Tryd.underlying5 Tryd.underlying3 rfl rfl (lb rfl) fun a S => ?_
    refine sMove (.slice ad9 [(stitch_form.mk (⟨#[]⟩ : ByteArray) (0, 0) (0, 0) true 1 1), (stitch_form.mk (⟨#[]⟩ : ByteArray) (0, 0) (0, 0) false 0 1), (stitch_form.mk (⟨#[102]⟩ : ByteArray) (2, 4) (0, 0) true 2 1), (stitch_form.mk (⟨#[108]⟩ : ByteArray) (2, 4) (0, 0) true 2 1), (stitch_form.mk (⟨#[109]⟩ : ByteArray) (2, 4) (0, 0) true 1 2), (stitch_form.mk (⟨#[120]⟩ : ByteArray) (1, 6) (1, 6) true 3 3), (stitch_form.mk (⟨#[121]⟩ : ByteArray) (1, 6) (1, 6) true 3 3), (stitch_form.mk (⟨#[115]⟩ : ByteArray) (0, 0) (0, 0) true 1 1), (stitch_form.mk (⟨#[]⟩ : ByteArray) (1, 200) (0, 0) false 0 2), (stitch_form.mk (⟨#[111]⟩ : ByteArray) (1, 200) (0, 0) true 2 0)].length cp10) S (wG 2 false 44 rfl rfl rfl hc15) (.inl rfl) rfl rfl (lb rfl) fun a S => ?_
    refine sLen (ad := ad9) (m := [(stitch_form.mk (⟨#[]⟩ : ByteArray) (0, 0) (0, 0) true 1 1), (stitch_form.mk (⟨#[]⟩ : ByteArray) (0, 0) (0, 0) false 0 1), (stitch_form.mk (⟨#[102]⟩ : ByteArray) (2, 4) (0, 0) true 2 1), (stitch_form.mk (⟨#[108]⟩ : ByteArray) (2, 4) (0, 0) true 2 1), (stitch_form.mk (⟨#[109]⟩ : ByteArray) (2, 4) (0, 0) true 1 2), (stitch_form.mk (⟨#[120]⟩ : ByteArray) (1, 6) (1, 6) true 3 3), (stitch_form.mk (⟨#[121]⟩ : ByteArray) (1, 6) (1, 6) true 3 3), (stitch_form.mk (⟨#[115]⟩ : ByteArray) (0, 0) (0, 0) true 1 1), (stitch_form.mk (⟨#[]⟩ : ByteArray) (1, 200) (0, 0) false 0 2), (stitch_form.mk (⟨#[111]⟩ : ByteArray) (1, 200) (0, 0) true 2 0)].length) (c := cp10) S (wG 2 false 44 rfl rfl rfl hc15) rfl Tryd.underlying76 rfl rfl (lb rfl) fun a S => ?_
    refine sBin (.bool (decide (([(stitch_form.mk (⟨#[]⟩ : ByteArray) (0, 0) (0, 0) true 1 1), (stitch_form.mk (⟨#[]⟩ : ByteArray) (0, 0) (0, 0) false 0 1), (stitch_form.mk (⟨#[102]⟩ : ByteArray) (2, 4) (0, 0) true 2 1), (stitch_form.mk (⟨#[108]⟩ : ByteArray) (2, 4) (0, 0) true 2 1), (stitch_form.mk (⟨#[109]⟩ : ByteArray) (2, 4) (0, 0) true 1 2), (stitch_form.mk (⟨#[120]⟩ : ByteArray) (1, 6) (1, 6) true 3 3), (stitch_form.mk (⟨#[121]⟩ : ByteArray) (1, 6) (1, 6) true 3 3), (stitch_form.mk (⟨#[115]⟩ : ByteArray) (0, 0) (0, 0) true 1 1), (stitch_form.mk (⟨#[]⟩ : ByteArray) (1, 200) (0, 0) false 0 2), (stitch_form.mk (⟨#[111]⟩ : ByteArray) (1, 200) (0, 0) true 2 0)].length : Int) < (IntKind.i64.wrap p0)))) S (wG 2 false 44 rfl rfl rfl hc15) rfl rfl rfl (bGt _ _ _ _ .i64 (IntKind.i64.wrap p0) ([(stitch_form.mk (⟨#[]⟩ : ByteArray) (0, 0) (0, 0) true 1 1), (stitch_form.mk (⟨#[]⟩ : ByteArray) (0, 0) (0, 0) false 0 1), (stitch_form.mk (⟨#[102]⟩ : ByteArray) (2, 4) (0, 0) true 2 1), (stitch_form.mk (⟨#[108]⟩ : ByteArray) (2, 4) (0, 0) true 2 1), (stitch_form.mk (⟨#[109]⟩ : ByteArray) (2, 4) (0, 0) true 1 2), (stitch_form.mk (⟨#[120]⟩ : ByteArray) (1, 6) (1, 6) true 3 3), (stitch_form.mk (⟨#[121]⟩ : ByteArray) (1, 6) (1, 6) true 3 3), (stitch_form.mk (⟨#[115]⟩ : ByteArray) (0, 0) (0, 0) true 1 1), (stitch_form.mk (⟨#[]⟩ : ByteArray) (1, 200) (0, 0) false 0 2), (stitch_form.mk (⟨#[111]⟩ : ByteArray) (1, 200) (0, 0) true 2 0)].length : Int)) rfl (lb rfl) fun a S => ?_
    refine sPickF (.bool (decide (([(stitch_form.mk (⟨#[]⟩ : ByteArray) (0, 0) (0, 0) true 1 1), (stitch_form.mk (⟨#[]⟩ : ByteArray) (0, 0) (0, 0) false 0 1), (stitch_form.mk (⟨#[102]⟩ : ByteArray) (2, 4) (0, 0) true 2 1), (stitch_form.mk (⟨#[108]⟩ : ByteArray) (2, 4) (0, 0) true 2 1), (stitch_form.mk (⟨#[109]⟩ : ByteArray) (2, 4) (0, 0) true 1 2), (stitch_form.mk (⟨#[120]⟩ : ByteArray) (1, 6) (1, 6) true 3 3), (stitch_form.mk (⟨#[121]⟩ : ByteArray) (1, 6) (1, 6) true 3 3), (stitch_form.mk (⟨#[115]⟩ : ByteArray) (0, 0) (0, 0) true 1 1), (stitch_form.mk (⟨#[]⟩ : ByteArray) (1, 200) (0, 0) false 0 2), (stitch_form.mk (⟨#[111]⟩ : ByteArray) (1, 200) (0, 0) true 2 0)].length : Int) < (IntKind.i64.wrap p0)))) S (wN rfl) rfl rfl hc15 rfl rfl (lb rfl) fun a S => ?_
    exact leafL (leafT (⟨decide (([(stitch_form.mk (⟨#[]⟩ : ByteArray) (0, 0) (0, 0) true 1 1), (stitch_form.mk (⟨#[]⟩ : ByteArray) (0, 0) (0, 0) false 0 1), (stitch_form.mk (⟨#[102]⟩ : ByteArray) (2, 4) (0, 0) true 2 1), (stitch_form.mk (⟨#[108]⟩ : ByteArray) (2, 4) (0, 0) true 2 1), (stitch_form.mk (⟨#[109]⟩ : ByteArray) (2, 4) (0, 0) true 1 2), (stitch_form.mk (⟨#[120]⟩ : ByteArray) (1, 6) (1, 6) true 3 3), (stitch_form.mk (⟨#[121]⟩ : ByteArray) (1, 6) (1, 6) true 3 3), (stitch_form.mk (⟨#[115]⟩ : ByteArray) (0, 0) (0, 0) true 1 1), (stitch_form.mk (⟨#[]⟩ : ByteArray) (1, 200) (0, 0) false 0 2), (stitch_form.mk (⟨#[111]⟩ : ByteArray) (1, 200) (0, 0) true 2 0)].length : Int) < (IntKind.i64.wrap p0)), Option.some.inj h, S.fix [4, 0] [] (by decide) rfl rfl rfl⟩))
  obtain ⟨o12, rfl, S⟩ := hI
  have h := g14
  clear g14
  try dsimp only at h
  rcases iteSome h with ⟨hc16, h⟩ | ⟨hc16, h⟩
  · refine sCondT S rfl hc16 ?_
    refine sSeq (fun K17 hK17 => ?_)
    refine sRegion ?_
    refine sBuild [] (gl_stitch_form (stitch_form.mk (⟨#[]⟩ : ByteArray) (0, 0) (0, 0) false 0 0)) S (wN rfl) rfl rfl rfl rfl (lb rfl) fun a S => ?_
    refine sStore (p := b2) (off := 0) (T := 67) (vs := [.string (⟨#[]⟩ : ByteArray), iv 0, iv 0, iv 0, iv 0, .bool false, iv 0, iv 0]) (v := gv_stitch_form (stitch_form.mk (⟨#[]⟩ : ByteArray) (0, 0) (0, 0) false 0 0)) 0 [.string (⟨#[]⟩ : ByteArray), iv 0, iv 0, iv 0, iv 0, .bool false, iv 0, iv 0] S (wN rfl) rfl rfl rfl rfl rfl rfl rfl (by simp) rfl fun a w S => ?_
    refine sMove (.bool false) S (wN rfl) (.inr rfl) rfl rfl (lb rfl) fun a S => ?_
    refine leafL (leafT (hK17 _ _ ?_))
    obtain rfl := Option.some.inj h
    have S := S.learn (fRep r_stitch_form (gv_stitch_form (stitch_form.mk (⟨#[]⟩ : ByteArray) (0, 0) (0, 0) false 0 0)) (stitch_form.mk (⟨#[]⟩ : ByteArray) (0, 0) (0, 0) false 0 0)) rfl
    exact wp_ret (rThen (sRet (.tuple #[gv_stitch_form (stitch_form.mk (⟨#[]⟩ : ByteArray) (0, 0) (0, 0) false 0 0), .bool false]) S (rsl2 rfl (rvN (c := 2) (t := 67) (T := 67) (p := b2) 0 [.string (⟨#[]⟩ : ByteArray), iv 0, iv 0, iv 0, iv 0, .bool false, iv 0, iv 0] S rfl rfl rfl rfl) (rvT (t := 3) (v := .bool false) S rfl)) ⟨(gv_stitch_form (stitch_form.mk (⟨#[]⟩ : ByteArray) (0, 0) (0, 0) false 0 0)), rfl, S.mem.sel [] [0] (by decide) rfl rfl⟩))
  refine sCondF S rfl hc16 ?_
  refine wp_skip (leafT (hK11 _ _ ?_))
  refine sSeq (fun K18 hK18 => ?_)
  refine sRegion ?_
  refine sMove (.slice ad9 [(stitch_form.mk (⟨#[]⟩ : ByteArray) (0, 0) (0, 0) true 1 1), (stitch_form.mk (⟨#[]⟩ : ByteArray) (0, 0) (0, 0) false 0 1), (stitch_form.mk (⟨#[102]⟩ : ByteArray) (2, 4) (0, 0) true 2 1), (stitch_form.mk (⟨#[108]⟩ : ByteArray) (2, 4) (0, 0) true 2 1), (stitch_form.mk (⟨#[109]⟩ : ByteArray) (2, 4) (0, 0) true 1 2), (stitch_form.mk (⟨#[120]⟩ : ByteArray) (1, 6) (1, 6) true 3 3), (stitch_form.mk (⟨#[121]⟩ : ByteArray) (1, 6) (1, 6) true 3 3), (stitch_form.mk (⟨#[115]⟩ : ByteArray) (0, 0) (0, 0) true 1 1), (stitch_form.mk (⟨#[]⟩ : ByteArray) (1, 200) (0, 0) false 0 2), (stitch_form.mk (⟨#[111]⟩ : ByteArray) (1, 200) (0, 0) true 2 0)].length cp10) S (wN rfl) (.inl rfl) rfl rfl (lb rfl) fun a S => ?_
  refine sMove (.int .u8 p0) S (wN rfl) (.inl rfl) rfl rfl (lb rfl) fun a S => ?_
  refine sBin (.int .u8 (IntKind.u8.wrap (p0 - 1))) S (wN rfl) rfl rfl rfl (bSubK _ _ _ _ .u8 p0 1) rfl (lb rfl) fun a S => ?_
  obtain ⟨x19, hx20, h⟩ := bindSome h
  have S := S.shutR (r := r_stitch_form) (T := 67) (v := .slice ad9 [(stitch_form.mk (⟨#[]⟩ : ByteArray) (0, 0) (0, 0) true 1 1), (stitch_form.mk (⟨#[]⟩ : ByteArray) (0, 0) (0, 0) false 0 1), (stitch_form.mk (⟨#[102]⟩ : ByteArray) (2, 4) (0, 0) true 2 1), (stitch_form.mk (⟨#[108]⟩ : ByteArray) (2, 4) (0, 0) true 2 1), (stitch_form.mk (⟨#[109]⟩ : ByteArray) (2, 4) (0, 0) true 1 2), (stitch_form.mk (⟨#[120]⟩ : ByteArray) (1, 6) (1, 6) true 3 3), (stitch_form.mk (⟨#[121]⟩ : ByteArray) (1, 6) (1, 6) true 3 3), (stitch_form.mk (⟨#[115]⟩ : ByteArray) (0, 0) (0, 0) true 1 1), (stitch_form.mk (⟨#[]⟩ : ByteArray) (1, 200) (0, 0) false 0 2), (stitch_form.mk (⟨#[111]⟩ : ByteArray) (1, 200) (0, 0) true 2 0)].length cp10) (xs := [(stitch_form.mk (⟨#[]⟩ : ByteArray) (0, 0) (0, 0) true 1 1), (stitch_form.mk (⟨#[]⟩ : ByteArray) (0, 0) (0, 0) false 0 1), (stitch_form.mk (⟨#[102]⟩ : ByteArray) (2, 4) (0, 0) true 2 1), (stitch_form.mk (⟨#[108]⟩ : ByteArray) (2, 4) (0, 0) true 2 1), (stitch_form.mk (⟨#[109]⟩ : ByteArray) (2, 4) (0, 0) true 1 2), (stitch_form.mk (⟨#[120]⟩ : ByteArray) (1, 6) (1, 6) true 3 3), (stitch_form.mk (⟨#[121]⟩ : ByteArray) (1, 6) (1, 6) true 3 3), (stitch_form.mk (⟨#[115]⟩ : ByteArray) (0, 0) (0, 0) true 1 1), (stitch_form.mk (⟨#[]⟩ : ByteArray) (1, 200) (0, 0) false 0 2), (stitch_form.mk (⟨#[111]⟩ : ByteArray) (1, 200) (0, 0) true 2 0)]) 1 rfl
  obtain ⟨q21, hq22, S⟩ := pIdx (P := Tryd.prog) (r := r_stitch_form) (v := .slice ad9 [(stitch_form.mk (⟨#[]⟩ : ByteArray) (0, 0) (0, 0) true 1 1), (stitch_form.mk (⟨#[]⟩ : ByteArray) (0, 0) (0, 0) false 0 1), (stitch_form.mk (⟨#[102]⟩ : ByteArray) (2, 4) (0, 0) true 2 1), (stitch_form.mk (⟨#[108]⟩ : ByteArray) (2, 4) (0, 0) true 2 1), (stitch_form.mk (⟨#[109]⟩ : ByteArray) (2, 4) (0, 0) true 1 2), (stitch_form.mk (⟨#[120]⟩ : ByteArray) (1, 6) (1, 6) true 3 3), (stitch_form.mk (⟨#[121]⟩ : ByteArray) (1, 6) (1, 6) true 3 3), (stitch_form.mk (⟨#[115]⟩ : ByteArray) (0, 0) (0, 0) true 1 1), (stitch_form.mk (⟨#[]⟩ : ByteArray) (1, 200) (0, 0) false 0 2), (stitch_form.mk (⟨#[111]⟩ : ByteArray) (1, 200) (0, 0) true 2 0)].length cp10) (xs := [(stitch_form.mk (⟨#[]⟩ : ByteArray) (0, 0) (0, 0) true 1 1), (stitch_form.mk (⟨#[]⟩ : ByteArray) (0, 0) (0, 0) false 0 1), (stitch_form.mk (⟨#[102]⟩ : ByteArray) (2, 4) (0, 0) true 2 1), (stitch_form.mk (⟨#[108]⟩ : ByteArray) (2, 4) (0, 0) true 2 1), (stitch_form.mk (⟨#[109]⟩ : ByteArray) (2, 4) (0, 0) true 1 2), (stitch_form.mk (⟨#[120]⟩ : ByteArray) (1, 6) (1, 6) true 3 3), (stitch_form.mk (⟨#[121]⟩ : ByteArray) (1, 6) (1, 6) true 3 3), (stitch_form.mk (⟨#[115]⟩ : ByteArray) (0, 0) (0, 0) true 1 1), (stitch_form.mk (⟨#[]⟩ : ByteArray) (1, 200) (0, 0) false 0 2), (stitch_form.mk (⟨#[111]⟩ : ByteArray) (1, 200) (0, 0) true 2 0)]) (j := IntKind.u8.wrap (p0 - 1)) 76 67 0 S Tryd.underlying76 rfl rfl hx20
  refine sIdxV (v := .slice ad9 [(stitch_form.mk (⟨#[]⟩ : ByteArray) (0, 0) (0, 0) true 1 1), (stitch_form.mk (⟨#[]⟩ : ByteArray) (0, 0) (0, 0) false 0 1), (stitch_form.mk (⟨#[102]⟩ : ByteArray) (2, 4) (0, 0) true 2 1), (stitch_form.mk (⟨#[108]⟩ : ByteArray) (2, 4) (0, 0) true 2 1), (stitch_form.mk (⟨#[109]⟩ : ByteArray) (2, 4) (0, 0) true 1 2), (stitch_form.mk (⟨#[120]⟩ : ByteArray) (1, 6) (1, 6) true 3 3), (stitch_form.mk (⟨#[121]⟩ : ByteArray) (1, 6) (1, 6) true 3 3), (stitch_form.mk (⟨#[115]⟩ : ByteArray) (0, 0) (0, 0) true 1 1), (stitch_form.mk (⟨#[]⟩ : ByteArray) (1, 200) (0, 0) false 0 2), (stitch_form.mk (⟨#[111]⟩ : ByteArray) (1, 200) (0, 0) true 2 0)].length cp10) (k := .u8) (j := IntKind.u8.wrap (p0 - 1)) S (wN rfl) rfl rfl rfl hq22 rfl (lb rfl) fun a S => ?_
  obtain ⟨u23, S⟩ := pLoad (r := r_stitch_form) (q := q21) (x := x19) 0 S rfl
  obtain rfl : u23 = gv_stitch_form x19 := S.mem.know (i := 1) (e := fRep r_stitch_form (u23) x19) rfl
  refine sLoadVN (vq := q21) 0 [.string x19.letter, iv x19.a.1, iv x19.a.2, iv x19.b.1, iv x19.b.2, .bool x19.sided, iv x19.uses, iv x19.made] S (wN rfl) rfl rfl rfl rfl rfl rfl (lb rfl) fun a S => ?_
  refine sStore (p := b2) (off := 0) (T := 67) (vs := [.string (⟨#[]⟩ : ByteArray), iv 0, iv 0, iv 0, iv 0, .bool false, iv 0, iv 0]) (v := gv_stitch_form x19) 0 [.string x19.letter, iv x19.a.1, iv x19.a.2, iv x19.b.1, iv x19.b.2, .bool x19.sided, iv x19.uses, iv x19.made] S (wN rfl) rfl rfl rfl rfl rfl rfl rfl (by simp) rfl fun a w S => ?_
  refine sMove (.bool true) S (wN rfl) (.inr rfl) rfl rfl (lb rfl) fun a S => ?_
  refine leafL (leafT (hK18 _ _ ?_))
  obtain rfl := Option.some.inj h
  exact wp_ret (sRet (.tuple #[gv_stitch_form x19, .bool true]) S (rsl2 rfl (rvN (c := 2) (t := 67) (T := 67) (p := b2) 0 [.string x19.letter, iv x19.a.1, iv x19.a.2, iv x19.b.1, iv x19.b.2, .bool x19.sided, iv x19.uses, iv x19.made] S rfl rfl rfl rfl) (rvT (t := 3) (v := .bool true) S rfl)) ⟨(gv_stitch_form x19), rfl, S.mem.sel [] [1] (by decide) rfl rfl⟩)

end Go.Proofs.YtoiehdlcfehmlaaDoor
namespace Go.Proofs.YtoiehdlcfehmlaaDoor
open Go.RowKit
set_option linter.unusedVariables false

noncomputable def F_stitch_loops (p0 : api_Stitch) (p1 : Int) : Option Int :=
  Option.bind (idxO ([0, 1, p0.A, w64 (p0.A + p0.B)] : List Int) p1) fun x4 =>
  some x4
set_option maxHeartbeats 4000000 in
set_option maxRecDepth 100000 in
theorem c_stitch_loops (E : Nat → Prop) (w0 : World) (p0 : api_Stitch) (v0 : Value) (p1 : Int) (r : Int) (h : F_stitch_loops p0 p1 = some r) (S : St0 E [] w0 w0 [] [fRep r_api_Stitch (v0) p0]) :
    Calls Tryd.prog 34 #[v0, iv p1] w0 (Ret (X := Unit) E [] w0 (fun _ => .int .i64 r) (fun _ => []) (fun _ => [])) := by
  unfold F_stitch_loops at h
  obtain rfl : v0 = .agg #[.int .u8 p0.Kind, .bool p0.Purl, iv p0.A, iv p0.B] := S.know (i := 0) (e := fRep r_api_Stitch (v0) p0) rfl
  refine sEnter (args := [.agg #[.int .u8 p0.Kind, .bool p0.Purl, iv p0.A, iv p0.B], iv p1]) 15 Tryd.func34 rfl rfl (by simp) S (fun a S => ?_)
  refine sSeq (fun K1 hK1 => ?_)
  refine sRegion ?_
  refine sBox (v := .agg #[.int .u8 p0.Kind, .bool p0.Purl, iv p0.A, iv p0.B]) S (wN rfl) rfl rfl [.int .u8 p0.Kind, .bool p0.Purl, iv p0.A, iv p0.B] rfl rfl (lb rfl) fun a b2 w S => ?_
  refine sMove (iv 0) S (wN rfl) (.inr rfl) rfl rfl (lb rfl) fun a S => ?_
  refine leafL (leafT (hK1 _ _ ?_))
  refine sSeq (fun K3 hK3 => ?_)
  refine sRegion ?_
  refine sField (b := b2) (off := 0) 2 2 S (wN rfl) rfl rfl rfl rfl rfl (lb rfl) fun a S => ?_
  refine sLoad1 (p := b2) (off := 2) (T := 38) (vs := [.int .u8 p0.Kind, .bool p0.Purl, iv p0.A, iv p0.B]) 0 (iv p0.A) S (wN rfl) rfl rfl rfl rfl rfl rfl (lb rfl) fun a S => ?_
  refine sField (b := b2) (off := 0) 2 2 S (wN rfl) rfl rfl rfl rfl rfl (lb rfl) fun a S => ?_
  refine sLoad1 (p := b2) (off := 2) (T := 38) (vs := [.int .u8 p0.Kind, .bool p0.Purl, iv p0.A, iv p0.B]) 0 (iv p0.A) S (wN rfl) rfl rfl rfl rfl rfl rfl (lb rfl) fun a S => ?_
  refine sField (b := b2) (off := 0) 3 3 S (wN rfl) rfl rfl rfl rfl rfl (lb rfl) fun a S => ?_
  refine sLoad1 (p := b2) (off := 3) (T := 38) (vs := [.int .u8 p0.Kind, .bool p0.Purl, iv p0.A, iv p0.B]) 0 (iv p0.B) S (wN rfl) rfl rfl rfl rfl rfl rfl (lb rfl) fun a S => ?_
  refine sBin (iv (w64 (p0.A + p0.B))) S (wN rfl) rfl rfl rfl (bAdd _ _ _ _ p0.A p0.B) rfl (lb rfl) fun a S => ?_
  refine sBuild [(0, iv 0), (1, iv 1), (2, iv p0.A), (3, iv (w64 (p0.A + p0.B)))] [iv 0, iv 1, iv p0.A, iv (w64 (p0.A + p0.B))] S (wN rfl) rfl rfl rfl rfl (lb rfl) fun a S => ?_
  refine sMove (iv p1) S (wN rfl) (.inl rfl) rfl rfl (lb rfl) fun a S => ?_
  obtain ⟨x4, hx5, h⟩ := bindSome h
  refine sIndexA (g := fun z => .int .i64 z) (xs := ([0, 1, p0.A, w64 (p0.A + p0.B)] : List Int)) (j := p1) (k := .i64) 4 [iv 0, iv 1, iv p0.A, iv (w64 (p0.A + p0.B))] S (wN rfl) rfl Tryd.underlying83 rfl rfl rfl rfl rfl rfl hx5 rfl (lb rfl) fun a S => ?_
  refine sMove (iv x4) S (wN rfl) (.inr rfl) rfl rfl (lb rfl) fun a S => ?_
  refine leafL (leafT (hK3 _ _ ?_))
  obtain rfl := Option.some.inj h
  exact wp_ret (sRet (iv x4) S (rsl1 rfl (rvT (t := 4) (v := iv x4) S rfl)) ⟨(), rfl, S.mem.sel [] [] (by decide) rfl rfl⟩)

end Go.Proofs.YtoiehdlcfehmlaaDoor
namespace Go.Proofs.YtoiehdlcfehmlaaDoor
open Go.RowKit
set_option linter.unusedVariables false

noncomputable def stitch_sum_l1 (p0 : (List api_Stitch)) : (Int × Int × Int) → Option ((Int × Int × Int) ⊕ (Int × Int)) := fun s0 => match s0 with
  | (s9, s10, s11) =>
    if decide (s11 < (p0.length : Int)) then
      Option.bind (idxO p0 s11) fun x22 =>
      Option.bind (F_stitch_forms x22.Kind) fun r29 =>
      Option.bind (F_stitch_loops x22 r29.1.uses) fun r34 =>
      Option.bind (F_stitch_loops x22 r29.1.made) fun r36 =>
      some (.inl (w64 (s9 + r34), w64 (s10 + r36), w64 (s11 + 1)))
    else
      some (.inr (s9, s10))
noncomputable def F_stitch_sum (p0 : (List api_Stitch)) : Option (Int × Int) :=
  Option.bind (α := (Int × Int)) (
    Option.bind (whileO (stitch_sum_l1 p0) (0, 0, 0)) fun (e15, e16) =>
      some (e15, e16)) fun (o4, o5) =>
  some (o4, o5)
set_option maxHeartbeats 4000000 in
set_option maxRecDepth 100000 in
theorem c_stitch_sum (E : Nat → Prop) (w0 : World) (p0 : (List api_Stitch)) (v0 : Value) (r : (Int × Int)) (h : F_stitch_sum p0 = some r) (S : St0 E [] w0 w0 [] [fRep (rL r_api_Stitch) (v0) p0]) :
    Calls Tryd.prog 26 #[v0] w0 (Ret (X := Unit) E [] w0 (fun _ => .tuple #[.int .i64 r.1, .int .i64 r.2]) (fun _ => []) (fun _ => [])) := by
  unfold F_stitch_sum at h
  obtain ⟨ad1, cp2, _, rfl, _⟩ := S.know (i := 0) (e := fRep (rL r_api_Stitch) (v0) p0) rfl
  refine sEnter (args := [.slice ad1 p0.length cp2]) 35 Tryd.func26 rfl rfl (by simp) S (fun a S => ?_)
  refine sSeq (fun K3 hK3 => ?_)
  refine sRegion ?_
  refine sMove (iv 0) S (wN rfl) (.inr rfl) rfl rfl (lb rfl) fun a S => ?_
  refine sMove (iv 0) S (wN rfl) (.inr rfl) rfl rfl (lb rfl) fun a S => ?_
  refine leafL (leafT (hK3 _ _ ?_))
  obtain ⟨t6, h, g7⟩ := bindSome h
  refine sCut (fun a w => ∃ o4, ∃ o5, (o4, o5) = t6 ∧ St [] E [] w0 35 a w [(2, iv o4), (3, iv o5)] [] []) ?_ (fun a w hI => ?_)
  rotate_left
  · obtain ⟨o4, o5, rfl, S⟩ := hI
    have h := g7
    clear g7
    try dsimp only at h
    refine sSeq (fun K38 hK38 => ?_)
    refine sRegion ?_
    refine sMove (iv o4) S (wN rfl) (.inl rfl) rfl rfl (lb rfl) fun a S => ?_
    refine sMove (iv o5) S (wN rfl) (.inl rfl) rfl rfl (lb rfl) fun a S => ?_
    refine sMove (iv o4) S (wN rfl) (.inr rfl) rfl rfl (lb rfl) fun a S => ?_
    refine sMove (iv o5) S (wN rfl) (.inr rfl) rfl rfl (lb rfl) fun a S => ?_
    refine leafL (leafT (hK38 _ _ ?_))
    obtain rfl := Option.some.inj h
    exact wp_ret (sRet (.tuple #[iv o4, iv o5]) S (rsl2 rfl (rvT (t := 2) (v := iv o4) S rfl) (rvT (t := 3) (v := iv o5) S rfl)) ⟨(), rfl, S.mem.sel [] [] (by decide) rfl rfl⟩)
  refine sSeq (fun K8 hK8 => ?_)
  refine sRegion ?_
  refine sMove (.slice ad1 p0.length cp2) S (wN rfl) (.inl rfl) rfl rfl (lb rfl) fun a S => ?_
  refine sLen (ad := ad1) (m := p0.length) (c := cp2) S (wN rfl) rfl Tryd.underlying39 rfl rfl (lb rfl) fun a S => ?_
  refine sMove (iv 0) S (wN rfl) (.inl rfl) rfl rfl (lb rfl) fun a S => ?_
  refine leafL (leafT (hK8 _ _ ?_))
  refine wp_block ?_
  obtain ⟨t14, hl, g13⟩ := bindSome h
  refine sLoop hl (fun s0 a w => match s0 with | (s9, s10, s11) => St [] E [] w0 35 a w [(2, iv s9), (3, iv s10), (8, .slice ad1 p0.length cp2), (9, iv (p0.length : Int)), (10, iv s11)] [] [fRep (rL r_api_Stitch) (.slice ad1 p0.length cp2) p0]) (S.fix [] [0] (by decide) rfl rfl rfl) ?_
  clear hl h
  intro s0 a w c0 hI h hu12
  obtain ⟨s9, s10, s11⟩ := s0
  unfold stitch_sum_l1 at h
  dsimp only at h hI
  have S := hI
  refine sSeq (fun K17 hK17 => ?_)
  refine sRegion ?_
  refine sBin (.bool (decide (s11 < (p0.length : Int)))) S (wN rfl) rfl rfl rfl (bLt _ _ _ _ .i64 s11 (p0.length : Int)) rfl (lb rfl) fun a S => ?_
  refine leafL (leafT (hK17 _ _ ?_))
  refine sSeq (fun K18 hK18 => ?_)
  rcases iteSome h with ⟨hc19, h⟩ | ⟨hc19, h⟩
  rotate_left
  · refine sCondF S rfl hc19 ?_
    obtain rfl := Option.some.inj h
    obtain rfl := hu12 _ rfl
    have h := g13
    clear g13
    try dsimp only at h
    exact wp_exit (xThen (xThen (xHit (leafT (⟨s9, s10, Option.some.inj h, S.fix [] [] (by decide) rfl rfl rfl⟩)))))
  refine sCondT S rfl hc19 ?_
  refine wp_skip (leafT (hK18 _ _ ?_))
  refine sSeq (fun K20 hK20 => ?_)
  refine wp_block ?_
  refine sSeq (fun K21 hK21 => ?_)
  refine sRegion ?_
  obtain ⟨x22, hx23, h⟩ := bindSome h
  obtain ⟨q24, hq25, S⟩ := pIdx (P := Tryd.prog) (r := r_api_Stitch) (v := .slice ad1 p0.length cp2) (xs := p0) (j := s11) 39 38 0 S Tryd.underlying39 rfl rfl hx23
  refine sIdxV (v := .slice ad1 p0.length cp2) (k := .i64) (j := s11) S (wN rfl) rfl rfl rfl hq25 rfl (lb rfl) fun a S => ?_
  obtain ⟨u26, S⟩ := pLoad (r := r_api_Stitch) (q := q24) (x := x22) 0 S rfl
  obtain rfl : u26 = .agg #[.int .u8 x22.Kind, .bool x22.Purl, iv x22.A, iv x22.B] := S.mem.know (i := 1) (e := fRep r_api_Stitch (u26) x22) rfl
  refine sLoadVN (vq := q24) 0 [.int .u8 x22.Kind, .bool x22.Purl, iv x22.A, iv x22.B] S (wN rfl) rfl rfl rfl rfl rfl rfl (lb rfl) fun a S => ?_
  refine sAlloc (.agg #[.int .u8 0, .bool false, iv 0, iv 0]) S (wN rfl) rfl rfl [.int .u8 0, .bool false, iv 0, iv 0] rfl rfl (lb rfl) fun a b27 w S => ?_
  refine sStore (p := b27) (off := 0) (T := 38) (vs := [.int .u8 0, .bool false, iv 0, iv 0]) (v := .agg #[.int .u8 x22.Kind, .bool x22.Purl, iv x22.A, iv x22.B]) 0 [.int .u8 x22.Kind, .bool x22.Purl, iv x22.A, iv x22.B] S (wN rfl) rfl rfl rfl rfl rfl rfl rfl (by simp) rfl fun a w S => ?_
  refine leafL (leafT (hK21 _ _ ?_))
  refine sSeq (fun K28 hK28 => ?_)
  refine sRegion ?_
  refine sField (b := b27) (off := 0) 0 0 S (wN rfl) rfl rfl rfl rfl rfl (lb rfl) fun a S => ?_
  refine sLoad1 (p := b27) (off := 0) (T := 38) (vs := [.int .u8 x22.Kind, .bool x22.Purl, iv x22.A, iv x22.B]) 0 (.int .u8 x22.Kind) S (wN rfl) rfl rfl rfl rfl rfl rfl (lb rfl) fun a S => ?_
  obtain ⟨r29, hx30, h⟩ := bindSome h
  refine sCall (X := Value) (f := 28) (vs := [.int .u8 x22.Kind]) (val := c_stitch_forms_val r29) (B' := fun _ => []) (D' := c_stitch_forms_D r29) [] [eBox b27 38 [.int .u8 x22.Kind, .bool x22.Purl, iv x22.A, iv x22.B]] [] [0] [] S (wN rfl) rfl callee28 rfl (by decide) rfl rfl (fun E1 w1 S1 => c_stitch_forms E1 w1 x22.Kind r29 hx30 S1) rfl (lb rfl) fun u31 a w S => ?_
  obtain rfl : u31 = gv_stitch_form r29.1 := S.mem.know (i := 0) (e := fRep r_stitch_form (u31) r29.1) rfl
  refine sMove (.tuple #[gv_stitch_form r29.1, .bool r29.2]) S (wN rfl) (.inl rfl) rfl rfl (lb rfl) fun a S => ?_
  refine sExtract (vs := [gv_stitch_form r29.1, .bool r29.2]) (gv_stitch_form r29.1) S (wN rfl) rfl rfl rfl rfl (lb rfl) fun a S => ?_
  refine sExtract (vs := [gv_stitch_form r29.1, .bool r29.2]) (.bool r29.2) S (wN rfl) rfl rfl rfl rfl (lb rfl) fun a S => ?_
  refine sAlloc (gv_stitch_form (stitch_form.mk (⟨#[]⟩ : ByteArray) (0, 0) (0, 0) false 0 0)) S (wN rfl) rfl rfl (gl_stitch_form (stitch_form.mk (⟨#[]⟩ : ByteArray) (0, 0) (0, 0) false 0 0)) rfl rfl (lb rfl) fun a b32 w S => ?_
  refine sStore (p := b32) (off := 0) (T := 67) (vs := [.string (⟨#[]⟩ : ByteArray), iv 0, iv 0, iv 0, iv 0, .bool false, iv 0, iv 0]) (v := gv_stitch_form r29.1) 0 [.string r29.1.letter, iv r29.1.a.1, iv r29.1.a.2, iv r29.1.b.1, iv r29.1.b.2, .bool r29.1.sided, iv r29.1.uses, iv r29.1.made] S (wN rfl) rfl rfl rfl rfl rfl rfl rfl (by simp) rfl fun a w S => ?_
  refine sMove (.bool r29.2) S (wN rfl) (.inr rfl) rfl rfl (lb rfl) fun a S => ?_
  refine leafL (leafT (hK28 _ _ ?_))
  refine sSeq (fun K33 hK33 => ?_)
  refine sRegion ?_
  refine sMove (iv s9) S (wN rfl) (.inl rfl) rfl rfl (lb rfl) fun a S => ?_
  refine sLoadN (p := b27) (off := 0) (T := 38) (vs := [.int .u8 x22.Kind, .bool x22.Purl, iv x22.A, iv x22.B]) 1 [.int .u8 x22.Kind, .bool x22.Purl, iv x22.A, iv x22.B] S (wN rfl) rfl rfl rfl rfl rfl rfl rfl (lb rfl) fun a S => ?_
  refine sField (b := b32) (off := 0) 6 6 S (wN rfl) rfl rfl rfl rfl rfl (lb rfl) fun a S => ?_
  refine sLoad1 (p := b32) (off := 6) (T := 67) (vs := (gl_stitch_form r29.1)) 0 (iv r29.1.uses) S (wN rfl) rfl rfl rfl rfl rfl rfl (lb rfl) fun a S => ?_
  obtain ⟨r34, hx35, h⟩ := bindSome h
  have S1 := S.mem
  refine sCallQ (X := Unit) (f := 34) (vs := [.agg #[.int .u8 x22.Kind, .bool x22.Purl, iv x22.A, iv x22.B], iv r29.1.uses]) (val := fun _ => iv r34) S (wN rfl) rfl callee34 rfl (S1.quiet [2] rfl) (fun E1 w1 S1 => c_stitch_loops E1 w1 x22 (.agg #[.int .u8 x22.Kind, .bool x22.Purl, iv x22.A, iv x22.B]) r29.1.uses r34 hx35 S1) rfl (lb rfl) fun _ a w S => ?_
  refine sBin (iv (w64 (s9 + r34))) S (wN rfl) rfl rfl rfl (bAdd _ _ _ _ s9 r34) rfl (lb rfl) fun a S => ?_
  refine sMove (iv (w64 (s9 + r34))) S (wN rfl) (.inr rfl) rfl rfl (lb rfl) fun a S => ?_
  refine leafL (leafT (hK33 _ _ ?_))
  refine sRegion ?_
  refine sMove (iv s10) S (wN rfl) (.inl rfl) rfl rfl (lb rfl) fun a S => ?_
  refine sLoadN (p := b27) (off := 0) (T := 38) (vs := [.int .u8 x22.Kind, .bool x22.Purl, iv x22.A, iv x22.B]) 1 [.int .u8 x22.Kind, .bool x22.Purl, iv x22.A, iv x22.B] S (wN rfl) rfl rfl rfl rfl rfl rfl rfl (lb rfl) fun a S => ?_
  refine sField (b := b32) (off := 0) 7 7 S (wN rfl) rfl rfl rfl rfl rfl (lb rfl) fun a S => ?_
  refine sLoad1 (p := b32) (off := 7) (T := 67) (vs := (gl_stitch_form r29.1)) 0 (iv r29.1.made) S (wN rfl) rfl rfl rfl rfl rfl rfl (lb rfl) fun a S => ?_
  obtain ⟨r36, hx37, h⟩ := bindSome h
  have S1 := S.mem
  refine sCallQ (X := Unit) (f := 34) (vs := [.agg #[.int .u8 x22.Kind, .bool x22.Purl, iv x22.A, iv x22.B], iv r29.1.made]) (val := fun _ => iv r36) S (wN rfl) rfl callee34 rfl (S1.quiet [2] rfl) (fun E1 w1 S1 => c_stitch_loops E1 w1 x22 (.agg #[.int .u8 x22.Kind, .bool x22.Purl, iv x22.A, iv x22.B]) r29.1.made r36 hx37 S1) rfl (lb rfl) fun _ a w S => ?_
  refine sBin (iv (w64 (s10 + r36))) S (wN rfl) rfl rfl rfl (bAdd _ _ _ _ s10 r36) rfl (lb rfl) fun a S => ?_
  refine sMove (iv (w64 (s10 + r36))) S (wN rfl) (.inr rfl) rfl rfl (lb rfl) fun a S => ?_
  refine leafL (leafB (leafT (hK20 _ _ ?_)))
  refine sRegion ?_
  refine sBin (iv (w64 (s11 + 1))) S (wN rfl) rfl rfl rfl (bAdd _ _ _ _ s11 1) rfl (lb rfl) fun a S => ?_
  refine sMove (iv (w64 (s11 + 1))) S (wN rfl) (.inl rfl) rfl rfl (lb rfl) fun a S => ?_
  exact leafL (leafT (⟨(w64 (s9 + r34), w64 (s10 + r36), w64 (s11 + 1)), (Option.some.inj h).symm, (S.fix [] [4] (by decide) rfl rfl rfl)⟩))

end Go.Proofs.YtoiehdlcfehmlaaDoor
namespace Go.Proofs.YtoiehdlcfehmlaaDoor
open Go.RowKit
set_option linter.unusedVariables false

noncomputable def F_stitch_within (p0 : Int) (p1 : (Int × Int)) : Option Bool :=
  Option.bind (α := Bool) (
    if decide (p1.1 ≤ p0) then
      some (decide (p0 ≤ p1.2))
    else
      some false) fun o3 =>
  some o3
set_option maxHeartbeats 4000000 in
set_option maxRecDepth 100000 in
theorem c_stitch_within (E : Nat → Prop) (w0 : World) (p0 : Int) (p1 : (Int × Int)) (v1 : Value) (r : Bool) (h : F_stitch_within p0 p1 = some r) (S : St0 E [] w0 w0 [] [fRep r_A2_Int (v1) p1]) :
    Calls Tryd.prog 40 #[iv p0, v1] w0 (Ret (X := Unit) E [] w0 (fun _ => .bool r) (fun _ => []) (fun _ => [])) := by
  unfold F_stitch_within at h
  obtain rfl : v1 = .agg #[iv p1.1, iv p1.2] := S.know (i := 0) (e := fRep r_A2_Int (v1) p1) rfl
  refine sEnter (args := [iv p0, .agg #[iv p1.1, iv p1.2]]) 15 Tryd.func40 rfl rfl (by simp) S (fun a S => ?_)
  refine sSeq (fun K1 hK1 => ?_)
  refine sRegion ?_
  refine sBox (v := .agg #[iv p1.1, iv p1.2]) S (wN rfl) rfl rfl [iv p1.1, iv p1.2] rfl rfl (lb rfl) fun a b2 w S => ?_
  refine sMove (.bool false) S (wN rfl) (.inr rfl) rfl rfl (lb rfl) fun a S => ?_
  refine leafL (leafT (hK1 _ _ ?_))
  obtain ⟨t4, h, g5⟩ := bindSome h
  refine sCut (fun a w => ∃ o3, o3 = t4 ∧ St [] E [] w0 15 a w [(4, .bool o3)] [] []) ?_ (fun a w hI => ?_)
  rotate_left
  · obtain ⟨o3, rfl, S⟩ := hI
    have h := g5
    clear g5
    try dsimp only at h
    obtain rfl := Option.some.inj h
    exact wp_ret (sRet (.bool o3) S (rsl1 rfl (rvT (t := 4) (v := .bool o3) S rfl)) ⟨(), rfl, S.mem.sel [] [] (by decide) rfl rfl⟩)
  refine sRegion ?_
  refine sMove (iv p0) S (wN rfl) (.inl rfl) rfl rfl (lb rfl) fun a S => ?_
  refine sIdxV (v := .pointer (some ⟨b2, 0, none⟩)) (k := .i64) (j := 0) (q := .pointer (some ⟨b2, 0, none⟩)) S (wN rfl) rfl rfl rfl (idxV_arr (m := 2) (sz := 1) Tryd.underlying65 rfl (by decide) (by decide) 0) rfl (lb rfl) fun a S => ?_
  refine sLoad1 (p := b2) (off := 0) (T := 65) (vs := [iv p1.1, iv p1.2]) 0 (iv p1.1) S (wN rfl) rfl rfl rfl rfl rfl rfl (lb rfl) fun a S => ?_
  refine sBin (.bool (decide (p1.1 ≤ p0))) S (wN rfl) rfl rfl rfl (bGe _ _ _ _ .i64 p0 p1.1) rfl (lb rfl) fun a S => ?_
  refine sMove (.bool (decide (p1.1 ≤ p0))) S (wN rfl) (.inl rfl) rfl rfl (lb rfl) fun a S => ?_
  rcases iteSome h with ⟨hc6, h⟩ | ⟨hc6, h⟩
  rotate_left
  · refine sSkip 4 true 9 10 S rfl rfl rfl hc6 rfl (lb rfl) fun a S => ?_
    refine sSkip 4 true 9 11 S rfl rfl rfl hc6 rfl (lb rfl) fun a S => ?_
    refine sSkip 4 true 9 12 S rfl rfl rfl hc6 rfl (lb rfl) fun a S => ?_
    refine sSkip 4 true 9 13 S rfl rfl rfl hc6 rfl (lb rfl) fun a S => ?_
    refine sPickF (.bool false) S (wN rfl) rfl rfl hc6 rfl rfl (lb rfl) fun a S => ?_
    refine sMove (.bool false) S (wN rfl) (.inr rfl) rfl rfl (lb rfl) fun a S => ?_
    exact leafL (leafT (⟨false, Option.some.inj h, S.fix [] [] (by decide) rfl rfl rfl⟩))
  refine sMove (iv p0) S (wG 4 true 9 rfl rfl rfl hc6) (.inl rfl) rfl rfl (lb rfl) fun a S => ?_
  refine sIdxV (v := .pointer (some ⟨b2, 0, none⟩)) (k := .i64) (j := 1) (q := .pointer (some ⟨b2, 1, none⟩)) S (wG 4 true 9 rfl rfl rfl hc6) rfl rfl rfl (idxV_arr (m := 2) (sz := 1) Tryd.underlying65 rfl (by decide) (by decide) 0) rfl (lb rfl) fun a S => ?_
  refine sLoad1 (p := b2) (off := 1) (T := 65) (vs := [iv p1.1, iv p1.2]) 0 (iv p1.2) S (wG 4 true 9 rfl rfl rfl hc6) rfl rfl rfl rfl rfl rfl (lb rfl) fun a S => ?_
  refine sBin (.bool (decide (p0 ≤ p1.2))) S (wG 4 true 9 rfl rfl rfl hc6) rfl rfl rfl (bLe _ _ _ _ .i64 p0 p1.2) rfl (lb rfl) fun a S => ?_
  refine sPickT (.bool (decide (p0 ≤ p1.2))) S (wN rfl) rfl rfl hc6 rfl rfl (lb rfl) fun a S => ?_
  refine sMove (.bool (decide (p0 ≤ p1.2))) S (wN rfl) (.inr rfl) rfl rfl (lb rfl) fun a S => ?_
  exact leafL (leafT (⟨decide (p0 ≤ p1.2), Option.some.inj h, S.fix [] [] (by decide) rfl rfl rfl⟩))

end Go.Proofs.YtoiehdlcfehmlaaDoor
namespace Go.Proofs.YtoiehdlcfehmlaaDoor
open Go.RowKit
set_option linter.unusedVariables false

noncomputable def F_stitch_Check (p0 : api_Stitch) : Option Int :=
  Option.bind (F_stitch_forms p0.Kind) fun r4 =>
  Option.bind (α := Bool) (
    if !r4.2 then
      some true
    else
      Option.bind (F_stitch_within p0.A r4.1.a) fun r13 =>
      if !r13 then
        some true
      else
        Option.bind (F_stitch_within p0.B r4.1.b) fun r16 =>
        if !r16 then
          some true
        else
          if p0.Purl then
            some (!r4.1.sided)
          else
            some false) fun o9 =>
  if o9 then
    some 8
  else
    some 0
set_option maxHeartbeats 4000000 in
set_option maxRecDepth 100000 in
theorem c_stitch_Check (E : Nat → Prop) (w0 : World) (p0 : api_Stitch) (v0 : Value) (r : Int) (h : F_stitch_Check p0 = some r) (S : St0 E [] w0 w0 [] [fRep r_api_Stitch (v0) p0]) :
    Calls Tryd.prog 33 #[v0] w0 (Ret (X := Unit) E [] w0 (fun _ => .int .i64 r) (fun _ => []) (fun _ => [])) := by
  unfold F_stitch_Check at h
  obtain rfl : v0 = .agg #[.int .u8 p0.Kind, .bool p0.Purl, iv p0.A, iv p0.B] := S.know (i := 0) (e := fRep r_api_Stitch (v0) p0) rfl
  refine sEnter (args := [.agg #[.int .u8 p0.Kind, .bool p0.Purl, iv p0.A, iv p0.B]]) 38 Tryd.func33 rfl rfl (by simp) S (fun a S => ?_)
  refine sSeq (fun K1 hK1 => ?_)
  refine sRegion ?_
  refine sBox (v := .agg #[.int .u8 p0.Kind, .bool p0.Purl, iv p0.A, iv p0.B]) S (wN rfl) rfl rfl [.int .u8 p0.Kind, .bool p0.Purl, iv p0.A, iv p0.B] rfl rfl (lb rfl) fun a b2 w S => ?_
  refine sMove (iv 0) S (wN rfl) (.inr rfl) rfl rfl (lb rfl) fun a S => ?_
  refine leafL (leafT (hK1 _ _ ?_))
  refine sSeq (fun K3 hK3 => ?_)
  refine sRegion ?_
  refine sField (b := b2) (off := 0) 0 0 S (wN rfl) rfl rfl rfl rfl rfl (lb rfl) fun a S => ?_
  refine sLoad1 (p := b2) (off := 0) (T := 38) (vs := [.int .u8 p0.Kind, .bool p0.Purl, iv p0.A, iv p0.B]) 0 (.int .u8 p0.Kind) S (wN rfl) rfl rfl rfl rfl rfl rfl (lb rfl) fun a S => ?_
  obtain ⟨r4, hx5, h⟩ := bindSome h
  refine sCall (X := Value) (f := 28) (vs := [.int .u8 p0.Kind]) (val := c_stitch_forms_val r4) (B' := fun _ => []) (D' := c_stitch_forms_D r4) [] [eBox b2 38 [.int .u8 p0.Kind, .bool p0.Purl, iv p0.A, iv p0.B]] [] [0] [] S (wN rfl) rfl callee28 rfl (by decide) rfl rfl (fun E1 w1 S1 => c_stitch_forms E1 w1 p0.Kind r4 hx5 S1) rfl (lb rfl) fun u6 a w S => ?_
  obtain rfl : u6 = gv_stitch_form r4.1 := S.mem.know (i := 0) (e := fRep r_stitch_form (u6) r4.1) rfl
  refine sMove (.tuple #[gv_stitch_form r4.1, .bool r4.2]) S (wN rfl) (.inl rfl) rfl rfl (lb rfl) fun a S => ?_
  refine sExtract (vs := [gv_stitch_form r4.1, .bool r4.2]) (gv_stitch_form r4.1) S (wN rfl) rfl rfl rfl rfl (lb rfl) fun a S => ?_
  refine sExtract (vs := [gv_stitch_form r4.1, .bool r4.2]) (.bool r4.2) S (wN rfl) rfl rfl rfl rfl (lb rfl) fun a S => ?_
  refine sAlloc (gv_stitch_form (stitch_form.mk (⟨#[]⟩ : ByteArray) (0, 0) (0, 0) false 0 0)) S (wN rfl) rfl rfl (gl_stitch_form (stitch_form.mk (⟨#[]⟩ : ByteArray) (0, 0) (0, 0) false 0 0)) rfl rfl (lb rfl) fun a b7 w S => ?_
  refine sStore (p := b7) (off := 0) (T := 67) (vs := [.string (⟨#[]⟩ : ByteArray), iv 0, iv 0, iv 0, iv 0, .bool false, iv 0, iv 0]) (v := gv_stitch_form r4.1) 0 [.string r4.1.letter, iv r4.1.a.1, iv r4.1.a.2, iv r4.1.b.1, iv r4.1.b.2, .bool r4.1.sided, iv r4.1.uses, iv r4.1.made] S (wN rfl) rfl rfl rfl rfl rfl rfl rfl (by simp) rfl fun a w S => ?_
  refine sMove (.bool r4.2) S (wN rfl) (.inr rfl) rfl rfl (lb rfl) fun a S => ?_
  refine leafL (leafT (hK3 _ _ ?_))
  refine sSeq (fun K8 hK8 => ?_)
  obtain ⟨t10, h, g11⟩ := bindSome h
  refine sCut (fun a w => ∃ o9, o9 = t10 ∧ St [] E [] w0 38 a w [(37, .bool o9)] [] []) ?_ (fun a w hI => ?_)
  rotate_left
  · obtain ⟨o9, rfl, S⟩ := hI
    have h := g11
    clear g11
    try dsimp only at h
    rcases iteSome h with ⟨hc20, h⟩ | ⟨hc20, h⟩
    · refine sCondT S rfl hc20 ?_
      refine sSeq (fun K21 hK21 => ?_)
      refine sRegion ?_
      refine sMove (iv 8) S (wN rfl) (.inr rfl) rfl rfl (lb rfl) fun a S => ?_
      refine leafL (leafT (hK21 _ _ ?_))
      obtain rfl := Option.some.inj h
      exact wp_ret (rThen (sRet (iv 8) S (rsl1 rfl (rvT (t := 2) (v := iv 8) S rfl)) ⟨(), rfl, S.mem.sel [] [] (by decide) rfl rfl⟩))
    refine sCondF S rfl hc20 ?_
    refine wp_skip (leafT (hK8 _ _ ?_))
    refine sSeq (fun K22 hK22 => ?_)
    refine sRegion ?_
    refine sMove (iv 0) S (wN rfl) (.inr rfl) rfl rfl (lb rfl) fun a S => ?_
    refine leafL (leafT (hK22 _ _ ?_))
    obtain rfl := Option.some.inj h
    exact wp_ret (sRet (iv 0) S (rsl1 rfl (rvT (t := 2) (v := iv 0) S rfl)) ⟨(), rfl, S.mem.sel [] [] (by decide) rfl rfl⟩)
  refine sRegion ?_
  refine sMove (.bool r4.2) S (wN rfl) (.inl rfl) rfl rfl (lb rfl) fun a S => ?_
  refine sNot (b := r4.2) S (wN rfl) rfl rfl rfl (lb rfl) fun a S => ?_
  refine sMove (.bool (!r4.2)) S (wN rfl) (.inl rfl) rfl rfl (lb rfl) fun a S => ?_
  rcases iteSome h with ⟨hc12, h⟩ | ⟨hc12, h⟩
  · refine sSkip 2 false 13 14 S rfl rfl rfl hc12 rfl (lb rfl) fun a S => ?_
    refine sSkip 2 false 13 15 S rfl rfl rfl hc12 rfl (lb rfl) fun a S => ?_
    refine sSkip 2 false 13 16 S rfl rfl rfl hc12 rfl (lb rfl) fun a S => ?_
    refine sSkip 2 false 13 17 S rfl rfl rfl hc12 rfl (lb rfl) fun a S => ?_
    refine sSkip 2 false 13 18 S rfl rfl rfl hc12 rfl (lb rfl) fun a S => ?_
    refine sSkip 2 false 13 19 S rfl rfl rfl hc12 rfl (lb rfl) fun a S => ?_
    refine sPickT (.bool true) S (wN rfl) rfl rfl hc12 rfl rfl (lb rfl) fun a S => ?_
    refine sMove (.bool true) S (wN rfl) (.inl rfl) rfl rfl (lb rfl) fun a S => ?_
    refine sSkip 10 false 21 22 S rfl rfl rfl rfl rfl (lb rfl) fun a S => ?_
    refine sSkip 10 false 21 23 S rfl rfl rfl rfl rfl (lb rfl) fun a S => ?_
    refine sSkip 10 false 21 24 S rfl rfl rfl rfl rfl (lb rfl) fun a S => ?_
    refine sSkip 10 false 21 25 S rfl rfl rfl rfl rfl (lb rfl) fun a S => ?_
    refine sSkip 10 false 21 26 S rfl rfl rfl rfl rfl (lb rfl) fun a S => ?_
    refine sSkip 10 false 21 27 S rfl rfl rfl rfl rfl (lb rfl) fun a S => ?_
    refine sPickT (.bool true) S (wN rfl) rfl rfl rfl rfl rfl (lb rfl) fun a S => ?_
    refine sMove (.bool true) S (wN rfl) (.inl rfl) rfl rfl (lb rfl) fun a S => ?_
    refine sSkip 18 false 29 30 S rfl rfl rfl rfl rfl (lb rfl) fun a S => ?_
    refine sSkip 18 false 29 31 S rfl rfl rfl rfl rfl (lb rfl) fun a S => ?_
    refine sSkip 18 false 29 32 S rfl rfl rfl rfl rfl (lb rfl) fun a S => ?_
    refine sSkipU 21 true 32 33 S rfl rfl rfl rfl (lb rfl) fun a S => ?_
    refine sSkipU 21 true 32 34 S rfl rfl rfl rfl (lb rfl) fun a S => ?_
    refine sSkipU 21 true 32 35 S rfl rfl rfl rfl (lb rfl) fun a S => ?_
    refine sSkip 18 false 29 36 S rfl rfl rfl rfl rfl (lb rfl) fun a S => ?_
    refine sPickT (.bool true) S (wN rfl) rfl rfl rfl rfl rfl (lb rfl) fun a S => ?_
    exact leafL (leafT (⟨true, Option.some.inj h, S.fix [] [] (by decide) rfl rfl rfl⟩))
  refine sField (b := b2) (off := 0) 2 2 S (wG 2 false 13 rfl rfl rfl hc12) rfl rfl rfl rfl rfl (lb rfl) fun a S => ?_
  refine sLoad1 (p := b2) (off := 2) (T := 38) (vs := [.int .u8 p0.Kind, .bool p0.Purl, iv p0.A, iv p0.B]) 1 (iv p0.A) S (wG 2 false 13 rfl rfl rfl hc12) rfl rfl rfl rfl rfl rfl (lb rfl) fun a S => ?_
  refine sField (b := b7) (off := 0) 1 1 S (wG 2 false 13 rfl rfl rfl hc12) rfl rfl rfl rfl rfl (lb rfl) fun a S => ?_
  refine sLoadN (p := b7) (off := 1) (T := 67) (vs := (gl_stitch_form r4.1)) 0 [iv r4.1.a.1, iv r4.1.a.2] S (wG 2 false 13 rfl rfl rfl hc12) rfl rfl rfl rfl rfl rfl rfl (lb rfl) fun a S => ?_
  obtain ⟨r13, hx14, h⟩ := bindSome h
  have S1 := S.mem
  have S1 := S1.learn (fRep r_A2_Int (.agg #[iv r4.1.a.1, iv r4.1.a.2]) r4.1.a) rfl
  refine sCallQ (X := Unit) (f := 40) (vs := [iv p0.A, .agg #[iv r4.1.a.1, iv r4.1.a.2]]) (val := fun _ => .bool r13) S (wG 2 false 13 rfl rfl rfl hc12) rfl callee40 rfl (S1.quiet [0] rfl) (fun E1 w1 S1 => c_stitch_within E1 w1 p0.A r4.1.a (.agg #[iv r4.1.a.1, iv r4.1.a.2]) r13 hx14 S1) rfl (lb rfl) fun _ a w S => ?_
  refine sNot (b := r13) S (wG 2 false 13 rfl rfl rfl hc12) rfl rfl rfl (lb rfl) fun a S => ?_
  refine sPickF (.bool (!r13)) S (wN rfl) rfl rfl hc12 rfl rfl (lb rfl) fun a S => ?_
  refine sMove (.bool (!r13)) S (wN rfl) (.inl rfl) rfl rfl (lb rfl) fun a S => ?_
  rcases iteSome h with ⟨hc15, h⟩ | ⟨hc15, h⟩
  · refine sSkip 10 false 21 22 S rfl rfl rfl hc15 rfl (lb rfl) fun a S => ?_
    refine sSkip 10 false 21 23 S rfl rfl rfl hc15 rfl (lb rfl) fun a S => ?_
    refine sSkip 10 false 21 24 S rfl rfl rfl hc15 rfl (lb rfl) fun a S => ?_
    refine sSkip 10 false 21 25 S rfl rfl rfl hc15 rfl (lb rfl) fun a S => ?_
    refine sSkip 10 false 21 26 S rfl rfl rfl hc15 rfl (lb rfl) fun a S => ?_
    refine sSkip 10 false 21 27 S rfl rfl rfl hc15 rfl (lb rfl) fun a S => ?_
    refine sPickT (.bool true) S (wN rfl) rfl rfl hc15 rfl rfl (lb rfl) fun a S => ?_
    refine sMove (.bool true) S (wN rfl) (.inl rfl) rfl rfl (lb rfl) fun a S => ?_
    refine sSkip 18 false 29 30 S rfl rfl rfl rfl rfl (lb rfl) fun a S => ?_
    refine sSkip 18 false 29 31 S rfl rfl rfl rfl rfl (lb rfl) fun a S => ?_
    refine sSkip 18 false 29 32 S rfl rfl rfl rfl rfl (lb rfl) fun a S => ?_
    refine sSkipU 21 true 32 33 S rfl rfl rfl rfl (lb rfl) fun a S => ?_
    refine sSkipU 21 true 32 34 S rfl rfl rfl rfl (lb rfl) fun a S => ?_
    refine sSkipU 21 true 32 35 S rfl rfl rfl rfl (lb rfl) fun a S => ?_
    refine sSkip 18 false 29 36 S rfl rfl rfl rfl rfl (lb rfl) fun a S => ?_
    refine sPickT (.bool true) S (wN rfl) rfl rfl rfl rfl rfl (lb rfl) fun a S => ?_
    exact leafL (leafT (⟨true, Option.some.inj h, S.fix [] [] (by decide) rfl rfl rfl⟩))
  refine sField (b := b2) (off := 0) 3 3 S (wG 10 false 21 rfl rfl rfl hc15) rfl rfl rfl rfl rfl (lb rfl) fun a S => ?_
  refine sLoad1 (p := b2) (off := 3) (T := 38) (vs := [.int .u8 p0.Kind, .bool p0.Purl, iv p0.A, iv p0.B]) 1 (iv p0.B) S (wG 10 false 21 rfl rfl rfl hc15) rfl rfl rfl rfl rfl rfl (lb rfl) fun a S => ?_
  refine sField (b := b7) (off := 0) 3 3 S (wG 10 false 21 rfl rfl rfl hc15) rfl rfl rfl rfl rfl (lb rfl) fun a S => ?_
  refine sLoadN (p := b7) (off := 3) (T := 67) (vs := (gl_stitch_form r4.1)) 0 [iv r4.1.b.1, iv r4.1.b.2] S (wG 10 false 21 rfl rfl rfl hc15) rfl rfl rfl rfl rfl rfl rfl (lb rfl) fun a S => ?_
  obtain ⟨r16, hx17, h⟩ := bindSome h
  have S1 := S.mem
  have S1 := S1.learn (fRep r_A2_Int (.agg #[iv r4.1.b.1, iv r4.1.b.2]) r4.1.b) rfl
  refine sCallQ (X := Unit) (f := 40) (vs := [iv p0.B, .agg #[iv r4.1.b.1, iv r4.1.b.2]]) (val := fun _ => .bool r16) S (wG 10 false 21 rfl rfl rfl hc15) rfl callee40 rfl (S1.quiet [0] rfl) (fun E1 w1 S1 => c_stitch_within E1 w1 p0.B r4.1.b (.agg #[iv r4.1.b.1, iv r4.1.b.2]) r16 hx17 S1) rfl (lb rfl) fun _ a w S => ?_
  refine sNot (b := r16) S (wG 10 false 21 rfl rfl rfl hc15) rfl rfl rfl (lb rfl) fun a S => ?_
  refine sPickF (.bool (!r16)) S (wN rfl) rfl rfl hc15 rfl rfl (lb rfl) fun a S => ?_
  refine sMove (.bool (!r16)) S (wN rfl) (.inl rfl) rfl rfl (lb rfl) fun a S => ?_
  rcases iteSome h with ⟨hc18, h⟩ | ⟨hc18, h⟩
  · refine sSkip 18 false 29 30 S rfl rfl rfl hc18 rfl (lb rfl) fun a S => ?_
    refine sSkip 18 false 29 31 S rfl rfl rfl hc18 rfl (lb rfl) fun a S => ?_
    refine sSkip 18 false 29 32 S rfl rfl rfl hc18 rfl (lb rfl) fun a S => ?_
    refine sSkipU 21 true 32 33 S rfl rfl rfl rfl (lb rfl) fun a S => ?_
    refine sSkipU 21 true 32 34 S rfl rfl rfl rfl (lb rfl) fun a S => ?_
    refine sSkipU 21 true 32 35 S rfl rfl rfl rfl (lb rfl) fun a S => ?_
    refine sSkip 18 false 29 36 S rfl rfl rfl hc18 rfl (lb rfl) fun a S => ?_
    refine sPickT (.bool true) S (wN rfl) rfl rfl hc18 rfl rfl (lb rfl) fun a S => ?_
    exact leafL (leafT (⟨true, Option.some.inj h, S.fix [] [] (by decide) rfl rfl rfl⟩))
  refine sField (b := b2) (off := 0) 1 1 S (wG 18 false 29 rfl rfl rfl hc18) rfl rfl rfl rfl rfl (lb rfl) fun a S => ?_
  refine sLoad1 (p := b2) (off := 1) (T := 38) (vs := [.int .u8 p0.Kind, .bool p0.Purl, iv p0.A, iv p0.B]) 1 (.bool p0.Purl) S (wG 18 false 29 rfl rfl rfl hc18) rfl rfl rfl rfl rfl rfl (lb rfl) fun a S => ?_
  refine sMove (.bool p0.Purl) S (wG 18 false 29 rfl rfl rfl hc18) (.inl rfl) rfl rfl (lb rfl) fun a S => ?_
  rcases iteSome h with ⟨hc19, h⟩ | ⟨hc19, h⟩
  rotate_left
  · refine sSkip 21 true 32 33 S rfl rfl rfl hc19 rfl (lb rfl) fun a S => ?_
    refine sSkip 21 true 32 34 S rfl rfl rfl hc19 rfl (lb rfl) fun a S => ?_
    refine sSkip 21 true 32 35 S rfl rfl rfl hc19 rfl (lb rfl) fun a S => ?_
    refine sPickF (.bool false) S (wG 18 false 29 rfl rfl rfl hc18) rfl rfl hc19 rfl rfl (lb rfl) fun a S => ?_
    refine sPickF (.bool false) S (wN rfl) rfl rfl hc18 rfl rfl (lb rfl) fun a S => ?_
    exact leafL (leafT (⟨false, Option.some.inj h, S.fix [] [] (by decide) rfl rfl rfl⟩))
  refine sField (b := b7) (off := 0) 5 5 S (wG 21 true 32 rfl rfl rfl hc19) rfl rfl rfl rfl rfl (lb rfl) fun a S => ?_
  refine sLoad1 (p := b7) (off := 5) (T := 67) (vs := (gl_stitch_form r4.1)) 0 (.bool r4.1.sided) S (wG 21 true 32 rfl rfl rfl hc19) rfl rfl rfl rfl rfl rfl (lb rfl) fun a S => ?_
  refine sNot (b := r4.1.sided) S (wG 21 true 32 rfl rfl rfl hc19) rfl rfl rfl (lb rfl) fun a S => ?_
  refine sPickT (.bool (!r4.1.sided)) S (wG 18 false 29 rfl rfl rfl hc18) rfl rfl hc19 rfl rfl (lb rfl) fun a S => ?_
  refine sPickF (.bool (!r4.1.sided)) S (wN rfl) rfl rfl hc18 rfl rfl (lb rfl) fun a S => ?_
  exact leafL (leafT (⟨!r4.1.sided, Option.some.inj h, S.fix [] [] (by decide) rfl rfl rfl⟩))

end Go.Proofs.YtoiehdlcfehmlaaDoor
