/- Several texts in one: SpS SpU SpV SpW SpX GTy SpO GOp KeA G37 G13 G49 -/
import Derived.WalkKit
import Derived.Maps.AppendAt
import Derived.Deep.AppendLies
import Derived.KernelRfl
import Derived.Laws.OwnMore
import Derived.Great.BuildSlice
import Derived.Orders
import Derived.Laws.StructEq
import Derived.ChangeKeysEq
import Derived.Defers
import Derived.Laws.BytesString
import Derived.RangeFuncNested
import Derived.RangeFuncBound
import Derived.RangeFuncCalls
import Derived.RangeFuncLeaves
import Derived.OrdersIn
import Derived.LoopNIn
import Derived.Test.YtmedbnjhgkcndaaDoorProg
import Derived.ProofKit
import Derived.OpenShut
import Derived.ChangeOld
import Derived.Deep.Slices
import Derived.Lib.SmallJoins
import Derived.JoinedOf
import Derived.JoinedAt
import Derived.Below
import Derived.Shelf.Strings.Builder1
import Derived.Shelf.Strings.Builder2
import Derived.Shelf.Strings.OnBuilder
import Derived.Test.YtmedbnjhgkcndaaDoorRows
import Derived.LaidMore
import Derived.SevenTiedAt
import Derived.Test.YtmedbnjhgkcndaaDoorCards
import Derived.Test.YtmedbnjhgkcndaaDoorTie
import Derived.Test.YtmedbnjhgkcndaaDoorMPieceGauge1
namespace Go.Proofs.YtmedbnjhgkcndaaDoor
open Go.RowKit
set_option linter.unusedVariables false

section
variable {P : Program}
/-- a loop's body over a list: .inl: on; .inr: left -/
def foldO {σ X τ : Type} (B : σ → X → Option (σ ⊕ τ)) : σ → List X → Option (σ ⊕ τ)
  | s, [] => some (.inl s)
  | s, x :: xs => (B s x).bind fun r => match r with | .inl s' => foldO B s' xs | .inr t => some (.inr t)
theorem foldO_snoc {σ X τ : Type} {B : σ → X → Option (σ ⊕ τ)} {s0 s : σ} {pre : List X} (h : foldO B s0 pre = some (.inl s)) (x : X) (xs : List X) : foldO B s0 (pre ++ x :: xs) = (B s x).bind fun r => match r with | .inl s' => foldO B s' xs | .inr t => some (.inr t) := by
  induction pre generalizing s0 with
  | nil => simp only [foldO, Option.some.injEq, Sum.inl.injEq] at h; subst h; rfl
  | cons y pre ih =>
    simp only [foldO, List.cons_append] at h ⊢
    cases hb : B s0 y with
    | none => rw [hb] at h; cases h
    | some r =>
      rw [hb] at h
      cases r with
      | inl s' => exact ih h
      | inr t => cases h
/-- a step of memory, seen by whoever does not own the blocks O, that are O' behind it: cells outside O stay -/
structure Turn (O O' : Nat → Prop) (w w' : World) : Prop where
  os : w'.os = w.os
  tape : w'.tape = w.tape
  output : w'.output = w.output
  size : w.heap.size ≤ w'.heap.size
  same : ∀ b, b < w.heap.size → ¬ O b → IsC w b → w'.heap[b]? = w.heap[b]?
  excl : ∀ b, b < w.heap.size → O' b → O b
theorem Turn.refl (O : Nat → Prop) (w : World) : Turn O O w w := ⟨rfl, rfl, rfl, Nat.le_refl _, fun _ _ _ _ => rfl, fun _ _ h => h⟩
theorem Turn.trans {O O' O'' : Nat → Prop} {a b c : World} (h : Turn O O' a b) (k : Turn O' O'' b c) : Turn O O'' a c := by
  refine ⟨k.os.trans h.os, k.tape.trans h.tape, k.output.trans h.output, Nat.le_trans h.size k.size, fun i hi hn hc => ?_, fun i hi ho => h.excl i hi (k.excl i (Nat.lt_of_lt_of_le hi h.size) ho)⟩
  have e := h.same i hi hn hc
  have hc2 : IsC b i := by obtain ⟨cs, T, m, h1⟩ := hc; exact ⟨cs, T, m, by rw [e]; exact h1⟩
  rw [k.same i (Nat.lt_of_lt_of_le hi h.size) (fun ho => hn (h.excl i hi ho)) hc2, e]
theorem Turn.of_chg {K : List Nat} {O O' : Nat → Prop} {w w' : World} (h : Chg K w w') (hK : ∀ b, b ∈ K → O b) (he : ∀ b, b < w.heap.size → O' b → O b) : Turn O O' w w' :=
  ⟨h.os, h.tape, h.output, h.size, fun b hb hn _ => h.block b hb (fun hk => hn (hK b hk)), he⟩
theorem Turn.putObj {O : Nat → Prop} {w : World} {l : Nat} {o : Obj} (o' : Obj) (hl : w.heap[l]? = some o) (ho : o.isCells = false) : Turn O O w (w.putObj l o') := by
  have hg := grownBy_putObj' w l o'
  refine ⟨hg.os, hg.tape, hg.output, hg.size, fun b hb _ hc => hg.block b hb (fun e => ?_), fun _ _ h => h⟩
  obtain ⟨cs, T, m, h1⟩ := hc
  cases e
  rw [hl] at h1
  cases h1
  simp [Obj.isCells] at ho
/-- what is known and what is owned, behind such a step -/
theorem St0.turn {O O' : Nat → Prop} {w w' : World} {D : List Fact} (S : St0 O [] w w [] D) (h : Turn O O' w w') (hb : ∀ b, O' b → b < w'.heap.size) : St0 O' [] w' w' [] D := by
  have hext : Ext (tot O []) (tot O' []) w w' := by
    refine ⟨h.size, fun b h1 h2 h3 => h.same b h1 (fun ho => h2 (.inl ho)) (isC_of_cell h3), fun b h1 h2 => ?_⟩
    rcases h2 with h2 | h2
    · exact .inl (h.excl b h1 h2)
    · simp [keysL] at h2
  exact ⟨Chg.refl _ _, fun e he => (by cases he), fun d hd => d.mono hext (S.fact d hd), by simp [keysL], fun b hb => (by simp [keysL] at hb), hb⟩
/-- an iterator's word: over the list xs, for whatever body; Dc: what it reads of memory. O: the blocks that the loop owns, which its rounds may change -/
def SeqX (P : Program) (gf : Nat) (lb : Array Value) {X : Type} (enc : X → Array Value) (xs : List X) (Dc : List Fact) : Prop :=
  ∀ (l : Nat) (J : List X → (Nat → Prop) → World → Prop) (Jx : World → Prop) (O : Nat → Prop) (W : World), (∀ pre O A B, J pre O A → Chg [] A B → J pre O B) → (∀ A B, Jx A → Chg [] A B → Jx B) → (∀ pre O A, J pre O A → ∀ b, O b → b < A.heap.size) → St0 O [] W W [] Dc →
    (∀ pre x O W1, (pre ++ [x]) <+: xs → J pre O W1 → YieldAt Fence.wide 0 P l (enc x) W1 fun e W' =>
      (e = .returned (.bool true) ∧ ∃ O', J (pre ++ [x]) O' W' ∧ Turn O O' W1 W') ∨ (e = .returned (.bool false) ∧ Jx W')) →
    J [] O W → CallsIn Fence.wide 1 P gf (#[.func (.yield l) #[] #[]] ++ lb) W fun e W' => (∃ v, e = .returned v) ∧ ((∃ O', J xs O' W') ∨ Jx W')
/-- how a round may end -/
def roundPost {X : Type} (I : List X × (Nat → Prop) → World → Prop) (Ix : Code → World → Prop) (xs : List X) (O : Nat → Prop) (W : World) : Exit → Act → World → Prop
  | .normal, _, W' => KeepsOthers W W' ∧ ∃ O', I (xs, O') W' ∧ Turn O O' W W'
  | .ret, _, W' => KeepsOthers W W' ∧ Ix .ret W'
  | .exit id, _, W' => KeepsOthers W W' ∧ Ix (.exit id) W'
  | _, _, _ => False
theorem roundPost_out {X : Type} (I : List X × (Nat → Prop) → World → Prop) (Ix : Code → World → Prop) (xs : List X) (O : Nat → Prop) (W : World) : ¬ LetsOut (roundPost I Ix xs O W) := fun ⟨_, _, h⟩ => h
theorem grown_of_chg {w w' : World} (h : Chg [] w w') : w.grownBy w' none := ⟨h.os, h.tape, h.output, h.size, fun k hk _ => h.block k hk (by simp)⟩
theorem sRangeW {X : Type} {g : Operand} {ps : Array Tmp} {assign body : Code} {Q : Exit → Act → World → Prop} {a : Act} {w : World} {gf : Nat} {lb : Array Value} (hg : a.eval g = .func (.func gf) #[] lb) (eg : ∀ args w, (callFunc gf args).run P w = .ok (.enter gf args) w)
    (enc : X → Array Value) (xs : List X) (Dc : List Fact) (hseq : SeqX P gf lb enc xs Dc) (hps : ∀ x, (enc x).size = ps.size) (O0 : Nat → Prop) (hd0 : ∀ d, d ∈ Dc → d.p O0 w) (hO0 : ∀ b, O0 b → b < w.heap.size)
    (I : List X × (Nat → Prop) → World → Prop) (I2 : List X × (Nat → Prop) × X × Act → World → Prop) (Ix : Code → World → Prop) (hI : OwnFrom w.heap.size I) (hI2 : OwnFrom w.heap.size I2) (hIx : OwnFrom w.heap.size Ix) (hIo : ∀ pre O A, I (pre, O) A → ∀ b, O b → b < A.heap.size) (h0 : I ([], O0) w)
    (hassign : ∀ (l : Nat) (pre : List X) (O : Nat → Prop) (x : X) (W : World), (pre ++ [x]) <+: xs → I (pre, O) W → assign.wpIn (zf (some l)) 0 P (Exit.then (fun a' W' => KeepsOthers W W' ∧ Turn O O W W' ∧ I2 (pre, O, x, a') W') (fun _ _ _ => False)) { tmps := (ps.zip (enc x)).foldl (fun t (p, v) => t.setIfInBounds p v) a.tmps, defers := [] } W)
    (hbody : ∀ (l : Nat) (pre : List X) (O : Nat → Prop) (x : X) (a' : Act) (W : World), (pre ++ [x]) <+: xs → I2 (pre, O, x, a') W → body.wpIn (zf (some l)) 0 P (roundPost I Ix (pre ++ [x]) O W) a' W)
    (hdone : ∀ (D : Nat) (O : Nat → Prop) (W : World), w.heap.size ≤ D → I (xs, O) W → W.heap[D]? = some (.deferred (some [])) → Q .normal { a with defers := { target := .collected D, args := #[] } :: a.defers } W)
    (hstop : ∀ (D : Nat) (c : Code) (W : World), w.heap.size ≤ D → Ix c W → W.heap[D]? = some (.deferred (some [])) → c.wp P Q { a with defers := { target := .collected D, args := #[] } :: a.defers } W) :
    (Code.rangeFunc g ps assign body).wp P Q a w := by
  refine (wpIn_wide (n := 2)).1 (wpIn_rangeFunc fun fn hfn => ?_)
  -- the loop's record, and the block of what its rounds defer
  let rc : LoopState → Option Code → Loop := fun st pe => { state := st, pending := pe, fn, tmps := a.tmps, params := ps, assign, body, defers := w.heap.size }
  obtain ⟨W1, hW1⟩ : ∃ W1, (w.alloc (.deferred (some []))).alloc (.loop (rc .ready none)) = W1 := ⟨_, rfl⟩
  have hL1 : W1.heap[w.heap.size + 1]? = some (.loop (rc .ready none)) := by
    have := World.alloc_heap_new (w.alloc (.deferred (some []))) (.loop (rc .ready none))
    rw [World.size_alloc, hW1] at this
    exact this
  have hK1 : W1.heap[w.heap.size]? = some (.deferred (some [])) := by
    have := World.alloc_heap_new w (.deferred (some []))
    rw [← hW1]
    exact (Below.heap_alloc _ _ _ (by simp)).trans this
  have hI1 : I ([], O0) W1 := hW1 ▸ hI.alloc _ (hI.alloc _ h0)
  have hz1 : w.heap.size + 2 = W1.heap.size := by rw [← hW1]; simp
  have hc1 : Chg [] w W1 := by
    rw [← hW1]
    exact (Chg.alloc [] w _).trans (Chg.alloc [] _ _) (fun j hj => by cases hj)
  have hS1 : St0 O0 [] W1 W1 [] Dc := by
    have hext : Ext O0 (tot O0 []) w W1 := ⟨hc1.size, fun b hb _ _ => hc1.block b hb (by simp), fun b _ h => by
      rcases h with h | h
      · exact h
      · simp [keysL] at h⟩
    exact ⟨Chg.refl _ _, fun e he => (by cases he), fun d hd => d.mono hext (hd0 d hd), by simp [keysL], fun b hb => (by simp [keysL] at hb), fun b hb => Nat.lt_of_lt_of_le (hO0 b hb) hc1.size⟩
  refine ⟨w.heap.size + 1, [{ target := .collected w.heap.size, args := #[] }], W1, { target := .fn (.func gf) lb, args := #[.func (.yield (w.heap.size + 1)) #[] #[]] }, W1, gf, #[.func (.yield (w.heap.size + 1)) #[] #[]] ++ lb, W1, ?_, ?_, ?_, ?_, fun h => by simp [Fence.wide] at h, ?_⟩
  · rw [← hW1]; exact run_enterLoop_outer _ _ _ _ _
  · simp only [resolve, hg]
    simp [go_sem]
  · intro f' _; trivial
  · simp [invoke, go_sem, eg]
  have keep : ∀ {A B : World} {k : Nat} {o : Obj}, Chg [] A B → A.heap[k]? = some o → B.heap[k]? = some o :=
    fun hc hk => (hc.block _ (Array.getElem?_eq_some_iff.1 hk).1 (by simp)).trans hk
  refine (hseq (w.heap.size + 1)
    (fun pre O W => I (pre, O) W ∧ W.heap[w.heap.size + 1]? = some (.loop (rc .ready none)) ∧ W.heap[w.heap.size]? = some (.deferred (some [])))
    (fun W => ∃ c, Ix c W ∧ W.heap[w.heap.size + 1]? = some (.loop (rc .done (some c))) ∧ W.heap[w.heap.size]? = some (.deferred (some []))) O0 W1
    (fun pre O A B hs hc => ⟨hI _ A B none hs.1 (grown_of_chg hc) (fun r e => by cases e), keep hc hs.2.1, keep hc hs.2.2⟩)
    (fun A B hs hc => by
      obtain ⟨c, h1, h2, h3⟩ := hs
      exact ⟨c, hIx c A B none h1 (grown_of_chg hc) (fun r e => by cases e), keep hc h2, keep hc h3⟩)
    (fun pre O A hs => hIo pre O A hs.1) hS1 ?_ ⟨hI1, hL1, hK1⟩).mono ?_
  · rintro pre x O W hpre ⟨hi, hl, hk⟩
    have hy := run_yield (P := P) (args := enc x) hl (hps x)
    refine ⟨fn, _, assign, body, hy, roundIn_of_wpIn hfn (wpIn_mono (hassign _ pre O x W hpre hi) fun e a' Wa he => ?_)⟩
    cases e with
    | exit id => exact he.elim
    | goto t => exact he.elim
    | ret => exact he.elim
    | panic ch => exact he.elim
    | outgrown => exact he.elim
    | normal =>
    obtain ⟨hka, hta, hia⟩ := he
    have hla := hka.same _ _ hl rfl
    have hkk := hka.same _ _ hk rfl
    have hlt : w.heap.size + 1 < Wa.heap.size := (Array.getElem?_eq_some_iff.1 hla).1
    refine ⟨_, run_beginRound hla rfl, ?_⟩
    obtain ⟨Wb, hWb⟩ : ∃ Wb, Wa.putObj (w.heap.size + 1) (.loop { rc .ready none with state := .busy }) = Wb := ⟨_, rfl⟩
    have hl2 : Wb.heap[w.heap.size + 1]? = some (.loop { rc .ready none with state := .busy }) := hWb ▸ World.putObj_heap_same hlt
    have hk2 : Wb.heap[w.heap.size]? = some (.deferred (some [])) := hWb ▸ (World.putObj_heap_other (by omega)).trans hkk
    have hi2 : I2 (pre, O, x, a') Wb := hWb ▸ hI2.putObj _ hia (by omega) hla rfl
    have htb : Turn O O W Wb := hta.trans (hWb ▸ Turn.putObj _ hla rfl)
    rw [hWb]
    refine wpIn_mono (hbody _ pre O x a' _ hpre hi2) ?_
    have fin : ∀ (jump : Option Code) (W3 : World), KeepsOthers Wb W3 → ∃ W4, (Instr.endRound (w.heap.size + 1) jump).run P W3 = .ok (.bool jump.isNone) W4 ∧ W4 = W3.putObj (w.heap.size + 1) (.loop (rc (if jump.isNone then .ready else .done) jump)) ∧
        W3.heap[w.heap.size + 1]? = some (.loop { rc .ready none with state := .busy }) ∧ W4.heap[w.heap.size + 1]? = some (.loop (rc (if jump.isNone then .ready else .done) jump)) ∧ W4.heap[w.heap.size]? = some (.deferred (some [])) := fun jump W3 hk3 => by
      have hl3 := hk3.same _ _ hl2 rfl
      exact ⟨_, run_endRound (P := P) jump hl3, rfl, hl3, World.putObj_heap_same (Array.getElem?_eq_some_iff.1 hl3).1, (World.putObj_heap_other (by omega)).trans (hk3.same _ _ hk2 rfl)⟩
    rintro e a3 W3 hp
    cases e with
    | normal =>
      obtain ⟨hk3, O', hi3, ht3⟩ := hp
      obtain ⟨W4, hr, rfl, hl3, hl4, hk4⟩ := fin none W3 hk3
      exact ⟨_, _, hr, .inl ⟨rfl, O', ⟨hI.putObj _ hi3 (by omega) hl3 rfl, hl4, hk4⟩, (htb.trans ht3).trans (Turn.putObj _ hl3 rfl)⟩⟩
    | ret =>
      obtain ⟨hk3, hi3⟩ := hp
      obtain ⟨W4, hr, rfl, hl3, hl4, hk4⟩ := fin (some .ret) W3 hk3
      exact ⟨_, _, hr, .inr ⟨rfl, .ret, hIx.putObj _ hi3 (by omega) hl3 rfl, hl4, hk4⟩⟩
    | exit id =>
      obtain ⟨hk3, hi3⟩ := hp
      obtain ⟨W4, hr, rfl, hl3, hl4, hk4⟩ := fin (some (.exit id)) W3 hk3
      exact ⟨_, _, hr, .inr ⟨rfl, .exit id, hIx.putObj _ hi3 (by omega) hl3 rfl, hl4, hk4⟩⟩
    | goto t => exact hp.elim
    | panic ch => exact hp.elim
    | outgrown => exact hp.elim
  · rintro e W2 ⟨⟨v, rfl⟩, (⟨O', hi, hl, hk⟩ | ⟨c, hi, hl, hk⟩)⟩
    · exact ⟨none, _, run_endLoop (P := P) hl (by simp [rc]), hdone _ _ _ (Nat.le_refl _) (hI.putObj _ hi (by omega) hl rfl) ((World.putObj_heap_other (by omega)).trans hk)⟩
    · exact ⟨some c, _, run_endLoop (P := P) hl (by simp [rc]), wpIn_wide.2 (hstop _ c _ (Nat.le_refl _) (hIx.putObj _ hi (by omega) hl rfl) ((World.putObj_heap_other (by omega)).trans hk))⟩
end
section
variable {P : Program} {dq : List Deferred} {E : Nat → Prop} {M : List Nat} {w0 : World} {n : Nat} {a : Act} {w : World} {F : List (Nat × Value)} {L : List Ent} {D : List Fact} {Q : Exit → Act → World → Prop} {l : Option Nat}
theorem sLoopR {σ τ : Type} {c : Code} {B : σ → Option (σ ⊕ τ)} {s : σ} {t : τ} (hw : whileO B s = some t) (I : σ → Act → World → Prop) (h0 : I s a w)
    (round : ∀ s a w r, I s a w → B s = some r → (∀ u, r = .inr u → u = t) → c.wpIn (zf l) 0 P (Exit.then (fun a' w' => ∃ s', r = .inl s' ∧ I s' a' w') Q) a w) : (Code.loop c).wpIn (zf l) 0 P Q a w := by
  obtain ⟨m, hm⟩ := whileO_some hw
  clear hw
  refine wpIn_loop_rounds m ?_
  induction m generalizing s a w with
  | zero => simp [iterO] at hm
  | succ m ih =>
    rw [iterO] at hm
    obtain ⟨r, hr, hm⟩ := bindSome hm
    refine wpIn_mono (round s a w r h0 hr (by rintro u rfl; simpa using hm)) fun e a' w' hq => ?_
    cases e with
    | normal =>
      obtain ⟨s', rfl, hI⟩ := hq
      exact ih hI hm
    | exit id => exact hq
    | goto l => exact hq
    | ret => exact hq
    | panic ch => exact hq
    | outgrown => exact hq
/-- a call of the loop's own function: a round -/
theorem sYield {ops : Array Oper} {rest : List Oper} {o : Oper} {d : Nat} {y : Nat} {fo : Operand} {args : List Operand} {ts : Array TypeId} {vs : List Value} {T U : World → Prop} (S : St [] E M w0 n a w F L D)
    (hw : ∀ a, Frm [] n a F → Region.wanted o (yielded ops a.tmps) = true) (ho : o.op = .call { callee := .value fo, args := args.toArray, argTypes := ts }) (hf : lookO F fo = some (.func (.yield y) #[] #[])) (hvs : args.map (lookO F) = vs.map some) (hd : o.dst = some d) (hn : d < n)
    (hY : YieldAt Fence.wide 0 P y vs.toArray w fun e W' => (e = .returned (.bool true) ∧ T W') ∨ (e = .returned (.bool false) ∧ U W'))
    (kT : ∀ a' w', Frm [] n a' ((d, .bool true) :: F) → T w' → wpListIn (zf none) 0 P ops Q rest a' w') (kF : ∀ a' w', Frm [] n a' ((d, .bool false) :: F) → U w' → wpListIn (zf none) 0 P ops Q rest a' w') : wpListIn (zf none) 0 P ops Q (o :: rest) a w := by
  obtain ⟨fn, tmps, assign, body, hy, hR⟩ := hY
  unfold wpListIn
  rw [if_pos (hw a S.frm)]
  refine ⟨fun _ _ => trivial, ?_⟩
  have hev := lookO_map S.frm hvs
  have hrun : (execOp a.eval o).run P w = .ok (.round y fn tmps assign body) w := by
    unfold execOp
    simp only [ho, resolve, S.frm.eval hf, Deferred.ofValue, Sem.run_bind, Sem.run_pure, Result.andThen_ok, invoke]
    simpa [hev] using hy
  show o.uponIn _ 0 P a _ Q ((execOp a.eval o).run P w)
  rw [hrun, Oper.uponIn_round]
  refine ⟨fun h => by simp [zf, Fence.wide] at h, hR.mono fun e w' he => ?_⟩
  rcases he with ⟨rfl, h⟩ | ⟨rfl, h⟩
  · show wpListIn _ _ _ _ _ _ (a.put o.dst _) w'
    rw [hd]
    exact kT _ _ (S.frm.put hn _) h
  · show wpListIn _ _ _ _ _ _ (a.put o.dst _) w'
    rw [hd]
    exact kF _ _ (S.frm.put hn _) h
end

end Go.Proofs.YtmedbnjhgkcndaaDoor
namespace Go.Proofs.YtmedbnjhgkcndaaDoor
open Go.RowKit
set_option linter.unusedVariables false

section
variable {P : Program}
theorem lo_then {K : Act → World → Prop} {Q : Exit → Act → World → Prop} (h : ¬ LetsOut Q) : ¬ LetsOut (Exit.then K Q) := fun ⟨a, w, q⟩ => h ⟨a, w, q⟩
theorem lo_block {id : Nat} {Q : Exit → Act → World → Prop} (h : ¬ LetsOut Q) : ¬ LetsOut (Exit.inBlock id Q) := fun ⟨a, w, q⟩ => h ⟨a, w, q⟩
/-- what a round is handed -/
def fA1 {α : Type} (r : R α) (x : α) (vs : Array Value) : Fact := ⟨fun E w => ∃ v, vs = #[v] ∧ r.rep E w v x, fun h ⟨v, e, k⟩ => ⟨v, e, r.mono h k⟩⟩
def fA2 {α β : Type} (r : R α) (q : R β) (x : α × β) (vs : Array Value) : Fact := ⟨fun E w => ∃ v u, vs = #[v, u] ∧ r.rep E w v x.1 ∧ q.rep E w u x.2, fun h ⟨v, u, e, k1, k2⟩ => ⟨v, u, e, r.mono h k1, q.mono h k2⟩⟩
/-- the block of what a loop's rounds defer: nothing -/
def eDef (b : Nat) : Ent where
  keys := [b]
  p := fun _ w => w.heap[b]? = some (.deferred (some []))
  mono := fun _ hs h => by rw [hs b (by simp)]; exact h
  lt := fun h k hk => by
    simp at hk; subst hk
    exact (Array.getElem?_eq_some_iff.1 h).1
def mark (b : Nat) : Deferred := { target := .collected b, args := #[] }
/-- an iterator's word: what it reckons, it does with whatever body -/
def SeqF (P : Program) (gf : Nat) (lb : Array Value) {X : Type} (FX : X → Array Value → Fact) (I : ∀ (σ τ : Type), (σ → X → Option (σ ⊕ τ)) → σ → Option (σ ⊕ τ)) (Dc : List Fact) : Prop :=
  ∀ (σ τ : Type) (B : σ → X → Option (σ ⊕ τ)) (s0 : σ) (r : σ ⊕ τ), I σ τ B s0 = some r →
  ∀ (l : Nat) (J : σ → (Nat → Prop) → World → Prop) (Jx : τ → World → Prop) (O : Nat → Prop) (W : World),
    (∀ s O A B, J s O A → Chg [] A B → J s O B) → (∀ t A B, Jx t A → Chg [] A B → Jx t B) → (∀ s O A, J s O A → ∀ b, O b → b < A.heap.size) → St0 O [] W W [] Dc →
    (∀ s x vs b O W1, B s x = some b → (FX x vs).p O W1 → J s O W1 → YieldAt Fence.wide 0 P l vs W1 fun e W' =>
      (e = .returned (.bool true) ∧ ∃ s' O', b = .inl s' ∧ J s' O' W' ∧ Turn O O' W1 W') ∨ (e = .returned (.bool false) ∧ ∃ t, b = .inr t ∧ Jx t W')) →
    J s0 O W → CallsIn Fence.wide 1 P gf (#[.func (.yield l) #[] #[]] ++ lb) W fun e W' => (∃ v, e = .returned v) ∧ ((∃ s O', r = .inl s ∧ J s O' W') ∨ ∃ t, r = .inr t ∧ Jx t W')
theorem St0.putL {E : Nat → Prop} {M : List Nat} {w0 w : World} {L : List Ent} {D : List Fact} (S : St0 E M w0 w L D) {l : Nat} {o : Obj} (o' : Obj) (hl : w.heap[l]? = some o) (ho : o.isCells = false) (hm : w0.heap.size ≤ l) (hk : l ∉ keysL L) : St0 E M w0 (w.putObj l o') L D := by
  have hg := grownBy_putObj' w l o'
  have hsame : ∀ b, b < w.heap.size → b ≠ l → (w.putObj l o').heap[b]? = w.heap[b]? := fun b hb hn => hg.block b hb (fun e => hn (by cases e; rfl))
  have hext : Ext (tot E L) (tot E L) w (w.putObj l o') := by
    refine ⟨hg.size, fun b h1 _ h3 => hsame b h1 (fun e => ?_), fun b _ h => h⟩
    subst e
    obtain ⟨cs, T, m, h1⟩ := isC_of_cell h3
    rw [hl] at h1
    cases h1
    simp [Obj.isCells] at ho
  refine ⟨S.chg.trans (K' := [l]) (Chg.grown hg (fun k e => by cases e; simp)) (fun j hj => ?_), fun e he => e.mono hext (fun b h => hsame b (S.lt b (keysL_mem.2 ⟨e, he, h⟩)) (fun e' => hk (e' ▸ keysL_mem.2 ⟨e, he, h⟩))) (S.ent e he), fun d hd => d.mono hext (S.fact d hd), S.nodup, S.key, S.bnd⟩
  simp at hj
  subst hj
  exact .inr hm
/-- how a round may end -/
def roundU {σ τ : Type} (E : Nat → Prop) (n : Nat) (IL : σ → List Ent → List Fact → Prop) (IX : τ → Code → List Ent → List Fact → Prop) (b : σ ⊕ τ) (K : List Nat) (W : World) : Exit → Act → World → Prop
  | .normal, a, W' => ∃ s' L' D' F', b = .inl s' ∧ IL s' L' D' ∧ St [] E K W n a W' F' L' D'
  | .ret, a, W' => ∃ t L' D' F', b = .inr t ∧ IX t .ret L' D' ∧ St [] E K W n a W' F' L' D'
  | .exit id, a, W' => ∃ t L' D' F', b = .inr t ∧ IX t (.exit id) L' D' ∧ St [] E K W n a W' F' L' D'
  | _, _, _ => False
theorem roundU_out {σ τ : Type} {E : Nat → Prop} {n : Nat} {IL : σ → List Ent → List Fact → Prop} {IX : τ → Code → List Ent → List Fact → Prop} {b : σ ⊕ τ} {K : List Nat} {W : World} : ¬ LetsOut (roundU E n IL IX b K W) := fun ⟨_, _, h⟩ => h
/-- behind the assignment of the loop's variables: the body's walk -/
def roundK {σ τ : Type} (P : Program) (l : Nat) (body : Code) (E : Nat → Prop) (n : Nat) (IL : σ → List Ent → List Fact → Prop) (IX : τ → Code → List Ent → List Fact → Prop) (b : σ ⊕ τ) (K : List Nat) (W : World) (a : Act) (W' : World) : Prop :=
  ∃ La Da Fa, St [] E K W n a W' Fa La Da ∧ ∀ K' a Wb, K' = keysL La → St [] E K' Wb n a Wb Fa La Da → body.wpIn (zf (some l)) 0 P (roundU E n IL IX b K' Wb) a Wb
theorem sRange {σ τ X : Type} {g : Operand} {ps : Array Tmp} {assign body : Code} {Q : Exit → Act → World → Prop} {dq : List Deferred} {E : Nat → Prop} {M : List Nat} {w0 w : World} {n : Nat} {a : Act} {F : List (Nat × Value)} {L : List Ent} {D : List Fact} {gf : Nat} {lb : List Value}
    {FX : X → Array Value → Fact} {I : ∀ (σ τ : Type), (σ → X → Option (σ ⊕ τ)) → σ → Option (σ ⊕ τ)} {Dc : List Fact} {B : σ → X → Option (σ ⊕ τ)} {s0 : σ} {r : σ ⊕ τ}
    (IL : σ → List Ent → List Fact → Prop) (IX : τ → Code → List Ent → List Fact → Prop) (js : List Nat) (S : St dq E M w0 n a w F L D) (h : I σ τ B s0 = some r) (hg : lookO F g = some (.func (.func gf) #[] lb.toArray)) (eg : ∀ args w, (callFunc gf args).run P w = .ok (.enter gf args) w)
    (hseq : SeqF P gf lb.toArray FX I Dc) (hDc : js.map (fun i => D[i]?) = Dc.map some) (hps : ∀ x vs E w, (FX x vs).p E w → vs.size = ps.size) (h0 : IL s0 L D)
    (hround : ∀ (E : Nat → Prop) (l : Nat) (s : σ) (x : X) (vs : Array Value) (b : σ ⊕ τ) (L : List Ent) (D : List Fact) (K : List Nat) (W : World), K = keysL L → IL s L D → B s x = some b → St0 E K W W L (FX x vs :: D) →
      assign.wpIn (zf (some l)) 0 P (Exit.then (roundK P l body E n IL IX b K W) (fun _ _ _ => False)) { tmps := (ps.zip vs).foldl (fun t (p, v) => t.setIfInBounds p v) a.tmps, defers := [] } W)
    (hdone : ∀ (Dk : Nat) (s : σ) (L : List Ent) (D : List Fact) (a : Act) (W : World), r = .inl s → IL s L D → St (mark Dk :: dq) E M w0 n a W F (L ++ [eDef Dk]) D → Q .normal a W)
    (hstop : ∀ (Dk : Nat) (c : Code) (t : τ) (L : List Ent) (D : List Fact) (a : Act) (W : World), r = .inr t → IX t c L D → St (mark Dk :: dq) E M w0 n a W F (L ++ [eDef Dk]) D → c.wp P Q a W) :
    (Code.rangeFunc g ps assign body).wp P Q a w := by
  refine (wpIn_wide (n := 2)).1 (wpIn_rangeFunc fun fn hfn => ?_)
  let rc : LoopState → Option Code → Loop := fun st pe => { state := st, pending := pe, fn, tmps := a.tmps, params := ps, assign, body, defers := w.heap.size }
  obtain ⟨W1, hW1⟩ : ∃ W1, (w.alloc (.deferred (some []))).alloc (.loop (rc .ready none)) = W1 := ⟨_, rfl⟩
  obtain ⟨Dk, hDk⟩ : ∃ Dk, w.heap.size = Dk := ⟨_, rfl⟩
  have hL1 : W1.heap[Dk + 1]? = some (.loop (rc .ready none)) := by
    have := World.alloc_heap_new (w.alloc (.deferred (some []))) (.loop (rc .ready none))
    rw [World.size_alloc, hW1, hDk] at this
    exact this
  have hK1 : W1.heap[Dk]? = some (.deferred (some [])) := by
    have := World.alloc_heap_new w (.deferred (some []))
    rw [← hW1, ← hDk]
    exact (Below.heap_alloc _ _ _ (by simp)).trans this
  have hz1 : Dk + 2 = W1.heap.size := by rw [← hW1, ← hDk]; simp
  have hc1 : Chg [] w W1 := by
    rw [← hW1]
    exact (Chg.alloc [] w _).trans (Chg.alloc [] _ _) (fun j hj => by cases hj)
  have hw0 : w0.heap.size ≤ Dk := hDk ▸ S.mem.chg.size
  -- the deferred block is owned from here on
  have hS1 : St0 E M w0 W1 (L ++ [eDef Dk]) D := by
    have hT : ∀ b, b < w.heap.size → tot E (L ++ [eDef Dk]) b → tot E L b := by
      intro b hb h
      rcases h with h | h
      · exact .inl h
      · rw [keysL_append, List.mem_append] at h
        rcases h with h | h
        · exact .inr h
        · simp [keysL, eDef] at h; omega
    have hext : Ext (tot E L) (tot E (L ++ [eDef Dk])) w W1 := ⟨hc1.size, fun b hb _ _ => hc1.block b hb (by simp), hT⟩
    refine ⟨S.mem.chg.trans hc1 (fun j hj => by cases hj), fun e he => ?_, fun d hd => d.mono hext (S.mem.fact d hd), ?_, fun b hb => ?_, S.mem.bnd⟩
    · rcases List.mem_append.1 he with he | he
      · exact e.mono hext (fun b hb => hc1.block b (S.mem.lt b (keysL_mem.2 ⟨e, he, hb⟩)) (by simp)) (S.mem.ent e he)
      · simp at he; subst he; exact hK1
    · rw [keysL_append, List.nodup_append]
      refine ⟨S.mem.nodup, by simp [keysL, eDef], fun b hb c hc e => ?_⟩
      have := S.mem.lt b hb
      simp [keysL, eDef] at hc
      omega
    · rw [keysL_append, List.mem_append] at hb
      rcases hb with hb | hb
      · exact S.mem.key b hb
      · simp [keysL, eDef] at hb
        subst hb
        exact ⟨.inl hw0, fun h => by have := S.mem.bnd _ h; omega⟩
  have hDmem : ∀ d, d ∈ Dc → d ∈ D := getList_mem hDc
  have hSeq0 : St0 (tot E (L ++ [eDef Dk])) [] W1 W1 [] Dc := by
    refine ⟨Chg.refl _ _, fun e he => (by cases he), fun d hd => ?_, by simp [keysL], fun b hb => (by simp [keysL] at hb), fun b hb => ?_⟩
    · refine d.mono ?_ (hS1.fact d (hDmem d hd))
      exact ⟨Nat.le_refl _, fun _ _ _ _ => rfl, fun b _ h => by
        rcases h with h | h
        · exact h
        · simp [keysL] at h⟩
    · rcases hb with hb | hb
      · exact Nat.lt_of_lt_of_le (hS1.bnd b hb) hS1.chg.size
      · exact hS1.lt b hb
  refine ⟨Dk + 1, [mark Dk], W1, { target := .fn (.func gf) lb.toArray, args := #[.func (.yield (Dk + 1)) #[] #[]] }, W1, gf, #[.func (.yield (Dk + 1)) #[] #[]] ++ lb.toArray, W1, ?_, ?_, ?_, ?_, fun h => by simp [Fence.wide] at h, ?_⟩
  · rw [← hW1, ← hDk]; exact run_enterLoop_outer _ _ _ _ _
  · simp only [resolve, S.frm.eval hg]
    simp [go_sem]
  · intro f' _; trivial
  · simp [invoke, go_sem, eg]
  have keep : ∀ {A B : World} {k : Nat} {o : Obj}, Chg [] A B → A.heap[k]? = some o → B.heap[k]? = some o :=
    fun hc hk => (hc.block _ (Array.getElem?_eq_some_iff.1 hk).1 (by simp)).trans hk
  refine (hseq σ τ B s0 r h (Dk + 1)
    (fun s O W => (∃ L D, IL s L D ∧ St0 E M w0 W (L ++ [eDef Dk]) D ∧ O = tot E (L ++ [eDef Dk]) ∧ Dk + 1 ∉ keysL L) ∧ W.heap[Dk + 1]? = some (.loop (rc .ready none)))
    (fun t W => ∃ c, (∃ L D, IX t c L D ∧ St0 E M w0 W (L ++ [eDef Dk]) D ∧ Dk + 1 ∉ keysL L) ∧ W.heap[Dk + 1]? = some (.loop (rc .done (some c)))) (tot E (L ++ [eDef Dk])) W1
    ?_ ?_ ?_ hSeq0 ?_ ⟨⟨L, D, h0, hS1, rfl, fun hb => ?_⟩, hL1⟩).mono ?_
  · rintro s O A B ⟨⟨L, D, h1, h2, h3, h4⟩, h5⟩ hc
    exact ⟨⟨L, D, h1, h2.calm hc, h3, h4⟩, keep hc h5⟩
  · rintro t A B ⟨c, ⟨L, D, h1, h2, h4⟩, h5⟩ hc
    exact ⟨c, ⟨L, D, h1, h2.calm hc, h4⟩, keep hc h5⟩
  · rintro s O A ⟨⟨L, D, h1, h2, rfl, h4⟩, h5⟩ b hb
    rcases hb with hb | hb
    · exact Nat.lt_of_lt_of_le (h2.bnd b hb) h2.chg.size
    · exact h2.lt b hb
  · rintro s x vs b O W hb hfx ⟨⟨L, D, hIL, hS, rfl, hnl⟩, hl⟩
    have hy := run_yield (P := P) (args := vs) hl (hps x vs _ _ hfx)
    have hSx : St0 E M w0 W (L ++ [eDef Dk]) (FX x vs :: D) := hS.learn (FX x vs) hfx
    have hSr : St0 (tot E [eDef Dk]) (keysL L) W W L (FX x vs :: D) := hSx.enter (fun _ h => h)
    refine ⟨fn, _, assign, body, hy, roundIn_of_wpIn hfn (wpIn_mono (hround _ (Dk + 1) s x vs b L D _ W rfl hIL hb hSr) fun e a' Wa he => ?_)⟩
    cases e with
    | exit id => exact he.elim
    | goto t => exact he.elim
    | ret => exact he.elim
    | panic ch => exact he.elim
    | outgrown => exact he.elim
    | normal =>
    obtain ⟨La, Da, Fa, hSa, hbody⟩ := he
    have hlW : Dk + 1 < W.heap.size := (Array.getElem?_eq_some_iff.1 hl).1
    have hla : Wa.heap[Dk + 1]? = some (.loop (rc .ready none)) := (hSa.mem.chg.block _ hlW hnl).trans hl
    have hnla : Dk + 1 ∉ keysL La := fun hm => by
      rcases (hSa.mem.key _ hm).1 with h1 | h1
      · omega
      · exact hnl h1
    have hga : St0 E M w0 Wa (La ++ [eDef Dk]) (Da ++ (FX x vs :: D)) := hSx.upd hSa.mem.chg La Da hSa.mem
    refine ⟨_, run_beginRound hla rfl, ?_⟩
    obtain ⟨Wb, hWb⟩ : ∃ Wb, Wa.putObj (Dk + 1) (.loop { rc .ready none with state := .busy }) = Wb := ⟨_, rfl⟩
    have hl2 : Wb.heap[Dk + 1]? = some (.loop { rc .ready none with state := .busy }) := hWb ▸ World.putObj_heap_same (Array.getElem?_eq_some_iff.1 hla).1
    have hnk : Dk + 1 ∉ keysL (La ++ [eDef Dk]) := by
      rw [keysL_append, List.mem_append]
      rintro (h1 | h1)
      · exact hnla h1
      · simp [keysL, eDef] at h1
    have hgb : St0 E M w0 Wb (La ++ [eDef Dk]) (Da ++ (FX x vs :: D)) := hWb ▸ hga.putL _ hla rfl (by omega) hnk
    have hSb : St0 (tot E [eDef Dk]) (keysL La) Wb Wb La Da := hgb.enter (fun _ h => List.mem_append_left _ h)
    have htot : ∀ (A B : World), Chg (keysL L) W A → A = B → (∀ b, b ∈ keysL La → W.heap.size ≤ b ∨ b ∈ keysL L) → Turn (tot E (L ++ [eDef Dk])) (tot E (La ++ [eDef Dk])) W B := by
      rintro A _ hc rfl hk
      refine Turn.of_chg hc (fun b hb => .inr (by rw [keysL_append]; exact List.mem_append_left _ hb)) (fun b hb ho => ?_)
      rcases ho with ho | ho
      · exact .inl ho
      · rw [keysL_append, List.mem_append] at ho
        rcases ho with ho | ho
        · rcases hk b ho with h1 | h1
          · omega
          · exact .inr (by rw [keysL_append]; exact List.mem_append_left _ h1)
        · exact .inr (by rw [keysL_append]; exact List.mem_append_right _ ho)
    have hta : Turn (tot E (L ++ [eDef Dk])) (tot E (La ++ [eDef Dk])) W Wa := htot _ _ hSa.mem.chg rfl (fun b hb => (hSa.mem.key b hb).1)
    have htb : Turn (tot E (L ++ [eDef Dk])) (tot E (La ++ [eDef Dk])) W Wb := hta.trans (hWb ▸ Turn.putObj _ hla rfl)
    rw [hWb]
    refine wpIn_mono (hbody _ _ Wb rfl ⟨hSa.frm, hSb⟩) ?_
    have hlb : Dk + 1 < Wb.heap.size := (Array.getElem?_eq_some_iff.1 hl2).1
    -- the end of a round, whatever way
    have fin : ∀ (jump : Option Code) (a3 : Act) (W3 : World) (F' : List (Nat × Value)) (L' : List Ent) (D' : List Fact), St [] (tot E [eDef Dk]) (keysL La) Wb n a3 W3 F' L' D' →
        ∃ W4, (Instr.endRound (Dk + 1) jump).run P W3 = .ok (.bool jump.isNone) W4 ∧ St0 E M w0 W4 (L' ++ [eDef Dk]) D' ∧ W4.heap[Dk + 1]? = some (.loop (rc (if jump.isNone then .ready else .done) jump)) ∧ Dk + 1 ∉ keysL L' ∧ Turn (tot E (La ++ [eDef Dk])) (tot E (L' ++ [eDef Dk])) Wb W4 := by
      intro jump a3 W3 F' L' D' S3
      have hl3 : W3.heap[Dk + 1]? = some (.loop { rc .ready none with state := .busy }) := (S3.mem.chg.block _ hlb hnla).trans hl2
      have hn3 : Dk + 1 ∉ keysL L' := fun hm => by
        rcases (S3.mem.key _ hm).1 with h1 | h1
        · omega
        · exact hnla h1
      have hn3' : Dk + 1 ∉ keysL (L' ++ [eDef Dk]) := by
        rw [keysL_append, List.mem_append]
        rintro (h1 | h1)
        · exact hn3 h1
        · simp [keysL, eDef] at h1
      have hg3 : St0 E M w0 W3 (L' ++ [eDef Dk]) (D' ++ (Da ++ (FX x vs :: D))) := hgb.upd S3.mem.chg L' D' S3.mem
      have hg3' : St0 E M w0 W3 (L' ++ [eDef Dk]) D' := hg3.sub (fun _ h => h) hg3.nodup (fun _ h => List.mem_append_left _ h)
      have ht3 : Turn (tot E (La ++ [eDef Dk])) (tot E (L' ++ [eDef Dk])) Wb W3 := by
        refine Turn.of_chg S3.mem.chg (fun b hb => .inr (by rw [keysL_append]; exact List.mem_append_left _ hb)) (fun b hb ho => ?_)
        rcases ho with ho | ho
        · exact .inl ho
        · rw [keysL_append, List.mem_append] at ho
          rcases ho with ho | ho
          · rcases (S3.mem.key b ho).1 with h1 | h1
            · omega
            · exact .inr (by rw [keysL_append]; exact List.mem_append_left _ h1)
          · exact .inr (by rw [keysL_append]; exact List.mem_append_right _ ho)
      exact ⟨_, run_endRound (P := P) jump hl3, hg3'.putL _ hl3 rfl (by omega) hn3', World.putObj_heap_same (Array.getElem?_eq_some_iff.1 hl3).1, hn3, ht3.trans (Turn.putObj _ hl3 rfl)⟩
    rintro e a3 W3 hp
    cases e with
    | normal =>
      obtain ⟨s', L', D', F', rfl, hi, S3⟩ := hp
      obtain ⟨W4, hr, hS4, hl4, hn4, ht4⟩ := fin none a3 W3 F' L' D' S3
      exact ⟨_, _, hr, .inl ⟨rfl, s', _, rfl, ⟨⟨L', D', hi, hS4, rfl, hn4⟩, hl4⟩, htb.trans ht4⟩⟩
    | ret =>
      obtain ⟨t, L', D', F', rfl, hi, S3⟩ := hp
      obtain ⟨W4, hr, hS4, hl4, hn4, ht4⟩ := fin (some .ret) a3 W3 F' L' D' S3
      exact ⟨_, _, hr, .inr ⟨rfl, t, rfl, .ret, ⟨L', D', hi, hS4, hn4⟩, hl4⟩⟩
    | exit id =>
      obtain ⟨t, L', D', F', rfl, hi, S3⟩ := hp
      obtain ⟨W4, hr, hS4, hl4, hn4, ht4⟩ := fin (some (.exit id)) a3 W3 F' L' D' S3
      exact ⟨_, _, hr, .inr ⟨rfl, t, rfl, .exit id, ⟨L', D', hi, hS4, hn4⟩, hl4⟩⟩
    | goto t => exact hp.elim
    | panic ch => exact hp.elim
    | outgrown => exact hp.elim
  · have := S.mem.lt _ hb
    omega
  · rintro e W2 ⟨⟨v, rfl⟩, (⟨s, O', rfl, ⟨L', D', hi, hS, -, hn⟩, hl⟩ | ⟨t, rfl, c, ⟨L', D', hi, hS, hn⟩, hl⟩)⟩
    · refine ⟨none, _, run_endLoop (P := P) hl (by simp [rc]), hdone Dk s L' D' _ _ rfl hi ⟨⟨by simp [S.frm.defers, mark], S.frm.size, S.frm.get⟩, hS.putL _ hl rfl (by omega) ?_⟩⟩
      rw [keysL_append, List.mem_append]
      rintro (h1 | h1)
      · exact hn h1
      · simp [keysL, eDef] at h1
    · refine ⟨some c, _, run_endLoop (P := P) hl (by simp [rc]), wpIn_wide.2 (hstop Dk c t L' D' _ _ rfl hi ⟨⟨by simp [S.frm.defers, mark], S.frm.size, S.frm.get⟩, hS.putL _ hl rfl (by omega) ?_⟩)⟩
      rw [keysL_append, List.mem_append]
      rintro (h1 | h1)
      · exact hn h1
      · simp [keysL, eDef] at h1
end

end Go.Proofs.YtmedbnjhgkcndaaDoor
namespace Go.Proofs.YtmedbnjhgkcndaaDoor
open Go.RowKit
set_option linter.unusedVariables false

section
variable {P : Program}
/-- what an iterator is handed by a loop -/
structure ItC {σ τ X : Type} (P : Program) (l : Nat) (FX : X → Array Value → Fact) (B : σ → X → Option (σ ⊕ τ)) (J : σ → (Nat → Prop) → World → Prop) (Jx : τ → World → Prop) : Prop where
  jm : ∀ s O A B, J s O A → Chg [] A B → J s O B
  xm : ∀ t A B, Jx t A → Chg [] A B → Jx t B
  bd : ∀ s O A, J s O A → ∀ b, O b → b < A.heap.size
  yl : ∀ s x vs b O W1, B s x = some b → (FX x vs).p O W1 → J s O W1 → YieldAt Fence.wide 0 P l vs W1 fun e W' =>
      (e = .returned (.bool true) ∧ ∃ s' O', b = .inl s' ∧ J s' O' W' ∧ Turn O O' W1 W') ∨ (e = .returned (.bool false) ∧ ∃ t, b = .inr t ∧ Jx t W')
/-- what it leaves -/
def itR {σ τ : Type} (r : σ ⊕ τ) (J : σ → (Nat → Prop) → World → Prop) (Jx : τ → World → Prop) (e : Ending) (W' : World) : Prop := (∃ v, e = .returned v) ∧ ((∃ s O', r = .inl s ∧ J s O' W') ∨ ∃ t, r = .inr t ∧ Jx t W')
theorem seqF_of {gf : Nat} {lb : List Value} {X : Type} {FX : X → Array Value → Fact} {I : ∀ (σ τ : Type), (σ → X → Option (σ ⊕ τ)) → σ → Option (σ ⊕ τ)} {Dc : List Fact}
    (h : ∀ (σ τ : Type) (B : σ → X → Option (σ ⊕ τ)) (z : σ) (r : σ ⊕ τ), I σ τ B z = some r → ∀ (l : Nat) (J : σ → (Nat → Prop) → World → Prop) (Jx : τ → World → Prop) (E : Nat → Prop) (w0 : World), ItC P l FX B J Jx → St0 E [] w0 w0 [] Dc → J z E w0 →
      CallsIn Fence.wide 1 P gf (Value.func (.yield l) #[] #[] :: lb).toArray w0 (itR r J Jx)) : SeqF P gf lb.toArray FX I Dc :=
  fun σ τ B z r hI l J Jx E w0 h1 h2 h3 S hy hJ => by
    have := h σ τ B z r hI l J Jx E w0 ⟨h1, h2, h3, hy⟩ S hJ
    have e : (#[Value.func (.yield l) #[] #[]] ++ lb.toArray) = (Value.func (.yield l) #[] #[] :: lb).toArray := by simp
    rw [e]
    exact this
variable {dq : List Deferred} {E : Nat → Prop} {M : List Nat} {w0 : World} {n : Nat} {a : Act} {w : World} {F : List (Nat × Value)} {L : List Ent} {D : List Fact} {Q : Exit → Act → World → Prop}
theorem sEnterI {f : FuncId} {fn : Func} {c : Code} {args : List Value} {Rt : Ending → World → Prop} (m : Nat) (hf : P.funcs[f]? = some fn) (hb : fn.body = some c) (hm : fn.ntmps = m) (ha : args.length ≤ m) (S : St0 E M w0 w L D)
    (h : ∀ a, St [] E M w0 m a w ((List.range args.length).zip args) L D → c.wp P (bodyPost P fn Rt) a w) : CallsIn Fence.wide 1 P f args.toArray w Rt :=
  callsIn_of_wp hf hb trivial (wpIn_wide.2 (h _ ⟨enter_frm m hm ha, S⟩))
theorem it_out {σ τ : Type} {fn : Func} {r : σ ⊕ τ} {J : σ → (Nat → Prop) → World → Prop} {Jx : τ → World → Prop} : ¬ LetsOut (bodyPost P fn (itR r J Jx)) := by
  rintro ⟨a, w, h⟩
  have h' : itR r J Jx .outgrown w := h
  obtain ⟨⟨v, hv⟩, _⟩ := h'
  cases hv
theorem sRegionY {id : Nat} {ops : List Oper} (h : wpListIn (zf none) 0 P ops.toArray Q ops a w) : (Code.region id ops.toArray false).wp P Q a w := (wpIn_wide (n := 0)).1 (wpIn_region_lit h)
theorem sSplitR {ops : List Oper} {opsA : Array Oper} (hq : ¬ LetsOut Q) (i : Nat) (hn : (ops.take i).all noDefer = true) (h : ∀ K : Act → World → Prop, (∀ a w, wpListIn (zf none) 0 P opsA Q (ops.drop i) a w → K a w) → wpList P opsA (fun e a w => e = .normal ∧ K a w) (ops.take i) a w) : wpListIn (zf none) 0 P opsA Q ops a w :=
  app_inR hq i (fun a w => wpListIn (zf none) 0 P opsA Q (ops.drop i) a w) hn (h _ fun _ _ h => h) fun _ _ h => h
theorem tot_nil (E : Nat → Prop) : tot E [] = E := funext fun b => propext ⟨fun h => by
  rcases h with h | h
  · exact h
  · simp [keysL] at h, .inl⟩
theorem sYieldI {σ τ X : Type} {FX : X → Array Value → Fact} {B : σ → X → Option (σ ⊕ τ)} {J : σ → (Nat → Prop) → World → Prop} {Jx : τ → World → Prop} {ops : Array Oper} {rest : List Oper} {o : Oper} {d : Nat} {l : Nat} {fo : Operand} {args : List Operand} {ts : Array TypeId} {z : σ} {b : σ ⊕ τ} (x : X) (vs : List Value)
    (S : St [] E [] w0 n a w F [] D) (hC : ItC P l FX B J Jx) (hJ : J z E w0) (hB : B z x = some b) (hfx : (FX x vs.toArray).p (tot E []) w)
    (hw : ∀ a, Frm [] n a F → Region.wanted o (yielded ops a.tmps) = true) (ho : o.op = .call { callee := .value fo, args := args.toArray, argTypes := ts }) (hf : lookO F fo = some (.func (.yield l) #[] #[])) (hvs : args.map (lookO F) = vs.map some) (hd : o.dst = some d) (hn : d < n)
    (kT : ∀ z' E a w, b = .inl z' → J z' E w → St [] E [] w n a w ((d, .bool true) :: F) [] D → wpListIn (zf none) 0 P ops Q rest a w)
    (kF : ∀ t a w, b = .inr t → Jx t w → St [] (fun _ => False) [] w n a w ((d, .bool false) :: F) [] [] → wpListIn (zf none) 0 P ops Q rest a w) : wpListIn (zf none) 0 P ops Q (o :: rest) a w := by
  have hfx' : (FX x vs.toArray).p E w := tot_nil E ▸ hfx
  have hJw := hC.jm _ _ _ _ hJ S.mem.chg
  have S0 : St0 E [] w w [] D := ⟨Chg.refl _ _, S.mem.ent, S.mem.fact, S.mem.nodup, fun b hb => (by simp [keysL] at hb), fun b hb => Nat.lt_of_lt_of_le (S.mem.bnd b hb) S.mem.chg.size⟩
  refine sYield (T := fun w' => ∃ s' O', b = .inl s' ∧ J s' O' w' ∧ Turn E O' w w') (U := fun w' => ∃ t, b = .inr t ∧ Jx t w') S hw ho hf hvs hd hn (hC.yl _ _ _ _ _ _ hB hfx' hJw) ?_ ?_
  · rintro a' w' hfr ⟨s', O', hb, hj, ht⟩
    exact kT s' O' a' w' hb hj ⟨hfr, S0.turn ht (hC.bd _ _ _ hj)⟩
  · rintro a' w' hfr ⟨t, hb, hj⟩
    exact kF t a' w' hb hj ⟨hfr, ⟨Chg.refl _ _, fun e he => (by cases he), fun d hd => (by cases hd), by simp [keysL], fun b hb => (by simp [keysL] at hb), fun b hb => hb.elim⟩⟩
/-- the iterator's ends -/
theorem sGoI {σ τ X : Type} {FX : X → Array Value → Fact} {B : σ → X → Option (σ ⊕ τ)} {J : σ → (Nat → Prop) → World → Prop} {Jx : τ → World → Prop} {l : Nat} {r : σ ⊕ τ} {z : σ} (S : St [] E [] w0 n a w F L D) (hC : ItC P l FX B J Jx) (hJ : J z E w0) (hr : Sum.inl z = r) (v : Value) : itR r J Jx (.returned v) w :=
  ⟨⟨v, rfl⟩, .inl ⟨z, E, hr.symm, hC.jm _ _ _ _ hJ S.mem.chg⟩⟩
theorem sStopI {σ τ X : Type} {FX : X → Array Value → Fact} {B : σ → X → Option (σ ⊕ τ)} {J : σ → (Nat → Prop) → World → Prop} {Jx : τ → World → Prop} {l : Nat} {r : σ ⊕ τ} {t : τ} (S : St [] E [] w0 n a w F L D) (hC : ItC P l FX B J Jx) (hJ : Jx t w0) (hr : Sum.inr t = r) (v : Value) : itR r J Jx (.returned v) w :=
  ⟨⟨v, rfl⟩, .inr ⟨t, hr.symm, hC.xm _ _ _ hJ S.mem.chg⟩⟩
/-- functions with a loop over a function: they leave past a mark -/
theorem sEnterM {f : FuncId} {fn : Func} {c : Code} {args : List Value} {Rt : Ending → World → Prop} (m : Nat) (hf : P.funcs[f]? = some fn) (hb : fn.body = some c) (hm : fn.ntmps = m) (ha : args.length ≤ m) (S : St0 E M w0 w L D)
    (h : ∀ a, St [] E M w0 m a w ((List.range args.length).zip args) L D → c.wp P (bodyPostM Fence.wide 1 P fn Rt) a w) : Calls P f args.toArray w Rt :=
  callsIn_wide.1 (callsIn_of_wp_marks hf hb trivial (wpIn_wide.2 (h _ ⟨enter_frm m hm ha, S⟩)))
theorem leavesM {fn : Func} {Rt : Ending → World → Prop} : (S : St dq E M w0 n a w F L D) → (h : LeavesInM Fence.wide 1 P fn a.tmps Rt dq .returning w) → LeavesInM Fence.wide 1 P fn a.tmps Rt a.defers .returning w := by
  intro S h
  rw [S.frm.defers]
  exact h
theorem sRetM0 {fn : Func} {Rt : Ending → World → Prop} (v : Value) (S : St [] E M w0 n a w F L D) (hr : (results fn a.tmps).run P w = .ok v w) (h : Rt (.returned v) w) : bodyPostM Fence.wide 1 P fn Rt .ret a w := leavesM (P := P) S ⟨v, hr, h⟩
theorem sEndM0 {fn : Func} {Rt : Ending → World → Prop} (v : Value) (S : St [] E M w0 n a w F L D) (hr : (results fn a.tmps).run P w = .ok v w) (h : Rt (.returned v) w) : bodyPostM Fence.wide 1 P fn Rt .normal a w := leavesM (P := P) S ⟨v, hr, h⟩
theorem leavesM1 {fn : Func} {Rt : Ending → World → Prop} {b : Nat} (i : Nat) (S : St [mark b] E M w0 n a w F L D) (hi : L[i]? = some (eDef b))
    (k : ∀ a w, St [] E M w0 n a w F (L.eraseIdx i) D → ∃ v, (results fn a.tmps).run P w = .ok v w ∧ Rt (.returned v) w) : LeavesInM Fence.wide 1 P fn a.tmps Rt a.defers .returning w := by
  refine leavesM S ?_
  have hb : w.heap[b]? = some (.deferred (some [])) := S.mem.at hi
  have hmem : b ∈ (eDef b).keys := by simp [eDef]
  have hkey := S.mem.key b (keysL_mem.2 ⟨_, List.mem_of_getElem? hi, hmem⟩)
  have hperm := erase_perm hi
  have hn := keysL_perm hperm S.mem.nodup
  have S1 : St0 E M w0 w ([eDef b] ++ L.eraseIdx i) D := S.mem.sub (fun e he => hperm.mem_iff.1 he) hn (fun _ h => h)
  have hg := grownBy_putObj' w b (.deferred none)
  have S2 : St0 E M w0 (w.putObj b (.deferred none)) ([] ++ L.eraseIdx i) ([] ++ D) := S1.upd (Chg.grown hg (fun k e => by cases e; simp [keysL, eDef])) [] [] ⟨Chg.grown hg (fun k e => by cases e; simp [keysL, eDef]), fun e he => (by cases he), fun d hd => (by cases hd), by simp [keysL], fun b hb => (by simp [keysL] at hb), fun c hc => by
    rcases hc with hc | hc
    · exact Nat.lt_of_lt_of_le (S1.bnd c hc) S1.chg.size
    · exact S1.lt c (by rw [keysL_append]; exact List.mem_append_right _ hc)⟩
  obtain ⟨v, h1, h2⟩ := k { a with defers := [] } _ ⟨⟨rfl, S.frm.size, S.frm.get⟩, S2⟩
  exact ⟨by simp, .inl ⟨b, _, rfl, run_takeDeferred hb, ⟨v, h1, h2⟩⟩⟩
theorem sRetM1 {fn : Func} {Rt : Ending → World → Prop} {b : Nat} (i : Nat) (S : St [mark b] E M w0 n a w F L D) (hi : L[i]? = some (eDef b))
    (k : ∀ a w, St [] E M w0 n a w F (L.eraseIdx i) D → ∃ v, (results fn a.tmps).run P w = .ok v w ∧ Rt (.returned v) w) : bodyPostM Fence.wide 1 P fn Rt .ret a w := leavesM1 i S hi k
theorem sEndM1 {fn : Func} {Rt : Ending → World → Prop} {b : Nat} (i : Nat) (S : St [mark b] E M w0 n a w F L D) (hi : L[i]? = some (eDef b))
    (k : ∀ a w, St [] E M w0 n a w F (L.eraseIdx i) D → ∃ v, (results fn a.tmps).run P w = .ok v w ∧ Rt (.returned v) w) : bodyPostM Fence.wide 1 P fn Rt .normal a w := leavesM1 i S hi k
theorem Frm.put1 {a : Act} {F : List (Nat × Value)} (h : Frm dq n a F) {p : Nat} (hp : p < n) (v : Value) : Frm [] n { tmps := ((#[p] : Array Tmp).zip #[v]).foldl (fun t (p, v) => t.setIfInBounds p v) a.tmps, defers := [] } ((p, v) :: F) := by
  have := (Frm.put (dq := []) (a := { a with defers := [] }) ⟨rfl, h.size, h.get⟩ hp v)
  exact ⟨rfl, by simpa [Act.put] using this.size, fun t u ht => by simpa [Act.put] using this.get t u ht⟩
theorem Frm.put2 {a : Act} {F : List (Nat × Value)} (h : Frm dq n a F) {p q : Nat} (hp : p < n) (hq : q < n) (v u : Value) : Frm [] n { tmps := ((#[p, q] : Array Tmp).zip #[v, u]).foldl (fun t (p, v) => t.setIfInBounds p v) a.tmps, defers := [] } ((q, u) :: (p, v) :: F) := by
  have := (Frm.put (dq := []) (a := { a with defers := [] }) ⟨rfl, h.size, h.get⟩ hp v).put hq u
  exact ⟨rfl, by simpa [Act.put] using this.size, fun t u ht => by simpa [Act.put] using this.get t u ht⟩
theorem sRange2 {σ τ X Y : Type} {g : Operand} {assign body : Code} {gf : Nat} {lb : List Value} {rx : R X} {ry : R Y} {I : ∀ (σ τ : Type), (σ → X × Y → Option (σ ⊕ τ)) → σ → Option (σ ⊕ τ)} {Dc : List Fact} {B : σ → X × Y → Option (σ ⊕ τ)} {s0 : σ} {r : σ ⊕ τ} {p q : Nat}
    (IL : σ → List Ent → List Fact → Prop) (IX : τ → Code → List Ent → List Fact → Prop) (js : List Nat) (S : St dq E M w0 n a w F L D) (h : I σ τ B s0 = some r) (hg : lookO F g = some (.func (.func gf) #[] lb.toArray)) (eg : ∀ args w, (callFunc gf args).run P w = .ok (.enter gf args) w)
    (hseq : SeqF P gf lb.toArray (fA2 rx ry) I Dc) (hDc : js.map (fun i => D[i]?) = Dc.map some) (hp : p < n) (hq : q < n) (h0 : IL s0 L D)
    (hround : ∀ (E : Nat → Prop) (l : Nat) (s : σ) (x : X) (y : Y) (v u : Value) (b : σ ⊕ τ) (L : List Ent) (D : List Fact) (K : List Nat) (a : Act) (w0 : World), K = keysL L → IL s L D → B s (x, y) = some b → St [] E K w0 n a w0 ((q, u) :: (p, v) :: F) L (fRep rx v x :: fRep ry u y :: D) →
      assign.wpIn (zf (some l)) 0 P (Exit.then (roundK P l body E n IL IX b K w0) (fun _ _ _ => False)) a w0)
    (hdone : ∀ (Dk : Nat) (s : σ) (L : List Ent) (D : List Fact) (a : Act) (W : World), r = .inl s → IL s L D → St (mark Dk :: dq) E M w0 n a W F (L ++ [eDef Dk]) D → Q .normal a W)
    (hstop : ∀ (Dk : Nat) (c : Code) (t : τ) (L : List Ent) (D : List Fact) (a : Act) (W : World), r = .inr t → IX t c L D → St (mark Dk :: dq) E M w0 n a W F (L ++ [eDef Dk]) D → c.wp P Q a W) :
    (Code.rangeFunc g #[p, q] assign body).wp P Q a w := by
  refine sRange IL IX js S h hg eg hseq hDc ?_ h0 ?_ hdone hstop
  · rintro x vs E w ⟨v, u, rfl, -, -⟩; rfl
  · rintro E l s ⟨x, y⟩ vs b L D K W hK hIL hB S0
    obtain ⟨v, u, rfl, h1, h2⟩ := S0.fact _ (List.mem_cons_self ..)
    have S1 := (S0.learn (fRep ry u y) h2).learn (fRep rx v x) h1
    have S2 : St0 E K W W L (fRep rx v x :: fRep ry u y :: D) := S1.sub (fun _ h => h) S1.nodup (fun d hd => by
      simp only [List.mem_cons] at hd ⊢
      rcases hd with h | h | h
      · exact .inl h
      · exact .inr (.inl h)
      · exact .inr (.inr (.inr h)))
    exact hround E l s x y v u b L D K _ W hK hIL hB ⟨S.frm.put2 hp hq v u, S2⟩
theorem sRange1 {σ τ X : Type} {g : Operand} {assign body : Code} {gf : Nat} {lb : List Value} {rx : R X} {I : ∀ (σ τ : Type), (σ → X → Option (σ ⊕ τ)) → σ → Option (σ ⊕ τ)} {Dc : List Fact} {B : σ → X → Option (σ ⊕ τ)} {s0 : σ} {r : σ ⊕ τ} {p : Nat}
    (IL : σ → List Ent → List Fact → Prop) (IX : τ → Code → List Ent → List Fact → Prop) (js : List Nat) (S : St dq E M w0 n a w F L D) (h : I σ τ B s0 = some r) (hg : lookO F g = some (.func (.func gf) #[] lb.toArray)) (eg : ∀ args w, (callFunc gf args).run P w = .ok (.enter gf args) w)
    (hseq : SeqF P gf lb.toArray (fA1 rx) I Dc) (hDc : js.map (fun i => D[i]?) = Dc.map some) (hp : p < n) (h0 : IL s0 L D)
    (hround : ∀ (E : Nat → Prop) (l : Nat) (s : σ) (x : X) (v : Value) (b : σ ⊕ τ) (L : List Ent) (D : List Fact) (K : List Nat) (a : Act) (w0 : World), K = keysL L → IL s L D → B s x = some b → St [] E K w0 n a w0 ((p, v) :: F) L (fRep rx v x :: D) →
      assign.wpIn (zf (some l)) 0 P (Exit.then (roundK P l body E n IL IX b K w0) (fun _ _ _ => False)) a w0)
    (hdone : ∀ (Dk : Nat) (s : σ) (L : List Ent) (D : List Fact) (a : Act) (W : World), r = .inl s → IL s L D → St (mark Dk :: dq) E M w0 n a W F (L ++ [eDef Dk]) D → Q .normal a W)
    (hstop : ∀ (Dk : Nat) (c : Code) (t : τ) (L : List Ent) (D : List Fact) (a : Act) (W : World), r = .inr t → IX t c L D → St (mark Dk :: dq) E M w0 n a W F (L ++ [eDef Dk]) D → c.wp P Q a W) :
    (Code.rangeFunc g #[p] assign body).wp P Q a w := by
  refine sRange IL IX js S h hg eg hseq hDc ?_ h0 ?_ hdone hstop
  · rintro x vs E w ⟨v, rfl, -⟩; rfl
  · rintro E l s x vs b L D K W hK hIL hB S0
    obtain ⟨v, rfl, h1⟩ := S0.fact _ (List.mem_cons_self ..)
    have S1 := S0.learn (fRep rx v x) h1
    have S2 : St0 E K W W L (fRep rx v x :: D) := S1.sub (fun _ h => h) S1.nodup (fun d hd => by
      simp only [List.mem_cons] at hd ⊢
      rcases hd with h | h
      · exact .inl h
      · exact .inr (.inr h))
    exact hround E l s x v b L D K _ W hK hIL hB ⟨S.frm.put1 hp v, S2⟩
theorem rnN {σ τ : Type} {IL : σ → List Ent → List Fact → Prop} {IX : τ → Code → List Ent → List Fact → Prop} {b : σ ⊕ τ} {K : List Nat} {W : World} (s' : σ) (L' : List Ent) (D' : List Fact) (F' : List (Nat × Value)) (hb : Sum.inl s' = b) (hi : IL s' L' D') (S : St [] E K W n a w F' L' D') : roundU E n IL IX b K W .normal a w := ⟨s', L', D', F', hb.symm, hi, S⟩
theorem rnR {σ τ : Type} {IL : σ → List Ent → List Fact → Prop} {IX : τ → Code → List Ent → List Fact → Prop} {b : σ ⊕ τ} {K : List Nat} {W : World} (t : τ) (L' : List Ent) (D' : List Fact) (F' : List (Nat × Value)) (hb : Sum.inr t = b) (hi : IX t .ret L' D') (S : St [] E K W n a w F' L' D') : roundU E n IL IX b K W .ret a w := ⟨t, L', D', F', hb.symm, hi, S⟩
theorem rnX {σ τ : Type} {IL : σ → List Ent → List Fact → Prop} {IX : τ → Code → List Ent → List Fact → Prop} {b : σ ⊕ τ} {K : List Nat} {W : World} {id : Nat} (t : τ) (L' : List Ent) (D' : List Fact) (F' : List (Nat × Value)) (hb : Sum.inr t = b) (hi : IX t (.exit id) L' D') (S : St [] E K W n a w F' L' D') : roundU E n IL IX b K W (.exit id) a w := ⟨t, L', D', F', hb.symm, hi, S⟩
theorem fA1_mk {α : Type} {r : R α} {E : Nat → Prop} {w : World} {v : Value} {x : α} (h : r.rep E w v x) : (fA1 r x #[v]).p E w := ⟨v, rfl, h⟩
theorem fA2_mk {α β : Type} {r : R α} {q : R β} {E : Nat → Prop} {w : World} {v u : Value} {x : α} {y : β} (h : r.rep E w v x) (k : q.rep E w u y) : (fA2 r q (x, y) #[v, u]).p E w := ⟨v, u, rfl, h, k⟩
theorem lo_false : ¬ LetsOut (fun _ _ _ => False) := fun ⟨_, _, h⟩ => h
end

end Go.Proofs.YtmedbnjhgkcndaaDoor
namespace Go.Proofs.YtmedbnjhgkcndaaDoor
open Go.RowKit
set_option linter.unusedVariables false

def iv (x : Int) : Value := .int .i64 x
theorem lb {a b : Nat} (h : Nat.ble (a + 1) b = true) : a < b := Nat.le_of_ble_eq_true h
def OwnF (sz : Nat) (v q : Value) (j k : Nat) : Prop := ∃ g m c, v = .slice (some ⟨g, 0, none⟩) m c ∧ q = .pointer (some ⟨g, j * sz + k, none⟩)
/-- what reads as z may be stored at the offset k into what reads as x, it reads as y then -/
def Upd {α β : Type} (r : R α) (s : R β) (k : Nat) (x : α) (z : β) (y : α) : Prop := ∀ E w v u, r.rep E w v x → s.rep E w u z → ∃ v', r.rep E w v' y ∧ v'.cells.toList = over v.cells.toList k u.cells.toList ∧ k + s.sz ≤ r.sz
theorem over_over {cur vc uc : List Value} {o k : Nat} (h : ∀ j, j < vc.length → cur[o + j]? = vc[j]?) (hk : k + uc.length ≤ vc.length) (hl : o + vc.length ≤ cur.length) : over cur o (over vc k uc) = over cur (o + k) uc := by
  apply List.ext_getElem?
  intro m
  have hlen := over_length (l := vc) (off := k) (cs := uc) hk
  rw [over_get (l := cur) (off := o) (cs := over vc k uc) (by rw [hlen]; exact hl), over_get (l := cur) (off := o + k) (cs := uc) (by omega), hlen]
  by_cases h1 : o ≤ m ∧ m < o + vc.length
  · rw [if_pos h1, over_get hk]
    by_cases h2 : k ≤ m - o ∧ m - o < k + uc.length
    · rw [if_pos h2, if_pos (by omega)]; congr 1; omega
    · rw [if_neg h2, if_neg (by omega), ← h (m - o) (by omega)]; congr 1; omega
  · rw [if_neg h1, if_neg (by omega)]
section
variable {P : Program} {dq : List Deferred} {E : Nat → Prop} {M : List Nat} {w0 : World} {n : Nat} {a : Act} {w : World} {F : List (Nat × Value)} {L : List Ent} {D : List Fact} {Q : Exit → Act → World → Prop}
variable {ops : Array Oper} {rest : List Oper} {o : Oper} {d : Nat}
theorem pFldR {sz j : Nat} {v q : Value} (s f k : Nat) (hp : OwnP sz v q j) (hf : fieldB P s f = some k) : ∃ q', FldV P s f q q' ∧ OwnF sz v q' j k := by
  obtain ⟨g, m, c, rfl, rfl⟩ := hp
  exact ⟨_, fun w => run_fieldAt hf g _ w, ⟨g, m, c, rfl, rfl⟩⟩
theorem sLoadF {α β : Type} {r : R α} {s : R β} {g : α → β} {T : TypeId} {xs : List α} {x : α} {t : TypeId} {q : Operand} {v vq : Value} {j : Int} (i kf : Nat) (u : Value) (S : St dq E M w0 n a w F L D) (hp : OwnF r.sz v vq j.toNat kf)
    (hw : ∀ a, Frm dq n a F → Region.wanted o (yielded ops a.tmps) = true) (ho : o.op = .load t q) (hq : lookO F q = some vq) (hL : L[i]? = some (eRow r T v xs)) (hx : idxO xs j = some x) (hc : Comp r s kf g) (hu : ∀ E w v, s.rep E w v (g x) → v = u) (hr : Scal s) (ht : aggB P t = some false) (hd : o.dst = some d) (hn : d < n)
    (k : ∀ a, St dq E M w0 n a w ((d, u) :: F) L D → wpList P ops Q rest a w) : wpList P ops Q (o :: rest) a w := by
  obtain ⟨h0, h1, h2⟩ := idxO_some hx
  obtain ⟨b, c, u', rfl, hrep, hcell⟩ := row_at (S.mem.at hL) h2
  obtain ⟨z, h3, h4⟩ := hc _ _ _ _ hrep
  have hz := hr _ _ _ _ h3
  obtain rfl := hu _ _ _ h3
  obtain ⟨g', m', c', e1, rfl⟩ := hp
  cases e1
  have he := S.frm.eval hq
  have hcc : w.cell? ⟨b, j.toNat * r.sz + kf, none⟩ = some z := hcell kf z (by simpa using h4 0 z (by rw [hz]; rfl))
  exact sVal S hw hd hn (by simp [execOp, ho, he, Instr.loadAt, Instr.sureAddr, loadVar, run_isAgg ht, hcc]) S.mem k
theorem sStoreF {α β : Type} {r : R α} {s : R β} {T : TypeId} {xs ys : List α} {x y : α} {z : β} {t : TypeId} {q xo : Operand} {v vq u : Value} {j : Int} (i kf : Nat) (S : St dq E M w0 n a w F L D) (hp : OwnF r.sz v vq j.toNat kf)
    (hw : ∀ a, Frm dq n a F → Region.wanted o (yielded ops a.tmps) = true) (ho : o.op = .store t q xo) (hq : lookO F q = some vq) (hxo : lookO F xo = some u) (hL : L[i]? = some (eRow r T v xs)) (hu0 : (fRep s u z).p (tot E L) w) (hix : idxO xs j = some x) (hup : Upd r s kf x z y) (hs : setO xs j y = some ys) (hm : cellsB P t = some s.sz) (hd : o.dst = none)
    (k : ∀ a w, St dq E M w0 n a w F (eRow r T v ys :: L.eraseIdx i) D → wpList P ops Q rest a w) : wpList P ops Q (o :: rest) a w := by
  obtain ⟨h0, h1, rfl⟩ := setO_some hs
  obtain ⟨_, _, hxj⟩ := idxO_some hix
  obtain ⟨vs, ha, hlen, hown⟩ := S.mem.at hL
  obtain ⟨g, m, c, rfl, rfl⟩ := hp
  have he := S.frm.eval hq
  have hex := S.frm.eval hxo
  have hsu := s.size hu0
  have hj : j.toNat < vs.length := by rw [ha.1]; exact h1
  have hvj : vs[j.toNat]? = some vs[j.toNat] := List.getElem?_eq_getElem hj
  have hrep := ha.2 _ _ _ hvj hxj
  have hsv := r.size hrep
  obtain ⟨v', hu, hcl, hle0⟩ := hup _ _ _ _ hrep hu0
  have hsz := r.size hu
  have hown1 := hown
  rcases hown.2 with ⟨h, _⟩ | ⟨g', cap, cur, h, hb, hg, hnc, hcm, hcs, htake⟩
  · cases h
  obtain ⟨rfl, rfl, rfl⟩ : g = g' ∧ m = xs.length ∧ c = cap := by simpa using h
  have hle : (j.toNat + 1) * r.sz ≤ xs.length * r.sz := Nat.mul_le_mul_right _ h1
  have hle2 : xs.length * r.sz ≤ c * r.sz := Nat.mul_le_mul_right _ hnc
  rw [Nat.add_mul, Nat.one_mul] at hle
  have heq : over cur.toList (j.toNat * r.sz + kf) u.cells.toList = over cur.toList (j.toNat * r.sz) v'.cells.toList := by
    rw [hcl]
    refine (over_over (fun b hb => ?_) (by simp [hsv, hsu]; omega) (by simp [hsv, hcs]; omega)).symm
    have hb2 : b < r.sz := by simpa [hsv] using hb
    have e := congrArg (fun l : List Value => l[j.toNat * r.sz + b]?) htake
    simp only [List.getElem?_take, if_pos (show j.toNat * r.sz + b < xs.length * r.sz by omega)] at e
    rw [e, flat_get (fun v hv => (ha.cells v hv).1) hvj hb2]
  have hst := run_storeVar (P := P) (t := t) (off := j.toNat * r.sz + kf) (by rw [hsu]; exact hm) (s.one hu0) hg (by rw [hsu, hcs]; omega)
  rw [heq] at hst
  have hchg : Chg (eRow r T (.slice (some ⟨g, 0, none⟩) xs.length c) xs).keys w (w.setRow g (over cur.toList (j.toNat * r.sz) v'.cells.toList).toArray) := ⟨rfl, rfl, rfl, by simp [World.setRow], fun k _ hk => setRow_other w g k _ (fun e => hk (by simp [eRow, vkeys, e]))⟩
  have hext : Ext (tot E L) (tot E (eRow r T (.slice (some ⟨g, 0, none⟩) xs.length c) (xs.set j.toNat y) :: L.eraseIdx i)) w (w.setRow g (over cur.toList (j.toNat * r.sz) v'.cells.toList).toArray) := by
    refine ⟨hchg.size, fun b hb hn _ => hchg.block b hb (fun e => hn (.inr (keysL_mem.2 ⟨_, List.mem_of_getElem? hL, e⟩))), fun b hb h => ?_⟩
    rcases h with h | h
    · exact .inl h
    · obtain ⟨e, h2, h3⟩ := keysL_mem.1 h
      rcases List.mem_cons.1 h2 with rfl | h2
      · exact .inr (keysL_mem.2 ⟨_, List.mem_of_getElem? hL, h3⟩)
      · exact .inr (keysL_mem.2 ⟨e, List.mem_of_mem_eraseIdx h2, h3⟩)
  refine sUnit S hw hd (w' := w.setRow g (over cur.toList (j.toNat * r.sz) v'.cells.toList).toArray) ?_ (S.mem.put hL (eRow r T (.slice (some ⟨g, 0, none⟩) xs.length c) (xs.set j.toNat y)) hchg (fun b hb => .inl hb) (by simp [eRow, vkeys]) ?_) (fun a => k a _)
  · simp only [execOp, ho, he, hex, Instr.storeAt, Instr.sureAddr, Sem.run_bind, Sem.run_pure, Result.andThen_ok, hst]
  · refine ⟨vs.set j.toNat v', (ha.mono hext).set _ (r.mono hext hu), by simpa using hlen, ?_⟩
    rw [flat_set (fun v hv => (ha.cells v hv).1) hj hsz]
    have hfl := flat_length (fun v hv => (ha.cells v hv).1)
    rw [ha.1] at hfl
    refine ⟨?_, .inr ⟨g, c, (over cur.toList (j.toNat * r.sz) v'.cells.toList).toArray, by simp, Nat.zero_le _, setRow_heap w g cur _ T _ hg, by simpa using hnc, hcm, ?_, ?_⟩⟩
    · rw [over_length (by rw [hfl]; simp [hsz]; omega), hfl]; simp
    · simp only [List.size_toArray]; rw [over_length (by simp [hsz, hcs]; omega)]; simpa using hcs
    · simp only [List.length_set]
      rw [over_take (by simp [hsz]; omega) (by simp [hcs]; omega), htake]
end

end Go.Proofs.YtmedbnjhgkcndaaDoor
namespace Go.Proofs.YtmedbnjhgkcndaaDoor
open Go.RowKit
set_option linter.unusedVariables false

section
variable {P : Program} {dq : List Deferred} {E : Nat → Prop} {M : List Nat} {w0 : World} {n : Nat} {a : Act} {w : World} {F : List (Nat × Value)} {L : List Ent} {D : List Fact} {Q : Exit → Act → World → Prop}
theorem pArr {α β : Type} {r : R α} {s : R β} {g : α → β} {z : α} {q : Value} {m sz : Nat} {j : Int} (t e i k : Nat) (S : St dq E M w0 n a w F L D) (hD : D[i]? = some (fPtr r q z)) (ht : P.underlying t = some (.array m e)) (hs : cellsB P e = some sz) (h0 : 0 ≤ j) (h1 : j < (m : Int)) (hk : j.toNat * sz = k) (hc : Comp r s k g) :
    ∃ q', IdxV P t q j q' ∧ St dq E M w0 n a w F L (fPtr s q' (g z) :: D) := by
  obtain ⟨b, off, v, rfl, a1, a2, a3, a4⟩ := S.mem.know hD
  obtain ⟨u, a5, a6⟩ := hc _ _ _ _ a3
  exact ⟨_, idxV_arr ht hs h0 h1 off, S.learn _ ⟨b, off + j.toNat * sz, u, rfl, a1, a2, a5, fun c x hj => by rw [Nat.add_assoc]; subst hk; exact a4 _ _ (a6 c x hj)⟩⟩
end

end Go.Proofs.YtmedbnjhgkcndaaDoor
namespace Go.Proofs.YtmedbnjhgkcndaaDoor
open Go.RowKit
set_option linter.unusedVariables false

structure api_Point where
  X : Int
  Y : Int
def r_api_Point : R api_Point where
  sz := 2
  rep := fun E w v x => v = .agg #[.int .i64 x.X, .int .i64 x.Y]
  pos := by decide
  size := by rintro _ _ _ _ rfl; rfl
  one := by
    rintro _ _ _ _ rfl u hu
    simp [Value.cells] at hu
    rcases hu with rfl | rfl
    · rfl
    · rfl
  mono := fun _ h => h
theorem aggr_api_Point : Aggr r_api_Point := by rintro _ _ _ _ rfl; exact ⟨_, rfl⟩
theorem comp_api_Point_X : Comp r_api_Point (rI .i64) 0 (·.X) := by
  rintro _ _ _ x rfl
  refine ⟨.int .i64 x.X, rfl, fun j c hj => ?_⟩
  match j, hj with
  | 0, hj => exact hj
  | j + 1, hj => exact absurd (List.getElem?_eq_some_iff.1 hj).1 (by simp [Value.cells])
theorem comp_api_Point_Y : Comp r_api_Point (rI .i64) 1 (·.Y) := by
  rintro _ _ _ x rfl
  refine ⟨.int .i64 x.Y, rfl, fun j c hj => ?_⟩
  match j, hj with
  | 0, hj => exact hj
  | j + 1, hj => exact absurd (List.getElem?_eq_some_iff.1 hj).1 (by simp [Value.cells])
structure api_Shape where
  Left : (List api_Point)
  Right : (List api_Point)
def r_api_Shape : R api_Shape where
  sz := 2
  rep := fun E w v x => ∃ v0 v1, v = .agg #[v0, v1] ∧ (rL r_api_Point).rep E w v0 x.Left ∧ (rL r_api_Point).rep E w v1 x.Right
  pos := by decide
  size := by rintro _ _ _ _ ⟨v0, v1, rfl, h0, h1⟩; rfl
  one := by
    rintro _ _ _ _ ⟨v0, v1, rfl, h0, h1⟩ u hu
    simp [Value.cells] at hu
    rcases hu with rfl | rfl
    · exact (rL r_api_Point).one h0 _ (by rw [scal_L _ _ _ _ _ h0]; simp)
    · exact (rL r_api_Point).one h1 _ (by rw [scal_L _ _ _ _ _ h1]; simp)
  mono := by
    rintro _ _ _ _ _ _ h ⟨v0, v1, e, h0, h1⟩
    exact ⟨v0, v1, e, (rL r_api_Point).mono h h0, (rL r_api_Point).mono h h1⟩
theorem aggr_api_Shape : Aggr r_api_Shape := by rintro _ _ _ _ ⟨v0, v1, rfl, h0, h1⟩; exact ⟨_, rfl⟩
theorem comp_api_Shape_Left : Comp r_api_Shape (rL r_api_Point) 0 (·.Left) := by
  rintro _ _ _ x ⟨v0, v1, rfl, h0, h1⟩
  refine ⟨v0, h0, fun j c hj => ?_⟩
  rw [scal_L _ _ _ _ _ h0] at hj
  match j, hj with
  | 0, hj => exact hj
  | j + 1, hj => exact absurd (List.getElem?_eq_some_iff.1 hj).1 (by simp)
theorem comp_api_Shape_Right : Comp r_api_Shape (rL r_api_Point) 1 (·.Right) := by
  rintro _ _ _ x ⟨v0, v1, rfl, h0, h1⟩
  refine ⟨v1, h1, fun j c hj => ?_⟩
  rw [scal_L _ _ _ _ _ h1] at hj
  match j, hj with
  | 0, hj => exact hj
  | j + 1, hj => exact absurd (List.getElem?_eq_some_iff.1 hj).1 (by simp)
structure api_Piece where
  Left : (List Int)
  Right : (List Int)
def r_api_Piece : R api_Piece where
  sz := 2
  rep := fun E w v x => ∃ v0 v1, v = .agg #[v0, v1] ∧ (rL (rI .i64)).rep E w v0 x.Left ∧ (rL (rI .i64)).rep E w v1 x.Right
  pos := by decide
  size := by rintro _ _ _ _ ⟨v0, v1, rfl, h0, h1⟩; rfl
  one := by
    rintro _ _ _ _ ⟨v0, v1, rfl, h0, h1⟩ u hu
    simp [Value.cells] at hu
    rcases hu with rfl | rfl
    · exact (rL (rI .i64)).one h0 _ (by rw [scal_L _ _ _ _ _ h0]; simp)
    · exact (rL (rI .i64)).one h1 _ (by rw [scal_L _ _ _ _ _ h1]; simp)
  mono := by
    rintro _ _ _ _ _ _ h ⟨v0, v1, e, h0, h1⟩
    exact ⟨v0, v1, e, (rL (rI .i64)).mono h h0, (rL (rI .i64)).mono h h1⟩
theorem aggr_api_Piece : Aggr r_api_Piece := by rintro _ _ _ _ ⟨v0, v1, rfl, h0, h1⟩; exact ⟨_, rfl⟩
theorem comp_api_Piece_Left : Comp r_api_Piece (rL (rI .i64)) 0 (·.Left) := by
  rintro _ _ _ x ⟨v0, v1, rfl, h0, h1⟩
  refine ⟨v0, h0, fun j c hj => ?_⟩
  rw [scal_L _ _ _ _ _ h0] at hj
  match j, hj with
  | 0, hj => exact hj
  | j + 1, hj => exact absurd (List.getElem?_eq_some_iff.1 hj).1 (by simp)
theorem comp_api_Piece_Right : Comp r_api_Piece (rL (rI .i64)) 1 (·.Right) := by
  rintro _ _ _ x ⟨v0, v1, rfl, h0, h1⟩
  refine ⟨v1, h1, fun j c hj => ?_⟩
  rw [scal_L _ _ _ _ _ h1] at hj
  match j, hj with
  | 0, hj => exact hj
  | j + 1, hj => exact absurd (List.getElem?_eq_some_iff.1 hj).1 (by simp)
structure api_Stitch where
  Kind : Int
  Purl : Bool
  A : Int
  B : Int
def r_api_Stitch : R api_Stitch where
  sz := 4
  rep := fun E w v x => v = .agg #[.int .u8 x.Kind, .bool x.Purl, .int .i64 x.A, .int .i64 x.B]
  pos := by decide
  size := by rintro _ _ _ _ rfl; rfl
  one := by
    rintro _ _ _ _ rfl u hu
    simp [Value.cells] at hu
    rcases hu with rfl | rfl | rfl | rfl
    · rfl
    · rfl
    · rfl
    · rfl
  mono := fun _ h => h
theorem aggr_api_Stitch : Aggr r_api_Stitch := by rintro _ _ _ _ rfl; exact ⟨_, rfl⟩
theorem comp_api_Stitch_Kind : Comp r_api_Stitch (rI .u8) 0 (·.Kind) := by
  rintro _ _ _ x rfl
  refine ⟨.int .u8 x.Kind, rfl, fun j c hj => ?_⟩
  match j, hj with
  | 0, hj => exact hj
  | j + 1, hj => exact absurd (List.getElem?_eq_some_iff.1 hj).1 (by simp [Value.cells])
theorem comp_api_Stitch_Purl : Comp r_api_Stitch rB 1 (·.Purl) := by
  rintro _ _ _ x rfl
  refine ⟨.bool x.Purl, rfl, fun j c hj => ?_⟩
  match j, hj with
  | 0, hj => exact hj
  | j + 1, hj => exact absurd (List.getElem?_eq_some_iff.1 hj).1 (by simp [Value.cells])
theorem comp_api_Stitch_A : Comp r_api_Stitch (rI .i64) 2 (·.A) := by
  rintro _ _ _ x rfl
  refine ⟨.int .i64 x.A, rfl, fun j c hj => ?_⟩
  match j, hj with
  | 0, hj => exact hj
  | j + 1, hj => exact absurd (List.getElem?_eq_some_iff.1 hj).1 (by simp [Value.cells])
theorem comp_api_Stitch_B : Comp r_api_Stitch (rI .i64) 3 (·.B) := by
  rintro _ _ _ x rfl
  refine ⟨.int .i64 x.B, rfl, fun j c hj => ?_⟩
  match j, hj with
  | 0, hj => exact hj
  | j + 1, hj => exact absurd (List.getElem?_eq_some_iff.1 hj).1 (by simp [Value.cells])
structure api_Row where
  Back : Bool
  Cells : (List api_Stitch)
def r_api_Row : R api_Row where
  sz := 2
  rep := fun E w v x => ∃ v0, v = .agg #[.bool x.Back, v0] ∧ (rL r_api_Stitch).rep E w v0 x.Cells
  pos := by decide
  size := by rintro _ _ _ _ ⟨v0, rfl, h0⟩; rfl
  one := by
    rintro _ _ _ _ ⟨v0, rfl, h0⟩ u hu
    simp [Value.cells] at hu
    rcases hu with rfl | rfl
    · rfl
    · exact (rL r_api_Stitch).one h0 _ (by rw [scal_L _ _ _ _ _ h0]; simp)
  mono := by
    rintro _ _ _ _ _ _ h ⟨v0, e, h0⟩
    exact ⟨v0, e, (rL r_api_Stitch).mono h h0⟩
theorem aggr_api_Row : Aggr r_api_Row := by rintro _ _ _ _ ⟨v0, rfl, h0⟩; exact ⟨_, rfl⟩
theorem comp_api_Row_Back : Comp r_api_Row rB 0 (·.Back) := by
  rintro _ _ _ x ⟨v0, rfl, h0⟩
  refine ⟨.bool x.Back, rfl, fun j c hj => ?_⟩
  match j, hj with
  | 0, hj => exact hj
  | j + 1, hj => exact absurd (List.getElem?_eq_some_iff.1 hj).1 (by simp [Value.cells])
theorem comp_api_Row_Cells : Comp r_api_Row (rL r_api_Stitch) 1 (·.Cells) := by
  rintro _ _ _ x ⟨v0, rfl, h0⟩
  refine ⟨v0, h0, fun j c hj => ?_⟩
  rw [scal_L _ _ _ _ _ h0] at hj
  match j, hj with
  | 0, hj => exact hj
  | j + 1, hj => exact absurd (List.getElem?_eq_some_iff.1 hj).1 (by simp)
structure api_Chart where
  Start : Int
  Rows : (List api_Row)
def r_api_Chart : R api_Chart where
  sz := 2
  rep := fun E w v x => ∃ v0, v = .agg #[.int .i64 x.Start, v0] ∧ (rL r_api_Row).rep E w v0 x.Rows
  pos := by decide
  size := by rintro _ _ _ _ ⟨v0, rfl, h0⟩; rfl
  one := by
    rintro _ _ _ _ ⟨v0, rfl, h0⟩ u hu
    simp [Value.cells] at hu
    rcases hu with rfl | rfl
    · rfl
    · exact (rL r_api_Row).one h0 _ (by rw [scal_L _ _ _ _ _ h0]; simp)
  mono := by
    rintro _ _ _ _ _ _ h ⟨v0, e, h0⟩
    exact ⟨v0, e, (rL r_api_Row).mono h h0⟩
theorem aggr_api_Chart : Aggr r_api_Chart := by rintro _ _ _ _ ⟨v0, rfl, h0⟩; exact ⟨_, rfl⟩
theorem comp_api_Chart_Start : Comp r_api_Chart (rI .i64) 0 (·.Start) := by
  rintro _ _ _ x ⟨v0, rfl, h0⟩
  refine ⟨.int .i64 x.Start, rfl, fun j c hj => ?_⟩
  match j, hj with
  | 0, hj => exact hj
  | j + 1, hj => exact absurd (List.getElem?_eq_some_iff.1 hj).1 (by simp [Value.cells])
theorem comp_api_Chart_Rows : Comp r_api_Chart (rL r_api_Row) 1 (·.Rows) := by
  rintro _ _ _ x ⟨v0, rfl, h0⟩
  refine ⟨v0, h0, fun j c hj => ?_⟩
  rw [scal_L _ _ _ _ _ h0] at hj
  match j, hj with
  | 0, hj => exact hj
  | j + 1, hj => exact absurd (List.getElem?_eq_some_iff.1 hj).1 (by simp)
structure piece_edge where
  s : api_Stitch
  uses : Int
def r_piece_edge : R piece_edge where
  sz := 5
  rep := fun E w v x => v = .agg #[.int .u8 x.s.Kind, .bool x.s.Purl, .int .i64 x.s.A, .int .i64 x.s.B, .int .i64 x.uses]
  pos := by decide
  size := by rintro _ _ _ _ rfl; rfl
  one := by
    rintro _ _ _ _ rfl u hu
    simp [Value.cells] at hu
    rcases hu with rfl | rfl | rfl | rfl | rfl
    · rfl
    · rfl
    · rfl
    · rfl
    · rfl
  mono := fun _ h => h
theorem aggr_piece_edge : Aggr r_piece_edge := by rintro _ _ _ _ rfl; exact ⟨_, rfl⟩
theorem comp_piece_edge_s : Comp r_piece_edge r_api_Stitch 0 (·.s) := by
  rintro _ _ _ x rfl
  refine ⟨.agg #[.int .u8 x.s.Kind, .bool x.s.Purl, .int .i64 x.s.A, .int .i64 x.s.B], rfl, fun j c hj => ?_⟩
  match j, hj with
  | 0, hj => exact hj
  | 1, hj => exact hj
  | 2, hj => exact hj
  | 3, hj => exact hj
  | j + 4, hj => exact absurd (List.getElem?_eq_some_iff.1 hj).1 (by simp [Value.cells])
theorem comp_piece_edge_uses : Comp r_piece_edge (rI .i64) 4 (·.uses) := by
  rintro _ _ _ x rfl
  refine ⟨.int .i64 x.uses, rfl, fun j c hj => ?_⟩
  match j, hj with
  | 0, hj => exact hj
  | j + 1, hj => exact absurd (List.getElem?_eq_some_iff.1 hj).1 (by simp [Value.cells])
def r_A2_Int : R (Int × Int) where
  sz := 2
  rep := fun E w v x => v = .agg #[.int .i64 x.1, .int .i64 x.2]
  pos := by decide
  size := by rintro _ _ _ _ rfl; rfl
  one := by
    rintro _ _ _ _ rfl u hu
    simp [Value.cells] at hu
    rcases hu with rfl | rfl
    · rfl
    · rfl
  mono := fun _ h => h
theorem aggr_A2_Int : Aggr r_A2_Int := by rintro _ _ _ _ rfl; exact ⟨_, rfl⟩
structure stitch_form where
  letter : ByteArray
  a : (Int × Int)
  b : (Int × Int)
  sided : Bool
  uses : Int
  made : Int
def r_stitch_form : R stitch_form where
  sz := 8
  rep := fun E w v x => v = .agg #[.string x.letter, .int .i64 x.a.1, .int .i64 x.a.2, .int .i64 x.b.1, .int .i64 x.b.2, .bool x.sided, .int .i64 x.uses, .int .i64 x.made]
  pos := by decide
  size := by rintro _ _ _ _ rfl; rfl
  one := by
    rintro _ _ _ _ rfl u hu
    simp [Value.cells] at hu
    rcases hu with rfl | rfl | rfl | rfl | rfl | rfl | rfl | rfl
    · rfl
    · rfl
    · rfl
    · rfl
    · rfl
    · rfl
    · rfl
    · rfl
  mono := fun _ h => h
theorem aggr_stitch_form : Aggr r_stitch_form := by rintro _ _ _ _ rfl; exact ⟨_, rfl⟩
theorem comp_stitch_form_letter : Comp r_stitch_form rS 0 (·.letter) := by
  rintro _ _ _ x rfl
  refine ⟨.string x.letter, rfl, fun j c hj => ?_⟩
  match j, hj with
  | 0, hj => exact hj
  | j + 1, hj => exact absurd (List.getElem?_eq_some_iff.1 hj).1 (by simp [Value.cells])
theorem comp_stitch_form_a : Comp r_stitch_form r_A2_Int 1 (·.a) := by
  rintro _ _ _ x rfl
  refine ⟨.agg #[.int .i64 x.a.1, .int .i64 x.a.2], rfl, fun j c hj => ?_⟩
  match j, hj with
  | 0, hj => exact hj
  | 1, hj => exact hj
  | j + 2, hj => exact absurd (List.getElem?_eq_some_iff.1 hj).1 (by simp [Value.cells])
theorem comp_stitch_form_b : Comp r_stitch_form r_A2_Int 3 (·.b) := by
  rintro _ _ _ x rfl
  refine ⟨.agg #[.int .i64 x.b.1, .int .i64 x.b.2], rfl, fun j c hj => ?_⟩
  match j, hj with
  | 0, hj => exact hj
  | 1, hj => exact hj
  | j + 2, hj => exact absurd (List.getElem?_eq_some_iff.1 hj).1 (by simp [Value.cells])
theorem comp_stitch_form_sided : Comp r_stitch_form rB 5 (·.sided) := by
  rintro _ _ _ x rfl
  refine ⟨.bool x.sided, rfl, fun j c hj => ?_⟩
  match j, hj with
  | 0, hj => exact hj
  | j + 1, hj => exact absurd (List.getElem?_eq_some_iff.1 hj).1 (by simp [Value.cells])
theorem comp_stitch_form_uses : Comp r_stitch_form (rI .i64) 6 (·.uses) := by
  rintro _ _ _ x rfl
  refine ⟨.int .i64 x.uses, rfl, fun j c hj => ?_⟩
  match j, hj with
  | 0, hj => exact hj
  | j + 1, hj => exact absurd (List.getElem?_eq_some_iff.1 hj).1 (by simp [Value.cells])
theorem comp_stitch_form_made : Comp r_stitch_form (rI .i64) 7 (·.made) := by
  rintro _ _ _ x rfl
  refine ⟨.int .i64 x.made, rfl, fun j c hj => ?_⟩
  match j, hj with
  | 0, hj => exact hj
  | j + 1, hj => exact absurd (List.getElem?_eq_some_iff.1 hj).1 (by simp [Value.cells])
def r_A24_Int : R (Int × Int × Int × Int × Int × Int × Int × Int × Int × Int × Int × Int × Int × Int × Int × Int × Int × Int × Int × Int × Int × Int × Int × Int) where
  sz := 24
  rep := fun E w v x => v = .agg #[.int .u8 x.1, .int .u8 x.2.1, .int .u8 x.2.2.1, .int .u8 x.2.2.2.1, .int .u8 x.2.2.2.2.1, .int .u8 x.2.2.2.2.2.1, .int .u8 x.2.2.2.2.2.2.1, .int .u8 x.2.2.2.2.2.2.2.1, .int .u8 x.2.2.2.2.2.2.2.2.1, .int .u8 x.2.2.2.2.2.2.2.2.2.1, .int .u8 x.2.2.2.2.2.2.2.2.2.2.1, .int .u8 x.2.2.2.2.2.2.2.2.2.2.2.1, .int .u8 x.2.2.2.2.2.2.2.2.2.2.2.2.1, .int .u8 x.2.2.2.2.2.2.2.2.2.2.2.2.2.1, .int .u8 x.2.2.2.2.2.2.2.2.2.2.2.2.2.2.1, .int .u8 x.2.2.2.2.2.2.2.2.2.2.2.2.2.2.2.1, .int .u8 x.2.2.2.2.2.2.2.2.2.2.2.2.2.2.2.2.1, .int .u8 x.2.2.2.2.2.2.2.2.2.2.2.2.2.2.2.2.2.1, .int .u8 x.2.2.2.2.2.2.2.2.2.2.2.2.2.2.2.2.2.2.1, .int .u8 x.2.2.2.2.2.2.2.2.2.2.2.2.2.2.2.2.2.2.2.1, .int .u8 x.2.2.2.2.2.2.2.2.2.2.2.2.2.2.2.2.2.2.2.2.1, .int .u8 x.2.2.2.2.2.2.2.2.2.2.2.2.2.2.2.2.2.2.2.2.2.1, .int .u8 x.2.2.2.2.2.2.2.2.2.2.2.2.2.2.2.2.2.2.2.2.2.2.1, .int .u8 x.2.2.2.2.2.2.2.2.2.2.2.2.2.2.2.2.2.2.2.2.2.2.2]
  pos := by decide
  size := by rintro _ _ _ _ rfl; rfl
  one := by
    rintro _ _ _ _ rfl u hu
    simp [Value.cells] at hu
    rcases hu with rfl | rfl | rfl | rfl | rfl | rfl | rfl | rfl | rfl | rfl | rfl | rfl | rfl | rfl | rfl | rfl | rfl | rfl | rfl | rfl | rfl | rfl | rfl | rfl
    · rfl
    · rfl
    · rfl
    · rfl
    · rfl
    · rfl
    · rfl
    · rfl
    · rfl
    · rfl
    · rfl
    · rfl
    · rfl
    · rfl
    · rfl
    · rfl
    · rfl
    · rfl
    · rfl
    · rfl
    · rfl
    · rfl
    · rfl
    · rfl
  mono := fun _ h => h
theorem aggr_A24_Int : Aggr r_A24_Int := by rintro _ _ _ _ rfl; exact ⟨_, rfl⟩
structure api_Gauge where
  Stitches : Int
  Width : Int
  Rows : Int
  Height : Int
def r_api_Gauge : R api_Gauge where
  sz := 4
  rep := fun E w v x => v = .agg #[.int .i64 x.Stitches, .int .i64 x.Width, .int .i64 x.Rows, .int .i64 x.Height]
  pos := by decide
  size := by rintro _ _ _ _ rfl; rfl
  one := by
    rintro _ _ _ _ rfl u hu
    simp [Value.cells] at hu
    rcases hu with rfl | rfl | rfl | rfl
    · rfl
    · rfl
    · rfl
    · rfl
  mono := fun _ h => h
theorem aggr_api_Gauge : Aggr r_api_Gauge := by rintro _ _ _ _ rfl; exact ⟨_, rfl⟩
theorem comp_api_Gauge_Stitches : Comp r_api_Gauge (rI .i64) 0 (·.Stitches) := by
  rintro _ _ _ x rfl
  refine ⟨.int .i64 x.Stitches, rfl, fun j c hj => ?_⟩
  match j, hj with
  | 0, hj => exact hj
  | j + 1, hj => exact absurd (List.getElem?_eq_some_iff.1 hj).1 (by simp [Value.cells])
theorem comp_api_Gauge_Width : Comp r_api_Gauge (rI .i64) 1 (·.Width) := by
  rintro _ _ _ x rfl
  refine ⟨.int .i64 x.Width, rfl, fun j c hj => ?_⟩
  match j, hj with
  | 0, hj => exact hj
  | j + 1, hj => exact absurd (List.getElem?_eq_some_iff.1 hj).1 (by simp [Value.cells])
theorem comp_api_Gauge_Rows : Comp r_api_Gauge (rI .i64) 2 (·.Rows) := by
  rintro _ _ _ x rfl
  refine ⟨.int .i64 x.Rows, rfl, fun j c hj => ?_⟩
  match j, hj with
  | 0, hj => exact hj
  | j + 1, hj => exact absurd (List.getElem?_eq_some_iff.1 hj).1 (by simp [Value.cells])
theorem comp_api_Gauge_Height : Comp r_api_Gauge (rI .i64) 3 (·.Height) := by
  rintro _ _ _ x rfl
  refine ⟨.int .i64 x.Height, rfl, fun j c hj => ?_⟩
  match j, hj with
  | 0, hj => exact hj
  | j + 1, hj => exact absurd (List.getElem?_eq_some_iff.1 hj).1 (by simp [Value.cells])
structure gauge_ratio where
  num : Int
  den : Int
def r_gauge_ratio : R gauge_ratio where
  sz := 2
  rep := fun E w v x => v = .agg #[.int .i64 x.num, .int .i64 x.den]
  pos := by decide
  size := by rintro _ _ _ _ rfl; rfl
  one := by
    rintro _ _ _ _ rfl u hu
    simp [Value.cells] at hu
    rcases hu with rfl | rfl
    · rfl
    · rfl
  mono := fun _ h => h
theorem aggr_gauge_ratio : Aggr r_gauge_ratio := by rintro _ _ _ _ rfl; exact ⟨_, rfl⟩
theorem comp_gauge_ratio_num : Comp r_gauge_ratio (rI .i64) 0 (·.num) := by
  rintro _ _ _ x rfl
  refine ⟨.int .i64 x.num, rfl, fun j c hj => ?_⟩
  match j, hj with
  | 0, hj => exact hj
  | j + 1, hj => exact absurd (List.getElem?_eq_some_iff.1 hj).1 (by simp [Value.cells])
theorem comp_gauge_ratio_den : Comp r_gauge_ratio (rI .i64) 1 (·.den) := by
  rintro _ _ _ x rfl
  refine ⟨.int .i64 x.den, rfl, fun j c hj => ?_⟩
  match j, hj with
  | 0, hj => exact hj
  | j + 1, hj => exact absurd (List.getElem?_eq_some_iff.1 hj).1 (by simp [Value.cells])
def gl_stitch_form (x : stitch_form) : List Value := [.string x.letter, .int .i64 x.a.1, .int .i64 x.a.2, .int .i64 x.b.1, .int .i64 x.b.2, .bool x.sided, .int .i64 x.uses, .int .i64 x.made]
def gv_stitch_form (x : stitch_form) : Value := .agg (gl_stitch_form x).toArray
def gl_A24_Int (x : (Int × Int × Int × Int × Int × Int × Int × Int × Int × Int × Int × Int × Int × Int × Int × Int × Int × Int × Int × Int × Int × Int × Int × Int)) : List Value := [.int .u8 x.1, .int .u8 x.2.1, .int .u8 x.2.2.1, .int .u8 x.2.2.2.1, .int .u8 x.2.2.2.2.1, .int .u8 x.2.2.2.2.2.1, .int .u8 x.2.2.2.2.2.2.1, .int .u8 x.2.2.2.2.2.2.2.1, .int .u8 x.2.2.2.2.2.2.2.2.1, .int .u8 x.2.2.2.2.2.2.2.2.2.1, .int .u8 x.2.2.2.2.2.2.2.2.2.2.1, .int .u8 x.2.2.2.2.2.2.2.2.2.2.2.1, .int .u8 x.2.2.2.2.2.2.2.2.2.2.2.2.1, .int .u8 x.2.2.2.2.2.2.2.2.2.2.2.2.2.1, .int .u8 x.2.2.2.2.2.2.2.2.2.2.2.2.2.2.1, .int .u8 x.2.2.2.2.2.2.2.2.2.2.2.2.2.2.2.1, .int .u8 x.2.2.2.2.2.2.2.2.2.2.2.2.2.2.2.2.1, .int .u8 x.2.2.2.2.2.2.2.2.2.2.2.2.2.2.2.2.2.1, .int .u8 x.2.2.2.2.2.2.2.2.2.2.2.2.2.2.2.2.2.2.1, .int .u8 x.2.2.2.2.2.2.2.2.2.2.2.2.2.2.2.2.2.2.2.1, .int .u8 x.2.2.2.2.2.2.2.2.2.2.2.2.2.2.2.2.2.2.2.2.1, .int .u8 x.2.2.2.2.2.2.2.2.2.2.2.2.2.2.2.2.2.2.2.2.2.1, .int .u8 x.2.2.2.2.2.2.2.2.2.2.2.2.2.2.2.2.2.2.2.2.2.2.1, .int .u8 x.2.2.2.2.2.2.2.2.2.2.2.2.2.2.2.2.2.2.2.2.2.2.2]
def gv_A24_Int (x : (Int × Int × Int × Int × Int × Int × Int × Int × Int × Int × Int × Int × Int × Int × Int × Int × Int × Int × Int × Int × Int × Int × Int × Int)) : Value := .agg (gl_A24_Int x).toArray
theorem upd_api_Row_Back (x : api_Row) (z : Bool) : Upd r_api_Row rB 0 x z (api_Row.mk z x.Cells) := by
  rintro E w _ u ⟨v0, rfl, h0⟩ hz
  obtain rfl : u = .bool z := hz
  exact ⟨.agg #[.bool z, v0], ⟨v0, rfl, h0⟩, rfl, by decide⟩
theorem comp_A2_Int_0 : Comp r_A2_Int (rI .i64) 0 (fun x => x.1) := by
  rintro _ _ _ x rfl
  refine ⟨.int .i64 x.1, rfl, fun j c hj => ?_⟩
  match j, hj with
  | 0, hj => exact hj
  | j + 1, hj => exact absurd (List.getElem?_eq_some_iff.1 hj).1 (by simp [Value.cells])
theorem comp_A2_Int_1 : Comp r_A2_Int (rI .i64) 1 (fun x => x.2) := by
  rintro _ _ _ x rfl
  refine ⟨.int .i64 x.2, rfl, fun j c hj => ?_⟩
  match j, hj with
  | 0, hj => exact hj
  | j + 1, hj => exact absurd (List.getElem?_eq_some_iff.1 hj).1 (by simp [Value.cells])
theorem callee3 : ∀ vs w, (callFunc 3 vs).run Tryd.prog w = .ok (.enter 3 vs) w := callee Tryd.func3 rfl rfl
theorem callee4 : ∀ vs w, (callFunc 4 vs).run Tryd.prog w = .ok (.enter 4 vs) w := callee Tryd.func4 rfl rfl
theorem callee5 : ∀ vs w, (callFunc 5 vs).run Tryd.prog w = .ok (.enter 5 vs) w := callee Tryd.func5 rfl rfl
theorem callee6 : ∀ vs w, (callFunc 6 vs).run Tryd.prog w = .ok (.enter 6 vs) w := callee Tryd.func6 rfl rfl
theorem callee7 : ∀ vs w, (callFunc 7 vs).run Tryd.prog w = .ok (.enter 7 vs) w := callee Tryd.func7 rfl rfl
theorem callee8 : ∀ vs w, (callFunc 8 vs).run Tryd.prog w = .ok (.enter 8 vs) w := callee Tryd.func8 rfl rfl
theorem callee9 : ∀ vs w, (callFunc 9 vs).run Tryd.prog w = .ok (.enter 9 vs) w := callee Tryd.func9 rfl rfl
theorem callee10 : ∀ vs w, (callFunc 10 vs).run Tryd.prog w = .ok (.enter 10 vs) w := callee Tryd.func10 rfl rfl
theorem callee11 : ∀ vs w, (callFunc 11 vs).run Tryd.prog w = .ok (.enter 11 vs) w := callee Tryd.func11 rfl rfl
theorem callee12 : ∀ vs w, (callFunc 12 vs).run Tryd.prog w = .ok (.enter 12 vs) w := callee Tryd.func12 rfl rfl
theorem callee13 : ∀ vs w, (callFunc 13 vs).run Tryd.prog w = .ok (.enter 13 vs) w := callee Tryd.func13 rfl rfl
theorem callee14 : ∀ vs w, (callFunc 14 vs).run Tryd.prog w = .ok (.enter 14 vs) w := callee Tryd.func14 rfl rfl
theorem callee15 : ∀ vs w, (callFunc 15 vs).run Tryd.prog w = .ok (.enter 15 vs) w := callee Tryd.func15 rfl rfl
theorem callee16 : ∀ vs w, (callFunc 16 vs).run Tryd.prog w = .ok (.enter 16 vs) w := callee Tryd.func16 rfl rfl
theorem callee17 : ∀ vs w, (callFunc 17 vs).run Tryd.prog w = .ok (.enter 17 vs) w := callee Tryd.func17 rfl rfl
theorem callee18 : ∀ vs w, (callFunc 18 vs).run Tryd.prog w = .ok (.enter 18 vs) w := callee Tryd.func18 rfl rfl
theorem callee19 : ∀ vs w, (callFunc 19 vs).run Tryd.prog w = .ok (.enter 19 vs) w := callee Tryd.func19 rfl rfl
theorem callee20 : ∀ vs w, (callFunc 20 vs).run Tryd.prog w = .ok (.enter 20 vs) w := callee Tryd.func20 rfl rfl
theorem callee21 : ∀ vs w, (callFunc 21 vs).run Tryd.prog w = .ok (.enter 21 vs) w := callee Tryd.func21 rfl rfl
theorem callee22 : ∀ vs w, (callFunc 22 vs).run Tryd.prog w = .ok (.enter 22 vs) w := callee Tryd.func22 rfl rfl
theorem callee23 : ∀ vs w, (callFunc 23 vs).run Tryd.prog w = .ok (.enter 23 vs) w := callee Tryd.func23 rfl rfl
theorem callee24 : ∀ vs w, (callFunc 24 vs).run Tryd.prog w = .ok (.enter 24 vs) w := callee Tryd.func24 rfl rfl
theorem callee25 : ∀ vs w, (callFunc 25 vs).run Tryd.prog w = .ok (.enter 25 vs) w := callee Tryd.func25 rfl rfl
theorem callee26 : ∀ vs w, (callFunc 26 vs).run Tryd.prog w = .ok (.enter 26 vs) w := callee Tryd.func26 rfl rfl
theorem callee27 : ∀ vs w, (callFunc 27 vs).run Tryd.prog w = .ok (.enter 27 vs) w := callee Tryd.func27 rfl rfl
theorem callee28 : ∀ vs w, (callFunc 28 vs).run Tryd.prog w = .ok (.enter 28 vs) w := callee Tryd.func28 rfl rfl
theorem callee29 : ∀ vs w, (callFunc 29 vs).run Tryd.prog w = .ok (.enter 29 vs) w := callee Tryd.func29 rfl rfl
theorem callee30 : ∀ vs w, (callFunc 30 vs).run Tryd.prog w = .ok (.enter 30 vs) w := callee Tryd.func30 rfl rfl
theorem callee31 : ∀ vs w, (callFunc 31 vs).run Tryd.prog w = .ok (.enter 31 vs) w := callee Tryd.func31 rfl rfl
theorem callee32 : ∀ vs w, (callFunc 32 vs).run Tryd.prog w = .ok (.enter 32 vs) w := callee Tryd.func32 rfl rfl
theorem callee33 : ∀ vs w, (callFunc 33 vs).run Tryd.prog w = .ok (.enter 33 vs) w := callee Tryd.func33 rfl rfl
theorem callee34 : ∀ vs w, (callFunc 34 vs).run Tryd.prog w = .ok (.enter 34 vs) w := callee Tryd.func34 rfl rfl
theorem callee35 : ∀ vs w, (callFunc 35 vs).run Tryd.prog w = .ok (.enter 35 vs) w := callee Tryd.func35 rfl rfl
theorem callee36 : ∀ vs w, (callFunc 36 vs).run Tryd.prog w = .ok (.enter 36 vs) w := callee Tryd.func36 rfl rfl
theorem callee37 : ∀ vs w, (callFunc 37 vs).run Tryd.prog w = .ok (.enter 37 vs) w := callee Tryd.func37 rfl rfl
theorem callee38 : ∀ vs w, (callFunc 38 vs).run Tryd.prog w = .ok (.enter 38 vs) w := callee Tryd.func38 rfl rfl
theorem callee39 : ∀ vs w, (callFunc 39 vs).run Tryd.prog w = .ok (.enter 39 vs) w := callee Tryd.func39 rfl rfl
theorem callee40 : ∀ vs w, (callFunc 40 vs).run Tryd.prog w = .ok (.enter 40 vs) w := callee Tryd.func40 rfl rfl
theorem callee41 : ∀ vs w, (callFunc 41 vs).run Tryd.prog w = .ok (.enter 41 vs) w := callee Tryd.func41 rfl rfl
theorem callee42 : ∀ vs w, (callFunc 42 vs).run Tryd.prog w = .ok (.enter 42 vs) w := callee Tryd.func42 rfl rfl
theorem callee43 : ∀ vs w, (callFunc 43 vs).run Tryd.prog w = .ok (.enter 43 vs) w := callee Tryd.func43 rfl rfl
theorem callee44 : ∀ vs w, (callFunc 44 vs).run Tryd.prog w = .ok (.enter 44 vs) w := callee Tryd.func44 rfl rfl
theorem callee45 : ∀ vs w, (callFunc 45 vs).run Tryd.prog w = .ok (.enter 45 vs) w := callee Tryd.func45 rfl rfl
theorem callee46 : ∀ vs w, (callFunc 46 vs).run Tryd.prog w = .ok (.enter 46 vs) w := callee Tryd.func46 rfl rfl
theorem callee47 : ∀ vs w, (callFunc 47 vs).run Tryd.prog w = .ok (.enter 47 vs) w := callee Tryd.func47 rfl rfl
theorem callee48 : ∀ vs w, (callFunc 48 vs).run Tryd.prog w = .ok (.enter 48 vs) w := callee Tryd.func48 rfl rfl
theorem callee49 : ∀ vs w, (callFunc 49 vs).run Tryd.prog w = .ok (.enter 49 vs) w := callee Tryd.func49 rfl rfl
theorem callee50 : ∀ vs w, (callFunc 50 vs).run Tryd.prog w = .ok (.enter 50 vs) w := callee Tryd.func50 rfl rfl
theorem callee51 : ∀ vs w, (callFunc 51 vs).run Tryd.prog w = .ok (.enter 51 vs) w := callee Tryd.func51 rfl rfl
theorem callee52 : ∀ vs w, (callFunc 52 vs).run Tryd.prog w = .ok (.enter 52 vs) w := callee Tryd.func52 rfl rfl
theorem callee53 : ∀ vs w, (callFunc 53 vs).run Tryd.prog w = .ok (.enter 53 vs) w := callee Tryd.func53 rfl rfl
theorem callee54 : ∀ vs w, (callFunc 54 vs).run Tryd.prog w = .ok (.enter 54 vs) w := callee Tryd.func54 rfl rfl
theorem callee55 : ∀ vs w, (callFunc 55 vs).run Tryd.prog w = .ok (.enter 55 vs) w := callee Tryd.func55 rfl rfl
theorem callee56 : ∀ vs w, (callFunc 56 vs).run Tryd.prog w = .ok (.enter 56 vs) w := callee Tryd.func56 rfl rfl
theorem callee57 : ∀ vs w, (callFunc 57 vs).run Tryd.prog w = .ok (.enter 57 vs) w := callee Tryd.func57 rfl rfl
theorem callee58 : ∀ vs w, (callFunc 58 vs).run Tryd.prog w = .ok (.enter 58 vs) w := callee Tryd.func58 rfl rfl
theorem callee59 : ∀ vs w, (callFunc 59 vs).run Tryd.prog w = .ok (.enter 59 vs) w := callee Tryd.func59 rfl rfl
theorem callee60 : ∀ vs w, (callFunc 60 vs).run Tryd.prog w = .ok (.enter 60 vs) w := callee Tryd.func60 rfl rfl
theorem callee61 : ∀ vs w, (callFunc 61 vs).run Tryd.prog w = .ok (.enter 61 vs) w := callee Tryd.func61 rfl rfl
theorem callee62 : ∀ vs w, (callFunc 62 vs).run Tryd.prog w = .ok (.enter 62 vs) w := callee Tryd.func62 rfl rfl
theorem callee63 : ∀ vs w, (callFunc 63 vs).run Tryd.prog w = .ok (.enter 63 vs) w := callee Tryd.func63 rfl rfl
theorem callee64 : ∀ vs w, (callFunc 64 vs).run Tryd.prog w = .ok (.enter 64 vs) w := callee Tryd.func64 rfl rfl
theorem callee65 : ∀ vs w, (callFunc 65 vs).run Tryd.prog w = .ok (.enter 65 vs) w := callee Tryd.func65 rfl rfl
theorem callee66 : ∀ vs w, (callFunc 66 vs).run Tryd.prog w = .ok (.enter 66 vs) w := callee Tryd.func66 rfl rfl
theorem callee67 : ∀ vs w, (callFunc 67 vs).run Tryd.prog w = .ok (.enter 67 vs) w := callee Tryd.func67 rfl rfl
theorem callee68 : ∀ vs w, (callFunc 68 vs).run Tryd.prog w = .ok (.enter 68 vs) w := callee Tryd.func68 rfl rfl
theorem callee69 : ∀ vs w, (callFunc 69 vs).run Tryd.prog w = .ok (.enter 69 vs) w := callee Tryd.func69 rfl rfl
theorem callee70 : ∀ vs w, (callFunc 70 vs).run Tryd.prog w = .ok (.enter 70 vs) w := callee Tryd.func70 rfl rfl
theorem callee71 : ∀ vs w, (callFunc 71 vs).run Tryd.prog w = .ok (.enter 71 vs) w := callee Tryd.func71 rfl rfl
theorem callee75 : ∀ vs w, (callFunc 75 vs).run Tryd.prog w = .ok (.enter 75 vs) w := callee Tryd.func75 rfl rfl
theorem callee76 : ∀ vs w, (callFunc 76 vs).run Tryd.prog w = .ok (.enter 76 vs) w := callee Tryd.func76 rfl rfl
theorem callee77 : ∀ vs w, (callFunc 77 vs).run Tryd.prog w = .ok (.enter 77 vs) w := callee Tryd.func77 rfl rfl
theorem callee78 : ∀ vs w, (callFunc 78 vs).run Tryd.prog w = .ok (.enter 78 vs) w := callee Tryd.func78 rfl rfl
theorem callee79 : ∀ vs w, (callFunc 79 vs).run Tryd.prog w = .ok (.enter 79 vs) w := callee Tryd.func79 rfl rfl
theorem callee82 : ∀ vs w, (callFunc 82 vs).run Tryd.prog w = .ok (.enter 82 vs) w := callee Tryd.func82 rfl rfl
theorem callee83 : ∀ vs w, (callFunc 83 vs).run Tryd.prog w = .ok (.enter 83 vs) w := callee Tryd.func83 rfl rfl
theorem callee88 : ∀ vs w, (callFunc 88 vs).run Tryd.prog w = .ok (.enter 88 vs) w := callee Tryd.func88 rfl rfl
theorem callee89 : ∀ vs w, (callFunc 89 vs).run Tryd.prog w = .ok (.enter 89 vs) w := callee Tryd.func89 rfl rfl

end Go.Proofs.YtmedbnjhgkcndaaDoor
namespace Go.Proofs.YtmedbnjhgkcndaaDoor
open Go.RowKit
set_option linter.unusedVariables false

open Go.ChangeShapes Go.WideShapes Go.ChangeAt Go.Joins
def InK (k : IntKind) (x : Int) : Prop := (Lit.int k x).wf = true
theorem inK_64 {x : Int} (h : InK .i64 x) : -9223372036854775808 ≤ x ∧ x ≤ 9223372036854775807 := by
  simpa [InK, Lit.wf, IntKind.min, IntKind.max, IntKind.signed, IntKind.bits] using h
theorem inK_u8 {x : Int} (h : InK .u8 x) : 0 ≤ x ∧ x ≤ 255 := by
  simpa [InK, Lit.wf, IntKind.min, IntKind.max, IntKind.signed, IntKind.bits] using h
def Wl {α : Type} (p : α → Prop) (xs : List α) : Prop := xs.length ≤ 9223372036854775807 ∧ ∀ x, x ∈ xs → p x
/-- cells of a type read, well formed -/
def OpC {α : Type} (P : Program) (t : TypeId) (r : R α) (p : α → Prop) : Prop :=
  ∀ (H : Type) (enc : TypeId × Value → H) (w : World) (base : Nat) (spare : Nat → Bool) (held : Bool) (fuel : Nat) (cs : List Value) (x : DataW H × List MemPlace),
    DataW.trod enc P w base spare held fuel t cs = some x → ∃ v y, v.cells.toList = cs ∧ r.rep (fun _ => False) w v y ∧ p y
section
variable {P : Program}
theorem op_int {t : TypeId} (k : IntKind) (ht : P.underlying t = some (.int k)) : OpC P t (rI k) (InK k) := fun H enc w base spare held fuel cs x h => by
  obtain ⟨n, rfl, _, hw⟩ := DataW.trod_int ht h
  exact ⟨_, n, rfl, rfl, hw⟩
theorem op_bool {t : TypeId} (ht : P.underlying t = some .bool) : OpC P t rB (fun _ => True) := fun H enc w base spare held fuel cs x h => by
  obtain ⟨n, rfl, _⟩ := DataW.trod_bool ht h
  exact ⟨_, n, rfl, rfl, trivial⟩
theorem op_string {t : TypeId} (ht : P.underlying t = some .string) : OpC P t rS (fun s => s.size ≤ 9223372036854775807) := fun H enc w base spare held fuel cs x h => by
  obtain ⟨n, rfl, _, hw⟩ := DataW.trod_string ht h
  exact ⟨_, n, rfl, rfl, by simpa [maxLen] using hw⟩
theorem choose_list {α : Type} {n : Nat} {p : Nat → α → Prop} (h : ∀ i, i < n → ∃ x, p i x) : ∃ l : List α, l.length = n ∧ ∀ i x, l[i]? = some x → p i x := by
  induction n with
  | zero => exact ⟨[], rfl, fun i x hi => by simp at hi⟩
  | succ n ih =>
    obtain ⟨l, hl, hp⟩ := ih fun i hi => h i (by omega)
    obtain ⟨x, hx⟩ := h n (by omega)
    refine ⟨l ++ [x], by simp [hl], fun i y hi => ?_⟩
    by_cases e : i < l.length
    · rw [List.getElem?_append_left e] at hi; exact hp i y hi
    · rw [List.getElem?_append_right (by omega)] at hi
      have : i - l.length = 0 := by
        have := (List.getElem?_eq_some_iff.1 hi).1
        simp at this; omega
      rw [this] at hi
      simp at hi; subst hi
      have : i = n := by omega
      subst this; exact hx
theorem op_slice {α : Type} {t e : TypeId} {r : R α} {p : α → Prop} (ht : P.underlying t = some (.slice e)) (hc : P.cellsOf e = r.sz) (he : OpC P e r p) : OpC P t (rL r) (Wl p) := fun H enc w base spare held fuel cs x h => by
  rcases Go.Deep.open_slice ht h with ⟨rfl, _⟩ | ⟨a, len, cap, m, n, D, Pl, rfl, _, hl, hm, hmm, _, hx⟩
  · exact ⟨_, [], rfl, rL_nil _ _ _, by simp, fun x hx => by simp at hx⟩
  · have hlm : len ≤ m := by rw [hmm]; split <;> omega
    obtain ⟨b, off, spot⟩ := a
    have hcell : ∀ i, i < len → ∃ vy : Value × α, (∀ j, j < r.sz → w.cell? ((⟨b, off, spot⟩ : Addr).add (i * r.sz + j)) = vy.1.cells.toList[j]?) ∧ r.rep (fun _ => False) w vy.1 vy.2 ∧ p vy.2 := fun i hi => by
      obtain ⟨cs, h1, h2⟩ := hx i (by omega)
      obtain ⟨_, h3, h4⟩ := World.cells?_some h1
      obtain ⟨v, y, h5, h6, h7⟩ := he _ _ _ _ _ _ _ _ _ h2
      refine ⟨(v, y), fun j hj => ?_, h6, h7⟩
      have := h4 j (by rw [hc]; exact hj)
      rw [Addr.add_add, hc] at this
      rw [this, h5]
    obtain ⟨l, hll, hlp⟩ := choose_list hcell
    subst hll
    have hA : All r (fun _ => False) w (l.map (·.1)) (l.map (·.2)) := ⟨by simp, fun k v x hv hx => by
      rw [List.getElem?_map] at hv hx
      cases hk : l[k]? with
      | none => rw [hk] at hv; cases hv
      | some q => rw [hk] at hv hx; simp at hv hx; subst hv hx; exact (hlp k q hk).2.1⟩
    refine ⟨.slice (some ⟨b, off, spot⟩) l.length cap, l.map (·.2), rfl, ?_, by simp [maxLen] at hm ⊢; omega, fun x hx => ?_⟩
    · refine ⟨some ⟨b, off, spot⟩, cap, l.map (·.1), by simp, by simpa using hl, by simp [maxLen] at hm ⊢; omega, hA, fun k u hu => ?_⟩
      have hsz := fun v hv => (hA.cells v hv).1
      have hk := (List.getElem?_eq_some_iff.1 hu).1
      rw [flat_length hsz] at hk
      simp only [List.length_map] at hk
      have hi : k / r.sz < l.length := Nat.div_lt_of_lt_mul (by rw [Nat.mul_comm]; exact hk)
      have hj := Nat.mod_lt k r.pos
      have hq : l[k / r.sz]? = some l[k / r.sz] := List.getElem?_eq_getElem hi
      have h1 := (hlp _ _ hq).1 (k % r.sz) hj
      have h2 := flat_get hsz (k := k / r.sz) (v := l[k / r.sz].1) (by rw [List.getElem?_map, hq]; rfl) hj
      rw [Nat.mul_comm, Nat.div_add_mod] at h1 h2
      rw [hu] at h2
      rw [← h2] at h1
      have hspot : spot = none := by
        have h0 : 0 < l.length := Nat.lt_of_le_of_lt (Nat.zero_le _) hi
        have hq0 : l[0]? = some l[0] := List.getElem?_eq_getElem h0
        have h3 := (hlp 0 _ hq0).1 0 r.pos
        have hs0 := r.size (hlp 0 _ hq0).2.1
        rw [List.getElem?_eq_getElem (by rw [Array.length_toList, hs0]; exact r.pos)] at h3
        simpa [Addr.add] using World.cell?_spot h3
      subst hspot
      rw [add_addr] at h1
      exact ⟨b, off, rfl, not_false, World.block_lt_of_cell? w _ h1, h1⟩
    · obtain ⟨q, hq, rfl⟩ := List.mem_map.1 hx
      obtain ⟨k, hk, rfl⟩ := List.getElem_of_mem hq
      exact (hlp k _ (List.getElem?_eq_getElem hk)).2.2
/-- an argument that is a slice; a struct; numbers -/
theorem top_slice {α : Type} {H : Type} {enc : TypeId × Value → H} {w : World} {base b0 : Nat} {spare : Nat → Bool} {held : Bool} {rr : Reach} {v : Value} {d : DataW H} {p : List MemPlace} {t e : TypeId} {r : R α} {q : List α → Prop} (ht : P.underlying t = some (.slice e)) (ho : OpC P t (rL r) q)
    (hv : Value.okWide P w rr b0 t v) (h : DataW.Trod enc P w base spare held t v d p) : ∃ y, (rL r).rep (fun _ => False) w v y ∧ q y := by
  obtain ⟨a, n, c, rfl⟩ := okWide_slice ht hv
  obtain ⟨fuel, hf⟩ := h
  obtain ⟨v, y, h1, h2, h3⟩ := ho _ _ _ _ _ _ _ _ _ hf
  have hs := scal_L _ _ _ _ _ h2
  rw [hs] at h1
  simp [Value.cells] at h1
  subst h1
  exact ⟨y, h2, h3⟩
theorem top_agg {α : Type} {H : Type} {enc : TypeId × Value → H} {w : World} {base b0 : Nat} {spare : Nat → Bool} {held : Bool} {rr : Reach} {v : Value} {d : DataW H} {p : List MemPlace} {t : TypeId} {fs : Array Field} {r : R α} {q : α → Prop} (ht : P.underlying t = some (.struct fs)) (hr : Aggr r) (ho : OpC P t r q)
    (hv : Value.okWide P w rr b0 t v) (h : DataW.Trod enc P w base spare held t v d p) : ∃ y, r.rep (fun _ => False) w v y ∧ q y := by
  obtain ⟨cs, rfl, hsz⟩ := okWide_struct ht hv
  obtain ⟨fuel, hf⟩ := h
  obtain ⟨v, y, h1, h2, h3⟩ := ho _ _ _ _ _ _ _ _ _ hf
  obtain ⟨ds, rfl⟩ := hr _ _ _ _ h2
  simp [Value.cells] at h1
  subst h1
  exact ⟨y, h2, h3⟩
theorem St0.start {w : World} {D : List Fact} (h : ∀ d, d ∈ D → d.p (fun _ => False) w) : St0 (fun _ => False) [] w w [] D := by
  have hE : tot (fun _ => False) [] = (fun _ => False) := by funext b; simp [tot, keysL]
  exact ⟨Chg.refl _ _, by simp, fun d hd => by rw [hE]; exact h d hd, by simp [keysL], by simp [keysL], fun _ h => h.elim⟩
theorem Chg.below {w w' : World} (h : Chg [] w w') : Below w.heap.size w w' := ⟨h.os, h.tape, h.output, h.size, fun k hk => h.block k hk (by simp)⟩
theorem len1 {α : Type} {l : List α} (h : l.length = 1) : ∃ a, l = [a] := by match l, h with | [a], _ => exact ⟨a, rfl⟩
theorem len2 {α : Type} {l : List α} (h : l.length = 2) : ∃ a b, l = [a, b] := by match l, h with | [a, b], _ => exact ⟨a, b, rfl⟩
theorem len3 {α : Type} {l : List α} (h : l.length = 3) : ∃ a b c, l = [a, b, c] := by match l, h with | [a, b, c], _ => exact ⟨a, b, c, rfl⟩
theorem len4 {α : Type} {l : List α} (h : l.length = 4) : ∃ a b c d, l = [a, b, c, d] := by match l, h with | [a, b, c, d], _ => exact ⟨a, b, c, d, rfl⟩
theorem len5 {α : Type} {l : List α} (h : l.length = 5) : ∃ a b c d e, l = [a, b, c, d, e] := by match l, h with | [a, b, c, d, e], _ => exact ⟨a, b, c, d, e, rfl⟩
theorem len6 {α : Type} {l : List α} (h : l.length = 6) : ∃ a b c d e f, l = [a, b, c, d, e, f] := by match l, h with | [a, b, c, d, e, f], _ => exact ⟨a, b, c, d, e, f, rfl⟩
end
theorem fld {α : Type} {x : Option α} {ys : List α} {i : Nat} (h : x = ys[i]?) (hi : i < ys.length) : ∃ z, x = some z := ⟨ys[i], by rw [h]; exact List.getElem?_eq_getElem hi⟩

end Go.Proofs.YtmedbnjhgkcndaaDoor
namespace Go.Proofs.YtmedbnjhgkcndaaDoor
open Go.RowKit
set_option linter.unusedVariables false

open Go.ChangeShapes Go.WideShapes Go.ChangeAt Go.Joins
theorem lenSx {α : Type} {l : List α} {n : Nat} (h : l.length = n + 1) : ∃ a k, l = a :: k ∧ k.length = n := by
  cases l with
  | nil => simp at h
  | cons a k => exact ⟨a, k, rfl, by simpa using h⟩
theorem len8 {α : Type} {l : List α} (h : l.length = 8) : ∃ c0 c1 c2 c3 c4 c5 c6 c7, l = [c0, c1, c2, c3, c4, c5, c6, c7] := by
  obtain ⟨c0, l1, rfl, h1⟩ := lenSx h
  obtain ⟨c1, l2, rfl, h2⟩ := lenSx h1
  obtain ⟨c2, l3, rfl, h3⟩ := lenSx h2
  obtain ⟨c3, l4, rfl, h4⟩ := lenSx h3
  obtain ⟨c4, l5, rfl, h5⟩ := lenSx h4
  obtain ⟨c5, l6, rfl, h6⟩ := lenSx h5
  obtain ⟨c6, l7, rfl, h7⟩ := lenSx h6
  obtain ⟨c7, l8, rfl, h8⟩ := lenSx h7
  obtain rfl := List.eq_nil_of_length_eq_zero h8
  exact ⟨c0, c1, c2, c3, c4, c5, c6, c7, rfl⟩
theorem len24 {α : Type} {l : List α} (h : l.length = 24) : ∃ c0 c1 c2 c3 c4 c5 c6 c7 c8 c9 c10 c11 c12 c13 c14 c15 c16 c17 c18 c19 c20 c21 c22 c23, l = [c0, c1, c2, c3, c4, c5, c6, c7, c8, c9, c10, c11, c12, c13, c14, c15, c16, c17, c18, c19, c20, c21, c22, c23] := by
  obtain ⟨c0, l1, rfl, h1⟩ := lenSx h
  obtain ⟨c1, l2, rfl, h2⟩ := lenSx h1
  obtain ⟨c2, l3, rfl, h3⟩ := lenSx h2
  obtain ⟨c3, l4, rfl, h4⟩ := lenSx h3
  obtain ⟨c4, l5, rfl, h5⟩ := lenSx h4
  obtain ⟨c5, l6, rfl, h6⟩ := lenSx h5
  obtain ⟨c6, l7, rfl, h7⟩ := lenSx h6
  obtain ⟨c7, l8, rfl, h8⟩ := lenSx h7
  obtain ⟨c8, l9, rfl, h9⟩ := lenSx h8
  obtain ⟨c9, l10, rfl, h10⟩ := lenSx h9
  obtain ⟨c10, l11, rfl, h11⟩ := lenSx h10
  obtain ⟨c11, l12, rfl, h12⟩ := lenSx h11
  obtain ⟨c12, l13, rfl, h13⟩ := lenSx h12
  obtain ⟨c13, l14, rfl, h14⟩ := lenSx h13
  obtain ⟨c14, l15, rfl, h15⟩ := lenSx h14
  obtain ⟨c15, l16, rfl, h16⟩ := lenSx h15
  obtain ⟨c16, l17, rfl, h17⟩ := lenSx h16
  obtain ⟨c17, l18, rfl, h18⟩ := lenSx h17
  obtain ⟨c18, l19, rfl, h19⟩ := lenSx h18
  obtain ⟨c19, l20, rfl, h20⟩ := lenSx h19
  obtain ⟨c20, l21, rfl, h21⟩ := lenSx h20
  obtain ⟨c21, l22, rfl, h22⟩ := lenSx h21
  obtain ⟨c22, l23, rfl, h23⟩ := lenSx h22
  obtain ⟨c23, l24, rfl, h24⟩ := lenSx h23
  obtain rfl := List.eq_nil_of_length_eq_zero h24
  exact ⟨c0, c1, c2, c3, c4, c5, c6, c7, c8, c9, c10, c11, c12, c13, c14, c15, c16, c17, c18, c19, c20, c21, c22, c23, rfl⟩
def wf_api_Point (x : api_Point) : Prop := (InK .i64) x.X ∧ (InK .i64) x.Y
theorem op_api_Point : OpC Tryd.prog 35 r_api_Point wf_api_Point := fun H enc w base spare held fuel cs x h => by
  obtain ⟨ys, m, _, _, hl, hy, hf⟩ := DataW.trod_struct Tryd.underlying35 h
  obtain ⟨c0, c1, rfl⟩ := len2 (hl.trans (by kernel_rfl))
  obtain ⟨z0, f0⟩ := fld (hf 0 _ rfl) (by rw [hy]; decide)
  obtain ⟨u0, y0, k0, r0, w0⟩ := (op_int .i64 Tryd.underlying3) _ _ _ _ _ _ _ _ _ f0
  replace k0 : u0.cells.toList = [c0] := k0.trans (by kernel_rfl)
  obtain rfl : u0 = .int .i64 y0 := r0
  obtain rfl : Value.int .i64 y0 = c0 := by simpa [Value.cells] using k0
  obtain ⟨z1, f1⟩ := fld (hf 1 _ rfl) (by rw [hy]; decide)
  obtain ⟨u1, y1, k1, r1, w1⟩ := (op_int .i64 Tryd.underlying3) _ _ _ _ _ _ _ _ _ f1
  replace k1 : u1.cells.toList = [c1] := k1.trans (by kernel_rfl)
  obtain rfl : u1 = .int .i64 y1 := r1
  obtain rfl : Value.int .i64 y1 = c1 := by simpa [Value.cells] using k1
  exact ⟨_, ⟨y0, y1⟩, rfl, rfl, ⟨w0, w1⟩⟩
def wf_api_Shape (x : api_Shape) : Prop := (Wl wf_api_Point) x.Left ∧ (Wl wf_api_Point) x.Right
theorem op_api_Shape : OpC Tryd.prog 24 r_api_Shape wf_api_Shape := fun H enc w base spare held fuel cs x h => by
  obtain ⟨ys, m, _, _, hl, hy, hf⟩ := DataW.trod_struct Tryd.underlying24 h
  obtain ⟨c0, c1, rfl⟩ := len2 (hl.trans (by kernel_rfl))
  obtain ⟨z0, f0⟩ := fld (hf 0 _ rfl) (by rw [hy]; decide)
  obtain ⟨u0, y0, k0, r0, w0⟩ := (op_slice (r := r_api_Point) Tryd.underlying22 (by kernel_rfl) op_api_Point) _ _ _ _ _ _ _ _ _ f0
  replace k0 : u0.cells.toList = [c0] := k0.trans (by kernel_rfl)
  rw [scal_L _ _ _ _ _ r0] at k0
  obtain rfl : u0 = c0 := by simpa using k0
  obtain ⟨z1, f1⟩ := fld (hf 1 _ rfl) (by rw [hy]; decide)
  obtain ⟨u1, y1, k1, r1, w1⟩ := (op_slice (r := r_api_Point) Tryd.underlying22 (by kernel_rfl) op_api_Point) _ _ _ _ _ _ _ _ _ f1
  replace k1 : u1.cells.toList = [c1] := k1.trans (by kernel_rfl)
  rw [scal_L _ _ _ _ _ r1] at k1
  obtain rfl : u1 = c1 := by simpa using k1
  exact ⟨_, ⟨y0, y1⟩, rfl, ⟨_, _, rfl, r0, r1⟩, ⟨w0, w1⟩⟩
def wf_api_Piece (x : api_Piece) : Prop := (Wl (InK .i64)) x.Left ∧ (Wl (InK .i64)) x.Right
theorem op_api_Piece : OpC Tryd.prog 30 r_api_Piece wf_api_Piece := fun H enc w base spare held fuel cs x h => by
  obtain ⟨ys, m, _, _, hl, hy, hf⟩ := DataW.trod_struct Tryd.underlying30 h
  obtain ⟨c0, c1, rfl⟩ := len2 (hl.trans (by kernel_rfl))
  obtain ⟨z0, f0⟩ := fld (hf 0 _ rfl) (by rw [hy]; decide)
  obtain ⟨u0, y0, k0, r0, w0⟩ := (op_slice (r := (rI .i64)) Tryd.underlying28 (by kernel_rfl) (op_int .i64 Tryd.underlying3)) _ _ _ _ _ _ _ _ _ f0
  replace k0 : u0.cells.toList = [c0] := k0.trans (by kernel_rfl)
  rw [scal_L _ _ _ _ _ r0] at k0
  obtain rfl : u0 = c0 := by simpa using k0
  obtain ⟨z1, f1⟩ := fld (hf 1 _ rfl) (by rw [hy]; decide)
  obtain ⟨u1, y1, k1, r1, w1⟩ := (op_slice (r := (rI .i64)) Tryd.underlying28 (by kernel_rfl) (op_int .i64 Tryd.underlying3)) _ _ _ _ _ _ _ _ _ f1
  replace k1 : u1.cells.toList = [c1] := k1.trans (by kernel_rfl)
  rw [scal_L _ _ _ _ _ r1] at k1
  obtain rfl : u1 = c1 := by simpa using k1
  exact ⟨_, ⟨y0, y1⟩, rfl, ⟨_, _, rfl, r0, r1⟩, ⟨w0, w1⟩⟩
def wf_api_Stitch (x : api_Stitch) : Prop := (InK .u8) x.Kind ∧ (fun _ => True) x.Purl ∧ (InK .i64) x.A ∧ (InK .i64) x.B
theorem op_api_Stitch : OpC Tryd.prog 56 r_api_Stitch wf_api_Stitch := fun H enc w base spare held fuel cs x h => by
  obtain ⟨ys, m, _, _, hl, hy, hf⟩ := DataW.trod_struct Tryd.underlying56 h
  obtain ⟨c0, c1, c2, c3, rfl⟩ := len4 (hl.trans (by kernel_rfl))
  obtain ⟨z0, f0⟩ := fld (hf 0 _ rfl) (by rw [hy]; decide)
  obtain ⟨u0, y0, k0, r0, w0⟩ := (op_int .u8 Tryd.underlying5) _ _ _ _ _ _ _ _ _ f0
  replace k0 : u0.cells.toList = [c0] := k0.trans (by kernel_rfl)
  obtain rfl : u0 = .int .u8 y0 := r0
  obtain rfl : Value.int .u8 y0 = c0 := by simpa [Value.cells] using k0
  obtain ⟨z1, f1⟩ := fld (hf 1 _ rfl) (by rw [hy]; decide)
  obtain ⟨u1, y1, k1, r1, w1⟩ := (op_bool Tryd.underlying4) _ _ _ _ _ _ _ _ _ f1
  replace k1 : u1.cells.toList = [c1] := k1.trans (by kernel_rfl)
  obtain rfl : u1 = .bool y1 := r1
  obtain rfl : Value.bool y1 = c1 := by simpa [Value.cells] using k1
  obtain ⟨z2, f2⟩ := fld (hf 2 _ rfl) (by rw [hy]; decide)
  obtain ⟨u2, y2, k2, r2, w2⟩ := (op_int .i64 Tryd.underlying3) _ _ _ _ _ _ _ _ _ f2
  replace k2 : u2.cells.toList = [c2] := k2.trans (by kernel_rfl)
  obtain rfl : u2 = .int .i64 y2 := r2
  obtain rfl : Value.int .i64 y2 = c2 := by simpa [Value.cells] using k2
  obtain ⟨z3, f3⟩ := fld (hf 3 _ rfl) (by rw [hy]; decide)
  obtain ⟨u3, y3, k3, r3, w3⟩ := (op_int .i64 Tryd.underlying3) _ _ _ _ _ _ _ _ _ f3
  replace k3 : u3.cells.toList = [c3] := k3.trans (by kernel_rfl)
  obtain rfl : u3 = .int .i64 y3 := r3
  obtain rfl : Value.int .i64 y3 = c3 := by simpa [Value.cells] using k3
  exact ⟨_, ⟨y0, y1, y2, y3⟩, rfl, rfl, ⟨w0, w1, w2, w3⟩⟩
def wf_api_Row (x : api_Row) : Prop := (fun _ => True) x.Back ∧ (Wl wf_api_Stitch) x.Cells
theorem op_api_Row : OpC Tryd.prog 54 r_api_Row wf_api_Row := fun H enc w base spare held fuel cs x h => by
  obtain ⟨ys, m, _, _, hl, hy, hf⟩ := DataW.trod_struct Tryd.underlying54 h
  obtain ⟨c0, c1, rfl⟩ := len2 (hl.trans (by kernel_rfl))
  obtain ⟨z0, f0⟩ := fld (hf 0 _ rfl) (by rw [hy]; decide)
  obtain ⟨u0, y0, k0, r0, w0⟩ := (op_bool Tryd.underlying4) _ _ _ _ _ _ _ _ _ f0
  replace k0 : u0.cells.toList = [c0] := k0.trans (by kernel_rfl)
  obtain rfl : u0 = .bool y0 := r0
  obtain rfl : Value.bool y0 = c0 := by simpa [Value.cells] using k0
  obtain ⟨z1, f1⟩ := fld (hf 1 _ rfl) (by rw [hy]; decide)
  obtain ⟨u1, y1, k1, r1, w1⟩ := (op_slice (r := r_api_Stitch) Tryd.underlying52 (by kernel_rfl) op_api_Stitch) _ _ _ _ _ _ _ _ _ f1
  replace k1 : u1.cells.toList = [c1] := k1.trans (by kernel_rfl)
  rw [scal_L _ _ _ _ _ r1] at k1
  obtain rfl : u1 = c1 := by simpa using k1
  exact ⟨_, ⟨y0, y1⟩, rfl, ⟨_, rfl, r1⟩, ⟨w0, w1⟩⟩
def wf_api_Chart (x : api_Chart) : Prop := (InK .i64) x.Start ∧ (Wl wf_api_Row) x.Rows
theorem op_api_Chart : OpC Tryd.prog 40 r_api_Chart wf_api_Chart := fun H enc w base spare held fuel cs x h => by
  obtain ⟨ys, m, _, _, hl, hy, hf⟩ := DataW.trod_struct Tryd.underlying40 h
  obtain ⟨c0, c1, rfl⟩ := len2 (hl.trans (by kernel_rfl))
  obtain ⟨z0, f0⟩ := fld (hf 0 _ rfl) (by rw [hy]; decide)
  obtain ⟨u0, y0, k0, r0, w0⟩ := (op_int .i64 Tryd.underlying3) _ _ _ _ _ _ _ _ _ f0
  replace k0 : u0.cells.toList = [c0] := k0.trans (by kernel_rfl)
  obtain rfl : u0 = .int .i64 y0 := r0
  obtain rfl : Value.int .i64 y0 = c0 := by simpa [Value.cells] using k0
  obtain ⟨z1, f1⟩ := fld (hf 1 _ rfl) (by rw [hy]; decide)
  obtain ⟨u1, y1, k1, r1, w1⟩ := (op_slice (r := r_api_Row) Tryd.underlying38 (by kernel_rfl) op_api_Row) _ _ _ _ _ _ _ _ _ f1
  replace k1 : u1.cells.toList = [c1] := k1.trans (by kernel_rfl)
  rw [scal_L _ _ _ _ _ r1] at k1
  obtain rfl : u1 = c1 := by simpa using k1
  exact ⟨_, ⟨y0, y1⟩, rfl, ⟨_, rfl, r1⟩, ⟨w0, w1⟩⟩
def wf_piece_edge (x : piece_edge) : Prop := wf_api_Stitch x.s ∧ (InK .i64) x.uses
theorem op_piece_edge : OpC Tryd.prog 81 r_piece_edge wf_piece_edge := fun H enc w base spare held fuel cs x h => by
  obtain ⟨ys, m, _, _, hl, hy, hf⟩ := DataW.trod_struct Tryd.underlying81 h
  obtain ⟨c0, c1, c2, c3, c4, rfl⟩ := len5 (hl.trans (by kernel_rfl))
  obtain ⟨z0, f0⟩ := fld (hf 0 _ rfl) (by rw [hy]; decide)
  obtain ⟨u0, y0, k0, r0, w0⟩ := op_api_Stitch _ _ _ _ _ _ _ _ _ f0
  replace k0 : u0.cells.toList = [c0, c1, c2, c3] := k0.trans (by kernel_rfl)
  obtain rfl : u0 = .agg #[.int .u8 y0.Kind, .bool y0.Purl, .int .i64 y0.A, .int .i64 y0.B] := r0
  simp only [Value.cells, List.cons.injEq, and_true] at k0
  obtain ⟨rfl, rfl, rfl, rfl⟩ := k0
  obtain ⟨z1, f1⟩ := fld (hf 1 _ rfl) (by rw [hy]; decide)
  obtain ⟨u1, y1, k1, r1, w1⟩ := (op_int .i64 Tryd.underlying3) _ _ _ _ _ _ _ _ _ f1
  replace k1 : u1.cells.toList = [c4] := k1.trans (by kernel_rfl)
  obtain rfl : u1 = .int .i64 y1 := r1
  obtain rfl : Value.int .i64 y1 = c4 := by simpa [Value.cells] using k1
  exact ⟨_, ⟨y0, y1⟩, rfl, rfl, ⟨w0, w1⟩⟩
def wf_A2_Int (x : (Int × Int)) : Prop := (InK .i64) x.1 ∧ (InK .i64) x.2
theorem op_A2_Int : OpC Tryd.prog 61 r_A2_Int wf_A2_Int := fun H enc w base spare held fuel cs x h => by
  obtain ⟨ys, m, _, _, hl, hy, hf⟩ := DataW.trod_array Tryd.underlying61 h
  obtain ⟨c0, c1, rfl⟩ := len2 (hl.trans (by kernel_rfl))
  obtain ⟨z0, f0⟩ := fld (hf 0 (by decide)) (by rw [hy]; decide)
  obtain ⟨u0, y0, k0, r0, w0⟩ := (op_int .i64 Tryd.underlying3) _ _ _ _ _ _ _ _ _ f0
  replace k0 : u0.cells.toList = [c0] := k0.trans (by kernel_rfl)
  obtain rfl : u0 = .int .i64 y0 := r0
  obtain rfl : Value.int .i64 y0 = c0 := by simpa [Value.cells] using k0
  obtain ⟨z1, f1⟩ := fld (hf 1 (by decide)) (by rw [hy]; decide)
  obtain ⟨u1, y1, k1, r1, w1⟩ := (op_int .i64 Tryd.underlying3) _ _ _ _ _ _ _ _ _ f1
  replace k1 : u1.cells.toList = [c1] := k1.trans (by kernel_rfl)
  obtain rfl : u1 = .int .i64 y1 := r1
  obtain rfl : Value.int .i64 y1 = c1 := by simpa [Value.cells] using k1
  exact ⟨_, (y0, y1), rfl, rfl, ⟨w0, w1⟩⟩
def wf_stitch_form (x : stitch_form) : Prop := (fun s => s.size ≤ 9223372036854775807) x.letter ∧ wf_A2_Int x.a ∧ wf_A2_Int x.b ∧ (fun _ => True) x.sided ∧ (InK .i64) x.uses ∧ (InK .i64) x.made
theorem op_stitch_form : OpC Tryd.prog 100 r_stitch_form wf_stitch_form := fun H enc w base spare held fuel cs x h => by
  obtain ⟨ys, m, _, _, hl, hy, hf⟩ := DataW.trod_struct Tryd.underlying100 h
  obtain ⟨c0, c1, c2, c3, c4, c5, c6, c7, rfl⟩ := len8 (hl.trans (by kernel_rfl))
  obtain ⟨z0, f0⟩ := fld (hf 0 _ rfl) (by rw [hy]; decide)
  obtain ⟨u0, y0, k0, r0, w0⟩ := (op_string Tryd.underlying9) _ _ _ _ _ _ _ _ _ f0
  replace k0 : u0.cells.toList = [c0] := k0.trans (by kernel_rfl)
  obtain rfl : u0 = .string y0 := r0
  obtain rfl : Value.string y0 = c0 := by simpa [Value.cells] using k0
  obtain ⟨z1, f1⟩ := fld (hf 1 _ rfl) (by rw [hy]; decide)
  obtain ⟨u1, y1, k1, r1, w1⟩ := op_A2_Int _ _ _ _ _ _ _ _ _ f1
  replace k1 : u1.cells.toList = [c1, c2] := k1.trans (by kernel_rfl)
  obtain rfl : u1 = .agg #[.int .i64 y1.1, .int .i64 y1.2] := r1
  simp only [Value.cells, List.cons.injEq, and_true] at k1
  obtain ⟨rfl, rfl⟩ := k1
  obtain ⟨z2, f2⟩ := fld (hf 2 _ rfl) (by rw [hy]; decide)
  obtain ⟨u2, y2, k2, r2, w2⟩ := op_A2_Int _ _ _ _ _ _ _ _ _ f2
  replace k2 : u2.cells.toList = [c3, c4] := k2.trans (by kernel_rfl)
  obtain rfl : u2 = .agg #[.int .i64 y2.1, .int .i64 y2.2] := r2
  simp only [Value.cells, List.cons.injEq, and_true] at k2
  obtain ⟨rfl, rfl⟩ := k2
  obtain ⟨z3, f3⟩ := fld (hf 3 _ rfl) (by rw [hy]; decide)
  obtain ⟨u3, y3, k3, r3, w3⟩ := (op_bool Tryd.underlying4) _ _ _ _ _ _ _ _ _ f3
  replace k3 : u3.cells.toList = [c5] := k3.trans (by kernel_rfl)
  obtain rfl : u3 = .bool y3 := r3
  obtain rfl : Value.bool y3 = c5 := by simpa [Value.cells] using k3
  obtain ⟨z4, f4⟩ := fld (hf 4 _ rfl) (by rw [hy]; decide)
  obtain ⟨u4, y4, k4, r4, w4⟩ := (op_int .i64 Tryd.underlying3) _ _ _ _ _ _ _ _ _ f4
  replace k4 : u4.cells.toList = [c6] := k4.trans (by kernel_rfl)
  obtain rfl : u4 = .int .i64 y4 := r4
  obtain rfl : Value.int .i64 y4 = c6 := by simpa [Value.cells] using k4
  obtain ⟨z5, f5⟩ := fld (hf 5 _ rfl) (by rw [hy]; decide)
  obtain ⟨u5, y5, k5, r5, w5⟩ := (op_int .i64 Tryd.underlying3) _ _ _ _ _ _ _ _ _ f5
  replace k5 : u5.cells.toList = [c7] := k5.trans (by kernel_rfl)
  obtain rfl : u5 = .int .i64 y5 := r5
  obtain rfl : Value.int .i64 y5 = c7 := by simpa [Value.cells] using k5
  exact ⟨_, ⟨y0, y1, y2, y3, y4, y5⟩, rfl, rfl, ⟨w0, w1, w2, w3, w4, w5⟩⟩
def wf_A24_Int (x : (Int × Int × Int × Int × Int × Int × Int × Int × Int × Int × Int × Int × Int × Int × Int × Int × Int × Int × Int × Int × Int × Int × Int × Int)) : Prop := (InK .u8) x.1 ∧ (InK .u8) x.2.1 ∧ (InK .u8) x.2.2.1 ∧ (InK .u8) x.2.2.2.1 ∧ (InK .u8) x.2.2.2.2.1 ∧ (InK .u8) x.2.2.2.2.2.1 ∧ (InK .u8) x.2.2.2.2.2.2.1 ∧ (InK .u8) x.2.2.2.2.2.2.2.1 ∧ (InK .u8) x.2.2.2.2.2.2.2.2.1 ∧ (InK .u8) x.2.2.2.2.2.2.2.2.2.1 ∧ (InK .u8) x.2.2.2.2.2.2.2.2.2.2.1 ∧ (InK .u8) x.2.2.2.2.2.2.2.2.2.2.2.1 ∧ (InK .u8) x.2.2.2.2.2.2.2.2.2.2.2.2.1 ∧ (InK .u8) x.2.2.2.2.2.2.2.2.2.2.2.2.2.1 ∧ (InK .u8) x.2.2.2.2.2.2.2.2.2.2.2.2.2.2.1 ∧ (InK .u8) x.2.2.2.2.2.2.2.2.2.2.2.2.2.2.2.1 ∧ (InK .u8) x.2.2.2.2.2.2.2.2.2.2.2.2.2.2.2.2.1 ∧ (InK .u8) x.2.2.2.2.2.2.2.2.2.2.2.2.2.2.2.2.2.1 ∧ (InK .u8) x.2.2.2.2.2.2.2.2.2.2.2.2.2.2.2.2.2.2.1 ∧ (InK .u8) x.2.2.2.2.2.2.2.2.2.2.2.2.2.2.2.2.2.2.2.1 ∧ (InK .u8) x.2.2.2.2.2.2.2.2.2.2.2.2.2.2.2.2.2.2.2.2.1 ∧ (InK .u8) x.2.2.2.2.2.2.2.2.2.2.2.2.2.2.2.2.2.2.2.2.2.1 ∧ (InK .u8) x.2.2.2.2.2.2.2.2.2.2.2.2.2.2.2.2.2.2.2.2.2.2.1 ∧ (InK .u8) x.2.2.2.2.2.2.2.2.2.2.2.2.2.2.2.2.2.2.2.2.2.2.2
theorem op_A24_Int : OpC Tryd.prog 138 r_A24_Int wf_A24_Int := fun H enc w base spare held fuel cs x h => by
  obtain ⟨ys, m, _, _, hl, hy, hf⟩ := DataW.trod_array Tryd.underlying138 h
  obtain ⟨c0, c1, c2, c3, c4, c5, c6, c7, c8, c9, c10, c11, c12, c13, c14, c15, c16, c17, c18, c19, c20, c21, c22, c23, rfl⟩ := len24 (hl.trans (by kernel_rfl))
  obtain ⟨z0, f0⟩ := fld (hf 0 (by decide)) (by rw [hy]; decide)
  obtain ⟨u0, y0, k0, r0, w0⟩ := (op_int .u8 Tryd.underlying5) _ _ _ _ _ _ _ _ _ f0
  replace k0 : u0.cells.toList = [c0] := k0.trans (by kernel_rfl)
  obtain rfl : u0 = .int .u8 y0 := r0
  obtain rfl : Value.int .u8 y0 = c0 := by simpa [Value.cells] using k0
  obtain ⟨z1, f1⟩ := fld (hf 1 (by decide)) (by rw [hy]; decide)
  obtain ⟨u1, y1, k1, r1, w1⟩ := (op_int .u8 Tryd.underlying5) _ _ _ _ _ _ _ _ _ f1
  replace k1 : u1.cells.toList = [c1] := k1.trans (by kernel_rfl)
  obtain rfl : u1 = .int .u8 y1 := r1
  obtain rfl : Value.int .u8 y1 = c1 := by simpa [Value.cells] using k1
  obtain ⟨z2, f2⟩ := fld (hf 2 (by decide)) (by rw [hy]; decide)
  obtain ⟨u2, y2, k2, r2, w2⟩ := (op_int .u8 Tryd.underlying5) _ _ _ _ _ _ _ _ _ f2
  replace k2 : u2.cells.toList = [c2] := k2.trans (by kernel_rfl)
  obtain rfl : u2 = .int .u8 y2 := r2
  obtain rfl : Value.int .u8 y2 = c2 := by simpa [Value.cells] using k2
  obtain ⟨z3, f3⟩ := fld (hf 3 (by decide)) (by rw [hy]; decide)
  obtain ⟨u3, y3, k3, r3, w3⟩ := (op_int .u8 Tryd.underlying5) _ _ _ _ _ _ _ _ _ f3
  replace k3 : u3.cells.toList = [c3] := k3.trans (by kernel_rfl)
  obtain rfl : u3 = .int .u8 y3 := r3
  obtain rfl : Value.int .u8 y3 = c3 := by simpa [Value.cells] using k3
  obtain ⟨z4, f4⟩ := fld (hf 4 (by decide)) (by rw [hy]; decide)
  obtain ⟨u4, y4, k4, r4, w4⟩ := (op_int .u8 Tryd.underlying5) _ _ _ _ _ _ _ _ _ f4
  replace k4 : u4.cells.toList = [c4] := k4.trans (by kernel_rfl)
  obtain rfl : u4 = .int .u8 y4 := r4
  obtain rfl : Value.int .u8 y4 = c4 := by simpa [Value.cells] using k4
  obtain ⟨z5, f5⟩ := fld (hf 5 (by decide)) (by rw [hy]; decide)
  obtain ⟨u5, y5, k5, r5, w5⟩ := (op_int .u8 Tryd.underlying5) _ _ _ _ _ _ _ _ _ f5
  replace k5 : u5.cells.toList = [c5] := k5.trans (by kernel_rfl)
  obtain rfl : u5 = .int .u8 y5 := r5
  obtain rfl : Value.int .u8 y5 = c5 := by simpa [Value.cells] using k5
  obtain ⟨z6, f6⟩ := fld (hf 6 (by decide)) (by rw [hy]; decide)
  obtain ⟨u6, y6, k6, r6, w6⟩ := (op_int .u8 Tryd.underlying5) _ _ _ _ _ _ _ _ _ f6
  replace k6 : u6.cells.toList = [c6] := k6.trans (by kernel_rfl)
  obtain rfl : u6 = .int .u8 y6 := r6
  obtain rfl : Value.int .u8 y6 = c6 := by simpa [Value.cells] using k6
  obtain ⟨z7, f7⟩ := fld (hf 7 (by decide)) (by rw [hy]; decide)
  obtain ⟨u7, y7, k7, r7, w7⟩ := (op_int .u8 Tryd.underlying5) _ _ _ _ _ _ _ _ _ f7
  replace k7 : u7.cells.toList = [c7] := k7.trans (by kernel_rfl)
  obtain rfl : u7 = .int .u8 y7 := r7
  obtain rfl : Value.int .u8 y7 = c7 := by simpa [Value.cells] using k7
  obtain ⟨z8, f8⟩ := fld (hf 8 (by decide)) (by rw [hy]; decide)
  obtain ⟨u8, y8, k8, r8, w8⟩ := (op_int .u8 Tryd.underlying5) _ _ _ _ _ _ _ _ _ f8
  replace k8 : u8.cells.toList = [c8] := k8.trans (by kernel_rfl)
  obtain rfl : u8 = .int .u8 y8 := r8
  obtain rfl : Value.int .u8 y8 = c8 := by simpa [Value.cells] using k8
  obtain ⟨z9, f9⟩ := fld (hf 9 (by decide)) (by rw [hy]; decide)
  obtain ⟨u9, y9, k9, r9, w9⟩ := (op_int .u8 Tryd.underlying5) _ _ _ _ _ _ _ _ _ f9
  replace k9 : u9.cells.toList = [c9] := k9.trans (by kernel_rfl)
  obtain rfl : u9 = .int .u8 y9 := r9
  obtain rfl : Value.int .u8 y9 = c9 := by simpa [Value.cells] using k9
  obtain ⟨z10, f10⟩ := fld (hf 10 (by decide)) (by rw [hy]; decide)
  obtain ⟨u10, y10, k10, r10, w10⟩ := (op_int .u8 Tryd.underlying5) _ _ _ _ _ _ _ _ _ f10
  replace k10 : u10.cells.toList = [c10] := k10.trans (by kernel_rfl)
  obtain rfl : u10 = .int .u8 y10 := r10
  obtain rfl : Value.int .u8 y10 = c10 := by simpa [Value.cells] using k10
  obtain ⟨z11, f11⟩ := fld (hf 11 (by decide)) (by rw [hy]; decide)
  obtain ⟨u11, y11, k11, r11, w11⟩ := (op_int .u8 Tryd.underlying5) _ _ _ _ _ _ _ _ _ f11
  replace k11 : u11.cells.toList = [c11] := k11.trans (by kernel_rfl)
  obtain rfl : u11 = .int .u8 y11 := r11
  obtain rfl : Value.int .u8 y11 = c11 := by simpa [Value.cells] using k11
  obtain ⟨z12, f12⟩ := fld (hf 12 (by decide)) (by rw [hy]; decide)
  obtain ⟨u12, y12, k12, r12, w12⟩ := (op_int .u8 Tryd.underlying5) _ _ _ _ _ _ _ _ _ f12
  replace k12 : u12.cells.toList = [c12] := k12.trans (by kernel_rfl)
  obtain rfl : u12 = .int .u8 y12 := r12
  obtain rfl : Value.int .u8 y12 = c12 := by simpa [Value.cells] using k12
  obtain ⟨z13, f13⟩ := fld (hf 13 (by decide)) (by rw [hy]; decide)
  obtain ⟨u13, y13, k13, r13, w13⟩ := (op_int .u8 Tryd.underlying5) _ _ _ _ _ _ _ _ _ f13
  replace k13 : u13.cells.toList = [c13] := k13.trans (by kernel_rfl)
  obtain rfl : u13 = .int .u8 y13 := r13
  obtain rfl : Value.int .u8 y13 = c13 := by simpa [Value.cells] using k13
  obtain ⟨z14, f14⟩ := fld (hf 14 (by decide)) (by rw [hy]; decide)
  obtain ⟨u14, y14, k14, r14, w14⟩ := (op_int .u8 Tryd.underlying5) _ _ _ _ _ _ _ _ _ f14
  replace k14 : u14.cells.toList = [c14] := k14.trans (by kernel_rfl)
  obtain rfl : u14 = .int .u8 y14 := r14
  obtain rfl : Value.int .u8 y14 = c14 := by simpa [Value.cells] using k14
  obtain ⟨z15, f15⟩ := fld (hf 15 (by decide)) (by rw [hy]; decide)
  obtain ⟨u15, y15, k15, r15, w15⟩ := (op_int .u8 Tryd.underlying5) _ _ _ _ _ _ _ _ _ f15
  replace k15 : u15.cells.toList = [c15] := k15.trans (by kernel_rfl)
  obtain rfl : u15 = .int .u8 y15 := r15
  obtain rfl : Value.int .u8 y15 = c15 := by simpa [Value.cells] using k15
  obtain ⟨z16, f16⟩ := fld (hf 16 (by decide)) (by rw [hy]; decide)
  obtain ⟨u16, y16, k16, r16, w16⟩ := (op_int .u8 Tryd.underlying5) _ _ _ _ _ _ _ _ _ f16
  replace k16 : u16.cells.toList = [c16] := k16.trans (by kernel_rfl)
  obtain rfl : u16 = .int .u8 y16 := r16
  obtain rfl : Value.int .u8 y16 = c16 := by simpa [Value.cells] using k16
  obtain ⟨z17, f17⟩ := fld (hf 17 (by decide)) (by rw [hy]; decide)
  obtain ⟨u17, y17, k17, r17, w17⟩ := (op_int .u8 Tryd.underlying5) _ _ _ _ _ _ _ _ _ f17
  replace k17 : u17.cells.toList = [c17] := k17.trans (by kernel_rfl)
  obtain rfl : u17 = .int .u8 y17 := r17
  obtain rfl : Value.int .u8 y17 = c17 := by simpa [Value.cells] using k17
  obtain ⟨z18, f18⟩ := fld (hf 18 (by decide)) (by rw [hy]; decide)
  obtain ⟨u18, y18, k18, r18, w18⟩ := (op_int .u8 Tryd.underlying5) _ _ _ _ _ _ _ _ _ f18
  replace k18 : u18.cells.toList = [c18] := k18.trans (by kernel_rfl)
  obtain rfl : u18 = .int .u8 y18 := r18
  obtain rfl : Value.int .u8 y18 = c18 := by simpa [Value.cells] using k18
  obtain ⟨z19, f19⟩ := fld (hf 19 (by decide)) (by rw [hy]; decide)
  obtain ⟨u19, y19, k19, r19, w19⟩ := (op_int .u8 Tryd.underlying5) _ _ _ _ _ _ _ _ _ f19
  replace k19 : u19.cells.toList = [c19] := k19.trans (by kernel_rfl)
  obtain rfl : u19 = .int .u8 y19 := r19
  obtain rfl : Value.int .u8 y19 = c19 := by simpa [Value.cells] using k19
  obtain ⟨z20, f20⟩ := fld (hf 20 (by decide)) (by rw [hy]; decide)
  obtain ⟨u20, y20, k20, r20, w20⟩ := (op_int .u8 Tryd.underlying5) _ _ _ _ _ _ _ _ _ f20
  replace k20 : u20.cells.toList = [c20] := k20.trans (by kernel_rfl)
  obtain rfl : u20 = .int .u8 y20 := r20
  obtain rfl : Value.int .u8 y20 = c20 := by simpa [Value.cells] using k20
  obtain ⟨z21, f21⟩ := fld (hf 21 (by decide)) (by rw [hy]; decide)
  obtain ⟨u21, y21, k21, r21, w21⟩ := (op_int .u8 Tryd.underlying5) _ _ _ _ _ _ _ _ _ f21
  replace k21 : u21.cells.toList = [c21] := k21.trans (by kernel_rfl)
  obtain rfl : u21 = .int .u8 y21 := r21
  obtain rfl : Value.int .u8 y21 = c21 := by simpa [Value.cells] using k21
  obtain ⟨z22, f22⟩ := fld (hf 22 (by decide)) (by rw [hy]; decide)
  obtain ⟨u22, y22, k22, r22, w22⟩ := (op_int .u8 Tryd.underlying5) _ _ _ _ _ _ _ _ _ f22
  replace k22 : u22.cells.toList = [c22] := k22.trans (by kernel_rfl)
  obtain rfl : u22 = .int .u8 y22 := r22
  obtain rfl : Value.int .u8 y22 = c22 := by simpa [Value.cells] using k22
  obtain ⟨z23, f23⟩ := fld (hf 23 (by decide)) (by rw [hy]; decide)
  obtain ⟨u23, y23, k23, r23, w23⟩ := (op_int .u8 Tryd.underlying5) _ _ _ _ _ _ _ _ _ f23
  replace k23 : u23.cells.toList = [c23] := k23.trans (by kernel_rfl)
  obtain rfl : u23 = .int .u8 y23 := r23
  obtain rfl : Value.int .u8 y23 = c23 := by simpa [Value.cells] using k23
  exact ⟨_, (y0, y1, y2, y3, y4, y5, y6, y7, y8, y9, y10, y11, y12, y13, y14, y15, y16, y17, y18, y19, y20, y21, y22, y23), rfl, rfl, ⟨w0, w1, w2, w3, w4, w5, w6, w7, w8, w9, w10, w11, w12, w13, w14, w15, w16, w17, w18, w19, w20, w21, w22, w23⟩⟩
def wf_api_Gauge (x : api_Gauge) : Prop := (InK .i64) x.Stitches ∧ (InK .i64) x.Width ∧ (InK .i64) x.Rows ∧ (InK .i64) x.Height
theorem op_api_Gauge : OpC Tryd.prog 65 r_api_Gauge wf_api_Gauge := fun H enc w base spare held fuel cs x h => by
  obtain ⟨ys, m, _, _, hl, hy, hf⟩ := DataW.trod_struct Tryd.underlying65 h
  obtain ⟨c0, c1, c2, c3, rfl⟩ := len4 (hl.trans (by kernel_rfl))
  obtain ⟨z0, f0⟩ := fld (hf 0 _ rfl) (by rw [hy]; decide)
  obtain ⟨u0, y0, k0, r0, w0⟩ := (op_int .i64 Tryd.underlying3) _ _ _ _ _ _ _ _ _ f0
  replace k0 : u0.cells.toList = [c0] := k0.trans (by kernel_rfl)
  obtain rfl : u0 = .int .i64 y0 := r0
  obtain rfl : Value.int .i64 y0 = c0 := by simpa [Value.cells] using k0
  obtain ⟨z1, f1⟩ := fld (hf 1 _ rfl) (by rw [hy]; decide)
  obtain ⟨u1, y1, k1, r1, w1⟩ := (op_int .i64 Tryd.underlying3) _ _ _ _ _ _ _ _ _ f1
  replace k1 : u1.cells.toList = [c1] := k1.trans (by kernel_rfl)
  obtain rfl : u1 = .int .i64 y1 := r1
  obtain rfl : Value.int .i64 y1 = c1 := by simpa [Value.cells] using k1
  obtain ⟨z2, f2⟩ := fld (hf 2 _ rfl) (by rw [hy]; decide)
  obtain ⟨u2, y2, k2, r2, w2⟩ := (op_int .i64 Tryd.underlying3) _ _ _ _ _ _ _ _ _ f2
  replace k2 : u2.cells.toList = [c2] := k2.trans (by kernel_rfl)
  obtain rfl : u2 = .int .i64 y2 := r2
  obtain rfl : Value.int .i64 y2 = c2 := by simpa [Value.cells] using k2
  obtain ⟨z3, f3⟩ := fld (hf 3 _ rfl) (by rw [hy]; decide)
  obtain ⟨u3, y3, k3, r3, w3⟩ := (op_int .i64 Tryd.underlying3) _ _ _ _ _ _ _ _ _ f3
  replace k3 : u3.cells.toList = [c3] := k3.trans (by kernel_rfl)
  obtain rfl : u3 = .int .i64 y3 := r3
  obtain rfl : Value.int .i64 y3 = c3 := by simpa [Value.cells] using k3
  exact ⟨_, ⟨y0, y1, y2, y3⟩, rfl, rfl, ⟨w0, w1, w2, w3⟩⟩
def wf_gauge_ratio (x : gauge_ratio) : Prop := (InK .i64) x.num ∧ (InK .i64) x.den
theorem op_gauge_ratio : OpC Tryd.prog 123 r_gauge_ratio wf_gauge_ratio := fun H enc w base spare held fuel cs x h => by
  obtain ⟨ys, m, _, _, hl, hy, hf⟩ := DataW.trod_struct Tryd.underlying123 h
  obtain ⟨c0, c1, rfl⟩ := len2 (hl.trans (by kernel_rfl))
  obtain ⟨z0, f0⟩ := fld (hf 0 _ rfl) (by rw [hy]; decide)
  obtain ⟨u0, y0, k0, r0, w0⟩ := (op_int .i64 Tryd.underlying3) _ _ _ _ _ _ _ _ _ f0
  replace k0 : u0.cells.toList = [c0] := k0.trans (by kernel_rfl)
  obtain rfl : u0 = .int .i64 y0 := r0
  obtain rfl : Value.int .i64 y0 = c0 := by simpa [Value.cells] using k0
  obtain ⟨z1, f1⟩ := fld (hf 1 _ rfl) (by rw [hy]; decide)
  obtain ⟨u1, y1, k1, r1, w1⟩ := (op_int .i64 Tryd.underlying3) _ _ _ _ _ _ _ _ _ f1
  replace k1 : u1.cells.toList = [c1] := k1.trans (by kernel_rfl)
  obtain rfl : u1 = .int .i64 y1 := r1
  obtain rfl : Value.int .i64 y1 = c1 := by simpa [Value.cells] using k1
  exact ⟨_, ⟨y0, y1⟩, rfl, rfl, ⟨w0, w1⟩⟩

end Go.Proofs.YtmedbnjhgkcndaaDoor
namespace Go.Proofs.YtmedbnjhgkcndaaDoor
open Go.RowKit
set_option linter.unusedVariables false

def Le {α : Type} (a b : Option α) : Prop := ∀ r, a = some r → b = some r
theorem Le.rfl {α : Type} (a : Option α) : Le a a := fun _ h => h
theorem Le.bind {α β : Type} {a b : Option α} {f g : α → Option β} (h : Le a b) (hf : ∀ x, Le (f x) (g x)) : Le (Option.bind a f) (Option.bind b g) := by
  intro r hr
  cases ha : a with
  | none => rw [ha] at hr; cases hr
  | some x =>
    rw [ha] at hr
    rw [h x ha]
    exact hf x r hr
theorem Le.ite {α : Type} {c : Prop} [Decidable c] {a b a' b' : Option α} (h : Le a b) (h' : Le a' b') : Le (if c then a else a') (if c then b else b') := by
  by_cases hc : c
  · rw [if_pos hc, if_pos hc]; exact h
  · rw [if_neg hc, if_neg hc]; exact h'
theorem Le.sum {α β γ : Type} {f g : α ⊕ β → Option γ} (h : ∀ a, Le (f (.inl a)) (g (.inl a))) (h' : ∀ b, Le (f (.inr b)) (g (.inr b))) : ∀ z, Le (f z) (g z)
  | .inl a => h a
  | .inr b => h' b
theorem Le.prod {α β γ : Type} {f g : α × β → Option γ} (h : ∀ a b, Le (f (a, b)) (g (a, b))) : ∀ z, Le (f z) (g z)
  | (a, b) => h a b
theorem iterO_Le {σ τ : Type} {B B' : σ → Option (σ ⊕ τ)} (h : ∀ s, Le (B s) (B' s)) : ∀ (n : Nat) (s : σ), Le (iterO B n s) (iterO B' n s) := by
  intro n
  induction n with
  | zero => intro s r hr; cases hr
  | succ n ih =>
    intro s r hr
    unfold iterO at hr ⊢
    cases hB : B s with
    | none => rw [hB] at hr; cases hr
    | some x =>
      rw [hB] at hr
      rw [h s x hB]
      cases x with
      | inl s' => exact ih s' r hr
      | inr t => exact hr
def whileK {σ τ : Type} (B : σ → Option (σ ⊕ τ)) (s : σ) : Option τ := iterO B 1000000 s
theorem Le.loop {σ τ : Type} {B B' : σ → Option (σ ⊕ τ)} (s : σ) (h : ∀ s, Le (B s) (B' s)) : Le (whileK B s) (whileO B' s) :=
  fun r hr => whileO_of (iterO_Le h 1000000 s r hr)

end Go.Proofs.YtmedbnjhgkcndaaDoor
namespace Go.Proofs.YtmedbnjhgkcndaaDoor
open Go.RowKit
set_option linter.unusedVariables false

noncomputable def F_piece_column (p0 : Int) : Option Bool :=
  Option.bind (α := Bool) (
    if decide ((-500) ≤ p0) then
      some (decide (p0 ≤ 500))
    else
      some false) fun o2 =>
  some o2
set_option maxHeartbeats 4000000 in
set_option maxRecDepth 100000 in
theorem c_piece_column (E : Nat → Prop) (w0 : World) (p0 : Int) (r : Bool) (h : F_piece_column p0 = some r) (S : St0 E [] w0 w0 [] []) :
    Calls Tryd.prog 37 #[iv p0] w0 (Ret (X := Unit) E [] w0 (fun _ => .bool r) (fun _ => []) (fun _ => [])) := by
  unfold F_piece_column at h
  refine sEnter (args := [iv p0]) 9 Tryd.func37 rfl rfl (by simp) S (fun a S => ?_)
  refine sSeq (fun K1 hK1 => ?_)
  refine sRegion ?_
  refine sMove (.bool false) S (wN rfl) (.inr rfl) rfl rfl (lb rfl) fun a S => ?_
  refine leafL (leafT (hK1 _ _ ?_))
  obtain ⟨t3, h, g4⟩ := bindSome h
  refine sCut (fun a w => ∃ o2, o2 = t3 ∧ St [] E [] w0 9 a w [(2, .bool o2)] [] []) ?_ (fun a w hI => ?_)
  rotate_left
  · obtain ⟨o2, rfl, S⟩ := hI
    have h := g4
    clear g4
    try dsimp only at h
    obtain rfl := Option.some.inj h
    exact wp_ret (sRet (.bool o2) S (rsl1 rfl (rvT (t := 2) (v := .bool o2) S rfl)) ⟨(), rfl, S.mem.sel [] [] (by decide) rfl rfl⟩)
  refine sRegion ?_
  refine sMove (iv p0) S (wN rfl) (.inl rfl) rfl rfl (lb rfl) fun a S => ?_
  refine sBin (.bool (decide ((-500) ≤ p0))) S (wN rfl) rfl rfl rfl (bGe _ _ _ _ .i64 p0 (-500)) rfl (lb rfl) fun a S => ?_
  refine sMove (.bool (decide ((-500) ≤ p0))) S (wN rfl) (.inl rfl) rfl rfl (lb rfl) fun a S => ?_
  rcases iteSome h with ⟨hc5, h⟩ | ⟨hc5, h⟩
  rotate_left
  · refine sSkip 2 true 5 6 S rfl rfl rfl hc5 rfl (lb rfl) fun a S => ?_
    refine sSkip 2 true 5 7 S rfl rfl rfl hc5 rfl (lb rfl) fun a S => ?_
    refine sPickF (.bool false) S (wN rfl) rfl rfl hc5 rfl rfl (lb rfl) fun a S => ?_
    refine sMove (.bool false) S (wN rfl) (.inr rfl) rfl rfl (lb rfl) fun a S => ?_
    exact leafL (leafT (⟨false, Option.some.inj h, S.fix [] [] (by decide) rfl rfl rfl⟩))
  refine sMove (iv p0) S (wG 2 true 5 rfl rfl rfl hc5) (.inl rfl) rfl rfl (lb rfl) fun a S => ?_
  refine sBin (.bool (decide (p0 ≤ 500))) S (wG 2 true 5 rfl rfl rfl hc5) rfl rfl rfl (bLe _ _ _ _ .i64 p0 500) rfl (lb rfl) fun a S => ?_
  refine sPickT (.bool (decide (p0 ≤ 500))) S (wN rfl) rfl rfl hc5 rfl rfl (lb rfl) fun a S => ?_
  refine sMove (.bool (decide (p0 ≤ 500))) S (wN rfl) (.inr rfl) rfl rfl (lb rfl) fun a S => ?_
  exact leafL (leafT (⟨decide (p0 ≤ 500), Option.some.inj h, S.fix [] [] (by decide) rfl rfl rfl⟩))

end Go.Proofs.YtmedbnjhgkcndaaDoor
namespace Go.Proofs.YtmedbnjhgkcndaaDoor
open Go.RowKit
set_option linter.unusedVariables false

noncomputable def piece_Check_l1 (p0 : api_Piece) : Int → Option (Int ⊕ (Int ⊕ Unit)) := fun s0 => match s0 with
  | s22 =>
    if decide (s22 < (p0.Left.length : Int)) then
      Option.bind (idxO p0.Left s22) fun x31 =>
      Option.bind (idxO p0.Right s22) fun x37 =>
      Option.bind (α := Bool) (
        Option.bind (F_piece_column x31) fun r45 =>
        if !r45 then
          some true
        else
          Option.bind (F_piece_column x37) fun r48 =>
          if !r48 then
            some true
          else
            if decide (x37 ≤ x31) then
              some true
            else
              some (decide (200 < (w64 (x37 - x31))))) fun o42 =>
      if o42 then
        some (.inr (.inl 8))
      else
        some (.inl (w64 (s22 + 1)))
    else
      some (.inr (.inr ()))
noncomputable def F_piece_Check (p0 : api_Piece) : Option Int :=
  Option.bind (α := Bool) (
    if (p0.Left.length : Int) != (p0.Right.length : Int) then
      some true
    else
      if (p0.Left.length : Int) == 0 then
        some true
      else
        some (decide (100 < (p0.Left.length : Int)))) fun o12 =>
  if o12 then
    some 8
  else
    Option.bind (α := Unit ⊕ Int) (
      Option.bind (whileO (piece_Check_l1 p0) 0) fun z0 => match z0 with
        | .inl z =>
          some (.inr z)
        | .inr _ =>
          some (.inl ())) fun z0 => match z0 with
      | .inl _ =>
        some 0
      | .inr z =>
        some z
set_option maxHeartbeats 4000000 in
set_option maxRecDepth 100000 in
theorem c_piece_Check (E : Nat → Prop) (w0 : World) (p0 : api_Piece) (v0 : Value) (r : Int) (h : F_piece_Check p0 = some r) (S : St0 E [] w0 w0 [] [fRep r_api_Piece (v0) p0]) :
    Calls Tryd.prog 13 #[v0] w0 (Ret (X := Unit) E [] w0 (fun _ => .int .i64 r) (fun _ => []) (fun _ => [])) := by
  unfold F_piece_Check at h
  obtain ⟨u1, u2, rfl, hu3, hu4⟩ := S.know (i := 0) (e := fRep r_api_Piece (v0) p0) rfl
  have S := S.learn (fRep (rL (rI .i64)) u1 p0.Left) hu3
  obtain ⟨ad5, cp6, _, rfl, _⟩ := hu3
  have S := S.learn (fRep (rL (rI .i64)) u2 p0.Right) hu4
  obtain ⟨ad7, cp8, _, rfl, _⟩ := hu4
  refine sEnter (args := [.agg #[.slice ad5 p0.Left.length cp6, .slice ad7 p0.Right.length cp8]]) 58 Tryd.func13 rfl rfl (by simp) S (fun a S => ?_)
  refine sSeq (fun K9 hK9 => ?_)
  refine sRegion ?_
  refine sBox (v := .agg #[.slice ad5 p0.Left.length cp6, .slice ad7 p0.Right.length cp8]) S (wN rfl) rfl rfl [.slice ad5 p0.Left.length cp6, .slice ad7 p0.Right.length cp8] rfl rfl (lb rfl) fun a b10 w S => ?_
  refine sMove (iv 0) S (wN rfl) (.inr rfl) rfl rfl (lb rfl) fun a S => ?_
  refine leafL (leafT (hK9 _ _ ?_))
  refine sSeq (fun K11 hK11 => ?_)
  obtain ⟨t13, h, g14⟩ := bindSome h
  refine sCut (fun a w => ∃ o12, o12 = t13 ∧ St [] E [] w0 58 a w [(1, .pointer (some ⟨b10, 0, none⟩)), (24, .bool o12)] [eBox b10 30 [.slice ad5 p0.Left.length cp6, .slice ad7 p0.Right.length cp8]] [fRep (rL (rI .i64)) (.slice ad5 p0.Left.length cp6) p0.Left, fRep (rL (rI .i64)) (.slice ad7 p0.Right.length cp8) p0.Right]) ?_ (fun a w hI => ?_)
  · refine sRegion ?_
    refine sField (b := b10) (off := 0) 0 0 S (wN rfl) rfl rfl rfl rfl rfl (lb rfl) fun a S => ?_
    refine sLoad1 (p := b10) (off := 0) (T := 30) (vs := [.slice ad5 p0.Left.length cp6, .slice ad7 p0.Right.length cp8]) 0 (.slice ad5 p0.Left.length cp6) S (wN rfl) rfl rfl rfl rfl rfl rfl (lb rfl) fun a S => ?_
    refine sLen (ad := ad5) (m := p0.Left.length) (c := cp6) S (wN rfl) rfl Tryd.underlying28 rfl rfl (lb rfl) fun a S => ?_
    refine sField (b := b10) (off := 0) 1 1 S (wN rfl) rfl rfl rfl rfl rfl (lb rfl) fun a S => ?_
    refine sLoad1 (p := b10) (off := 1) (T := 30) (vs := [.slice ad5 p0.Left.length cp6, .slice ad7 p0.Right.length cp8]) 0 (.slice ad7 p0.Right.length cp8) S (wN rfl) rfl rfl rfl rfl rfl rfl (lb rfl) fun a S => ?_
    refine sLen (ad := ad7) (m := p0.Right.length) (c := cp8) S (wN rfl) rfl Tryd.underlying28 rfl rfl (lb rfl) fun a S => ?_
    refine sBin (.bool ((p0.Left.length : Int) != (p0.Right.length : Int))) S (wN rfl) rfl rfl rfl (bNe _ _ _ _ .i64 (p0.Left.length : Int) (p0.Right.length : Int)) rfl (lb rfl) fun a S => ?_
    refine sMove (.bool ((p0.Left.length : Int) != (p0.Right.length : Int))) S (wN rfl) (.inl rfl) rfl rfl (lb rfl) fun a S => ?_
    rcases iteSome h with ⟨hc15, h⟩ | ⟨hc15, h⟩
    · refine sSkip 7 false 13 14 S rfl rfl rfl hc15 rfl (lb rfl) fun a S => ?_
      refine sSkip 7 false 13 15 S rfl rfl rfl hc15 rfl (lb rfl) fun a S => ?_
      refine sSkip 7 false 13 16 S rfl rfl rfl hc15 rfl (lb rfl) fun a S => ?_
      refine sSkip 7 false 13 17 S rfl rfl rfl hc15 rfl (lb rfl) fun a S => ?_
      refine sPickT (.bool true) S (wN rfl) rfl rfl hc15 rfl rfl (lb rfl) fun a S => ?_
      refine sMove (.bool true) S (wN rfl) (.inl rfl) rfl rfl (lb rfl) fun a S => ?_
      refine sSkip 13 false 19 20 S rfl rfl rfl rfl rfl (lb rfl) fun a S => ?_
      refine sSkip 13 false 19 21 S rfl rfl rfl rfl rfl (lb rfl) fun a S => ?_
      refine sSkip 13 false 19 22 S rfl rfl rfl rfl rfl (lb rfl) fun a S => ?_
      refine sSkip 13 false 19 23 S rfl rfl rfl rfl rfl (lb rfl) fun a S => ?_
      refine sPickT (.bool true) S (wN rfl) rfl rfl rfl rfl rfl (lb rfl) fun a S => ?_
      exact leafL (leafT (⟨true, Option.some.inj h, S.fix [0] [1, 0] (by decide) rfl rfl rfl⟩))
    refine sField (b := b10) (off := 0) 0 0 S (wG 7 false 13 rfl rfl rfl hc15) rfl rfl rfl rfl rfl (lb rfl) fun a S => ?_
    refine sLoad1 (p := b10) (off := 0) (T := 30) (vs := [.slice ad5 p0.Left.length cp6, .slice ad7 p0.Right.length cp8]) 0 (.slice ad5 p0.Left.length cp6) S (wG 7 false 13 rfl rfl rfl hc15) rfl rfl rfl rfl rfl rfl (lb rfl) fun a S => ?_
    refine sLen (ad := ad5) (m := p0.Left.length) (c := cp6) S (wG 7 false 13 rfl rfl rfl hc15) rfl Tryd.underlying28 rfl rfl (lb rfl) fun a S => ?_
    refine sBin (.bool ((p0.Left.length : Int) == 0)) S (wG 7 false 13 rfl rfl rfl hc15) rfl rfl rfl (bEq _ _ _ _ .i64 (p0.Left.length : Int) 0) rfl (lb rfl) fun a S => ?_
    refine sPickF (.bool ((p0.Left.length : Int) == 0)) S (wN rfl) rfl rfl hc15 rfl rfl (lb rfl) fun a S => ?_
    refine sMove (.bool ((p0.Left.length : Int) == 0)) S (wN rfl) (.inl rfl) rfl rfl (lb rfl) fun a S => ?_
    rcases iteSome h with ⟨hc16, h⟩ | ⟨hc16, h⟩
    · refine sSkip 13 false 19 20 S rfl rfl rfl hc16 rfl (lb rfl) fun a S => ?_
      refine sSkip 13 false 19 21 S rfl rfl rfl hc16 rfl (lb rfl) fun a S => ?_
      refine sSkip 13 false 19 22 S rfl rfl rfl hc16 rfl (lb rfl) fun a S => ?_
      refine sSkip 13 false 19 23 S rfl rfl rfl hc16 rfl (lb rfl) fun a S => ?_
      refine sPickT (.bool true) S (wN rfl) rfl rfl hc16 rfl rfl (lb rfl) fun a S => ?_
      exact leafL (leafT (⟨true, Option.some.inj h, S.fix [0] [1, 0] (by decide) rfl rfl rfl⟩))
    refine sField (b := b10) (off := 0) 0 0 S (wG 13 false 19 rfl rfl rfl hc16) rfl rfl rfl rfl rfl (lb rfl) fun a S => ?_
    refine sLoad1 (p := b10) (off := 0) (T := 30) (vs := [.slice ad5 p0.Left.length cp6, .slice ad7 p0.Right.length cp8]) 0 (.slice ad5 p0.Left.length cp6) S (wG 13 false 19 rfl rfl rfl hc16) rfl rfl rfl rfl rfl rfl (lb rfl) fun a S => ?_
    refine sLen (ad := ad5) (m := p0.Left.length) (c := cp6) S (wG 13 false 19 rfl rfl rfl hc16) rfl Tryd.underlying28 rfl rfl (lb rfl) fun a S => ?_
    refine sBin (.bool (decide (100 < (p0.Left.length : Int)))) S (wG 13 false 19 rfl rfl rfl hc16) rfl rfl rfl (bGt _ _ _ _ .i64 (p0.Left.length : Int) 100) rfl (lb rfl) fun a S => ?_
    refine sPickF (.bool (decide (100 < (p0.Left.length : Int)))) S (wN rfl) rfl rfl hc16 rfl rfl (lb rfl) fun a S => ?_
    exact leafL (leafT (⟨decide (100 < (p0.Left.length : Int)), Option.some.inj h, S.fix [0] [1, 0] (by decide) rfl rfl rfl⟩))
  obtain ⟨o12, rfl, S⟩ := hI
  have h := g14
  clear g14
  try dsimp only at h
  rcases iteSome h with ⟨hc17, h⟩ | ⟨hc17, h⟩
  · refine sCondT S rfl hc17 ?_
    refine sSeq (fun K18 hK18 => ?_)
    refine sRegion ?_
    refine sMove (iv 8) S (wN rfl) (.inr rfl) rfl rfl (lb rfl) fun a S => ?_
    refine leafL (leafT (hK18 _ _ ?_))
    obtain rfl := Option.some.inj h
    exact wp_ret (rThen (sRet (iv 8) S (rsl1 rfl (rvT (t := 2) (v := iv 8) S rfl)) ⟨(), rfl, S.mem.sel [] [] (by decide) rfl rfl⟩))
  refine sCondF S rfl hc17 ?_
  refine wp_skip (leafT (hK11 _ _ ?_))
  obtain ⟨t19, h, g20⟩ := bindSome h
  refine sCut (fun a w => .inl () = t19 ∧ St [] E [] w0 58 a w [] [] []) ?_ (fun a w hI => ?_)
  rotate_left
  · obtain ⟨rfl, S⟩ := hI
    have h := g20
    clear g20
    try dsimp only at h
    refine sSeq (fun K54 hK54 => ?_)
    refine sRegion ?_
    refine sMove (iv 0) S (wN rfl) (.inr rfl) rfl rfl (lb rfl) fun a S => ?_
    refine leafL (leafT (hK54 _ _ ?_))
    obtain rfl := Option.some.inj h
    exact wp_ret (sRet (iv 0) S (rsl1 rfl (rvT (t := 2) (v := iv 0) S rfl)) ⟨(), rfl, S.mem.sel [] [] (by decide) rfl rfl⟩)
  refine sSeq (fun K21 hK21 => ?_)
  refine sRegion ?_
  refine sField (b := b10) (off := 0) 0 0 S (wN rfl) rfl rfl rfl rfl rfl (lb rfl) fun a S => ?_
  refine sLoad1 (p := b10) (off := 0) (T := 30) (vs := [.slice ad5 p0.Left.length cp6, .slice ad7 p0.Right.length cp8]) 0 (.slice ad5 p0.Left.length cp6) S (wN rfl) rfl rfl rfl rfl rfl rfl (lb rfl) fun a S => ?_
  refine sLen (ad := ad5) (m := p0.Left.length) (c := cp6) S (wN rfl) rfl Tryd.underlying28 rfl rfl (lb rfl) fun a S => ?_
  refine sMove (iv 0) S (wN rfl) (.inl rfl) rfl rfl (lb rfl) fun a S => ?_
  refine leafL (leafT (hK21 _ _ ?_))
  refine wp_block ?_
  obtain ⟨t25, hl, g24⟩ := bindSome h
  refine sLoop hl (fun s0 a w => match s0 with | s22 => St [] E [] w0 58 a w [(1, .pointer (some ⟨b10, 0, none⟩)), (26, .slice ad5 p0.Left.length cp6), (27, iv (p0.Left.length : Int)), (28, iv s22)] [eBox b10 30 [.slice ad5 p0.Left.length cp6, .slice ad7 p0.Right.length cp8]] [fRep (rL (rI .i64)) (.slice ad5 p0.Left.length cp6) p0.Left, fRep (rL (rI .i64)) (.slice ad7 p0.Right.length cp8) p0.Right]) (S.fix [0] [0, 1] (by decide) rfl rfl rfl) ?_
  clear hl h
  intro s22 a w c0 hI h hu23
  unfold piece_Check_l1 at h
  dsimp only at h hI
  have S := hI
  refine sSeq (fun K26 hK26 => ?_)
  refine sRegion ?_
  refine sBin (.bool (decide (s22 < (p0.Left.length : Int)))) S (wN rfl) rfl rfl rfl (bLt _ _ _ _ .i64 s22 (p0.Left.length : Int)) rfl (lb rfl) fun a S => ?_
  refine leafL (leafT (hK26 _ _ ?_))
  refine sSeq (fun K27 hK27 => ?_)
  rcases iteSome h with ⟨hc28, h⟩ | ⟨hc28, h⟩
  rotate_left
  · refine sCondF S rfl hc28 ?_
    obtain rfl := Option.some.inj h
    obtain rfl := hu23 _ rfl
    have h := g24
    clear g24
    try dsimp only at h
    exact wp_exit (xThen (xThen (xHit (leafT (⟨Option.some.inj h, S.fix [] [] (by decide) rfl rfl rfl⟩)))))
  refine sCondT S rfl hc28 ?_
  refine wp_skip (leafT (hK27 _ _ ?_))
  refine sSeq (fun K29 hK29 => ?_)
  refine wp_block ?_
  refine sSeq (fun K30 hK30 => ?_)
  refine sRegion ?_
  refine sMove (iv s22) S (wN rfl) (.inl rfl) rfl rfl (lb rfl) fun a S => ?_
  obtain ⟨x31, hx32, h⟩ := bindSome h
  obtain ⟨q33, hq34, S⟩ := pIdx (P := Tryd.prog) (r := (rI .i64)) (v := .slice ad5 p0.Left.length cp6) (xs := p0.Left) (j := s22) 28 3 0 S Tryd.underlying28 rfl rfl hx32
  refine sIdxV (v := .slice ad5 p0.Left.length cp6) (k := .i64) (j := s22) S (wN rfl) rfl rfl rfl hq34 rfl (lb rfl) fun a S => ?_
  obtain ⟨u35, S⟩ := pLoad (r := (rI .i64)) (q := q33) (x := x31) 0 S rfl
  obtain rfl : u35 = iv x31 := S.mem.know (i := 1) (e := fRep (rI .i64) (u35) x31) rfl
  refine sLoadV1 (vq := q33) 0 (iv x31) S (wN rfl) rfl rfl rfl rfl rfl (lb rfl) fun a S => ?_
  refine sMove (iv s22) S (wN rfl) (.inr rfl) rfl rfl (lb rfl) fun a S => ?_
  refine sMove (iv x31) S (wN rfl) (.inr rfl) rfl rfl (lb rfl) fun a S => ?_
  refine leafL (leafT (hK30 _ _ ?_))
  refine sSeq (fun K36 hK36 => ?_)
  refine sRegion ?_
  refine sField (b := b10) (off := 0) 1 1 S (wN rfl) rfl rfl rfl rfl rfl (lb rfl) fun a S => ?_
  refine sLoad1 (p := b10) (off := 1) (T := 30) (vs := [.slice ad5 p0.Left.length cp6, .slice ad7 p0.Right.length cp8]) 0 (.slice ad7 p0.Right.length cp8) S (wN rfl) rfl rfl rfl rfl rfl rfl (lb rfl) fun a S => ?_
  refine sMove (iv s22) S (wN rfl) (.inl rfl) rfl rfl (lb rfl) fun a S => ?_
  obtain ⟨x37, hx38, h⟩ := bindSome h
  obtain ⟨q39, hq40, S⟩ := pIdx (P := Tryd.prog) (r := (rI .i64)) (v := .slice ad7 p0.Right.length cp8) (xs := p0.Right) (j := s22) 28 3 4 S Tryd.underlying28 rfl rfl hx38
  refine sIdxV (v := .slice ad7 p0.Right.length cp8) (k := .i64) (j := s22) S (wN rfl) rfl rfl rfl hq40 rfl (lb rfl) fun a S => ?_
  obtain ⟨u41, S⟩ := pLoad (r := (rI .i64)) (q := q39) (x := x37) 0 S rfl
  obtain rfl : u41 = iv x37 := S.mem.know (i := 1) (e := fRep (rI .i64) (u41) x37) rfl
  refine sLoadV1 (vq := q39) 0 (iv x37) S (wN rfl) rfl rfl rfl rfl rfl (lb rfl) fun a S => ?_
  refine sMove (iv x37) S (wN rfl) (.inr rfl) rfl rfl (lb rfl) fun a S => ?_
  refine leafL (leafT (hK36 _ _ ?_))
  obtain ⟨t43, h, g44⟩ := bindSome h
  refine sCut (fun a w => ∃ o42, o42 = t43 ∧ St [] E [] w0 58 a w [(1, .pointer (some ⟨b10, 0, none⟩)), (26, .slice ad5 p0.Left.length cp6), (27, iv (p0.Left.length : Int)), (28, iv s22), (56, .bool o42)] [eBox b10 30 [.slice ad5 p0.Left.length cp6, .slice ad7 p0.Right.length cp8]] [fRep (rL (rI .i64)) (.slice ad5 p0.Left.length cp6) p0.Left, fRep (rL (rI .i64)) (.slice ad7 p0.Right.length cp8) p0.Right]) ?_ (fun a w hI => ?_)
  rotate_left
  · obtain ⟨o42, rfl, S⟩ := hI
    have h := g44
    clear g44
    try dsimp only at h
    rcases iteSome h with ⟨hc52, h⟩ | ⟨hc52, h⟩
    rotate_left
    · refine sCondF S rfl hc52 ?_
      refine wp_skip (leafB (leafT (hK29 _ _ ?_)))
      refine sRegion ?_
      refine sBin (iv (w64 (s22 + 1))) S (wN rfl) rfl rfl rfl (bAdd _ _ _ _ s22 1) rfl (lb rfl) fun a S => ?_
      refine sMove (iv (w64 (s22 + 1))) S (wN rfl) (.inl rfl) rfl rfl (lb rfl) fun a S => ?_
      exact leafL (leafT (⟨w64 (s22 + 1), (Option.some.inj h).symm, (S.fix [0] [0, 1] (by decide) rfl rfl rfl)⟩))
    refine sCondT S rfl hc52 ?_
    refine sSeq (fun K53 hK53 => ?_)
    refine sRegion ?_
    refine sMove (iv 8) S (wN rfl) (.inr rfl) rfl rfl (lb rfl) fun a S => ?_
    refine leafL (leafT (hK53 _ _ ?_))
    obtain rfl := Option.some.inj h
    obtain rfl := hu23 _ rfl
    have h := g24
    clear g24
    try dsimp only at h
    obtain rfl := Option.some.inj h
    have h := g20
    clear g20
    try dsimp only at h
    obtain rfl := Option.some.inj h
    exact wp_ret (rBlock (rThen (rThen (rBlock (rThen (sRet (iv 8) S (rsl1 rfl (rvT (t := 2) (v := iv 8) S rfl)) ⟨(), rfl, S.mem.sel [] [] (by decide) rfl rfl⟩))))))
  refine sRegion ?_
  refine sMove (iv x31) S (wN rfl) (.inl rfl) rfl rfl (lb rfl) fun a S => ?_
  obtain ⟨r45, hx46, h⟩ := bindSome h
  have S1 := S.mem
  refine sCallQ (X := Unit) (f := 37) (vs := [iv x31]) (val := fun _ => .bool r45) S (wN rfl) rfl callee37 rfl (S1.quiet [] rfl) (fun E1 w1 S1 => c_piece_column E1 w1 x31 r45 hx46 S1) rfl (lb rfl) fun _ a w S => ?_
  refine sNot (b := r45) S (wN rfl) rfl rfl rfl (lb rfl) fun a S => ?_
  refine sMove (.bool (!r45)) S (wN rfl) (.inl rfl) rfl rfl (lb rfl) fun a S => ?_
  rcases iteSome h with ⟨hc47, h⟩ | ⟨hc47, h⟩
  · refine sSkip 3 false 41 42 S rfl rfl rfl hc47 rfl (lb rfl) fun a S => ?_
    refine sSkip 3 false 41 43 S rfl rfl rfl hc47 rfl (lb rfl) fun a S => ?_
    refine sSkip 3 false 41 44 S rfl rfl rfl hc47 rfl (lb rfl) fun a S => ?_
    refine sPickT (.bool true) S (wN rfl) rfl rfl hc47 rfl rfl (lb rfl) fun a S => ?_
    refine sMove (.bool true) S (wN rfl) (.inl rfl) rfl rfl (lb rfl) fun a S => ?_
    refine sSkip 8 false 46 47 S rfl rfl rfl rfl rfl (lb rfl) fun a S => ?_
    refine sSkip 8 false 46 48 S rfl rfl rfl rfl rfl (lb rfl) fun a S => ?_
    refine sSkip 8 false 46 49 S rfl rfl rfl rfl rfl (lb rfl) fun a S => ?_
    refine sPickT (.bool true) S (wN rfl) rfl rfl rfl rfl rfl (lb rfl) fun a S => ?_
    refine sMove (.bool true) S (wN rfl) (.inl rfl) rfl rfl (lb rfl) fun a S => ?_
    refine sSkip 13 false 51 52 S rfl rfl rfl rfl rfl (lb rfl) fun a S => ?_
    refine sSkip 13 false 51 53 S rfl rfl rfl rfl rfl (lb rfl) fun a S => ?_
    refine sSkip 13 false 51 54 S rfl rfl rfl rfl rfl (lb rfl) fun a S => ?_
    refine sSkip 13 false 51 55 S rfl rfl rfl rfl rfl (lb rfl) fun a S => ?_
    refine sPickT (.bool true) S (wN rfl) rfl rfl rfl rfl rfl (lb rfl) fun a S => ?_
    exact leafL (leafT (⟨true, Option.some.inj h, S.fix [0] [6, 7] (by decide) rfl rfl rfl⟩))
  refine sMove (iv x37) S (wG 3 false 41 rfl rfl rfl hc47) (.inl rfl) rfl rfl (lb rfl) fun a S => ?_
  obtain ⟨r48, hx49, h⟩ := bindSome h
  have S1 := S.mem
  refine sCallQ (X := Unit) (f := 37) (vs := [iv x37]) (val := fun _ => .bool r48) S (wG 3 false 41 rfl rfl rfl hc47) rfl callee37 rfl (S1.quiet [] rfl) (fun E1 w1 S1 => c_piece_column E1 w1 x37 r48 hx49 S1) rfl (lb rfl) fun _ a w S => ?_
  refine sNot (b := r48) S (wG 3 false 41 rfl rfl rfl hc47) rfl rfl rfl (lb rfl) fun a S => ?_
  refine sPickF (.bool (!r48)) S (wN rfl) rfl rfl hc47 rfl rfl (lb rfl) fun a S => ?_
  refine sMove (.bool (!r48)) S (wN rfl) (.inl rfl) rfl rfl (lb rfl) fun a S => ?_
  rcases iteSome h with ⟨hc50, h⟩ | ⟨hc50, h⟩
  · refine sSkip 8 false 46 47 S rfl rfl rfl hc50 rfl (lb rfl) fun a S => ?_
    refine sSkip 8 false 46 48 S rfl rfl rfl hc50 rfl (lb rfl) fun a S => ?_
    refine sSkip 8 false 46 49 S rfl rfl rfl hc50 rfl (lb rfl) fun a S => ?_
    refine sPickT (.bool true) S (wN rfl) rfl rfl hc50 rfl rfl (lb rfl) fun a S => ?_
    refine sMove (.bool true) S (wN rfl) (.inl rfl) rfl rfl (lb rfl) fun a S => ?_
    refine sSkip 13 false 51 52 S rfl rfl rfl rfl rfl (lb rfl) fun a S => ?_
    refine sSkip 13 false 51 53 S rfl rfl rfl rfl rfl (lb rfl) fun a S => ?_
    refine sSkip 13 false 51 54 S rfl rfl rfl rfl rfl (lb rfl) fun a S => ?_
    refine sSkip 13 false 51 55 S rfl rfl rfl rfl rfl (lb rfl) fun a S => ?_
    refine sPickT (.bool true) S (wN rfl) rfl rfl rfl rfl rfl (lb rfl) fun a S => ?_
    exact leafL (leafT (⟨true, Option.some.inj h, S.fix [0] [6, 7] (by decide) rfl rfl rfl⟩))
  refine sMove (iv x31) S (wG 8 false 46 rfl rfl rfl hc50) (.inl rfl) rfl rfl (lb rfl) fun a S => ?_
  refine sMove (iv x37) S (wG 8 false 46 rfl rfl rfl hc50) (.inl rfl) rfl rfl (lb rfl) fun a S => ?_
  refine sBin (.bool (decide (x37 ≤ x31))) S (wG 8 false 46 rfl rfl rfl hc50) rfl rfl rfl (bGe _ _ _ _ .i64 x31 x37) rfl (lb rfl) fun a S => ?_
  refine sPickF (.bool (decide (x37 ≤ x31))) S (wN rfl) rfl rfl hc50 rfl rfl (lb rfl) fun a S => ?_
  refine sMove (.bool (decide (x37 ≤ x31))) S (wN rfl) (.inl rfl) rfl rfl (lb rfl) fun a S => ?_
  rcases iteSome h with ⟨hc51, h⟩ | ⟨hc51, h⟩
  · refine sSkip 13 false 51 52 S rfl rfl rfl hc51 rfl (lb rfl) fun a S => ?_
    refine sSkip 13 false 51 53 S rfl rfl rfl hc51 rfl (lb rfl) fun a S => ?_
    refine sSkip 13 false 51 54 S rfl rfl rfl hc51 rfl (lb rfl) fun a S => ?_
    refine sSkip 13 false 51 55 S rfl rfl rfl hc51 rfl (lb rfl) fun a S => ?_
    refine sPickT (.bool true) S (wN rfl) rfl rfl hc51 rfl rfl (lb rfl) fun a S => ?_
    exact leafL (leafT (⟨true, Option.some.inj h, S.fix [0] [6, 7] (by decide) rfl rfl rfl⟩))
  refine sMove (iv x37) S (wG 13 false 51 rfl rfl rfl hc51) (.inl rfl) rfl rfl (lb rfl) fun a S => ?_
  refine sMove (iv x31) S (wG 13 false 51 rfl rfl rfl hc51) (.inl rfl) rfl rfl (lb rfl) fun a S => ?_
  refine sBin (iv (w64 (x37 - x31))) S (wG 13 false 51 rfl rfl rfl hc51) rfl rfl rfl (bSub _ _ _ _ x37 x31) rfl (lb rfl) fun a S => ?_
  refine sBin (.bool (decide (200 < (w64 (x37 - x31))))) S (wG 13 false 51 rfl rfl rfl hc51) rfl rfl rfl (bGt _ _ _ _ .i64 (w64 (x37 - x31)) 200) rfl (lb rfl) fun a S => ?_
  refine sPickF (.bool (decide (200 < (w64 (x37 - x31))))) S (wN rfl) rfl rfl hc51 rfl rfl (lb rfl) fun a S => ?_
  exact leafL (leafT (⟨decide (200 < (w64 (x37 - x31))), Option.some.inj h, S.fix [0] [6, 7] (by decide) rfl rfl rfl⟩))

end Go.Proofs.YtmedbnjhgkcndaaDoor
namespace Go.Proofs.YtmedbnjhgkcndaaDoor
open Go.RowKit
set_option linter.unusedVariables false

def anc_piece_side_0 : List (List Nat) := [[], [0], [0, 1], [0, 1, 2], [0, 1, 2, 3], [0, 1, 2, 3, 4], [0, 1, 2, 3, 4, 5], [0, 1, 2, 3, 4, 5, 6], [0, 1, 2, 3, 4, 5, 6, 7], [0, 1, 2, 3, 4, 5, 6, 7, 8], [0, 1, 2, 3, 4, 5, 6, 7], [0, 1, 2, 3, 4, 5, 6, 7], [0, 1, 2, 3, 4, 5, 6, 7, 11], [0, 1, 2, 3, 4, 5, 6, 7, 10, 11, 12], [0, 1, 2, 3, 4, 5, 6, 7, 10, 11, 12, 13], [0, 1, 2, 3, 4, 5, 6, 7, 10, 11, 12, 13, 14], [0, 1, 2, 3, 4, 5, 6, 7, 8, 9, 10, 11, 12, 13, 14, 15], [0, 1, 2, 3, 4, 5, 6, 7, 8, 9, 10, 11, 12, 13, 14, 15, 16], [0, 1, 2, 3, 4, 5, 6, 7, 8, 9, 10, 11, 12, 13, 14, 15, 16, 17]]
noncomputable def piece_side_l1 (p0 : (List api_Point)) : Int → Option (Int ⊕ (Bool ⊕ Unit)) := fun s0 => match s0 with
  | s30 =>
    if decide (s30 < (p0.length : Int)) then
      Option.bind (idxO p0 s30) fun x39 =>
      Option.bind (α := Bool) (
        Option.bind (F_piece_column x39.X) fun r48 =>
        if !r48 then
          some true
        else
          if decide (0 < s30) then
            Option.bind (idxO p0 (w64 (s30 - 1))) fun x52 =>
            some (decide (x39.Y ≤ x52.Y))
          else
            some false) fun o45 =>
      if o45 then
        some (.inr (.inl false))
      else
        some (.inl (w64 (s30 + 1)))
    else
      some (.inr (.inr ()))
noncomputable def F_piece_side (p0 : (List api_Point)) : Option Bool :=
  Option.bind (α := Bool) (
    if (p0.length : Int) == 0 then
      some true
    else
      if decide (50 < (p0.length : Int)) then
        some true
      else
        Option.bind (idxO p0 0) fun x10 =>
        if x10.Y != 0 then
          some true
        else
          Option.bind (idxO p0 (w64 ((p0.length : Int) - 1))) fun x18 =>
          some (decide (100 ≤ x18.Y))) fun o5 =>
  if o5 then
    some false
  else
    Option.bind (α := Unit ⊕ Bool) (
      Option.bind (whileO (piece_side_l1 p0) 0) fun z0 => match z0 with
        | .inl z =>
          some (.inr z)
        | .inr _ =>
          some (.inl ())) fun z0 => match z0 with
      | .inl _ =>
        some true
      | .inr z =>
        some z
set_option maxHeartbeats 4000000 in
set_option maxRecDepth 100000 in
theorem c_piece_side (E : Nat → Prop) (w0 : World) (p0 : (List api_Point)) (v0 : Value) (r : Bool) (h : F_piece_side p0 = some r) (S : St0 E [] w0 w0 [] [fRep (rL r_api_Point) (v0) p0]) :
    Calls Tryd.prog 49 #[v0] w0 (Ret (X := Unit) E [] w0 (fun _ => .bool r) (fun _ => []) (fun _ => [])) := by
  unfold F_piece_side at h
  obtain ⟨ad1, cp2, _, rfl, _⟩ := S.know (i := 0) (e := fRep (rL r_api_Point) (v0) p0) rfl
  refine sEnter (args := [.slice ad1 p0.length cp2]) 57 Tryd.func49 rfl rfl (by simp) S (fun a S => ?_)
  refine sSeq (fun K3 hK3 => ?_)
  refine sRegion ?_
  refine sMove (.bool false) S (wN rfl) (.inr rfl) rfl rfl (lb rfl) fun a S => ?_
  refine leafL (leafT (hK3 _ _ ?_))
  refine sSeq (fun K4 hK4 => ?_)
  obtain ⟨t6, h, g7⟩ := bindSome h
  refine sCut (fun a w => ∃ o5, o5 = t6 ∧ St [] E [] w0 57 a w [(0, .slice ad1 p0.length cp2), (29, .bool o5)] [] [fRep (rL r_api_Point) (.slice ad1 p0.length cp2) p0]) ?_ (fun a w hI => ?_)
  · refine sRegion ?_
    refine sMove (.slice ad1 p0.length cp2) S (wN rfl) (.inl rfl) rfl rfl (lb rfl) fun a S => ?_
    refine sLen (ad := ad1) (m := p0.length) (c := cp2) S (wN rfl) rfl Tryd.underlying22 rfl rfl (lb rfl) fun a S => ?_
    refine sBin (.bool ((p0.length : Int) == 0)) S (wN rfl) rfl rfl rfl (bEq _ _ _ _ .i64 (p0.length : Int) 0) rfl (lb rfl) fun a S => ?_
    refine sMove (.bool ((p0.length : Int) == 0)) S (wN rfl) (.inl rfl) rfl rfl (lb rfl) fun a S => ?_
    rcases iteSome h with ⟨hc8, h⟩ | ⟨hc8, h⟩
    · refine sSkip 3 false 8 9 S rfl rfl rfl hc8 rfl (lb rfl) fun a S => ?_
      refine sSkip 3 false 8 10 S rfl rfl rfl hc8 rfl (lb rfl) fun a S => ?_
      refine sSkip 3 false 8 11 S rfl rfl rfl hc8 rfl (lb rfl) fun a S => ?_
      refine sPickT (.bool true) S (wN rfl) rfl rfl hc8 rfl rfl (lb rfl) fun a S => ?_
      refine sMove (.bool true) S (wN rfl) (.inl rfl) rfl rfl (lb rfl) fun a S => ?_
      refine sSkip 8 false 13 14 S rfl rfl rfl rfl rfl (lb rfl) fun a S => ?_
      refine sSkip 8 false 13 15 S rfl rfl rfl rfl rfl (lb rfl) fun a S => ?_
      refine sSkip 8 false 13 16 S rfl rfl rfl rfl rfl (lb rfl) fun a S => ?_
      refine sSkip 8 false 13 17 S rfl rfl rfl rfl rfl (lb rfl) fun a S => ?_
      refine sSkip 8 false 13 18 S rfl rfl rfl rfl rfl (lb rfl) fun a S => ?_
      refine sPickT (.bool true) S (wN rfl) rfl rfl rfl rfl rfl (lb rfl) fun a S => ?_
      refine sMove (.bool true) S (wN rfl) (.inl rfl) rfl rfl (lb rfl) fun a S => ?_
      refine sSkip 15 false 20 21 S rfl rfl rfl rfl rfl (lb rfl) fun a S => ?_
      refine sSkip 15 false 20 22 S rfl rfl rfl rfl rfl (lb rfl) fun a S => ?_
      refine sSkip 15 false 20 23 S rfl rfl rfl rfl rfl (lb rfl) fun a S => ?_
      refine sSkip 15 false 20 24 S rfl rfl rfl rfl rfl (lb rfl) fun a S => ?_
      refine sSkip 15 false 20 25 S rfl rfl rfl rfl rfl (lb rfl) fun a S => ?_
      refine sSkip 15 false 20 26 S rfl rfl rfl rfl rfl (lb rfl) fun a S => ?_
      refine sSkip 15 false 20 27 S rfl rfl rfl rfl rfl (lb rfl) fun a S => ?_
      refine sSkip 15 false 20 28 S rfl rfl rfl rfl rfl (lb rfl) fun a S => ?_
      refine sPickT (.bool true) S (wN rfl) rfl rfl rfl rfl rfl (lb rfl) fun a S => ?_
      exact leafL (leafT (⟨true, Option.some.inj h, S.fix [] [0] (by decide) rfl rfl rfl⟩))
    refine sMove (.slice ad1 p0.length cp2) S (wG 3 false 8 rfl rfl rfl hc8) (.inl rfl) rfl rfl (lb rfl) fun a S => ?_
    refine sLen (ad := ad1) (m := p0.length) (c := cp2) S (wG 3 false 8 rfl rfl rfl hc8) rfl Tryd.underlying22 rfl rfl (lb rfl) fun a S => ?_
    refine sBin (.bool (decide (50 < (p0.length : Int)))) S (wG 3 false 8 rfl rfl rfl hc8) rfl rfl rfl (bGt _ _ _ _ .i64 (p0.length : Int) 50) rfl (lb rfl) fun a S => ?_
    refine sPickF (.bool (decide (50 < (p0.length : Int)))) S (wN rfl) rfl rfl hc8 rfl rfl (lb rfl) fun a S => ?_
    refine sMove (.bool (decide (50 < (p0.length : Int)))) S (wN rfl) (.inl rfl) rfl rfl (lb rfl) fun a S => ?_
    rcases iteSome h with ⟨hc9, h⟩ | ⟨hc9, h⟩
    · refine sSkip 8 false 13 14 S rfl rfl rfl hc9 rfl (lb rfl) fun a S => ?_
      refine sSkip 8 false 13 15 S rfl rfl rfl hc9 rfl (lb rfl) fun a S => ?_
      refine sSkip 8 false 13 16 S rfl rfl rfl hc9 rfl (lb rfl) fun a S => ?_
      refine sSkip 8 false 13 17 S rfl rfl rfl hc9 rfl (lb rfl) fun a S => ?_
      refine sSkip 8 false 13 18 S rfl rfl rfl hc9 rfl (lb rfl) fun a S => ?_
      refine sPickT (.bool true) S (wN rfl) rfl rfl hc9 rfl rfl (lb rfl) fun a S => ?_
      refine sMove (.bool true) S (wN rfl) (.inl rfl) rfl rfl (lb rfl) fun a S => ?_
      refine sSkip 15 false 20 21 S rfl rfl rfl rfl rfl (lb rfl) fun a S => ?_
      refine sSkip 15 false 20 22 S rfl rfl rfl rfl rfl (lb rfl) fun a S => ?_
      refine sSkip 15 false 20 23 S rfl rfl rfl rfl rfl (lb rfl) fun a S => ?_
      refine sSkip 15 false 20 24 S rfl rfl rfl rfl rfl (lb rfl) fun a S => ?_
      refine sSkip 15 false 20 25 S rfl rfl rfl rfl rfl (lb rfl) fun a S => ?_
      refine sSkip 15 false 20 26 S rfl rfl rfl rfl rfl (lb rfl) fun a S => ?_
      refine sSkip 15 false 20 27 S rfl rfl rfl rfl rfl (lb rfl) fun a S => ?_
      refine sSkip 15 false 20 28 S rfl rfl rfl rfl rfl (lb rfl) fun a S => ?_
      refine sPickT (.bool true) S (wN rfl) rfl rfl rfl rfl rfl (lb rfl) fun a S => ?_
      exact leafL (leafT (⟨true, Option.some.inj h, S.fix [] [0] (by decide) rfl rfl rfl⟩))
    refine sMove (.slice ad1 p0.length cp2) S (wG 8 false 13 rfl rfl rfl hc9) (.inl rfl) rfl rfl (lb rfl) fun a S => ?_
    obtain ⟨x10, hx11, h⟩ := bindSome h
    obtain ⟨q12, hq13, S⟩ := pIdx (P := Tryd.prog) (r := r_api_Point) (v := .slice ad1 p0.length cp2) (xs := p0) (j := 0) 22 35 0 S Tryd.underlying22 rfl rfl hx11
    refine sIdxV (v := .slice ad1 p0.length cp2) (k := .i64) (j := 0) S (wG 8 false 13 rfl rfl rfl hc9) rfl rfl rfl hq13 rfl (lb rfl) fun a S => ?_
    obtain ⟨q14, hq15, S⟩ := pFld (P := Tryd.prog) (r := r_api_Point) (s2 := (rI .i64)) (g := (·.Y)) (q := q12) (z := x10) 35 1 0 1 S rfl rfl comp_api_Point_Y
    refine sFldV (q := q12) S (wG 8 false 13 rfl rfl rfl hc9) rfl rfl hq15 rfl (lb rfl) fun a S => ?_
    obtain ⟨u16, S⟩ := pLoad (r := (rI .i64)) (q := q14) (x := x10.Y) 0 S rfl
    obtain rfl : u16 = iv x10.Y := S.mem.know (i := 1) (e := fRep (rI .i64) (u16) x10.Y) rfl
    refine sLoadV1 (vq := q14) 0 (iv x10.Y) S (wG 8 false 13 rfl rfl rfl hc9) rfl rfl rfl rfl rfl (lb rfl) fun a S => ?_
    refine sBin (.bool (x10.Y != 0)) S (wG 8 false 13 rfl rfl rfl hc9) rfl rfl rfl (bNe _ _ _ _ .i64 x10.Y 0) rfl (lb rfl) fun a S => ?_
    refine sPickF (.bool (x10.Y != 0)) S (wN rfl) rfl rfl hc9 rfl rfl (lb rfl) fun a S => ?_
    refine sMove (.bool (x10.Y != 0)) S (wN rfl) (.inl rfl) rfl rfl (lb rfl) fun a S => ?_
    rcases iteSome h with ⟨hc17, h⟩ | ⟨hc17, h⟩
    · refine sSkip 15 false 20 21 S rfl rfl rfl hc17 rfl (lb rfl) fun a S => ?_
      refine sSkip 15 false 20 22 S rfl rfl rfl hc17 rfl (lb rfl) fun a S => ?_
      refine sSkip 15 false 20 23 S rfl rfl rfl hc17 rfl (lb rfl) fun a S => ?_
      refine sSkip 15 false 20 24 S rfl rfl rfl hc17 rfl (lb rfl) fun a S => ?_
      refine sSkip 15 false 20 25 S rfl rfl rfl hc17 rfl (lb rfl) fun a S => ?_
      refine sSkip 15 false 20 26 S rfl rfl rfl hc17 rfl (lb rfl) fun a S => ?_
      refine sSkip 15 false 20 27 S rfl rfl rfl hc17 rfl (lb rfl) fun a S => ?_
      refine sSkip 15 false 20 28 S rfl rfl rfl hc17 rfl (lb rfl) fun a S => ?_
      refine sPickT (.bool true) S (wN rfl) rfl rfl hc17 rfl rfl (lb rfl) fun a S => ?_
      exact leafL (leafT (⟨true, Option.some.inj h, S.fix [] [4] (by decide) rfl rfl rfl⟩))
    refine sMove (.slice ad1 p0.length cp2) S (wG 15 false 20 rfl rfl rfl hc17) (.inl rfl) rfl rfl (lb rfl) fun a S => ?_
    refine sMove (.slice ad1 p0.length cp2) S (wG 15 false 20 rfl rfl rfl hc17) (.inl rfl) rfl rfl (lb rfl) fun a S => ?_
    refine sLen (ad := ad1) (m := p0.length) (c := cp2) S (wG 15 false 20 rfl rfl rfl hc17) rfl Tryd.underlying22 rfl rfl (lb rfl) fun a S => ?_
    refine sBin (iv (w64 ((p0.length : Int) - 1))) S (wG 15 false 20 rfl rfl rfl hc17) rfl rfl rfl (bSub _ _ _ _ (p0.length : Int) 1) rfl (lb rfl) fun a S => ?_
    obtain ⟨x18, hx19, h⟩ := bindSome h
    obtain ⟨q20, hq21, S⟩ := pIdx (P := Tryd.prog) (r := r_api_Point) (v := .slice ad1 p0.length cp2) (xs := p0) (j := w64 ((p0.length : Int) - 1)) 22 35 4 S Tryd.underlying22 rfl rfl hx19
    refine sIdxV (v := .slice ad1 p0.length cp2) (k := .i64) (j := w64 ((p0.length : Int) - 1)) S (wG 15 false 20 rfl rfl rfl hc17) rfl rfl rfl hq21 rfl (lb rfl) fun a S => ?_
    obtain ⟨q22, hq23, S⟩ := pFld (P := Tryd.prog) (r := r_api_Point) (s2 := (rI .i64)) (g := (·.Y)) (q := q20) (z := x18) 35 1 0 1 S rfl rfl comp_api_Point_Y
    refine sFldV (q := q20) S (wG 15 false 20 rfl rfl rfl hc17) rfl rfl hq23 rfl (lb rfl) fun a S => ?_
    obtain ⟨u24, S⟩ := pLoad (r := (rI .i64)) (q := q22) (x := x18.Y) 0 S rfl
    obtain rfl : u24 = iv x18.Y := S.mem.know (i := 1) (e := fRep (rI .i64) (u24) x18.Y) rfl
    refine sLoadV1 (vq := q22) 0 (iv x18.Y) S (wG 15 false 20 rfl rfl rfl hc17) rfl rfl rfl rfl rfl (lb rfl) fun a S => ?_
    refine sBin (.bool (decide (100 ≤ x18.Y))) S (wG 15 false 20 rfl rfl rfl hc17) rfl rfl rfl (bGe _ _ _ _ .i64 x18.Y 100) rfl (lb rfl) fun a S => ?_
    refine sPickF (.bool (decide (100 ≤ x18.Y))) S (wN rfl) rfl rfl hc17 rfl rfl (lb rfl) fun a S => ?_
    exact leafL (leafT (⟨decide (100 ≤ x18.Y), Option.some.inj h, S.fix [] [8] (by decide) rfl rfl rfl⟩))
  obtain ⟨o5, rfl, S⟩ := hI
  have h := g7
  clear g7
  try dsimp only at h
  rcases iteSome h with ⟨hc25, h⟩ | ⟨hc25, h⟩
  · refine sCondT S rfl hc25 ?_
    refine sSeq (fun K26 hK26 => ?_)
    refine sRegion ?_
    refine sMove (.bool false) S (wN rfl) (.inr rfl) rfl rfl (lb rfl) fun a S => ?_
    refine leafL (leafT (hK26 _ _ ?_))
    obtain rfl := Option.some.inj h
    exact wp_ret (rThen (sRet (.bool false) S (rsl1 rfl (rvT (t := 2) (v := .bool false) S rfl)) ⟨(), rfl, S.mem.sel [] [] (by decide) rfl rfl⟩))
  refine sCondF S rfl hc25 ?_
  refine wp_skip (leafT (hK4 _ _ ?_))
  obtain ⟨t27, h, g28⟩ := bindSome h
  refine sCut (fun a w => .inl () = t27 ∧ St [] E [] w0 57 a w [] [] []) ?_ (fun a w hI => ?_)
  rotate_left
  · obtain ⟨rfl, S⟩ := hI
    have h := g28
    clear g28
    try dsimp only at h
    refine sSeq (fun K66 hK66 => ?_)
    refine sRegion ?_
    refine sMove (.bool true) S (wN rfl) (.inr rfl) rfl rfl (lb rfl) fun a S => ?_
    refine leafL (leafT (hK66 _ _ ?_))
    obtain rfl := Option.some.inj h
    exact wp_ret (sRet (.bool true) S (rsl1 rfl (rvT (t := 2) (v := .bool true) S rfl)) ⟨(), rfl, S.mem.sel [] [] (by decide) rfl rfl⟩)
  refine sSeq (fun K29 hK29 => ?_)
  refine sRegion ?_
  refine sMove (.slice ad1 p0.length cp2) S (wN rfl) (.inl rfl) rfl rfl (lb rfl) fun a S => ?_
  refine sLen (ad := ad1) (m := p0.length) (c := cp2) S (wN rfl) rfl Tryd.underlying22 rfl rfl (lb rfl) fun a S => ?_
  refine sMove (iv 0) S (wN rfl) (.inl rfl) rfl rfl (lb rfl) fun a S => ?_
  refine leafL (leafT (hK29 _ _ ?_))
  refine wp_block ?_
  obtain ⟨t33, hl, g32⟩ := bindSome h
  refine sLoop hl (fun s0 a w => match s0 with | s30 => St [] E [] w0 57 a w [(0, .slice ad1 p0.length cp2), (30, .slice ad1 p0.length cp2), (31, iv (p0.length : Int)), (32, iv s30)] [] [fRep (rL r_api_Point) (.slice ad1 p0.length cp2) p0]) (S.fix [] [0] (by decide) rfl rfl rfl) ?_
  clear hl h
  intro s30 a w c0 hI h hu31
  unfold piece_side_l1 at h
  dsimp only at h hI
  have S := hI
  refine sSeq (fun K34 hK34 => ?_)
  refine sRegion ?_
  refine sBin (.bool (decide (s30 < (p0.length : Int)))) S (wN rfl) rfl rfl rfl (bLt _ _ _ _ .i64 s30 (p0.length : Int)) rfl (lb rfl) fun a S => ?_
  refine leafL (leafT (hK34 _ _ ?_))
  refine sSeq (fun K35 hK35 => ?_)
  rcases iteSome h with ⟨hc36, h⟩ | ⟨hc36, h⟩
  rotate_left
  · refine sCondF S rfl hc36 ?_
    obtain rfl := Option.some.inj h
    obtain rfl := hu31 _ rfl
    have h := g32
    clear g32
    try dsimp only at h
    exact wp_exit (xThen (xThen (xHit (leafT (⟨Option.some.inj h, S.fix [] [] (by decide) rfl rfl rfl⟩)))))
  refine sCondT S rfl hc36 ?_
  refine wp_skip (leafT (hK35 _ _ ?_))
  refine sSeq (fun K37 hK37 => ?_)
  refine wp_block ?_
  refine sSeq (fun K38 hK38 => ?_)
  refine sRegion ?_
  refine sMove (iv s30) S (wN rfl) (.inl rfl) rfl rfl (lb rfl) fun a S => ?_
  obtain ⟨x39, hx40, h⟩ := bindSome h
  obtain ⟨q41, hq42, S⟩ := pIdx (P := Tryd.prog) (r := r_api_Point) (v := .slice ad1 p0.length cp2) (xs := p0) (j := s30) 22 35 0 S Tryd.underlying22 rfl rfl hx40
  refine sIdxV (v := .slice ad1 p0.length cp2) (k := .i64) (j := s30) S (wN rfl) rfl rfl rfl hq42 rfl (lb rfl) fun a S => ?_
  obtain ⟨u43, S⟩ := pLoad (r := r_api_Point) (q := q41) (x := x39) 0 S rfl
  obtain rfl : u43 = .agg #[iv x39.X, iv x39.Y] := S.mem.know (i := 1) (e := fRep r_api_Point (u43) x39) rfl
  refine sLoadVN (vq := q41) 0 [iv x39.X, iv x39.Y] S (wN rfl) rfl rfl rfl rfl rfl rfl (lb rfl) fun a S => ?_
  refine sAlloc (.agg #[iv 0, iv 0]) S (wN rfl) rfl rfl [iv 0, iv 0] rfl rfl (lb rfl) fun a b44 w S => ?_
  refine sMove (iv s30) S (wN rfl) (.inr rfl) rfl rfl (lb rfl) fun a S => ?_
  refine sStore (p := b44) (off := 0) (T := 35) (vs := [iv 0, iv 0]) (v := .agg #[iv x39.X, iv x39.Y]) 0 [iv x39.X, iv x39.Y] S (wN rfl) rfl rfl rfl rfl rfl rfl rfl (by simp) rfl fun a w S => ?_
  refine leafL (leafT (hK38 _ _ ?_))
  obtain ⟨t46, h, g47⟩ := bindSome h
  refine sCut (fun a w => ∃ o45, o45 = t46 ∧ St [] E [] w0 57 a w [(0, .slice ad1 p0.length cp2), (30, .slice ad1 p0.length cp2), (31, iv (p0.length : Int)), (32, iv s30), (55, .bool o45)] [] [fRep (rL r_api_Point) (.slice ad1 p0.length cp2) p0]) ?_ (fun a w hI => ?_)
  rotate_left
  · obtain ⟨o45, rfl, S⟩ := hI
    have h := g47
    clear g47
    try dsimp only at h
    rcases iteSome h with ⟨hc64, h⟩ | ⟨hc64, h⟩
    rotate_left
    · refine sCondF S rfl hc64 ?_
      refine wp_skip (leafB (leafT (hK37 _ _ ?_)))
      refine sRegion ?_
      refine sBin (iv (w64 (s30 + 1))) S (wN rfl) rfl rfl rfl (bAdd _ _ _ _ s30 1) rfl (lb rfl) fun a S => ?_
      refine sMove (iv (w64 (s30 + 1))) S (wN rfl) (.inl rfl) rfl rfl (lb rfl) fun a S => ?_
      exact leafL (leafT (⟨w64 (s30 + 1), (Option.some.inj h).symm, (S.fix [] [0] (by decide) rfl rfl rfl)⟩))
    refine sCondT S rfl hc64 ?_
    refine sSeq (fun K65 hK65 => ?_)
    refine sRegion ?_
    refine sMove (.bool false) S (wN rfl) (.inr rfl) rfl rfl (lb rfl) fun a S => ?_
    refine leafL (leafT (hK65 _ _ ?_))
    obtain rfl := Option.some.inj h
    obtain rfl := hu31 _ rfl
    have h := g32
    clear g32
    try dsimp only at h
    obtain rfl := Option.some.inj h
    have h := g28
    clear g28
    try dsimp only at h
    obtain rfl := Option.some.inj h
    exact wp_ret (rBlock (rThen (rThen (rBlock (rThen (sRet (.bool false) S (rsl1 rfl (rvT (t := 2) (v := .bool false) S rfl)) ⟨(), rfl, S.mem.sel [] [] (by decide) rfl rfl⟩))))))
  obtain ⟨r48, hx49, h⟩ := bindSome h
  rcases iteSome h with ⟨hc50, h⟩ | ⟨hc50, h⟩
  · refine sDraw (nf := []) (W := [(0, 37, .pointer (some ⟨b44, 0, none⟩)), (1, 38, iv x39.X), (2, 39, .bool r48), (3, 40, .bool (!r48)), (4, 41, .bool (!r48)), (5, 42, undef), (6, 43, undef), (7, 44, undef), (8, 45, undef), (9, 46, undef), (10, 47, undef), (11, 48, undef), (12, 49, undef), (13, 50, undef), (14, 51, undef), (15, 52, undef), (16, 53, undef), (17, 54, undef), (18, 55, .bool true)]) rfl S ?_
    refine node_by (A := anc_piece_side_0) (nf := []) (Y := []) (W := [(0, 37, .pointer (some ⟨b44, 0, none⟩)), (1, 38, iv x39.X), (2, 39, .bool r48), (3, 40, .bool (!r48)), (4, 41, .bool (!r48)), (5, 42, undef), (6, 43, undef), (7, 44, undef), (8, 45, undef), (9, 46, undef), (10, 47, undef), (11, 48, undef), (12, 49, undef), (13, 50, undef), (14, 51, undef), (15, 52, undef), (16, 53, undef), (17, 54, undef), (18, 55, .bool true)]) 19 (by kernel_rfl) (by kernel_rfl) (by kernel_rfl) (by kernel_rfl) (by kernel_rfl) [0, 1, 2, 3, 4, 5, 6, 7, 8, 9, 10, 11, 12, 13, 14, 15, 16, 17, 18] (by kernel_rfl) (by decide) (by decide) (aF 0 18 (by decide) ?_ (aF 1 17 (by decide) ?_ (aF 2 16 (by decide) ?_ (aF 3 15 (by decide) ?_ (aF 4 14 (by decide) ?_ (aF 5 13 (by decide) ?_ (aF 6 12 (by decide) ?_ (aF 7 11 (by decide) ?_ (aF 8 10 (by decide) ?_ (aF 9 9 (by decide) ?_ (aF 10 8 (by decide) ?_ (aF 11 7 (by decide) ?_ (aF 12 6 (by decide) ?_ (aF 13 5 (by decide) ?_ (aF 14 4 (by decide) ?_ (aF 15 3 (by decide) ?_ (aF 16 2 (by decide) ?_ (aF 17 1 (by decide) ?_ (aF 18 0 (by decide) ?_ (trivial)))))))))))))))))))) [(0, .slice ad1 p0.length cp2), (30, .slice ad1 p0.length cp2), (31, iv (p0.length : Int)), (32, iv s30), (42, undef), (43, undef), (44, undef), (45, undef), (46, undef), (47, undef), (48, undef), (49, undef), (50, undef), (51, undef), (52, undef), (53, undef), (54, undef), (55, .bool true)] (fin_of [none, none, none, none, some 5, some 6, some 7, some 8, some 9, some 10, some 11, some 12, some 13, some 14, some 15, some 16, some 17, some 18] rfl (by kernel_rfl) (by kernel_rfl)) (fun _ a w S => ?_)
    · refine fI 37 (.pointer (some ⟨b44, 0, none⟩)) [(4, .pointer (some ⟨b44, 0, none⟩))] 0 [none] rfl rfl rfl rfl rfl rfl fun G a w S => ?_
      refine sField (b := b44) (off := 0) 0 0 S (wN rfl) rfl rfl rfl rfl rfl (lb rfl) fun a S => ?_
      exact leafL ⟨rfl, S⟩
    · refine fI 38 (iv x39.X) [(37, .pointer (some ⟨b44, 0, none⟩))] 1 [some 0] rfl rfl rfl rfl rfl rfl fun G a w S => ?_
      refine sLoad1 (p := b44) (off := 0) (T := 35) (vs := [iv x39.X, iv x39.Y]) 0 (iv x39.X) S (wN rfl) rfl rfl rfl rfl rfl rfl (lb rfl) fun a S => ?_
      exact leafL ⟨rfl, S⟩
    · refine fI 39 (.bool r48) [(38, iv x39.X)] 2 [some 1] rfl rfl rfl rfl rfl rfl fun G a w S => ?_
      have S1 := S.mem
      refine sCallQ (X := Unit) (f := 37) (vs := [iv x39.X]) (val := fun _ => .bool r48) S (wN rfl) rfl callee37 rfl (S1.quiet [] rfl) (fun E1 w1 S1 => c_piece_column E1 w1 x39.X r48 hx49 S1) rfl (lb rfl) fun _ a w S => ?_
      exact leafL ⟨rfl, S⟩
    · refine fI 40 (.bool (!r48)) [(39, .bool r48)] 3 [some 2] rfl rfl rfl rfl rfl rfl fun G a w S => ?_
      refine sNot (b := r48) S (wN rfl) rfl rfl rfl (lb rfl) fun a S => ?_
      exact leafL ⟨rfl, S⟩
    · refine fI 41 (.bool (!r48)) [(40, .bool (!r48))] 4 [some 3] rfl rfl rfl rfl rfl rfl fun G a w S => ?_
      refine sMove (.bool (!r48)) S (wN rfl) (.inl rfl) rfl rfl (lb rfl) fun a S => ?_
      exact leafL ⟨rfl, S⟩
    · refine fI 42 undef [(3, iv s30), (41, .bool (!r48))] 5 [none, some 4] rfl rfl rfl rfl rfl rfl fun G a w S => ?_
      refine sSkip 4 false 41 42 S rfl rfl rfl hc50 rfl (lb rfl) fun a S => ?_
      exact leafL ⟨rfl, S⟩
    · refine fI 43 undef [(42, undef), (41, .bool (!r48))] 6 [some 5, some 4] rfl rfl rfl rfl rfl rfl fun G a w S => ?_
      refine sSkip 4 false 41 43 S rfl rfl rfl hc50 rfl (lb rfl) fun a S => ?_
      exact leafL ⟨rfl, S⟩
    · refine fI 44 undef [(43, undef), (41, .bool (!r48))] 7 [some 6, some 4] rfl rfl rfl rfl rfl rfl fun G a w S => ?_
      refine sSkip 4 false 41 44 S rfl rfl rfl hc50 rfl (lb rfl) fun a S => ?_
      exact leafL ⟨rfl, S⟩
    · refine fI 45 undef [(4, .pointer (some ⟨b44, 0, none⟩)), (44, undef)] 8 [none, some 7] rfl rfl rfl rfl rfl rfl fun G a w S => ?_
      refine sSkipU 7 true 44 45 S rfl rfl rfl rfl (lb rfl) fun a S => ?_
      exact leafL ⟨rfl, S⟩
    · refine fI 46 undef [(45, undef), (44, undef)] 9 [some 8, some 7] rfl rfl rfl rfl rfl rfl fun G a w S => ?_
      refine sSkipU 7 true 44 46 S rfl rfl rfl rfl (lb rfl) fun a S => ?_
      exact leafL ⟨rfl, S⟩
    · refine fI 47 undef [(0, .slice ad1 p0.length cp2), (44, undef)] 10 [none, some 7] rfl rfl rfl rfl rfl rfl fun G a w S => ?_
      refine sSkipU 7 true 44 47 S rfl rfl rfl rfl (lb rfl) fun a S => ?_
      exact leafL ⟨rfl, S⟩
    · refine fI 48 undef [(3, iv s30), (44, undef)] 11 [none, some 7] rfl rfl rfl rfl rfl rfl fun G a w S => ?_
      refine sSkipU 7 true 44 48 S rfl rfl rfl rfl (lb rfl) fun a S => ?_
      exact leafL ⟨rfl, S⟩
    · refine fI 49 undef [(48, undef), (44, undef)] 12 [some 11, some 7] rfl rfl rfl rfl rfl rfl fun G a w S => ?_
      refine sSkipU 7 true 44 49 S rfl rfl rfl rfl (lb rfl) fun a S => ?_
      exact leafL ⟨rfl, S⟩
    · refine fI 50 undef [(47, undef), (49, undef), (44, undef)] 13 [some 10, some 12, some 7] rfl rfl rfl rfl rfl rfl fun G a w S => ?_
      refine sSkipU 7 true 44 50 S rfl rfl rfl rfl (lb rfl) fun a S => ?_
      exact leafL ⟨rfl, S⟩
    · refine fI 51 undef [(50, undef), (44, undef)] 14 [some 13, some 7] rfl rfl rfl rfl rfl rfl fun G a w S => ?_
      refine sSkipU 7 true 44 51 S rfl rfl rfl rfl (lb rfl) fun a S => ?_
      exact leafL ⟨rfl, S⟩
    · refine fI 52 undef [(51, undef), (44, undef)] 15 [some 14, some 7] rfl rfl rfl rfl rfl rfl fun G a w S => ?_
      refine sSkipU 7 true 44 52 S rfl rfl rfl rfl (lb rfl) fun a S => ?_
      exact leafL ⟨rfl, S⟩
    · refine fI 53 undef [(46, undef), (52, undef), (44, undef)] 16 [some 9, some 15, some 7] rfl rfl rfl rfl rfl rfl fun G a w S => ?_
      refine sSkipU 7 true 44 53 S rfl rfl rfl rfl (lb rfl) fun a S => ?_
      exact leafL ⟨rfl, S⟩
    · refine fI 54 undef [(44, undef), (53, undef), (41, .bool (!r48))] 17 [some 7, some 16, some 4] rfl rfl rfl rfl rfl rfl fun G a w S => ?_
      refine sSkip 4 false 41 54 S rfl rfl rfl hc50 rfl (lb rfl) fun a S => ?_
      exact leafL ⟨rfl, S⟩
    · refine fI 55 (.bool true) [(41, .bool (!r48)), (54, undef)] 18 [some 4, some 17] rfl rfl rfl rfl rfl rfl fun G a w S => ?_
      refine sPickT (.bool true) S (wN rfl) rfl rfl hc50 rfl rfl (lb rfl) fun a S => ?_
      exact leafL ⟨rfl, S⟩
    exact leafT (⟨true, Option.some.inj h, S.fix [] [3] (by decide) rfl rfl rfl⟩)
  rcases iteSome h with ⟨hc51, h⟩ | ⟨hc51, h⟩
  rotate_left
  · refine sDraw (nf := []) (W := [(0, 37, .pointer (some ⟨b44, 0, none⟩)), (1, 38, iv x39.X), (2, 39, .bool r48), (3, 40, .bool (!r48)), (4, 41, .bool (!r48)), (5, 42, iv s30), (6, 43, .bool (decide (0 < s30))), (7, 44, .bool (decide (0 < s30))), (8, 45, undef), (9, 46, undef), (10, 47, undef), (11, 48, undef), (12, 49, undef), (13, 50, undef), (14, 51, undef), (15, 52, undef), (16, 53, undef), (17, 54, .bool false), (18, 55, .bool false)]) rfl S ?_
    refine node_by (A := anc_piece_side_0) (nf := []) (Y := []) (W := [(0, 37, .pointer (some ⟨b44, 0, none⟩)), (1, 38, iv x39.X), (2, 39, .bool r48), (3, 40, .bool (!r48)), (4, 41, .bool (!r48)), (5, 42, iv s30), (6, 43, .bool (decide (0 < s30))), (7, 44, .bool (decide (0 < s30))), (8, 45, undef), (9, 46, undef), (10, 47, undef), (11, 48, undef), (12, 49, undef), (13, 50, undef), (14, 51, undef), (15, 52, undef), (16, 53, undef), (17, 54, .bool false), (18, 55, .bool false)]) 19 (by kernel_rfl) (by kernel_rfl) (by kernel_rfl) (by kernel_rfl) (by kernel_rfl) [0, 1, 2, 3, 4, 5, 6, 7, 8, 9, 10, 11, 12, 13, 14, 15, 16, 17, 18] (by kernel_rfl) (by decide) (by decide) (aF 0 18 (by decide) ?_ (aF 1 17 (by decide) ?_ (aF 2 16 (by decide) ?_ (aF 3 15 (by decide) ?_ (aF 4 14 (by decide) ?_ (aF 5 13 (by decide) ?_ (aF 6 12 (by decide) ?_ (aF 7 11 (by decide) ?_ (aF 8 10 (by decide) ?_ (aF 9 9 (by decide) ?_ (aF 10 8 (by decide) ?_ (aF 11 7 (by decide) ?_ (aF 12 6 (by decide) ?_ (aF 13 5 (by decide) ?_ (aF 14 4 (by decide) ?_ (aF 15 3 (by decide) ?_ (aF 16 2 (by decide) ?_ (aF 17 1 (by decide) ?_ (aF 18 0 (by decide) ?_ (trivial)))))))))))))))))))) [(0, .slice ad1 p0.length cp2), (30, .slice ad1 p0.length cp2), (31, iv (p0.length : Int)), (32, iv s30), (42, iv s30), (43, .bool (decide (0 < s30))), (44, .bool (decide (0 < s30))), (45, undef), (46, undef), (47, undef), (48, undef), (49, undef), (50, undef), (51, undef), (52, undef), (53, undef), (54, .bool false), (55, .bool false)] (fin_of [none, none, none, none, some 5, some 6, some 7, some 8, some 9, some 10, some 11, some 12, some 13, some 14, some 15, some 16, some 17, some 18] rfl (by kernel_rfl) (by kernel_rfl)) (fun _ a w S => ?_)
    · refine fI 37 (.pointer (some ⟨b44, 0, none⟩)) [(4, .pointer (some ⟨b44, 0, none⟩))] 0 [none] rfl rfl rfl rfl rfl rfl fun G a w S => ?_
      refine sField (b := b44) (off := 0) 0 0 S (wN rfl) rfl rfl rfl rfl rfl (lb rfl) fun a S => ?_
      exact leafL ⟨rfl, S⟩
    · refine fI 38 (iv x39.X) [(37, .pointer (some ⟨b44, 0, none⟩))] 1 [some 0] rfl rfl rfl rfl rfl rfl fun G a w S => ?_
      refine sLoad1 (p := b44) (off := 0) (T := 35) (vs := [iv x39.X, iv x39.Y]) 0 (iv x39.X) S (wN rfl) rfl rfl rfl rfl rfl rfl (lb rfl) fun a S => ?_
      exact leafL ⟨rfl, S⟩
    · refine fI 39 (.bool r48) [(38, iv x39.X)] 2 [some 1] rfl rfl rfl rfl rfl rfl fun G a w S => ?_
      have S1 := S.mem
      refine sCallQ (X := Unit) (f := 37) (vs := [iv x39.X]) (val := fun _ => .bool r48) S (wN rfl) rfl callee37 rfl (S1.quiet [] rfl) (fun E1 w1 S1 => c_piece_column E1 w1 x39.X r48 hx49 S1) rfl (lb rfl) fun _ a w S => ?_
      exact leafL ⟨rfl, S⟩
    · refine fI 40 (.bool (!r48)) [(39, .bool r48)] 3 [some 2] rfl rfl rfl rfl rfl rfl fun G a w S => ?_
      refine sNot (b := r48) S (wN rfl) rfl rfl rfl (lb rfl) fun a S => ?_
      exact leafL ⟨rfl, S⟩
    · refine fI 41 (.bool (!r48)) [(40, .bool (!r48))] 4 [some 3] rfl rfl rfl rfl rfl rfl fun G a w S => ?_
      refine sMove (.bool (!r48)) S (wN rfl) (.inl rfl) rfl rfl (lb rfl) fun a S => ?_
      exact leafL ⟨rfl, S⟩
    · refine fI 42 (iv s30) [(3, iv s30), (41, .bool (!r48))] 5 [none, some 4] rfl rfl rfl rfl rfl rfl fun G a w S => ?_
      refine sMove (iv s30) S (wG 4 false 41 rfl rfl rfl hc50) (.inl rfl) rfl rfl (lb rfl) fun a S => ?_
      exact leafL ⟨rfl, S⟩
    · refine fI 43 (.bool (decide (0 < s30))) [(42, iv s30), (41, .bool (!r48))] 6 [some 5, some 4] rfl rfl rfl rfl rfl rfl fun G a w S => ?_
      refine sBin (.bool (decide (0 < s30))) S (wG 4 false 41 rfl rfl rfl hc50) rfl rfl rfl (bGt _ _ _ _ .i64 s30 0) rfl (lb rfl) fun a S => ?_
      exact leafL ⟨rfl, S⟩
    · refine fI 44 (.bool (decide (0 < s30))) [(43, .bool (decide (0 < s30))), (41, .bool (!r48))] 7 [some 6, some 4] rfl rfl rfl rfl rfl rfl fun G a w S => ?_
      refine sMove (.bool (decide (0 < s30))) S (wG 4 false 41 rfl rfl rfl hc50) (.inl rfl) rfl rfl (lb rfl) fun a S => ?_
      exact leafL ⟨rfl, S⟩
    · refine fI 45 undef [(4, .pointer (some ⟨b44, 0, none⟩)), (44, .bool (decide (0 < s30)))] 8 [none, some 7] rfl rfl rfl rfl rfl rfl fun G a w S => ?_
      refine sSkip 7 true 44 45 S rfl rfl rfl hc51 rfl (lb rfl) fun a S => ?_
      exact leafL ⟨rfl, S⟩
    · refine fI 46 undef [(45, undef), (44, .bool (decide (0 < s30)))] 9 [some 8, some 7] rfl rfl rfl rfl rfl rfl fun G a w S => ?_
      refine sSkip 7 true 44 46 S rfl rfl rfl hc51 rfl (lb rfl) fun a S => ?_
      exact leafL ⟨rfl, S⟩
    · refine fI 47 undef [(0, .slice ad1 p0.length cp2), (44, .bool (decide (0 < s30)))] 10 [none, some 7] rfl rfl rfl rfl rfl rfl fun G a w S => ?_
      refine sSkip 7 true 44 47 S rfl rfl rfl hc51 rfl (lb rfl) fun a S => ?_
      exact leafL ⟨rfl, S⟩
    · refine fI 48 undef [(3, iv s30), (44, .bool (decide (0 < s30)))] 11 [none, some 7] rfl rfl rfl rfl rfl rfl fun G a w S => ?_
      refine sSkip 7 true 44 48 S rfl rfl rfl hc51 rfl (lb rfl) fun a S => ?_
      exact leafL ⟨rfl, S⟩
    · refine fI 49 undef [(48, undef), (44, .bool (decide (0 < s30)))] 12 [some 11, some 7] rfl rfl rfl rfl rfl rfl fun G a w S => ?_
      refine sSkip 7 true 44 49 S rfl rfl rfl hc51 rfl (lb rfl) fun a S => ?_
      exact leafL ⟨rfl, S⟩
    · refine fI 50 undef [(47, undef), (49, undef), (44, .bool (decide (0 < s30)))] 13 [some 10, some 12, some 7] rfl rfl rfl rfl rfl rfl fun G a w S => ?_
      refine sSkip 7 true 44 50 S rfl rfl rfl hc51 rfl (lb rfl) fun a S => ?_
      exact leafL ⟨rfl, S⟩
    · refine fI 51 undef [(50, undef), (44, .bool (decide (0 < s30)))] 14 [some 13, some 7] rfl rfl rfl rfl rfl rfl fun G a w S => ?_
      refine sSkip 7 true 44 51 S rfl rfl rfl hc51 rfl (lb rfl) fun a S => ?_
      exact leafL ⟨rfl, S⟩
    · refine fI 52 undef [(51, undef), (44, .bool (decide (0 < s30)))] 15 [some 14, some 7] rfl rfl rfl rfl rfl rfl fun G a w S => ?_
      refine sSkip 7 true 44 52 S rfl rfl rfl hc51 rfl (lb rfl) fun a S => ?_
      exact leafL ⟨rfl, S⟩
    · refine fI 53 undef [(46, undef), (52, undef), (44, .bool (decide (0 < s30)))] 16 [some 9, some 15, some 7] rfl rfl rfl rfl rfl rfl fun G a w S => ?_
      refine sSkip 7 true 44 53 S rfl rfl rfl hc51 rfl (lb rfl) fun a S => ?_
      exact leafL ⟨rfl, S⟩
    · refine fI 54 (.bool false) [(44, .bool (decide (0 < s30))), (53, undef), (41, .bool (!r48))] 17 [some 7, some 16, some 4] rfl rfl rfl rfl rfl rfl fun G a w S => ?_
      refine sPickF (.bool false) S (wG 4 false 41 rfl rfl rfl hc50) rfl rfl hc51 rfl rfl (lb rfl) fun a S => ?_
      exact leafL ⟨rfl, S⟩
    · refine fI 55 (.bool false) [(41, .bool (!r48)), (54, .bool false)] 18 [some 4, some 17] rfl rfl rfl rfl rfl rfl fun G a w S => ?_
      refine sPickF (.bool false) S (wN rfl) rfl rfl hc50 rfl rfl (lb rfl) fun a S => ?_
      exact leafL ⟨rfl, S⟩
    exact leafT (⟨false, Option.some.inj h, S.fix [] [3] (by decide) rfl rfl rfl⟩)
  obtain ⟨x52, hx53, h⟩ := bindSome h
  obtain ⟨q59, hq60, S⟩ := pIdx (P := Tryd.prog) (r := r_api_Point) (v := .slice ad1 p0.length cp2) (xs := p0) (j := w64 (s30 - 1)) 22 35 3 S Tryd.underlying22 rfl rfl hx53
  obtain ⟨q61, hq62, S⟩ := pFld (P := Tryd.prog) (r := r_api_Point) (s2 := (rI .i64)) (g := (·.Y)) (q := q59) (z := x52) 35 1 0 1 S rfl rfl comp_api_Point_Y
  obtain ⟨u63, S⟩ := pLoad (r := (rI .i64)) (q := q61) (x := x52.Y) 0 S rfl
  obtain rfl : u63 = iv x52.Y := S.mem.know (i := 1) (e := fRep (rI .i64) (u63) x52.Y) rfl
  refine sDraw (nf := []) (W := [(0, 37, .pointer (some ⟨b44, 0, none⟩)), (1, 38, iv x39.X), (2, 39, .bool r48), (3, 40, .bool (!r48)), (4, 41, .bool (!r48)), (5, 42, iv s30), (6, 43, .bool (decide (0 < s30))), (7, 44, .bool (decide (0 < s30))), (8, 45, .pointer (some ⟨b44, 1, none⟩)), (9, 46, iv x39.Y), (10, 47, .slice ad1 p0.length cp2), (11, 48, iv s30), (12, 49, iv (w64 (s30 - 1))), (13, 50, q59), (14, 51, q61), (15, 52, iv x52.Y), (16, 53, .bool (decide (x39.Y ≤ x52.Y))), (17, 54, .bool (decide (x39.Y ≤ x52.Y))), (18, 55, .bool (decide (x39.Y ≤ x52.Y)))]) rfl S ?_
  refine node_by (A := anc_piece_side_0) (nf := []) (Y := []) (W := [(0, 37, .pointer (some ⟨b44, 0, none⟩)), (1, 38, iv x39.X), (2, 39, .bool r48), (3, 40, .bool (!r48)), (4, 41, .bool (!r48)), (5, 42, iv s30), (6, 43, .bool (decide (0 < s30))), (7, 44, .bool (decide (0 < s30))), (8, 45, .pointer (some ⟨b44, 1, none⟩)), (9, 46, iv x39.Y), (10, 47, .slice ad1 p0.length cp2), (11, 48, iv s30), (12, 49, iv (w64 (s30 - 1))), (13, 50, q59), (14, 51, q61), (15, 52, iv x52.Y), (16, 53, .bool (decide (x39.Y ≤ x52.Y))), (17, 54, .bool (decide (x39.Y ≤ x52.Y))), (18, 55, .bool (decide (x39.Y ≤ x52.Y)))]) 19 (by kernel_rfl) (by kernel_rfl) (by kernel_rfl) (by kernel_rfl) (by kernel_rfl) [0, 1, 2, 3, 4, 5, 6, 7, 8, 9, 10, 11, 12, 13, 14, 15, 16, 17, 18] (by kernel_rfl) (by decide) (by decide) (aF 0 18 (by decide) ?_ (aF 1 17 (by decide) ?_ (aF 2 16 (by decide) ?_ (aF 3 15 (by decide) ?_ (aF 4 14 (by decide) ?_ (aF 5 13 (by decide) ?_ (aF 6 12 (by decide) ?_ (aF 7 11 (by decide) ?_ (aF 8 10 (by decide) ?_ (aF 9 9 (by decide) ?_ (aF 10 8 (by decide) ?_ (aF 11 7 (by decide) ?_ (aF 12 6 (by decide) ?_ (aF 13 5 (by decide) ?_ (aF 14 4 (by decide) ?_ (aF 15 3 (by decide) ?_ (aF 16 2 (by decide) ?_ (aF 17 1 (by decide) ?_ (aF 18 0 (by decide) ?_ (trivial)))))))))))))))))))) [(0, .slice ad1 p0.length cp2), (30, .slice ad1 p0.length cp2), (31, iv (p0.length : Int)), (32, iv s30), (42, iv s30), (43, .bool (decide (0 < s30))), (44, .bool (decide (0 < s30))), (45, .pointer (some ⟨b44, 1, none⟩)), (46, iv x39.Y), (47, .slice ad1 p0.length cp2), (48, iv s30), (49, iv (w64 (s30 - 1))), (50, q59), (51, q61), (52, iv x52.Y), (53, .bool (decide (x39.Y ≤ x52.Y))), (54, .bool (decide (x39.Y ≤ x52.Y))), (55, .bool (decide (x39.Y ≤ x52.Y)))] (fin_of [none, none, none, none, some 5, some 6, some 7, some 8, some 9, some 10, some 11, some 12, some 13, some 14, some 15, some 16, some 17, some 18] rfl (by kernel_rfl) (by kernel_rfl)) (fun _ a w S => ?_)
  · refine fI 37 (.pointer (some ⟨b44, 0, none⟩)) [(4, .pointer (some ⟨b44, 0, none⟩))] 0 [none] rfl rfl rfl rfl rfl rfl fun G a w S => ?_
    refine sField (b := b44) (off := 0) 0 0 S (wN rfl) rfl rfl rfl rfl rfl (lb rfl) fun a S => ?_
    exact leafL ⟨rfl, S⟩
  · refine fI 38 (iv x39.X) [(37, .pointer (some ⟨b44, 0, none⟩))] 1 [some 0] rfl rfl rfl rfl rfl rfl fun G a w S => ?_
    refine sLoad1 (p := b44) (off := 0) (T := 35) (vs := [iv x39.X, iv x39.Y]) 0 (iv x39.X) S (wN rfl) rfl rfl rfl rfl rfl rfl (lb rfl) fun a S => ?_
    exact leafL ⟨rfl, S⟩
  · refine fI 39 (.bool r48) [(38, iv x39.X)] 2 [some 1] rfl rfl rfl rfl rfl rfl fun G a w S => ?_
    have S1 := S.mem
    refine sCallQ (X := Unit) (f := 37) (vs := [iv x39.X]) (val := fun _ => .bool r48) S (wN rfl) rfl callee37 rfl (S1.quiet [] rfl) (fun E1 w1 S1 => c_piece_column E1 w1 x39.X r48 hx49 S1) rfl (lb rfl) fun _ a w S => ?_
    exact leafL ⟨rfl, S⟩
  · refine fI 40 (.bool (!r48)) [(39, .bool r48)] 3 [some 2] rfl rfl rfl rfl rfl rfl fun G a w S => ?_
    refine sNot (b := r48) S (wN rfl) rfl rfl rfl (lb rfl) fun a S => ?_
    exact leafL ⟨rfl, S⟩
  · refine fI 41 (.bool (!r48)) [(40, .bool (!r48))] 4 [some 3] rfl rfl rfl rfl rfl rfl fun G a w S => ?_
    refine sMove (.bool (!r48)) S (wN rfl) (.inl rfl) rfl rfl (lb rfl) fun a S => ?_
    exact leafL ⟨rfl, S⟩
  · refine fI 42 (iv s30) [(3, iv s30), (41, .bool (!r48))] 5 [none, some 4] rfl rfl rfl rfl rfl rfl fun G a w S => ?_
    refine sMove (iv s30) S (wG 4 false 41 rfl rfl rfl hc50) (.inl rfl) rfl rfl (lb rfl) fun a S => ?_
    exact leafL ⟨rfl, S⟩
  · refine fI 43 (.bool (decide (0 < s30))) [(42, iv s30), (41, .bool (!r48))] 6 [some 5, some 4] rfl rfl rfl rfl rfl rfl fun G a w S => ?_
    refine sBin (.bool (decide (0 < s30))) S (wG 4 false 41 rfl rfl rfl hc50) rfl rfl rfl (bGt _ _ _ _ .i64 s30 0) rfl (lb rfl) fun a S => ?_
    exact leafL ⟨rfl, S⟩
  · refine fI 44 (.bool (decide (0 < s30))) [(43, .bool (decide (0 < s30))), (41, .bool (!r48))] 7 [some 6, some 4] rfl rfl rfl rfl rfl rfl fun G a w S => ?_
    refine sMove (.bool (decide (0 < s30))) S (wG 4 false 41 rfl rfl rfl hc50) (.inl rfl) rfl rfl (lb rfl) fun a S => ?_
    exact leafL ⟨rfl, S⟩
  · refine fI 45 (.pointer (some ⟨b44, 1, none⟩)) [(4, .pointer (some ⟨b44, 0, none⟩)), (44, .bool (decide (0 < s30)))] 8 [none, some 7] rfl rfl rfl rfl rfl rfl fun G a w S => ?_
    refine sField (b := b44) (off := 0) 1 1 S (wG 7 true 44 rfl rfl rfl hc51) rfl rfl rfl rfl rfl (lb rfl) fun a S => ?_
    exact leafL ⟨rfl, S⟩
  · refine fI 46 (iv x39.Y) [(45, .pointer (some ⟨b44, 1, none⟩)), (44, .bool (decide (0 < s30)))] 9 [some 8, some 7] rfl rfl rfl rfl rfl rfl fun G a w S => ?_
    refine sLoad1 (p := b44) (off := 1) (T := 35) (vs := [iv x39.X, iv x39.Y]) 0 (iv x39.Y) S (wG 7 true 44 rfl rfl rfl hc51) rfl rfl rfl rfl rfl rfl (lb rfl) fun a S => ?_
    exact leafL ⟨rfl, S⟩
  · refine fI 47 (.slice ad1 p0.length cp2) [(0, .slice ad1 p0.length cp2), (44, .bool (decide (0 < s30)))] 10 [none, some 7] rfl rfl rfl rfl rfl rfl fun G a w S => ?_
    refine sMove (.slice ad1 p0.length cp2) S (wG 7 true 44 rfl rfl rfl hc51) (.inl rfl) rfl rfl (lb rfl) fun a S => ?_
    exact leafL ⟨rfl, S⟩
  · refine fI 48 (iv s30) [(3, iv s30), (44, .bool (decide (0 < s30)))] 11 [none, some 7] rfl rfl rfl rfl rfl rfl fun G a w S => ?_
    refine sMove (iv s30) S (wG 7 true 44 rfl rfl rfl hc51) (.inl rfl) rfl rfl (lb rfl) fun a S => ?_
    exact leafL ⟨rfl, S⟩
  · refine fI 49 (iv (w64 (s30 - 1))) [(48, iv s30), (44, .bool (decide (0 < s30)))] 12 [some 11, some 7] rfl rfl rfl rfl rfl rfl fun G a w S => ?_
    refine sBin (iv (w64 (s30 - 1))) S (wG 7 true 44 rfl rfl rfl hc51) rfl rfl rfl (bSub _ _ _ _ s30 1) rfl (lb rfl) fun a S => ?_
    exact leafL ⟨rfl, S⟩
  · refine fI 50 q59 [(47, .slice ad1 p0.length cp2), (49, iv (w64 (s30 - 1))), (44, .bool (decide (0 < s30)))] 13 [some 10, some 12, some 7] rfl rfl rfl rfl rfl rfl fun G a w S => ?_
    refine sIdxV (v := .slice ad1 p0.length cp2) (k := .i64) (j := w64 (s30 - 1)) S (wG 7 true 44 rfl rfl rfl hc51) rfl rfl rfl hq60 rfl (lb rfl) fun a S => ?_
    exact leafL ⟨rfl, S⟩
  · refine fI 51 q61 [(50, q59), (44, .bool (decide (0 < s30)))] 14 [some 13, some 7] rfl rfl rfl rfl rfl rfl fun G a w S => ?_
    refine sFldV (q := q59) S (wG 7 true 44 rfl rfl rfl hc51) rfl rfl hq62 rfl (lb rfl) fun a S => ?_
    exact leafL ⟨rfl, S⟩
  · refine fI 52 (iv x52.Y) [(51, q61), (44, .bool (decide (0 < s30)))] 15 [some 14, some 7] rfl rfl rfl rfl rfl rfl fun G a w S => ?_
    refine sLoadV1 (vq := q61) 0 (iv x52.Y) S (wG 7 true 44 rfl rfl rfl hc51) rfl rfl rfl rfl rfl (lb rfl) fun a S => ?_
    exact leafL ⟨rfl, S⟩
  · refine fI 53 (.bool (decide (x39.Y ≤ x52.Y))) [(46, iv x39.Y), (52, iv x52.Y), (44, .bool (decide (0 < s30)))] 16 [some 9, some 15, some 7] rfl rfl rfl rfl rfl rfl fun G a w S => ?_
    refine sBin (.bool (decide (x39.Y ≤ x52.Y))) S (wG 7 true 44 rfl rfl rfl hc51) rfl rfl rfl (bLe _ _ _ _ .i64 x39.Y x52.Y) rfl (lb rfl) fun a S => ?_
    exact leafL ⟨rfl, S⟩
  · refine fI 54 (.bool (decide (x39.Y ≤ x52.Y))) [(44, .bool (decide (0 < s30))), (53, .bool (decide (x39.Y ≤ x52.Y))), (41, .bool (!r48))] 17 [some 7, some 16, some 4] rfl rfl rfl rfl rfl rfl fun G a w S => ?_
    refine sPickT (.bool (decide (x39.Y ≤ x52.Y))) S (wG 4 false 41 rfl rfl rfl hc50) rfl rfl hc51 rfl rfl (lb rfl) fun a S => ?_
    exact leafL ⟨rfl, S⟩
  · refine fI 55 (.bool (decide (x39.Y ≤ x52.Y))) [(41, .bool (!r48)), (54, .bool (decide (x39.Y ≤ x52.Y)))] 18 [some 4, some 17] rfl rfl rfl rfl rfl rfl fun G a w S => ?_
    refine sPickF (.bool (decide (x39.Y ≤ x52.Y))) S (wN rfl) rfl rfl hc50 rfl rfl (lb rfl) fun a S => ?_
    exact leafL ⟨rfl, S⟩
  exact leafT (⟨decide (x39.Y ≤ x52.Y), Option.some.inj h, S.fix [] [7] (by decide) rfl rfl rfl⟩)

end Go.Proofs.YtmedbnjhgkcndaaDoor
