/- Several texts in one: SpS SpU SpV SpW GTy SpO GOp KeA G79 G81 G82 G80 G58 G60 -/
import Derived.WalkKit
import Derived.Maps.AppendAt
import Derived.Deep.AppendLies
import Derived.KernelRfl
import Derived.Laws.OwnMore
import Derived.Great.BuildSlice
import Derived.Orders
import Derived.Laws.StructEq
import Derived.ChangeKeysEq
import Derived.Defers
import Derived.Laws.BytesString
import Derived.RangeFuncNested
import Derived.RangeFuncBound
import Derived.RangeFuncCalls
import Derived.RangeFuncLeaves
import Derived.OrdersIn
import Derived.LoopNIn
import Derived.Test.YtdbgkakmhlmpbaaProg
import Derived.ProofKit
import Derived.OpenShut
import Derived.ChangeOld
import Derived.Deep.Slices
import Derived.Lib.SmallJoins
import Derived.JoinedOf
import Derived.JoinedAt
import Derived.Below
import Derived.Test.YtdbgkakmhlmpbaaRows
import Derived.Test.YtdbgkakmhlmpbaaMCostSkeins1
namespace Go.Proofs.Ytdbgkakmhlmpbaa
open Go.RowKit
set_option linter.unusedVariables false

section
variable {P : Program}
/-- a loop's body over a list: .inl: on; .inr: left -/
def foldO {σ X τ : Type} (B : σ → X → Option (σ ⊕ τ)) : σ → List X → Option (σ ⊕ τ)
  | s, [] => some (.inl s)
  | s, x :: xs => (B s x).bind fun r => match r with | .inl s' => foldO B s' xs | .inr t => some (.inr t)
theorem foldO_snoc {σ X τ : Type} {B : σ → X → Option (σ ⊕ τ)} {s0 s : σ} {pre : List X} (h : foldO B s0 pre = some (.inl s)) (x : X) (xs : List X) : foldO B s0 (pre ++ x :: xs) = (B s x).bind fun r => match r with | .inl s' => foldO B s' xs | .inr t => some (.inr t) := by
  induction pre generalizing s0 with
  | nil => simp only [foldO, Option.some.injEq, Sum.inl.injEq] at h; subst h; rfl
  | cons y pre ih =>
    simp only [foldO, List.cons_append] at h ⊢
    cases hb : B s0 y with
    | none => rw [hb] at h; cases h
    | some r =>
      rw [hb] at h
      cases r with
      | inl s' => exact ih h
      | inr t => cases h
/-- a step of memory, seen by whoever does not own the blocks O, that are O' behind it: cells outside O stay -/
structure Turn (O O' : Nat → Prop) (w w' : World) : Prop where
  os : w'.os = w.os
  tape : w'.tape = w.tape
  output : w'.output = w.output
  size : w.heap.size ≤ w'.heap.size
  same : ∀ b, b < w.heap.size → ¬ O b → IsC w b → w'.heap[b]? = w.heap[b]?
  excl : ∀ b, b < w.heap.size → O' b → O b
theorem Turn.refl (O : Nat → Prop) (w : World) : Turn O O w w := ⟨rfl, rfl, rfl, Nat.le_refl _, fun _ _ _ _ => rfl, fun _ _ h => h⟩
theorem Turn.trans {O O' O'' : Nat → Prop} {a b c : World} (h : Turn O O' a b) (k : Turn O' O'' b c) : Turn O O'' a c := by
  refine ⟨k.os.trans h.os, k.tape.trans h.tape, k.output.trans h.output, Nat.le_trans h.size k.size, fun i hi hn hc => ?_, fun i hi ho => h.excl i hi (k.excl i (Nat.lt_of_lt_of_le hi h.size) ho)⟩
  have e := h.same i hi hn hc
  have hc2 : IsC b i := by obtain ⟨cs, T, m, h1⟩ := hc; exact ⟨cs, T, m, by rw [e]; exact h1⟩
  rw [k.same i (Nat.lt_of_lt_of_le hi h.size) (fun ho => hn (h.excl i hi ho)) hc2, e]
theorem Turn.of_chg {K : List Nat} {O O' : Nat → Prop} {w w' : World} (h : Chg K w w') (hK : ∀ b, b ∈ K → O b) (he : ∀ b, b < w.heap.size → O' b → O b) : Turn O O' w w' :=
  ⟨h.os, h.tape, h.output, h.size, fun b hb hn _ => h.block b hb (fun hk => hn (hK b hk)), he⟩
theorem Turn.putObj {O : Nat → Prop} {w : World} {l : Nat} {o : Obj} (o' : Obj) (hl : w.heap[l]? = some o) (ho : o.isCells = false) : Turn O O w (w.putObj l o') := by
  have hg := grownBy_putObj' w l o'
  refine ⟨hg.os, hg.tape, hg.output, hg.size, fun b hb _ hc => hg.block b hb (fun e => ?_), fun _ _ h => h⟩
  obtain ⟨cs, T, m, h1⟩ := hc
  cases e
  rw [hl] at h1
  cases h1
  simp [Obj.isCells] at ho
/-- what is known and what is owned, behind such a step -/
theorem St0.turn {O O' : Nat → Prop} {w w' : World} {D : List Fact} (S : St0 O [] w w [] D) (h : Turn O O' w w') (hb : ∀ b, O' b → b < w'.heap.size) : St0 O' [] w' w' [] D := by
  have hext : Ext (tot O []) (tot O' []) w w' := by
    refine ⟨h.size, fun b h1 h2 h3 => h.same b h1 (fun ho => h2 (.inl ho)) (isC_of_cell h3), fun b h1 h2 => ?_⟩
    rcases h2 with h2 | h2
    · exact .inl (h.excl b h1 h2)
    · simp [keysL] at h2
  exact ⟨Chg.refl _ _, fun e he => (by cases he), fun d hd => d.mono hext (S.fact d hd), by simp [keysL], fun b hb => (by simp [keysL] at hb), hb⟩
/-- an iterator's word: over the list xs, for whatever body; Dc: what it reads of memory. O: the blocks that the loop owns, which its rounds may change -/
def SeqX (P : Program) (gf : Nat) (lb : Array Value) {X : Type} (enc : X → Array Value) (xs : List X) (Dc : List Fact) : Prop :=
  ∀ (l : Nat) (J : List X → (Nat → Prop) → World → Prop) (Jx : World → Prop) (O : Nat → Prop) (W : World), (∀ pre O A B, J pre O A → Chg [] A B → J pre O B) → (∀ A B, Jx A → Chg [] A B → Jx B) → (∀ pre O A, J pre O A → ∀ b, O b → b < A.heap.size) → St0 O [] W W [] Dc →
    (∀ pre x O W1, (pre ++ [x]) <+: xs → J pre O W1 → YieldAt Fence.wide 0 P l (enc x) W1 fun e W' =>
      (e = .returned (.bool true) ∧ ∃ O', J (pre ++ [x]) O' W' ∧ Turn O O' W1 W') ∨ (e = .returned (.bool false) ∧ Jx W')) →
    J [] O W → CallsIn Fence.wide 1 P gf (#[.func (.yield l) #[] #[]] ++ lb) W fun e W' => (∃ v, e = .returned v) ∧ ((∃ O', J xs O' W') ∨ Jx W')
/-- how a round may end -/
def roundPost {X : Type} (I : List X × (Nat → Prop) → World → Prop) (Ix : Code → World → Prop) (xs : List X) (O : Nat → Prop) (W : World) : Exit → Act → World → Prop
  | .normal, _, W' => KeepsOthers W W' ∧ ∃ O', I (xs, O') W' ∧ Turn O O' W W'
  | .ret, _, W' => KeepsOthers W W' ∧ Ix .ret W'
  | .exit id, _, W' => KeepsOthers W W' ∧ Ix (.exit id) W'
  | _, _, _ => False
theorem roundPost_out {X : Type} (I : List X × (Nat → Prop) → World → Prop) (Ix : Code → World → Prop) (xs : List X) (O : Nat → Prop) (W : World) : ¬ LetsOut (roundPost I Ix xs O W) := fun ⟨_, _, h⟩ => h
theorem grown_of_chg {w w' : World} (h : Chg [] w w') : w.grownBy w' none := ⟨h.os, h.tape, h.output, h.size, fun k hk _ => h.block k hk (by simp)⟩
theorem sRangeW {X : Type} {g : Operand} {ps : Array Tmp} {assign body : Code} {Q : Exit → Act → World → Prop} {a : Act} {w : World} {gf : Nat} {lb : Array Value} (hg : a.eval g = .func (.func gf) #[] lb) (eg : ∀ args w, (callFunc gf args).run P w = .ok (.enter gf args) w)
    (enc : X → Array Value) (xs : List X) (Dc : List Fact) (hseq : SeqX P gf lb enc xs Dc) (hps : ∀ x, (enc x).size = ps.size) (O0 : Nat → Prop) (hd0 : ∀ d, d ∈ Dc → d.p O0 w) (hO0 : ∀ b, O0 b → b < w.heap.size)
    (I : List X × (Nat → Prop) → World → Prop) (I2 : List X × (Nat → Prop) × X × Act → World → Prop) (Ix : Code → World → Prop) (hI : OwnFrom w.heap.size I) (hI2 : OwnFrom w.heap.size I2) (hIx : OwnFrom w.heap.size Ix) (hIo : ∀ pre O A, I (pre, O) A → ∀ b, O b → b < A.heap.size) (h0 : I ([], O0) w)
    (hassign : ∀ (l : Nat) (pre : List X) (O : Nat → Prop) (x : X) (W : World), (pre ++ [x]) <+: xs → I (pre, O) W → assign.wpIn (zf (some l)) 0 P (Exit.then (fun a' W' => KeepsOthers W W' ∧ Turn O O W W' ∧ I2 (pre, O, x, a') W') (fun _ _ _ => False)) { tmps := (ps.zip (enc x)).foldl (fun t (p, v) => t.setIfInBounds p v) a.tmps, defers := [] } W)
    (hbody : ∀ (l : Nat) (pre : List X) (O : Nat → Prop) (x : X) (a' : Act) (W : World), (pre ++ [x]) <+: xs → I2 (pre, O, x, a') W → body.wpIn (zf (some l)) 0 P (roundPost I Ix (pre ++ [x]) O W) a' W)
    (hdone : ∀ (D : Nat) (O : Nat → Prop) (W : World), w.heap.size ≤ D → I (xs, O) W → W.heap[D]? = some (.deferred (some [])) → Q .normal { a with defers := { target := .collected D, args := #[] } :: a.defers } W)
    (hstop : ∀ (D : Nat) (c : Code) (W : World), w.heap.size ≤ D → Ix c W → W.heap[D]? = some (.deferred (some [])) → c.wp P Q { a with defers := { target := .collected D, args := #[] } :: a.defers } W) :
    (Code.rangeFunc g ps assign body).wp P Q a w := by
  refine (wpIn_wide (n := 2)).1 (wpIn_rangeFunc fun fn hfn => ?_)
  -- the loop's record, and the block of what its rounds defer
  let rc : LoopState → Option Code → Loop := fun st pe => { state := st, pending := pe, fn, tmps := a.tmps, params := ps, assign, body, defers := w.heap.size }
  obtain ⟨W1, hW1⟩ : ∃ W1, (w.alloc (.deferred (some []))).alloc (.loop (rc .ready none)) = W1 := ⟨_, rfl⟩
  have hL1 : W1.heap[w.heap.size + 1]? = some (.loop (rc .ready none)) := by
    have := World.alloc_heap_new (w.alloc (.deferred (some []))) (.loop (rc .ready none))
    rw [World.size_alloc, hW1] at this
    exact this
  have hK1 : W1.heap[w.heap.size]? = some (.deferred (some [])) := by
    have := World.alloc_heap_new w (.deferred (some []))
    rw [← hW1]
    exact (Below.heap_alloc _ _ _ (by simp)).trans this
  have hI1 : I ([], O0) W1 := hW1 ▸ hI.alloc _ (hI.alloc _ h0)
  have hz1 : w.heap.size + 2 = W1.heap.size := by rw [← hW1]; simp
  have hc1 : Chg [] w W1 := by
    rw [← hW1]
    exact (Chg.alloc [] w _).trans (Chg.alloc [] _ _) (fun j hj => by cases hj)
  have hS1 : St0 O0 [] W1 W1 [] Dc := by
    have hext : Ext O0 (tot O0 []) w W1 := ⟨hc1.size, fun b hb _ _ => hc1.block b hb (by simp), fun b _ h => by
      rcases h with h | h
      · exact h
      · simp [keysL] at h⟩
    exact ⟨Chg.refl _ _, fun e he => (by cases he), fun d hd => d.mono hext (hd0 d hd), by simp [keysL], fun b hb => (by simp [keysL] at hb), fun b hb => Nat.lt_of_lt_of_le (hO0 b hb) hc1.size⟩
  refine ⟨w.heap.size + 1, [{ target := .collected w.heap.size, args := #[] }], W1, { target := .fn (.func gf) lb, args := #[.func (.yield (w.heap.size + 1)) #[] #[]] }, W1, gf, #[.func (.yield (w.heap.size + 1)) #[] #[]] ++ lb, W1, ?_, ?_, ?_, ?_, fun h => by simp [Fence.wide] at h, ?_⟩
  · rw [← hW1]; exact run_enterLoop_outer _ _ _ _ _
  · simp only [resolve, hg]
    simp [go_sem]
  · intro f' _; trivial
  · simp [invoke, go_sem, eg]
  have keep : ∀ {A B : World} {k : Nat} {o : Obj}, Chg [] A B → A.heap[k]? = some o → B.heap[k]? = some o :=
    fun hc hk => (hc.block _ (Array.getElem?_eq_some_iff.1 hk).1 (by simp)).trans hk
  refine (hseq (w.heap.size + 1)
    (fun pre O W => I (pre, O) W ∧ W.heap[w.heap.size + 1]? = some (.loop (rc .ready none)) ∧ W.heap[w.heap.size]? = some (.deferred (some [])))
    (fun W => ∃ c, Ix c W ∧ W.heap[w.heap.size + 1]? = some (.loop (rc .done (some c))) ∧ W.heap[w.heap.size]? = some (.deferred (some []))) O0 W1
    (fun pre O A B hs hc => ⟨hI _ A B none hs.1 (grown_of_chg hc) (fun r e => by cases e), keep hc hs.2.1, keep hc hs.2.2⟩)
    (fun A B hs hc => by
      obtain ⟨c, h1, h2, h3⟩ := hs
      exact ⟨c, hIx c A B none h1 (grown_of_chg hc) (fun r e => by cases e), keep hc h2, keep hc h3⟩)
    (fun pre O A hs => hIo pre O A hs.1) hS1 ?_ ⟨hI1, hL1, hK1⟩).mono ?_
  · rintro pre x O W hpre ⟨hi, hl, hk⟩
    have hy := run_yield (P := P) (args := enc x) hl (hps x)
    refine ⟨fn, _, assign, body, hy, roundIn_of_wpIn hfn (wpIn_mono (hassign _ pre O x W hpre hi) fun e a' Wa he => ?_)⟩
    cases e with
    | exit id => exact he.elim
    | goto t => exact he.elim
    | ret => exact he.elim
    | panic ch => exact he.elim
    | outgrown => exact he.elim
    | normal =>
    obtain ⟨hka, hta, hia⟩ := he
    have hla := hka.same _ _ hl rfl
    have hkk := hka.same _ _ hk rfl
    have hlt : w.heap.size + 1 < Wa.heap.size := (Array.getElem?_eq_some_iff.1 hla).1
    refine ⟨_, run_beginRound hla rfl, ?_⟩
    obtain ⟨Wb, hWb⟩ : ∃ Wb, Wa.putObj (w.heap.size + 1) (.loop { rc .ready none with state := .busy }) = Wb := ⟨_, rfl⟩
    have hl2 : Wb.heap[w.heap.size + 1]? = some (.loop { rc .ready none with state := .busy }) := hWb ▸ World.putObj_heap_same hlt
    have hk2 : Wb.heap[w.heap.size]? = some (.deferred (some [])) := hWb ▸ (World.putObj_heap_other (by omega)).trans hkk
    have hi2 : I2 (pre, O, x, a') Wb := hWb ▸ hI2.putObj _ hia (by omega) hla rfl
    have htb : Turn O O W Wb := hta.trans (hWb ▸ Turn.putObj _ hla rfl)
    rw [hWb]
    refine wpIn_mono (hbody _ pre O x a' _ hpre hi2) ?_
    have fin : ∀ (jump : Option Code) (W3 : World), KeepsOthers Wb W3 → ∃ W4, (Instr.endRound (w.heap.size + 1) jump).run P W3 = .ok (.bool jump.isNone) W4 ∧ W4 = W3.putObj (w.heap.size + 1) (.loop (rc (if jump.isNone then .ready else .done) jump)) ∧
        W3.heap[w.heap.size + 1]? = some (.loop { rc .ready none with state := .busy }) ∧ W4.heap[w.heap.size + 1]? = some (.loop (rc (if jump.isNone then .ready else .done) jump)) ∧ W4.heap[w.heap.size]? = some (.deferred (some [])) := fun jump W3 hk3 => by
      have hl3 := hk3.same _ _ hl2 rfl
      exact ⟨_, run_endRound (P := P) jump hl3, rfl, hl3, World.putObj_heap_same (Array.getElem?_eq_some_iff.1 hl3).1, (World.putObj_heap_other (by omega)).trans (hk3.same _ _ hk2 rfl)⟩
    rintro e a3 W3 hp
    cases e with
    | normal =>
      obtain ⟨hk3, O', hi3, ht3⟩ := hp
      obtain ⟨W4, hr, rfl, hl3, hl4, hk4⟩ := fin none W3 hk3
      exact ⟨_, _, hr, .inl ⟨rfl, O', ⟨hI.putObj _ hi3 (by omega) hl3 rfl, hl4, hk4⟩, (htb.trans ht3).trans (Turn.putObj _ hl3 rfl)⟩⟩
    | ret =>
      obtain ⟨hk3, hi3⟩ := hp
      obtain ⟨W4, hr, rfl, hl3, hl4, hk4⟩ := fin (some .ret) W3 hk3
      exact ⟨_, _, hr, .inr ⟨rfl, .ret, hIx.putObj _ hi3 (by omega) hl3 rfl, hl4, hk4⟩⟩
    | exit id =>
      obtain ⟨hk3, hi3⟩ := hp
      obtain ⟨W4, hr, rfl, hl3, hl4, hk4⟩ := fin (some (.exit id)) W3 hk3
      exact ⟨_, _, hr, .inr ⟨rfl, .exit id, hIx.putObj _ hi3 (by omega) hl3 rfl, hl4, hk4⟩⟩
    | goto t => exact hp.elim
    | panic ch => exact hp.elim
    | outgrown => exact hp.elim
  · rintro e W2 ⟨⟨v, rfl⟩, (⟨O', hi, hl, hk⟩ | ⟨c, hi, hl, hk⟩)⟩
    · exact ⟨none, _, run_endLoop (P := P) hl (by simp [rc]), hdone _ _ _ (Nat.le_refl _) (hI.putObj _ hi (by omega) hl rfl) ((World.putObj_heap_other (by omega)).trans hk)⟩
    · exact ⟨some c, _, run_endLoop (P := P) hl (by simp [rc]), wpIn_wide.2 (hstop _ c _ (Nat.le_refl _) (hIx.putObj _ hi (by omega) hl rfl) ((World.putObj_heap_other (by omega)).trans hk))⟩
end
section
variable {P : Program} {dq : List Deferred} {E : Nat → Prop} {M : List Nat} {w0 : World} {n : Nat} {a : Act} {w : World} {F : List (Nat × Value)} {L : List Ent} {D : List Fact} {Q : Exit → Act → World → Prop} {l : Option Nat}
theorem sLoopR {σ τ : Type} {c : Code} {B : σ → Option (σ ⊕ τ)} {s : σ} {t : τ} (hw : whileO B s = some t) (I : σ → Act → World → Prop) (h0 : I s a w)
    (round : ∀ s a w r, I s a w → B s = some r → (∀ u, r = .inr u → u = t) → c.wpIn (zf l) 0 P (Exit.then (fun a' w' => ∃ s', r = .inl s' ∧ I s' a' w') Q) a w) : (Code.loop c).wpIn (zf l) 0 P Q a w := by
  obtain ⟨m, hm⟩ := whileO_some hw
  clear hw
  refine wpIn_loop_rounds m ?_
  induction m generalizing s a w with
  | zero => simp [iterO] at hm
  | succ m ih =>
    rw [iterO] at hm
    obtain ⟨r, hr, hm⟩ := bindSome hm
    refine wpIn_mono (round s a w r h0 hr (by rintro u rfl; simpa using hm)) fun e a' w' hq => ?_
    cases e with
    | normal =>
      obtain ⟨s', rfl, hI⟩ := hq
      exact ih hI hm
    | exit id => exact hq
    | goto l => exact hq
    | ret => exact hq
    | panic ch => exact hq
    | outgrown => exact hq
/-- a call of the loop's own function: a round -/
theorem sYield {ops : Array Oper} {rest : List Oper} {o : Oper} {d : Nat} {y : Nat} {fo : Operand} {args : List Operand} {ts : Array TypeId} {vs : List Value} {T U : World → Prop} (S : St [] E M w0 n a w F L D)
    (hw : ∀ a, Frm [] n a F → Region.wanted o (yielded ops a.tmps) = true) (ho : o.op = .call { callee := .value fo, args := args.toArray, argTypes := ts }) (hf : lookO F fo = some (.func (.yield y) #[] #[])) (hvs : args.map (lookO F) = vs.map some) (hd : o.dst = some d) (hn : d < n)
    (hY : YieldAt Fence.wide 0 P y vs.toArray w fun e W' => (e = .returned (.bool true) ∧ T W') ∨ (e = .returned (.bool false) ∧ U W'))
    (kT : ∀ a' w', Frm [] n a' ((d, .bool true) :: F) → T w' → wpListIn (zf none) 0 P ops Q rest a' w') (kF : ∀ a' w', Frm [] n a' ((d, .bool false) :: F) → U w' → wpListIn (zf none) 0 P ops Q rest a' w') : wpListIn (zf none) 0 P ops Q (o :: rest) a w := by
  obtain ⟨fn, tmps, assign, body, hy, hR⟩ := hY
  unfold wpListIn
  rw [if_pos (hw a S.frm)]
  refine ⟨fun _ _ => trivial, ?_⟩
  have hev := lookO_map S.frm hvs
  have hrun : (execOp a.eval o).run P w = .ok (.round y fn tmps assign body) w := by
    unfold execOp
    simp only [ho, resolve, S.frm.eval hf, Deferred.ofValue, Sem.run_bind, Sem.run_pure, Result.andThen_ok, invoke]
    simpa [hev] using hy
  show o.uponIn _ 0 P a _ Q ((execOp a.eval o).run P w)
  rw [hrun, Oper.uponIn_round]
  refine ⟨fun h => by simp [zf, Fence.wide] at h, hR.mono fun e w' he => ?_⟩
  rcases he with ⟨rfl, h⟩ | ⟨rfl, h⟩
  · show wpListIn _ _ _ _ _ _ (a.put o.dst _) w'
    rw [hd]
    exact kT _ _ (S.frm.put hn _) h
  · show wpListIn _ _ _ _ _ _ (a.put o.dst _) w'
    rw [hd]
    exact kF _ _ (S.frm.put hn _) h
end

end Go.Proofs.Ytdbgkakmhlmpbaa
namespace Go.Proofs.Ytdbgkakmhlmpbaa
open Go.RowKit
set_option linter.unusedVariables false

section
variable {P : Program}
theorem lo_then {K : Act → World → Prop} {Q : Exit → Act → World → Prop} (h : ¬ LetsOut Q) : ¬ LetsOut (Exit.then K Q) := fun ⟨a, w, q⟩ => h ⟨a, w, q⟩
theorem lo_block {id : Nat} {Q : Exit → Act → World → Prop} (h : ¬ LetsOut Q) : ¬ LetsOut (Exit.inBlock id Q) := fun ⟨a, w, q⟩ => h ⟨a, w, q⟩
/-- what a round is handed -/
def fA1 {α : Type} (r : R α) (x : α) (vs : Array Value) : Fact := ⟨fun E w => ∃ v, vs = #[v] ∧ r.rep E w v x, fun h ⟨v, e, k⟩ => ⟨v, e, r.mono h k⟩⟩
def fA2 {α β : Type} (r : R α) (q : R β) (x : α × β) (vs : Array Value) : Fact := ⟨fun E w => ∃ v u, vs = #[v, u] ∧ r.rep E w v x.1 ∧ q.rep E w u x.2, fun h ⟨v, u, e, k1, k2⟩ => ⟨v, u, e, r.mono h k1, q.mono h k2⟩⟩
/-- the block of what a loop's rounds defer: nothing -/
def eDef (b : Nat) : Ent where
  keys := [b]
  p := fun _ w => w.heap[b]? = some (.deferred (some []))
  mono := fun _ hs h => by rw [hs b (by simp)]; exact h
  lt := fun h k hk => by
    simp at hk; subst hk
    exact (Array.getElem?_eq_some_iff.1 h).1
def mark (b : Nat) : Deferred := { target := .collected b, args := #[] }
/-- an iterator's word: what it reckons, it does with whatever body -/
def SeqF (P : Program) (gf : Nat) (lb : Array Value) {X : Type} (FX : X → Array Value → Fact) (I : ∀ (σ τ : Type), (σ → X → Option (σ ⊕ τ)) → σ → Option (σ ⊕ τ)) (Dc : List Fact) : Prop :=
  ∀ (σ τ : Type) (B : σ → X → Option (σ ⊕ τ)) (s0 : σ) (r : σ ⊕ τ), I σ τ B s0 = some r →
  ∀ (l : Nat) (J : σ → (Nat → Prop) → World → Prop) (Jx : τ → World → Prop) (O : Nat → Prop) (W : World),
    (∀ s O A B, J s O A → Chg [] A B → J s O B) → (∀ t A B, Jx t A → Chg [] A B → Jx t B) → (∀ s O A, J s O A → ∀ b, O b → b < A.heap.size) → St0 O [] W W [] Dc →
    (∀ s x vs b O W1, B s x = some b → (FX x vs).p O W1 → J s O W1 → YieldAt Fence.wide 0 P l vs W1 fun e W' =>
      (e = .returned (.bool true) ∧ ∃ s' O', b = .inl s' ∧ J s' O' W' ∧ Turn O O' W1 W') ∨ (e = .returned (.bool false) ∧ ∃ t, b = .inr t ∧ Jx t W')) →
    J s0 O W → CallsIn Fence.wide 1 P gf (#[.func (.yield l) #[] #[]] ++ lb) W fun e W' => (∃ v, e = .returned v) ∧ ((∃ s O', r = .inl s ∧ J s O' W') ∨ ∃ t, r = .inr t ∧ Jx t W')
theorem St0.putL {E : Nat → Prop} {M : List Nat} {w0 w : World} {L : List Ent} {D : List Fact} (S : St0 E M w0 w L D) {l : Nat} {o : Obj} (o' : Obj) (hl : w.heap[l]? = some o) (ho : o.isCells = false) (hm : w0.heap.size ≤ l) (hk : l ∉ keysL L) : St0 E M w0 (w.putObj l o') L D := by
  have hg := grownBy_putObj' w l o'
  have hsame : ∀ b, b < w.heap.size → b ≠ l → (w.putObj l o').heap[b]? = w.heap[b]? := fun b hb hn => hg.block b hb (fun e => hn (by cases e; rfl))
  have hext : Ext (tot E L) (tot E L) w (w.putObj l o') := by
    refine ⟨hg.size, fun b h1 _ h3 => hsame b h1 (fun e => ?_), fun b _ h => h⟩
    subst e
    obtain ⟨cs, T, m, h1⟩ := isC_of_cell h3
    rw [hl] at h1
    cases h1
    simp [Obj.isCells] at ho
  refine ⟨S.chg.trans (K' := [l]) (Chg.grown hg (fun k e => by cases e; simp)) (fun j hj => ?_), fun e he => e.mono hext (fun b h => hsame b (S.lt b (keysL_mem.2 ⟨e, he, h⟩)) (fun e' => hk (e' ▸ keysL_mem.2 ⟨e, he, h⟩))) (S.ent e he), fun d hd => d.mono hext (S.fact d hd), S.nodup, S.key, S.bnd⟩
  simp at hj
  subst hj
  exact .inr hm
/-- how a round may end -/
def roundU {σ τ : Type} (E : Nat → Prop) (n : Nat) (IL : σ → List Ent → List Fact → Prop) (IX : τ → Code → List Ent → List Fact → Prop) (b : σ ⊕ τ) (K : List Nat) (W : World) : Exit → Act → World → Prop
  | .normal, a, W' => ∃ s' L' D' F', b = .inl s' ∧ IL s' L' D' ∧ St [] E K W n a W' F' L' D'
  | .ret, a, W' => ∃ t L' D' F', b = .inr t ∧ IX t .ret L' D' ∧ St [] E K W n a W' F' L' D'
  | .exit id, a, W' => ∃ t L' D' F', b = .inr t ∧ IX t (.exit id) L' D' ∧ St [] E K W n a W' F' L' D'
  | _, _, _ => False
theorem roundU_out {σ τ : Type} {E : Nat → Prop} {n : Nat} {IL : σ → List Ent → List Fact → Prop} {IX : τ → Code → List Ent → List Fact → Prop} {b : σ ⊕ τ} {K : List Nat} {W : World} : ¬ LetsOut (roundU E n IL IX b K W) := fun ⟨_, _, h⟩ => h
/-- behind the assignment of the loop's variables: the body's walk -/
def roundK {σ τ : Type} (P : Program) (l : Nat) (body : Code) (E : Nat → Prop) (n : Nat) (IL : σ → List Ent → List Fact → Prop) (IX : τ → Code → List Ent → List Fact → Prop) (b : σ ⊕ τ) (K : List Nat) (W : World) (a : Act) (W' : World) : Prop :=
  ∃ La Da Fa, St [] E K W n a W' Fa La Da ∧ ∀ K' a Wb, K' = keysL La → St [] E K' Wb n a Wb Fa La Da → body.wpIn (zf (some l)) 0 P (roundU E n IL IX b K' Wb) a Wb
theorem sRange {σ τ X : Type} {g : Operand} {ps : Array Tmp} {assign body : Code} {Q : Exit → Act → World → Prop} {dq : List Deferred} {E : Nat → Prop} {M : List Nat} {w0 w : World} {n : Nat} {a : Act} {F : List (Nat × Value)} {L : List Ent} {D : List Fact} {gf : Nat} {lb : List Value}
    {FX : X → Array Value → Fact} {I : ∀ (σ τ : Type), (σ → X → Option (σ ⊕ τ)) → σ → Option (σ ⊕ τ)} {Dc : List Fact} {B : σ → X → Option (σ ⊕ τ)} {s0 : σ} {r : σ ⊕ τ}
    (IL : σ → List Ent → List Fact → Prop) (IX : τ → Code → List Ent → List Fact → Prop) (js : List Nat) (S : St dq E M w0 n a w F L D) (h : I σ τ B s0 = some r) (hg : lookO F g = some (.func (.func gf) #[] lb.toArray)) (eg : ∀ args w, (callFunc gf args).run P w = .ok (.enter gf args) w)
    (hseq : SeqF P gf lb.toArray FX I Dc) (hDc : js.map (fun i => D[i]?) = Dc.map some) (hps : ∀ x vs E w, (FX x vs).p E w → vs.size = ps.size) (h0 : IL s0 L D)
    (hround : ∀ (E : Nat → Prop) (l : Nat) (s : σ) (x : X) (vs : Array Value) (b : σ ⊕ τ) (L : List Ent) (D : List Fact) (K : List Nat) (W : World), K = keysL L → IL s L D → B s x = some b → St0 E K W W L (FX x vs :: D) →
      assign.wpIn (zf (some l)) 0 P (Exit.then (roundK P l body E n IL IX b K W) (fun _ _ _ => False)) { tmps := (ps.zip vs).foldl (fun t (p, v) => t.setIfInBounds p v) a.tmps, defers := [] } W)
    (hdone : ∀ (Dk : Nat) (s : σ) (L : List Ent) (D : List Fact) (a : Act) (W : World), r = .inl s → IL s L D → St (mark Dk :: dq) E M w0 n a W F (L ++ [eDef Dk]) D → Q .normal a W)
    (hstop : ∀ (Dk : Nat) (c : Code) (t : τ) (L : List Ent) (D : List Fact) (a : Act) (W : World), r = .inr t → IX t c L D → St (mark Dk :: dq) E M w0 n a W F (L ++ [eDef Dk]) D → c.wp P Q a W) :
    (Code.rangeFunc g ps assign body).wp P Q a w := by
  refine (wpIn_wide (n := 2)).1 (wpIn_rangeFunc fun fn hfn => ?_)
  let rc : LoopState → Option Code → Loop := fun st pe => { state := st, pending := pe, fn, tmps := a.tmps, params := ps, assign, body, defers := w.heap.size }
  obtain ⟨W1, hW1⟩ : ∃ W1, (w.alloc (.deferred (some []))).alloc (.loop (rc .ready none)) = W1 := ⟨_, rfl⟩
  obtain ⟨Dk, hDk⟩ : ∃ Dk, w.heap.size = Dk := ⟨_, rfl⟩
  have hL1 : W1.heap[Dk + 1]? = some (.loop (rc .ready none)) := by
    have := World.alloc_heap_new (w.alloc (.deferred (some []))) (.loop (rc .ready none))
    rw [World.size_alloc, hW1, hDk] at this
    exact this
  have hK1 : W1.heap[Dk]? = some (.deferred (some [])) := by
    have := World.alloc_heap_new w (.deferred (some []))
    rw [← hW1, ← hDk]
    exact (Below.heap_alloc _ _ _ (by simp)).trans this
  have hz1 : Dk + 2 = W1.heap.size := by rw [← hW1, ← hDk]; simp
  have hc1 : Chg [] w W1 := by
    rw [← hW1]
    exact (Chg.alloc [] w _).trans (Chg.alloc [] _ _) (fun j hj => by cases hj)
  have hw0 : w0.heap.size ≤ Dk := hDk ▸ S.mem.chg.size
  -- the deferred block is owned from here on
  have hS1 : St0 E M w0 W1 (L ++ [eDef Dk]) D := by
    have hT : ∀ b, b < w.heap.size → tot E (L ++ [eDef Dk]) b → tot E L b := by
      intro b hb h
      rcases h with h | h
      · exact .inl h
      · rw [keysL_append, List.mem_append] at h
        rcases h with h | h
        · exact .inr h
        · simp [keysL, eDef] at h; omega
    have hext : Ext (tot E L) (tot E (L ++ [eDef Dk])) w W1 := ⟨hc1.size, fun b hb _ _ => hc1.block b hb (by simp), hT⟩
    refine ⟨S.mem.chg.trans hc1 (fun j hj => by cases hj), fun e he => ?_, fun d hd => d.mono hext (S.mem.fact d hd), ?_, fun b hb => ?_, S.mem.bnd⟩
    · rcases List.mem_append.1 he with he | he
      · exact e.mono hext (fun b hb => hc1.block b (S.mem.lt b (keysL_mem.2 ⟨e, he, hb⟩)) (by simp)) (S.mem.ent e he)
      · simp at he; subst he; exact hK1
    · rw [keysL_append, List.nodup_append]
      refine ⟨S.mem.nodup, by simp [keysL, eDef], fun b hb c hc e => ?_⟩
      have := S.mem.lt b hb
      simp [keysL, eDef] at hc
      omega
    · rw [keysL_append, List.mem_append] at hb
      rcases hb with hb | hb
      · exact S.mem.key b hb
      · simp [keysL, eDef] at hb
        subst hb
        exact ⟨.inl hw0, fun h => by have := S.mem.bnd _ h; omega⟩
  have hDmem : ∀ d, d ∈ Dc → d ∈ D := getList_mem hDc
  have hSeq0 : St0 (tot E (L ++ [eDef Dk])) [] W1 W1 [] Dc := by
    refine ⟨Chg.refl _ _, fun e he => (by cases he), fun d hd => ?_, by simp [keysL], fun b hb => (by simp [keysL] at hb), fun b hb => ?_⟩
    · refine d.mono ?_ (hS1.fact d (hDmem d hd))
      exact ⟨Nat.le_refl _, fun _ _ _ _ => rfl, fun b _ h => by
        rcases h with h | h
        · exact h
        · simp [keysL] at h⟩
    · rcases hb with hb | hb
      · exact Nat.lt_of_lt_of_le (hS1.bnd b hb) hS1.chg.size
      · exact hS1.lt b hb
  refine ⟨Dk + 1, [mark Dk], W1, { target := .fn (.func gf) lb.toArray, args := #[.func (.yield (Dk + 1)) #[] #[]] }, W1, gf, #[.func (.yield (Dk + 1)) #[] #[]] ++ lb.toArray, W1, ?_, ?_, ?_, ?_, fun h => by simp [Fence.wide] at h, ?_⟩
  · rw [← hW1, ← hDk]; exact run_enterLoop_outer _ _ _ _ _
  · simp only [resolve, S.frm.eval hg]
    simp [go_sem]
  · intro f' _; trivial
  · simp [invoke, go_sem, eg]
  have keep : ∀ {A B : World} {k : Nat} {o : Obj}, Chg [] A B → A.heap[k]? = some o → B.heap[k]? = some o :=
    fun hc hk => (hc.block _ (Array.getElem?_eq_some_iff.1 hk).1 (by simp)).trans hk
  refine (hseq σ τ B s0 r h (Dk + 1)
    (fun s O W => (∃ L D, IL s L D ∧ St0 E M w0 W (L ++ [eDef Dk]) D ∧ O = tot E (L ++ [eDef Dk]) ∧ Dk + 1 ∉ keysL L) ∧ W.heap[Dk + 1]? = some (.loop (rc .ready none)))
    (fun t W => ∃ c, (∃ L D, IX t c L D ∧ St0 E M w0 W (L ++ [eDef Dk]) D ∧ Dk + 1 ∉ keysL L) ∧ W.heap[Dk + 1]? = some (.loop (rc .done (some c)))) (tot E (L ++ [eDef Dk])) W1
    ?_ ?_ ?_ hSeq0 ?_ ⟨⟨L, D, h0, hS1, rfl, fun hb => ?_⟩, hL1⟩).mono ?_
  · rintro s O A B ⟨⟨L, D, h1, h2, h3, h4⟩, h5⟩ hc
    exact ⟨⟨L, D, h1, h2.calm hc, h3, h4⟩, keep hc h5⟩
  · rintro t A B ⟨c, ⟨L, D, h1, h2, h4⟩, h5⟩ hc
    exact ⟨c, ⟨L, D, h1, h2.calm hc, h4⟩, keep hc h5⟩
  · rintro s O A ⟨⟨L, D, h1, h2, rfl, h4⟩, h5⟩ b hb
    rcases hb with hb | hb
    · exact Nat.lt_of_lt_of_le (h2.bnd b hb) h2.chg.size
    · exact h2.lt b hb
  · rintro s x vs b O W hb hfx ⟨⟨L, D, hIL, hS, rfl, hnl⟩, hl⟩
    have hy := run_yield (P := P) (args := vs) hl (hps x vs _ _ hfx)
    have hSx : St0 E M w0 W (L ++ [eDef Dk]) (FX x vs :: D) := hS.learn (FX x vs) hfx
    have hSr : St0 (tot E [eDef Dk]) (keysL L) W W L (FX x vs :: D) := hSx.enter (fun _ h => h)
    refine ⟨fn, _, assign, body, hy, roundIn_of_wpIn hfn (wpIn_mono (hround _ (Dk + 1) s x vs b L D _ W rfl hIL hb hSr) fun e a' Wa he => ?_)⟩
    cases e with
    | exit id => exact he.elim
    | goto t => exact he.elim
    | ret => exact he.elim
    | panic ch => exact he.elim
    | outgrown => exact he.elim
    | normal =>
    obtain ⟨La, Da, Fa, hSa, hbody⟩ := he
    have hlW : Dk + 1 < W.heap.size := (Array.getElem?_eq_some_iff.1 hl).1
    have hla : Wa.heap[Dk + 1]? = some (.loop (rc .ready none)) := (hSa.mem.chg.block _ hlW hnl).trans hl
    have hnla : Dk + 1 ∉ keysL La := fun hm => by
      rcases (hSa.mem.key _ hm).1 with h1 | h1
      · omega
      · exact hnl h1
    have hga : St0 E M w0 Wa (La ++ [eDef Dk]) (Da ++ (FX x vs :: D)) := hSx.upd hSa.mem.chg La Da hSa.mem
    refine ⟨_, run_beginRound hla rfl, ?_⟩
    obtain ⟨Wb, hWb⟩ : ∃ Wb, Wa.putObj (Dk + 1) (.loop { rc .ready none with state := .busy }) = Wb := ⟨_, rfl⟩
    have hl2 : Wb.heap[Dk + 1]? = some (.loop { rc .ready none with state := .busy }) := hWb ▸ World.putObj_heap_same (Array.getElem?_eq_some_iff.1 hla).1
    have hnk : Dk + 1 ∉ keysL (La ++ [eDef Dk]) := by
      rw [keysL_append, List.mem_append]
      rintro (h1 | h1)
      · exact hnla h1
      · simp [keysL, eDef] at h1
    have hgb : St0 E M w0 Wb (La ++ [eDef Dk]) (Da ++ (FX x vs :: D)) := hWb ▸ hga.putL _ hla rfl (by omega) hnk
    have hSb : St0 (tot E [eDef Dk]) (keysL La) Wb Wb La Da := hgb.enter (fun _ h => List.mem_append_left _ h)
    have htot : ∀ (A B : World), Chg (keysL L) W A → A = B → (∀ b, b ∈ keysL La → W.heap.size ≤ b ∨ b ∈ keysL L) → Turn (tot E (L ++ [eDef Dk])) (tot E (La ++ [eDef Dk])) W B := by
      rintro A _ hc rfl hk
      refine Turn.of_chg hc (fun b hb => .inr (by rw [keysL_append]; exact List.mem_append_left _ hb)) (fun b hb ho => ?_)
      rcases ho with ho | ho
      · exact .inl ho
      · rw [keysL_append, List.mem_append] at ho
        rcases ho with ho | ho
        · rcases hk b ho with h1 | h1
          · omega
          · exact .inr (by rw [keysL_append]; exact List.mem_append_left _ h1)
        · exact .inr (by rw [keysL_append]; exact List.mem_append_right _ ho)
    have hta : Turn (tot E (L ++ [eDef Dk])) (tot E (La ++ [eDef Dk])) W Wa := htot _ _ hSa.mem.chg rfl (fun b hb => (hSa.mem.key b hb).1)
    have htb : Turn (tot E (L ++ [eDef Dk])) (tot E (La ++ [eDef Dk])) W Wb := hta.trans (hWb ▸ Turn.putObj _ hla rfl)
    rw [hWb]
    refine wpIn_mono (hbody _ _ Wb rfl ⟨hSa.frm, hSb⟩) ?_
    have hlb : Dk + 1 < Wb.heap.size := (Array.getElem?_eq_some_iff.1 hl2).1
    -- the end of a round, whatever way
    have fin : ∀ (jump : Option Code) (a3 : Act) (W3 : World) (F' : List (Nat × Value)) (L' : List Ent) (D' : List Fact), St [] (tot E [eDef Dk]) (keysL La) Wb n a3 W3 F' L' D' →
        ∃ W4, (Instr.endRound (Dk + 1) jump).run P W3 = .ok (.bool jump.isNone) W4 ∧ St0 E M w0 W4 (L' ++ [eDef Dk]) D' ∧ W4.heap[Dk + 1]? = some (.loop (rc (if jump.isNone then .ready else .done) jump)) ∧ Dk + 1 ∉ keysL L' ∧ Turn (tot E (La ++ [eDef Dk])) (tot E (L' ++ [eDef Dk])) Wb W4 := by
      intro jump a3 W3 F' L' D' S3
      have hl3 : W3.heap[Dk + 1]? = some (.loop { rc .ready none with state := .busy }) := (S3.mem.chg.block _ hlb hnla).trans hl2
      have hn3 : Dk + 1 ∉ keysL L' := fun hm => by
        rcases (S3.mem.key _ hm).1 with h1 | h1
        · omega
        · exact hnla h1
      have hn3' : Dk + 1 ∉ keysL (L' ++ [eDef Dk]) := by
        rw [keysL_append, List.mem_append]
        rintro (h1 | h1)
        · exact hn3 h1
        · simp [keysL, eDef] at h1
      have hg3 : St0 E M w0 W3 (L' ++ [eDef Dk]) (D' ++ (Da ++ (FX x vs :: D))) := hgb.upd S3.mem.chg L' D' S3.mem
      have hg3' : St0 E M w0 W3 (L' ++ [eDef Dk]) D' := hg3.sub (fun _ h => h) hg3.nodup (fun _ h => List.mem_append_left _ h)
      have ht3 : Turn (tot E (La ++ [eDef Dk])) (tot E (L' ++ [eDef Dk])) Wb W3 := by
        refine Turn.of_chg S3.mem.chg (fun b hb => .inr (by rw [keysL_append]; exact List.mem_append_left _ hb)) (fun b hb ho => ?_)
        rcases ho with ho | ho
        · exact .inl ho
        · rw [keysL_append, List.mem_append] at ho
          rcases ho with ho | ho
          · rcases (S3.mem.key b ho).1 with h1 | h1
            · omega
            · exact .inr (by rw [keysL_append]; exact List.mem_append_left _ h1)
          · exact .inr (by rw [keysL_append]; exact List.mem_append_right _ ho)
      exact ⟨_, run_endRound (P := P) jump hl3, hg3'.putL _ hl3 rfl (by omega) hn3', World.putObj_heap_same (Array.getElem?_eq_some_iff.1 hl3).1, hn3, ht3.trans (Turn.putObj _ hl3 rfl)⟩
    rintro e a3 W3 hp
    cases e with
    | normal =>
      obtain ⟨s', L', D', F', rfl, hi, S3⟩ := hp
      obtain ⟨W4, hr, hS4, hl4, hn4, ht4⟩ := fin none a3 W3 F' L' D' S3
      exact ⟨_, _, hr, .inl ⟨rfl, s', _, rfl, ⟨⟨L', D', hi, hS4, rfl, hn4⟩, hl4⟩, htb.trans ht4⟩⟩
    | ret =>
      obtain ⟨t, L', D', F', rfl, hi, S3⟩ := hp
      obtain ⟨W4, hr, hS4, hl4, hn4, ht4⟩ := fin (some .ret) a3 W3 F' L' D' S3
      exact ⟨_, _, hr, .inr ⟨rfl, t, rfl, .ret, ⟨L', D', hi, hS4, hn4⟩, hl4⟩⟩
    | exit id =>
      obtain ⟨t, L', D', F', rfl, hi, S3⟩ := hp
      obtain ⟨W4, hr, hS4, hl4, hn4, ht4⟩ := fin (some (.exit id)) a3 W3 F' L' D' S3
      exact ⟨_, _, hr, .inr ⟨rfl, t, rfl, .exit id, ⟨L', D', hi, hS4, hn4⟩, hl4⟩⟩
    | goto t => exact hp.elim
    | panic ch => exact hp.elim
    | outgrown => exact hp.elim
  · have := S.mem.lt _ hb
    omega
  · rintro e W2 ⟨⟨v, rfl⟩, (⟨s, O', rfl, ⟨L', D', hi, hS, -, hn⟩, hl⟩ | ⟨t, rfl, c, ⟨L', D', hi, hS, hn⟩, hl⟩)⟩
    · refine ⟨none, _, run_endLoop (P := P) hl (by simp [rc]), hdone Dk s L' D' _ _ rfl hi ⟨⟨by simp [S.frm.defers, mark], S.frm.size, S.frm.get⟩, hS.putL _ hl rfl (by omega) ?_⟩⟩
      rw [keysL_append, List.mem_append]
      rintro (h1 | h1)
      · exact hn h1
      · simp [keysL, eDef] at h1
    · refine ⟨some c, _, run_endLoop (P := P) hl (by simp [rc]), wpIn_wide.2 (hstop Dk c t L' D' _ _ rfl hi ⟨⟨by simp [S.frm.defers, mark], S.frm.size, S.frm.get⟩, hS.putL _ hl rfl (by omega) ?_⟩)⟩
      rw [keysL_append, List.mem_append]
      rintro (h1 | h1)
      · exact hn h1
      · simp [keysL, eDef] at h1
end

end Go.Proofs.Ytdbgkakmhlmpbaa
namespace Go.Proofs.Ytdbgkakmhlmpbaa
open Go.RowKit
set_option linter.unusedVariables false

section
variable {P : Program}
/-- what an iterator is handed by a loop -/
structure ItC {σ τ X : Type} (P : Program) (l : Nat) (FX : X → Array Value → Fact) (B : σ → X → Option (σ ⊕ τ)) (J : σ → (Nat → Prop) → World → Prop) (Jx : τ → World → Prop) : Prop where
  jm : ∀ s O A B, J s O A → Chg [] A B → J s O B
  xm : ∀ t A B, Jx t A → Chg [] A B → Jx t B
  bd : ∀ s O A, J s O A → ∀ b, O b → b < A.heap.size
  yl : ∀ s x vs b O W1, B s x = some b → (FX x vs).p O W1 → J s O W1 → YieldAt Fence.wide 0 P l vs W1 fun e W' =>
      (e = .returned (.bool true) ∧ ∃ s' O', b = .inl s' ∧ J s' O' W' ∧ Turn O O' W1 W') ∨ (e = .returned (.bool false) ∧ ∃ t, b = .inr t ∧ Jx t W')
/-- what it leaves -/
def itR {σ τ : Type} (r : σ ⊕ τ) (J : σ → (Nat → Prop) → World → Prop) (Jx : τ → World → Prop) (e : Ending) (W' : World) : Prop := (∃ v, e = .returned v) ∧ ((∃ s O', r = .inl s ∧ J s O' W') ∨ ∃ t, r = .inr t ∧ Jx t W')
theorem seqF_of {gf : Nat} {lb : List Value} {X : Type} {FX : X → Array Value → Fact} {I : ∀ (σ τ : Type), (σ → X → Option (σ ⊕ τ)) → σ → Option (σ ⊕ τ)} {Dc : List Fact}
    (h : ∀ (σ τ : Type) (B : σ → X → Option (σ ⊕ τ)) (z : σ) (r : σ ⊕ τ), I σ τ B z = some r → ∀ (l : Nat) (J : σ → (Nat → Prop) → World → Prop) (Jx : τ → World → Prop) (E : Nat → Prop) (w0 : World), ItC P l FX B J Jx → St0 E [] w0 w0 [] Dc → J z E w0 →
      CallsIn Fence.wide 1 P gf (Value.func (.yield l) #[] #[] :: lb).toArray w0 (itR r J Jx)) : SeqF P gf lb.toArray FX I Dc :=
  fun σ τ B z r hI l J Jx E w0 h1 h2 h3 S hy hJ => by
    have := h σ τ B z r hI l J Jx E w0 ⟨h1, h2, h3, hy⟩ S hJ
    have e : (#[Value.func (.yield l) #[] #[]] ++ lb.toArray) = (Value.func (.yield l) #[] #[] :: lb).toArray := by simp
    rw [e]
    exact this
variable {dq : List Deferred} {E : Nat → Prop} {M : List Nat} {w0 : World} {n : Nat} {a : Act} {w : World} {F : List (Nat × Value)} {L : List Ent} {D : List Fact} {Q : Exit → Act → World → Prop}
theorem sEnterI {f : FuncId} {fn : Func} {c : Code} {args : List Value} {Rt : Ending → World → Prop} (m : Nat) (hf : P.funcs[f]? = some fn) (hb : fn.body = some c) (hm : fn.ntmps = m) (ha : args.length ≤ m) (S : St0 E M w0 w L D)
    (h : ∀ a, St [] E M w0 m a w ((List.range args.length).zip args) L D → c.wp P (bodyPost P fn Rt) a w) : CallsIn Fence.wide 1 P f args.toArray w Rt :=
  callsIn_of_wp hf hb trivial (wpIn_wide.2 (h _ ⟨enter_frm m hm ha, S⟩))
theorem it_out {σ τ : Type} {fn : Func} {r : σ ⊕ τ} {J : σ → (Nat → Prop) → World → Prop} {Jx : τ → World → Prop} : ¬ LetsOut (bodyPost P fn (itR r J Jx)) := by
  rintro ⟨a, w, h⟩
  have h' : itR r J Jx .outgrown w := h
  obtain ⟨⟨v, hv⟩, _⟩ := h'
  cases hv
theorem sRegionY {id : Nat} {ops : List Oper} (h : wpListIn (zf none) 0 P ops.toArray Q ops a w) : (Code.region id ops.toArray false).wp P Q a w := (wpIn_wide (n := 0)).1 (wpIn_region_lit h)
theorem sSplitR {ops : List Oper} {opsA : Array Oper} (hq : ¬ LetsOut Q) (i : Nat) (hn : (ops.take i).all noDefer = true) (h : ∀ K : Act → World → Prop, (∀ a w, wpListIn (zf none) 0 P opsA Q (ops.drop i) a w → K a w) → wpList P opsA (fun e a w => e = .normal ∧ K a w) (ops.take i) a w) : wpListIn (zf none) 0 P opsA Q ops a w :=
  app_inR hq i (fun a w => wpListIn (zf none) 0 P opsA Q (ops.drop i) a w) hn (h _ fun _ _ h => h) fun _ _ h => h
theorem tot_nil (E : Nat → Prop) : tot E [] = E := funext fun b => propext ⟨fun h => by
  rcases h with h | h
  · exact h
  · simp [keysL] at h, .inl⟩
theorem sYieldI {σ τ X : Type} {FX : X → Array Value → Fact} {B : σ → X → Option (σ ⊕ τ)} {J : σ → (Nat → Prop) → World → Prop} {Jx : τ → World → Prop} {ops : Array Oper} {rest : List Oper} {o : Oper} {d : Nat} {l : Nat} {fo : Operand} {args : List Operand} {ts : Array TypeId} {z : σ} {b : σ ⊕ τ} (x : X) (vs : List Value)
    (S : St [] E [] w0 n a w F [] D) (hC : ItC P l FX B J Jx) (hJ : J z E w0) (hB : B z x = some b) (hfx : (FX x vs.toArray).p (tot E []) w)
    (hw : ∀ a, Frm [] n a F → Region.wanted o (yielded ops a.tmps) = true) (ho : o.op = .call { callee := .value fo, args := args.toArray, argTypes := ts }) (hf : lookO F fo = some (.func (.yield l) #[] #[])) (hvs : args.map (lookO F) = vs.map some) (hd : o.dst = some d) (hn : d < n)
    (kT : ∀ z' E a w, b = .inl z' → J z' E w → St [] E [] w n a w ((d, .bool true) :: F) [] D → wpListIn (zf none) 0 P ops Q rest a w)
    (kF : ∀ t a w, b = .inr t → Jx t w → St [] (fun _ => False) [] w n a w ((d, .bool false) :: F) [] [] → wpListIn (zf none) 0 P ops Q rest a w) : wpListIn (zf none) 0 P ops Q (o :: rest) a w := by
  have hfx' : (FX x vs.toArray).p E w := tot_nil E ▸ hfx
  have hJw := hC.jm _ _ _ _ hJ S.mem.chg
  have S0 : St0 E [] w w [] D := ⟨Chg.refl _ _, S.mem.ent, S.mem.fact, S.mem.nodup, fun b hb => (by simp [keysL] at hb), fun b hb => Nat.lt_of_lt_of_le (S.mem.bnd b hb) S.mem.chg.size⟩
  refine sYield (T := fun w' => ∃ s' O', b = .inl s' ∧ J s' O' w' ∧ Turn E O' w w') (U := fun w' => ∃ t, b = .inr t ∧ Jx t w') S hw ho hf hvs hd hn (hC.yl _ _ _ _ _ _ hB hfx' hJw) ?_ ?_
  · rintro a' w' hfr ⟨s', O', hb, hj, ht⟩
    exact kT s' O' a' w' hb hj ⟨hfr, S0.turn ht (hC.bd _ _ _ hj)⟩
  · rintro a' w' hfr ⟨t, hb, hj⟩
    exact kF t a' w' hb hj ⟨hfr, ⟨Chg.refl _ _, fun e he => (by cases he), fun d hd => (by cases hd), by simp [keysL], fun b hb => (by simp [keysL] at hb), fun b hb => hb.elim⟩⟩
/-- the iterator's ends -/
theorem sGoI {σ τ X : Type} {FX : X → Array Value → Fact} {B : σ → X → Option (σ ⊕ τ)} {J : σ → (Nat → Prop) → World → Prop} {Jx : τ → World → Prop} {l : Nat} {r : σ ⊕ τ} {z : σ} (S : St [] E [] w0 n a w F L D) (hC : ItC P l FX B J Jx) (hJ : J z E w0) (hr : Sum.inl z = r) (v : Value) : itR r J Jx (.returned v) w :=
  ⟨⟨v, rfl⟩, .inl ⟨z, E, hr.symm, hC.jm _ _ _ _ hJ S.mem.chg⟩⟩
theorem sStopI {σ τ X : Type} {FX : X → Array Value → Fact} {B : σ → X → Option (σ ⊕ τ)} {J : σ → (Nat → Prop) → World → Prop} {Jx : τ → World → Prop} {l : Nat} {r : σ ⊕ τ} {t : τ} (S : St [] E [] w0 n a w F L D) (hC : ItC P l FX B J Jx) (hJ : Jx t w0) (hr : Sum.inr t = r) (v : Value) : itR r J Jx (.returned v) w :=
  ⟨⟨v, rfl⟩, .inr ⟨t, hr.symm, hC.xm _ _ _ hJ S.mem.chg⟩⟩
/-- functions with a loop over a function: they leave past a mark -/
theorem sEnterM {f : FuncId} {fn : Func} {c : Code} {args : List Value} {Rt : Ending → World → Prop} (m : Nat) (hf : P.funcs[f]? = some fn) (hb : fn.body = some c) (hm : fn.ntmps = m) (ha : args.length ≤ m) (S : St0 E M w0 w L D)
    (h : ∀ a, St [] E M w0 m a w ((List.range args.length).zip args) L D → c.wp P (bodyPostM Fence.wide 1 P fn Rt) a w) : Calls P f args.toArray w Rt :=
  callsIn_wide.1 (callsIn_of_wp_marks hf hb trivial (wpIn_wide.2 (h _ ⟨enter_frm m hm ha, S⟩)))
theorem leavesM {fn : Func} {Rt : Ending → World → Prop} : (S : St dq E M w0 n a w F L D) → (h : LeavesInM Fence.wide 1 P fn a.tmps Rt dq .returning w) → LeavesInM Fence.wide 1 P fn a.tmps Rt a.defers .returning w := by
  intro S h
  rw [S.frm.defers]
  exact h
theorem sRetM0 {fn : Func} {Rt : Ending → World → Prop} (v : Value) (S : St [] E M w0 n a w F L D) (hr : (results fn a.tmps).run P w = .ok v w) (h : Rt (.returned v) w) : bodyPostM Fence.wide 1 P fn Rt .ret a w := leavesM (P := P) S ⟨v, hr, h⟩
theorem sEndM0 {fn : Func} {Rt : Ending → World → Prop} (v : Value) (S : St [] E M w0 n a w F L D) (hr : (results fn a.tmps).run P w = .ok v w) (h : Rt (.returned v) w) : bodyPostM Fence.wide 1 P fn Rt .normal a w := leavesM (P := P) S ⟨v, hr, h⟩
theorem leavesM1 {fn : Func} {Rt : Ending → World → Prop} {b : Nat} (i : Nat) (S : St [mark b] E M w0 n a w F L D) (hi : L[i]? = some (eDef b))
    (k : ∀ a w, St [] E M w0 n a w F (L.eraseIdx i) D → ∃ v, (results fn a.tmps).run P w = .ok v w ∧ Rt (.returned v) w) : LeavesInM Fence.wide 1 P fn a.tmps Rt a.defers .returning w := by
  refine leavesM S ?_
  have hb : w.heap[b]? = some (.deferred (some [])) := S.mem.at hi
  have hmem : b ∈ (eDef b).keys := by simp [eDef]
  have hkey := S.mem.key b (keysL_mem.2 ⟨_, List.mem_of_getElem? hi, hmem⟩)
  have hperm := erase_perm hi
  have hn := keysL_perm hperm S.mem.nodup
  have S1 : St0 E M w0 w ([eDef b] ++ L.eraseIdx i) D := S.mem.sub (fun e he => hperm.mem_iff.1 he) hn (fun _ h => h)
  have hg := grownBy_putObj' w b (.deferred none)
  have S2 : St0 E M w0 (w.putObj b (.deferred none)) ([] ++ L.eraseIdx i) ([] ++ D) := S1.upd (Chg.grown hg (fun k e => by cases e; simp [keysL, eDef])) [] [] ⟨Chg.grown hg (fun k e => by cases e; simp [keysL, eDef]), fun e he => (by cases he), fun d hd => (by cases hd), by simp [keysL], fun b hb => (by simp [keysL] at hb), fun c hc => by
    rcases hc with hc | hc
    · exact Nat.lt_of_lt_of_le (S1.bnd c hc) S1.chg.size
    · exact S1.lt c (by rw [keysL_append]; exact List.mem_append_right _ hc)⟩
  obtain ⟨v, h1, h2⟩ := k { a with defers := [] } _ ⟨⟨rfl, S.frm.size, S.frm.get⟩, S2⟩
  exact ⟨by simp, .inl ⟨b, _, rfl, run_takeDeferred hb, ⟨v, h1, h2⟩⟩⟩
theorem sRetM1 {fn : Func} {Rt : Ending → World → Prop} {b : Nat} (i : Nat) (S : St [mark b] E M w0 n a w F L D) (hi : L[i]? = some (eDef b))
    (k : ∀ a w, St [] E M w0 n a w F (L.eraseIdx i) D → ∃ v, (results fn a.tmps).run P w = .ok v w ∧ Rt (.returned v) w) : bodyPostM Fence.wide 1 P fn Rt .ret a w := leavesM1 i S hi k
theorem sEndM1 {fn : Func} {Rt : Ending → World → Prop} {b : Nat} (i : Nat) (S : St [mark b] E M w0 n a w F L D) (hi : L[i]? = some (eDef b))
    (k : ∀ a w, St [] E M w0 n a w F (L.eraseIdx i) D → ∃ v, (results fn a.tmps).run P w = .ok v w ∧ Rt (.returned v) w) : bodyPostM Fence.wide 1 P fn Rt .normal a w := leavesM1 i S hi k
theorem Frm.put1 {a : Act} {F : List (Nat × Value)} (h : Frm dq n a F) {p : Nat} (hp : p < n) (v : Value) : Frm [] n { tmps := ((#[p] : Array Tmp).zip #[v]).foldl (fun t (p, v) => t.setIfInBounds p v) a.tmps, defers := [] } ((p, v) :: F) := by
  have := (Frm.put (dq := []) (a := { a with defers := [] }) ⟨rfl, h.size, h.get⟩ hp v)
  exact ⟨rfl, by simpa [Act.put] using this.size, fun t u ht => by simpa [Act.put] using this.get t u ht⟩
theorem Frm.put2 {a : Act} {F : List (Nat × Value)} (h : Frm dq n a F) {p q : Nat} (hp : p < n) (hq : q < n) (v u : Value) : Frm [] n { tmps := ((#[p, q] : Array Tmp).zip #[v, u]).foldl (fun t (p, v) => t.setIfInBounds p v) a.tmps, defers := [] } ((q, u) :: (p, v) :: F) := by
  have := (Frm.put (dq := []) (a := { a with defers := [] }) ⟨rfl, h.size, h.get⟩ hp v).put hq u
  exact ⟨rfl, by simpa [Act.put] using this.size, fun t u ht => by simpa [Act.put] using this.get t u ht⟩
theorem sRange2 {σ τ X Y : Type} {g : Operand} {assign body : Code} {gf : Nat} {lb : List Value} {rx : R X} {ry : R Y} {I : ∀ (σ τ : Type), (σ → X × Y → Option (σ ⊕ τ)) → σ → Option (σ ⊕ τ)} {Dc : List Fact} {B : σ → X × Y → Option (σ ⊕ τ)} {s0 : σ} {r : σ ⊕ τ} {p q : Nat}
    (IL : σ → List Ent → List Fact → Prop) (IX : τ → Code → List Ent → List Fact → Prop) (js : List Nat) (S : St dq E M w0 n a w F L D) (h : I σ τ B s0 = some r) (hg : lookO F g = some (.func (.func gf) #[] lb.toArray)) (eg : ∀ args w, (callFunc gf args).run P w = .ok (.enter gf args) w)
    (hseq : SeqF P gf lb.toArray (fA2 rx ry) I Dc) (hDc : js.map (fun i => D[i]?) = Dc.map some) (hp : p < n) (hq : q < n) (h0 : IL s0 L D)
    (hround : ∀ (E : Nat → Prop) (l : Nat) (s : σ) (x : X) (y : Y) (v u : Value) (b : σ ⊕ τ) (L : List Ent) (D : List Fact) (K : List Nat) (a : Act) (w0 : World), K = keysL L → IL s L D → B s (x, y) = some b → St [] E K w0 n a w0 ((q, u) :: (p, v) :: F) L (fRep rx v x :: fRep ry u y :: D) →
      assign.wpIn (zf (some l)) 0 P (Exit.then (roundK P l body E n IL IX b K w0) (fun _ _ _ => False)) a w0)
    (hdone : ∀ (Dk : Nat) (s : σ) (L : List Ent) (D : List Fact) (a : Act) (W : World), r = .inl s → IL s L D → St (mark Dk :: dq) E M w0 n a W F (L ++ [eDef Dk]) D → Q .normal a W)
    (hstop : ∀ (Dk : Nat) (c : Code) (t : τ) (L : List Ent) (D : List Fact) (a : Act) (W : World), r = .inr t → IX t c L D → St (mark Dk :: dq) E M w0 n a W F (L ++ [eDef Dk]) D → c.wp P Q a W) :
    (Code.rangeFunc g #[p, q] assign body).wp P Q a w := by
  refine sRange IL IX js S h hg eg hseq hDc ?_ h0 ?_ hdone hstop
  · rintro x vs E w ⟨v, u, rfl, -, -⟩; rfl
  · rintro E l s ⟨x, y⟩ vs b L D K W hK hIL hB S0
    obtain ⟨v, u, rfl, h1, h2⟩ := S0.fact _ (List.mem_cons_self ..)
    have S1 := (S0.learn (fRep ry u y) h2).learn (fRep rx v x) h1
    have S2 : St0 E K W W L (fRep rx v x :: fRep ry u y :: D) := S1.sub (fun _ h => h) S1.nodup (fun d hd => by
      simp only [List.mem_cons] at hd ⊢
      rcases hd with h | h | h
      · exact .inl h
      · exact .inr (.inl h)
      · exact .inr (.inr (.inr h)))
    exact hround E l s x y v u b L D K _ W hK hIL hB ⟨S.frm.put2 hp hq v u, S2⟩
theorem sRange1 {σ τ X : Type} {g : Operand} {assign body : Code} {gf : Nat} {lb : List Value} {rx : R X} {I : ∀ (σ τ : Type), (σ → X → Option (σ ⊕ τ)) → σ → Option (σ ⊕ τ)} {Dc : List Fact} {B : σ → X → Option (σ ⊕ τ)} {s0 : σ} {r : σ ⊕ τ} {p : Nat}
    (IL : σ → List Ent → List Fact → Prop) (IX : τ → Code → List Ent → List Fact → Prop) (js : List Nat) (S : St dq E M w0 n a w F L D) (h : I σ τ B s0 = some r) (hg : lookO F g = some (.func (.func gf) #[] lb.toArray)) (eg : ∀ args w, (callFunc gf args).run P w = .ok (.enter gf args) w)
    (hseq : SeqF P gf lb.toArray (fA1 rx) I Dc) (hDc : js.map (fun i => D[i]?) = Dc.map some) (hp : p < n) (h0 : IL s0 L D)
    (hround : ∀ (E : Nat → Prop) (l : Nat) (s : σ) (x : X) (v : Value) (b : σ ⊕ τ) (L : List Ent) (D : List Fact) (K : List Nat) (a : Act) (w0 : World), K = keysL L → IL s L D → B s x = some b → St [] E K w0 n a w0 ((p, v) :: F) L (fRep rx v x :: D) →
      assign.wpIn (zf (some l)) 0 P (Exit.then (roundK P l body E n IL IX b K w0) (fun _ _ _ => False)) a w0)
    (hdone : ∀ (Dk : Nat) (s : σ) (L : List Ent) (D : List Fact) (a : Act) (W : World), r = .inl s → IL s L D → St (mark Dk :: dq) E M w0 n a W F (L ++ [eDef Dk]) D → Q .normal a W)
    (hstop : ∀ (Dk : Nat) (c : Code) (t : τ) (L : List Ent) (D : List Fact) (a : Act) (W : World), r = .inr t → IX t c L D → St (mark Dk :: dq) E M w0 n a W F (L ++ [eDef Dk]) D → c.wp P Q a W) :
    (Code.rangeFunc g #[p] assign body).wp P Q a w := by
  refine sRange IL IX js S h hg eg hseq hDc ?_ h0 ?_ hdone hstop
  · rintro x vs E w ⟨v, rfl, -⟩; rfl
  · rintro E l s x vs b L D K W hK hIL hB S0
    obtain ⟨v, rfl, h1⟩ := S0.fact _ (List.mem_cons_self ..)
    have S1 := S0.learn (fRep rx v x) h1
    have S2 : St0 E K W W L (fRep rx v x :: D) := S1.sub (fun _ h => h) S1.nodup (fun d hd => by
      simp only [List.mem_cons] at hd ⊢
      rcases hd with h | h
      · exact .inl h
      · exact .inr (.inr h))
    exact hround E l s x v b L D K _ W hK hIL hB ⟨S.frm.put1 hp v, S2⟩
theorem rnN {σ τ : Type} {IL : σ → List Ent → List Fact → Prop} {IX : τ → Code → List Ent → List Fact → Prop} {b : σ ⊕ τ} {K : List Nat} {W : World} (s' : σ) (L' : List Ent) (D' : List Fact) (F' : List (Nat × Value)) (hb : Sum.inl s' = b) (hi : IL s' L' D') (S : St [] E K W n a w F' L' D') : roundU E n IL IX b K W .normal a w := ⟨s', L', D', F', hb.symm, hi, S⟩
theorem rnR {σ τ : Type} {IL : σ → List Ent → List Fact → Prop} {IX : τ → Code → List Ent → List Fact → Prop} {b : σ ⊕ τ} {K : List Nat} {W : World} (t : τ) (L' : List Ent) (D' : List Fact) (F' : List (Nat × Value)) (hb : Sum.inr t = b) (hi : IX t .ret L' D') (S : St [] E K W n a w F' L' D') : roundU E n IL IX b K W .ret a w := ⟨t, L', D', F', hb.symm, hi, S⟩
theorem rnX {σ τ : Type} {IL : σ → List Ent → List Fact → Prop} {IX : τ → Code → List Ent → List Fact → Prop} {b : σ ⊕ τ} {K : List Nat} {W : World} {id : Nat} (t : τ) (L' : List Ent) (D' : List Fact) (F' : List (Nat × Value)) (hb : Sum.inr t = b) (hi : IX t (.exit id) L' D') (S : St [] E K W n a w F' L' D') : roundU E n IL IX b K W (.exit id) a w := ⟨t, L', D', F', hb.symm, hi, S⟩
theorem fA1_mk {α : Type} {r : R α} {E : Nat → Prop} {w : World} {v : Value} {x : α} (h : r.rep E w v x) : (fA1 r x #[v]).p E w := ⟨v, rfl, h⟩
theorem fA2_mk {α β : Type} {r : R α} {q : R β} {E : Nat → Prop} {w : World} {v u : Value} {x : α} {y : β} (h : r.rep E w v x) (k : q.rep E w u y) : (fA2 r q (x, y) #[v, u]).p E w := ⟨v, u, rfl, h, k⟩
theorem lo_false : ¬ LetsOut (fun _ _ _ => False) := fun ⟨_, _, h⟩ => h
end

end Go.Proofs.Ytdbgkakmhlmpbaa
namespace Go.Proofs.Ytdbgkakmhlmpbaa
open Go.RowKit
set_option linter.unusedVariables false

def iv (x : Int) : Value := .int .i64 x
theorem lb {a b : Nat} (h : Nat.ble (a + 1) b = true) : a < b := Nat.le_of_ble_eq_true h
def OwnF (sz : Nat) (v q : Value) (j k : Nat) : Prop := ∃ g m c, v = .slice (some ⟨g, 0, none⟩) m c ∧ q = .pointer (some ⟨g, j * sz + k, none⟩)
/-- what reads as z may be stored at the offset k into what reads as x, it reads as y then -/
def Upd {α β : Type} (r : R α) (s : R β) (k : Nat) (x : α) (z : β) (y : α) : Prop := ∀ E w v u, r.rep E w v x → s.rep E w u z → ∃ v', r.rep E w v' y ∧ v'.cells.toList = over v.cells.toList k u.cells.toList ∧ k + s.sz ≤ r.sz
theorem over_over {cur vc uc : List Value} {o k : Nat} (h : ∀ j, j < vc.length → cur[o + j]? = vc[j]?) (hk : k + uc.length ≤ vc.length) (hl : o + vc.length ≤ cur.length) : over cur o (over vc k uc) = over cur (o + k) uc := by
  apply List.ext_getElem?
  intro m
  have hlen := over_length (l := vc) (off := k) (cs := uc) hk
  rw [over_get (l := cur) (off := o) (cs := over vc k uc) (by rw [hlen]; exact hl), over_get (l := cur) (off := o + k) (cs := uc) (by omega), hlen]
  by_cases h1 : o ≤ m ∧ m < o + vc.length
  · rw [if_pos h1, over_get hk]
    by_cases h2 : k ≤ m - o ∧ m - o < k + uc.length
    · rw [if_pos h2, if_pos (by omega)]; congr 1; omega
    · rw [if_neg h2, if_neg (by omega), ← h (m - o) (by omega)]; congr 1; omega
  · rw [if_neg h1, if_neg (by omega)]
section
variable {P : Program} {dq : List Deferred} {E : Nat → Prop} {M : List Nat} {w0 : World} {n : Nat} {a : Act} {w : World} {F : List (Nat × Value)} {L : List Ent} {D : List Fact} {Q : Exit → Act → World → Prop}
variable {ops : Array Oper} {rest : List Oper} {o : Oper} {d : Nat}
theorem pFldR {sz j : Nat} {v q : Value} (s f k : Nat) (hp : OwnP sz v q j) (hf : fieldB P s f = some k) : ∃ q', FldV P s f q q' ∧ OwnF sz v q' j k := by
  obtain ⟨g, m, c, rfl, rfl⟩ := hp
  exact ⟨_, fun w => run_fieldAt hf g _ w, ⟨g, m, c, rfl, rfl⟩⟩
theorem sLoadF {α β : Type} {r : R α} {s : R β} {g : α → β} {T : TypeId} {xs : List α} {x : α} {t : TypeId} {q : Operand} {v vq : Value} {j : Int} (i kf : Nat) (u : Value) (S : St dq E M w0 n a w F L D) (hp : OwnF r.sz v vq j.toNat kf)
    (hw : ∀ a, Frm dq n a F → Region.wanted o (yielded ops a.tmps) = true) (ho : o.op = .load t q) (hq : lookO F q = some vq) (hL : L[i]? = some (eRow r T v xs)) (hx : idxO xs j = some x) (hc : Comp r s kf g) (hu : ∀ E w v, s.rep E w v (g x) → v = u) (hr : Scal s) (ht : aggB P t = some false) (hd : o.dst = some d) (hn : d < n)
    (k : ∀ a, St dq E M w0 n a w ((d, u) :: F) L D → wpList P ops Q rest a w) : wpList P ops Q (o :: rest) a w := by
  obtain ⟨h0, h1, h2⟩ := idxO_some hx
  obtain ⟨b, c, u', rfl, hrep, hcell⟩ := row_at (S.mem.at hL) h2
  obtain ⟨z, h3, h4⟩ := hc _ _ _ _ hrep
  have hz := hr _ _ _ _ h3
  obtain rfl := hu _ _ _ h3
  obtain ⟨g', m', c', e1, rfl⟩ := hp
  cases e1
  have he := S.frm.eval hq
  have hcc : w.cell? ⟨b, j.toNat * r.sz + kf, none⟩ = some z := hcell kf z (by simpa using h4 0 z (by rw [hz]; rfl))
  exact sVal S hw hd hn (by simp [execOp, ho, he, Instr.loadAt, Instr.sureAddr, loadVar, run_isAgg ht, hcc]) S.mem k
theorem sStoreF {α β : Type} {r : R α} {s : R β} {T : TypeId} {xs ys : List α} {x y : α} {z : β} {t : TypeId} {q xo : Operand} {v vq u : Value} {j : Int} (i kf : Nat) (S : St dq E M w0 n a w F L D) (hp : OwnF r.sz v vq j.toNat kf)
    (hw : ∀ a, Frm dq n a F → Region.wanted o (yielded ops a.tmps) = true) (ho : o.op = .store t q xo) (hq : lookO F q = some vq) (hxo : lookO F xo = some u) (hL : L[i]? = some (eRow r T v xs)) (hu0 : (fRep s u z).p (tot E L) w) (hix : idxO xs j = some x) (hup : Upd r s kf x z y) (hs : setO xs j y = some ys) (hm : cellsB P t = some s.sz) (hd : o.dst = none)
    (k : ∀ a w, St dq E M w0 n a w F (eRow r T v ys :: L.eraseIdx i) D → wpList P ops Q rest a w) : wpList P ops Q (o :: rest) a w := by
  obtain ⟨h0, h1, rfl⟩ := setO_some hs
  obtain ⟨_, _, hxj⟩ := idxO_some hix
  obtain ⟨vs, ha, hlen, hown⟩ := S.mem.at hL
  obtain ⟨g, m, c, rfl, rfl⟩ := hp
  have he := S.frm.eval hq
  have hex := S.frm.eval hxo
  have hsu := s.size hu0
  have hj : j.toNat < vs.length := by rw [ha.1]; exact h1
  have hvj : vs[j.toNat]? = some vs[j.toNat] := List.getElem?_eq_getElem hj
  have hrep := ha.2 _ _ _ hvj hxj
  have hsv := r.size hrep
  obtain ⟨v', hu, hcl, hle0⟩ := hup _ _ _ _ hrep hu0
  have hsz := r.size hu
  have hown1 := hown
  rcases hown.2 with ⟨h, _⟩ | ⟨g', cap, cur, h, hb, hg, hnc, hcm, hcs, htake⟩
  · cases h
  obtain ⟨rfl, rfl, rfl⟩ : g = g' ∧ m = xs.length ∧ c = cap := by simpa using h
  have hle : (j.toNat + 1) * r.sz ≤ xs.length * r.sz := Nat.mul_le_mul_right _ h1
  have hle2 : xs.length * r.sz ≤ c * r.sz := Nat.mul_le_mul_right _ hnc
  rw [Nat.add_mul, Nat.one_mul] at hle
  have heq : over cur.toList (j.toNat * r.sz + kf) u.cells.toList = over cur.toList (j.toNat * r.sz) v'.cells.toList := by
    rw [hcl]
    refine (over_over (fun b hb => ?_) (by simp [hsv, hsu]; omega) (by simp [hsv, hcs]; omega)).symm
    have hb2 : b < r.sz := by simpa [hsv] using hb
    have e := congrArg (fun l : List Value => l[j.toNat * r.sz + b]?) htake
    simp only [List.getElem?_take, if_pos (show j.toNat * r.sz + b < xs.length * r.sz by omega)] at e
    rw [e, flat_get (fun v hv => (ha.cells v hv).1) hvj hb2]
  have hst := run_storeVar (P := P) (t := t) (off := j.toNat * r.sz + kf) (by rw [hsu]; exact hm) (s.one hu0) hg (by rw [hsu, hcs]; omega)
  rw [heq] at hst
  have hchg : Chg (eRow r T (.slice (some ⟨g, 0, none⟩) xs.length c) xs).keys w (w.setRow g (over cur.toList (j.toNat * r.sz) v'.cells.toList).toArray) := ⟨rfl, rfl, rfl, by simp [World.setRow], fun k _ hk => setRow_other w g k _ (fun e => hk (by simp [eRow, vkeys, e]))⟩
  have hext : Ext (tot E L) (tot E (eRow r T (.slice (some ⟨g, 0, none⟩) xs.length c) (xs.set j.toNat y) :: L.eraseIdx i)) w (w.setRow g (over cur.toList (j.toNat * r.sz) v'.cells.toList).toArray) := by
    refine ⟨hchg.size, fun b hb hn _ => hchg.block b hb (fun e => hn (.inr (keysL_mem.2 ⟨_, List.mem_of_getElem? hL, e⟩))), fun b hb h => ?_⟩
    rcases h with h | h
    · exact .inl h
    · obtain ⟨e, h2, h3⟩ := keysL_mem.1 h
      rcases List.mem_cons.1 h2 with rfl | h2
      · exact .inr (keysL_mem.2 ⟨_, List.mem_of_getElem? hL, h3⟩)
      · exact .inr (keysL_mem.2 ⟨e, List.mem_of_mem_eraseIdx h2, h3⟩)
  refine sUnit S hw hd (w' := w.setRow g (over cur.toList (j.toNat * r.sz) v'.cells.toList).toArray) ?_ (S.mem.put hL (eRow r T (.slice (some ⟨g, 0, none⟩) xs.length c) (xs.set j.toNat y)) hchg (fun b hb => .inl hb) (by simp [eRow, vkeys]) ?_) (fun a => k a _)
  · simp only [execOp, ho, he, hex, Instr.storeAt, Instr.sureAddr, Sem.run_bind, Sem.run_pure, Result.andThen_ok, hst]
  · refine ⟨vs.set j.toNat v', (ha.mono hext).set _ (r.mono hext hu), by simpa using hlen, ?_⟩
    rw [flat_set (fun v hv => (ha.cells v hv).1) hj hsz]
    have hfl := flat_length (fun v hv => (ha.cells v hv).1)
    rw [ha.1] at hfl
    refine ⟨?_, .inr ⟨g, c, (over cur.toList (j.toNat * r.sz) v'.cells.toList).toArray, by simp, Nat.zero_le _, setRow_heap w g cur _ T _ hg, by simpa using hnc, hcm, ?_, ?_⟩⟩
    · rw [over_length (by rw [hfl]; simp [hsz]; omega), hfl]; simp
    · simp only [List.size_toArray]; rw [over_length (by simp [hsz, hcs]; omega)]; simpa using hcs
    · simp only [List.length_set]
      rw [over_take (by simp [hsz]; omega) (by simp [hcs]; omega), htake]
end

end Go.Proofs.Ytdbgkakmhlmpbaa
namespace Go.Proofs.Ytdbgkakmhlmpbaa
open Go.RowKit
set_option linter.unusedVariables false

structure api_Bill where
  Length : Int
  Time : Int
def r_api_Bill : R api_Bill where
  sz := 2
  rep := fun E w v x => v = .agg #[.int .i64 x.Length, .int .i64 x.Time]
  pos := by decide
  size := by rintro _ _ _ _ rfl; rfl
  one := by
    rintro _ _ _ _ rfl u hu
    simp [Value.cells] at hu
    rcases hu with rfl | rfl
    · rfl
    · rfl
  mono := fun _ h => h
theorem aggr_api_Bill : Aggr r_api_Bill := by rintro _ _ _ _ rfl; exact ⟨_, rfl⟩
theorem comp_api_Bill_Length : Comp r_api_Bill (rI .i64) 0 (·.Length) := by
  rintro _ _ _ x rfl
  refine ⟨.int .i64 x.Length, rfl, fun j c hj => ?_⟩
  match j, hj with
  | 0, hj => exact hj
  | j + 1, hj => exact absurd (List.getElem?_eq_some_iff.1 hj).1 (by simp [Value.cells])
theorem comp_api_Bill_Time : Comp r_api_Bill (rI .i64) 1 (·.Time) := by
  rintro _ _ _ x rfl
  refine ⟨.int .i64 x.Time, rfl, fun j c hj => ?_⟩
  match j, hj with
  | 0, hj => exact hj
  | j + 1, hj => exact absurd (List.getElem?_eq_some_iff.1 hj).1 (by simp [Value.cells])
structure api_Ratio where
  Num : Int
  Den : Int
def r_api_Ratio : R api_Ratio where
  sz := 2
  rep := fun E w v x => v = .agg #[.int .i64 x.Num, .int .i64 x.Den]
  pos := by decide
  size := by rintro _ _ _ _ rfl; rfl
  one := by
    rintro _ _ _ _ rfl u hu
    simp [Value.cells] at hu
    rcases hu with rfl | rfl
    · rfl
    · rfl
  mono := fun _ h => h
theorem aggr_api_Ratio : Aggr r_api_Ratio := by rintro _ _ _ _ rfl; exact ⟨_, rfl⟩
theorem comp_api_Ratio_Num : Comp r_api_Ratio (rI .i64) 0 (·.Num) := by
  rintro _ _ _ x rfl
  refine ⟨.int .i64 x.Num, rfl, fun j c hj => ?_⟩
  match j, hj with
  | 0, hj => exact hj
  | j + 1, hj => exact absurd (List.getElem?_eq_some_iff.1 hj).1 (by simp [Value.cells])
theorem comp_api_Ratio_Den : Comp r_api_Ratio (rI .i64) 1 (·.Den) := by
  rintro _ _ _ x rfl
  refine ⟨.int .i64 x.Den, rfl, fun j c hj => ?_⟩
  match j, hj with
  | 0, hj => exact hj
  | j + 1, hj => exact absurd (List.getElem?_eq_some_iff.1 hj).1 (by simp [Value.cells])
structure api_Count where
  System : Int
  N : api_Ratio
def r_api_Count : R api_Count where
  sz := 3
  rep := fun E w v x => v = .agg #[.int .u8 x.System, .int .i64 x.N.Num, .int .i64 x.N.Den]
  pos := by decide
  size := by rintro _ _ _ _ rfl; rfl
  one := by
    rintro _ _ _ _ rfl u hu
    simp [Value.cells] at hu
    rcases hu with rfl | rfl | rfl
    · rfl
    · rfl
    · rfl
  mono := fun _ h => h
theorem aggr_api_Count : Aggr r_api_Count := by rintro _ _ _ _ rfl; exact ⟨_, rfl⟩
theorem comp_api_Count_System : Comp r_api_Count (rI .u8) 0 (·.System) := by
  rintro _ _ _ x rfl
  refine ⟨.int .u8 x.System, rfl, fun j c hj => ?_⟩
  match j, hj with
  | 0, hj => exact hj
  | j + 1, hj => exact absurd (List.getElem?_eq_some_iff.1 hj).1 (by simp [Value.cells])
theorem comp_api_Count_N : Comp r_api_Count r_api_Ratio 1 (·.N) := by
  rintro _ _ _ x rfl
  refine ⟨.agg #[.int .i64 x.N.Num, .int .i64 x.N.Den], rfl, fun j c hj => ?_⟩
  match j, hj with
  | 0, hj => exact hj
  | 1, hj => exact hj
  | j + 2, hj => exact absurd (List.getElem?_eq_some_iff.1 hj).1 (by simp [Value.cells])
structure api_Stitch where
  Kind : Int
  Purl : Bool
  A : Int
  B : Int
def r_api_Stitch : R api_Stitch where
  sz := 4
  rep := fun E w v x => v = .agg #[.int .u8 x.Kind, .bool x.Purl, .int .i64 x.A, .int .i64 x.B]
  pos := by decide
  size := by rintro _ _ _ _ rfl; rfl
  one := by
    rintro _ _ _ _ rfl u hu
    simp [Value.cells] at hu
    rcases hu with rfl | rfl | rfl | rfl
    · rfl
    · rfl
    · rfl
    · rfl
  mono := fun _ h => h
theorem aggr_api_Stitch : Aggr r_api_Stitch := by rintro _ _ _ _ rfl; exact ⟨_, rfl⟩
theorem comp_api_Stitch_Kind : Comp r_api_Stitch (rI .u8) 0 (·.Kind) := by
  rintro _ _ _ x rfl
  refine ⟨.int .u8 x.Kind, rfl, fun j c hj => ?_⟩
  match j, hj with
  | 0, hj => exact hj
  | j + 1, hj => exact absurd (List.getElem?_eq_some_iff.1 hj).1 (by simp [Value.cells])
theorem comp_api_Stitch_Purl : Comp r_api_Stitch rB 1 (·.Purl) := by
  rintro _ _ _ x rfl
  refine ⟨.bool x.Purl, rfl, fun j c hj => ?_⟩
  match j, hj with
  | 0, hj => exact hj
  | j + 1, hj => exact absurd (List.getElem?_eq_some_iff.1 hj).1 (by simp [Value.cells])
theorem comp_api_Stitch_A : Comp r_api_Stitch (rI .i64) 2 (·.A) := by
  rintro _ _ _ x rfl
  refine ⟨.int .i64 x.A, rfl, fun j c hj => ?_⟩
  match j, hj with
  | 0, hj => exact hj
  | j + 1, hj => exact absurd (List.getElem?_eq_some_iff.1 hj).1 (by simp [Value.cells])
theorem comp_api_Stitch_B : Comp r_api_Stitch (rI .i64) 3 (·.B) := by
  rintro _ _ _ x rfl
  refine ⟨.int .i64 x.B, rfl, fun j c hj => ?_⟩
  match j, hj with
  | 0, hj => exact hj
  | j + 1, hj => exact absurd (List.getElem?_eq_some_iff.1 hj).1 (by simp [Value.cells])
structure api_Row where
  Back : Bool
  Cells : (List api_Stitch)
def r_api_Row : R api_Row where
  sz := 2
  rep := fun E w v x => ∃ v0, v = .agg #[.bool x.Back, v0] ∧ (rL r_api_Stitch).rep E w v0 x.Cells
  pos := by decide
  size := by rintro _ _ _ _ ⟨v0, rfl, h0⟩; rfl
  one := by
    rintro _ _ _ _ ⟨v0, rfl, h0⟩ u hu
    simp [Value.cells] at hu
    rcases hu with rfl | rfl
    · rfl
    · exact (rL r_api_Stitch).one h0 _ (by rw [scal_L _ _ _ _ _ h0]; simp)
  mono := by
    rintro _ _ _ _ _ _ h ⟨v0, e, h0⟩
    exact ⟨v0, e, (rL r_api_Stitch).mono h h0⟩
theorem aggr_api_Row : Aggr r_api_Row := by rintro _ _ _ _ ⟨v0, rfl, h0⟩; exact ⟨_, rfl⟩
theorem comp_api_Row_Back : Comp r_api_Row rB 0 (·.Back) := by
  rintro _ _ _ x ⟨v0, rfl, h0⟩
  refine ⟨.bool x.Back, rfl, fun j c hj => ?_⟩
  match j, hj with
  | 0, hj => exact hj
  | j + 1, hj => exact absurd (List.getElem?_eq_some_iff.1 hj).1 (by simp [Value.cells])
theorem comp_api_Row_Cells : Comp r_api_Row (rL r_api_Stitch) 1 (·.Cells) := by
  rintro _ _ _ x ⟨v0, rfl, h0⟩
  refine ⟨v0, h0, fun j c hj => ?_⟩
  rw [scal_L _ _ _ _ _ h0] at hj
  match j, hj with
  | 0, hj => exact hj
  | j + 1, hj => exact absurd (List.getElem?_eq_some_iff.1 hj).1 (by simp)
structure api_Chart where
  Start : Int
  Rows : (List api_Row)
def r_api_Chart : R api_Chart where
  sz := 2
  rep := fun E w v x => ∃ v0, v = .agg #[.int .i64 x.Start, v0] ∧ (rL r_api_Row).rep E w v0 x.Rows
  pos := by decide
  size := by rintro _ _ _ _ ⟨v0, rfl, h0⟩; rfl
  one := by
    rintro _ _ _ _ ⟨v0, rfl, h0⟩ u hu
    simp [Value.cells] at hu
    rcases hu with rfl | rfl
    · rfl
    · exact (rL r_api_Row).one h0 _ (by rw [scal_L _ _ _ _ _ h0]; simp)
  mono := by
    rintro _ _ _ _ _ _ h ⟨v0, e, h0⟩
    exact ⟨v0, e, (rL r_api_Row).mono h h0⟩
theorem aggr_api_Chart : Aggr r_api_Chart := by rintro _ _ _ _ ⟨v0, rfl, h0⟩; exact ⟨_, rfl⟩
theorem comp_api_Chart_Start : Comp r_api_Chart (rI .i64) 0 (·.Start) := by
  rintro _ _ _ x ⟨v0, rfl, h0⟩
  refine ⟨.int .i64 x.Start, rfl, fun j c hj => ?_⟩
  match j, hj with
  | 0, hj => exact hj
  | j + 1, hj => exact absurd (List.getElem?_eq_some_iff.1 hj).1 (by simp [Value.cells])
theorem comp_api_Chart_Rows : Comp r_api_Chart (rL r_api_Row) 1 (·.Rows) := by
  rintro _ _ _ x ⟨v0, rfl, h0⟩
  refine ⟨v0, h0, fun j c hj => ?_⟩
  rw [scal_L _ _ _ _ _ h0] at hj
  match j, hj with
  | 0, hj => exact hj
  | j + 1, hj => exact absurd (List.getElem?_eq_some_iff.1 hj).1 (by simp)
def r_A11_Int : R (Int × Int × Int × Int × Int × Int × Int × Int × Int × Int × Int) where
  sz := 11
  rep := fun E w v x => v = .agg #[.int .i64 x.1, .int .i64 x.2.1, .int .i64 x.2.2.1, .int .i64 x.2.2.2.1, .int .i64 x.2.2.2.2.1, .int .i64 x.2.2.2.2.2.1, .int .i64 x.2.2.2.2.2.2.1, .int .i64 x.2.2.2.2.2.2.2.1, .int .i64 x.2.2.2.2.2.2.2.2.1, .int .i64 x.2.2.2.2.2.2.2.2.2.1, .int .i64 x.2.2.2.2.2.2.2.2.2.2]
  pos := by decide
  size := by rintro _ _ _ _ rfl; rfl
  one := by
    rintro _ _ _ _ rfl u hu
    simp [Value.cells] at hu
    rcases hu with rfl | rfl | rfl | rfl | rfl | rfl | rfl | rfl | rfl | rfl | rfl
    · rfl
    · rfl
    · rfl
    · rfl
    · rfl
    · rfl
    · rfl
    · rfl
    · rfl
    · rfl
    · rfl
  mono := fun _ h => h
theorem aggr_A11_Int : Aggr r_A11_Int := by rintro _ _ _ _ rfl; exact ⟨_, rfl⟩
structure api_Rates where
  Length : (Int × Int × Int × Int × Int × Int × Int × Int × Int × Int × Int)
  Time : (Int × Int × Int × Int × Int × Int × Int × Int × Int × Int × Int)
  Turn : Int
def r_api_Rates : R api_Rates where
  sz := 23
  rep := fun E w v x => v = .agg #[.int .i64 x.Length.1, .int .i64 x.Length.2.1, .int .i64 x.Length.2.2.1, .int .i64 x.Length.2.2.2.1, .int .i64 x.Length.2.2.2.2.1, .int .i64 x.Length.2.2.2.2.2.1, .int .i64 x.Length.2.2.2.2.2.2.1, .int .i64 x.Length.2.2.2.2.2.2.2.1, .int .i64 x.Length.2.2.2.2.2.2.2.2.1, .int .i64 x.Length.2.2.2.2.2.2.2.2.2.1, .int .i64 x.Length.2.2.2.2.2.2.2.2.2.2, .int .i64 x.Time.1, .int .i64 x.Time.2.1, .int .i64 x.Time.2.2.1, .int .i64 x.Time.2.2.2.1, .int .i64 x.Time.2.2.2.2.1, .int .i64 x.Time.2.2.2.2.2.1, .int .i64 x.Time.2.2.2.2.2.2.1, .int .i64 x.Time.2.2.2.2.2.2.2.1, .int .i64 x.Time.2.2.2.2.2.2.2.2.1, .int .i64 x.Time.2.2.2.2.2.2.2.2.2.1, .int .i64 x.Time.2.2.2.2.2.2.2.2.2.2, .int .i64 x.Turn]
  pos := by decide
  size := by rintro _ _ _ _ rfl; rfl
  one := by
    rintro _ _ _ _ rfl u hu
    simp [Value.cells] at hu
    rcases hu with rfl | rfl | rfl | rfl | rfl | rfl | rfl | rfl | rfl | rfl | rfl | rfl | rfl | rfl | rfl | rfl | rfl | rfl | rfl | rfl | rfl | rfl | rfl
    · rfl
    · rfl
    · rfl
    · rfl
    · rfl
    · rfl
    · rfl
    · rfl
    · rfl
    · rfl
    · rfl
    · rfl
    · rfl
    · rfl
    · rfl
    · rfl
    · rfl
    · rfl
    · rfl
    · rfl
    · rfl
    · rfl
    · rfl
  mono := fun _ h => h
theorem aggr_api_Rates : Aggr r_api_Rates := by rintro _ _ _ _ rfl; exact ⟨_, rfl⟩
theorem comp_api_Rates_Length : Comp r_api_Rates r_A11_Int 0 (·.Length) := by
  rintro _ _ _ x rfl
  refine ⟨.agg #[.int .i64 x.Length.1, .int .i64 x.Length.2.1, .int .i64 x.Length.2.2.1, .int .i64 x.Length.2.2.2.1, .int .i64 x.Length.2.2.2.2.1, .int .i64 x.Length.2.2.2.2.2.1, .int .i64 x.Length.2.2.2.2.2.2.1, .int .i64 x.Length.2.2.2.2.2.2.2.1, .int .i64 x.Length.2.2.2.2.2.2.2.2.1, .int .i64 x.Length.2.2.2.2.2.2.2.2.2.1, .int .i64 x.Length.2.2.2.2.2.2.2.2.2.2], rfl, fun j c hj => ?_⟩
  match j, hj with
  | 0, hj => exact hj
  | 1, hj => exact hj
  | 2, hj => exact hj
  | 3, hj => exact hj
  | 4, hj => exact hj
  | 5, hj => exact hj
  | 6, hj => exact hj
  | 7, hj => exact hj
  | 8, hj => exact hj
  | 9, hj => exact hj
  | 10, hj => exact hj
  | j + 11, hj => exact absurd (List.getElem?_eq_some_iff.1 hj).1 (by simp [Value.cells])
theorem comp_api_Rates_Time : Comp r_api_Rates r_A11_Int 11 (·.Time) := by
  rintro _ _ _ x rfl
  refine ⟨.agg #[.int .i64 x.Time.1, .int .i64 x.Time.2.1, .int .i64 x.Time.2.2.1, .int .i64 x.Time.2.2.2.1, .int .i64 x.Time.2.2.2.2.1, .int .i64 x.Time.2.2.2.2.2.1, .int .i64 x.Time.2.2.2.2.2.2.1, .int .i64 x.Time.2.2.2.2.2.2.2.1, .int .i64 x.Time.2.2.2.2.2.2.2.2.1, .int .i64 x.Time.2.2.2.2.2.2.2.2.2.1, .int .i64 x.Time.2.2.2.2.2.2.2.2.2.2], rfl, fun j c hj => ?_⟩
  match j, hj with
  | 0, hj => exact hj
  | 1, hj => exact hj
  | 2, hj => exact hj
  | 3, hj => exact hj
  | 4, hj => exact hj
  | 5, hj => exact hj
  | 6, hj => exact hj
  | 7, hj => exact hj
  | 8, hj => exact hj
  | 9, hj => exact hj
  | 10, hj => exact hj
  | j + 11, hj => exact absurd (List.getElem?_eq_some_iff.1 hj).1 (by simp [Value.cells])
theorem comp_api_Rates_Turn : Comp r_api_Rates (rI .i64) 22 (·.Turn) := by
  rintro _ _ _ x rfl
  refine ⟨.int .i64 x.Turn, rfl, fun j c hj => ?_⟩
  match j, hj with
  | 0, hj => exact hj
  | j + 1, hj => exact absurd (List.getElem?_eq_some_iff.1 hj).1 (by simp [Value.cells])
structure chart_count where
  before : Int
  after : Int
  e : Int
def r_chart_count : R chart_count where
  sz := 3
  rep := fun E w v x => v = .agg #[.int .i64 x.before, .int .i64 x.after, .int .i64 x.e]
  pos := by decide
  size := by rintro _ _ _ _ rfl; rfl
  one := by
    rintro _ _ _ _ rfl u hu
    simp [Value.cells] at hu
    rcases hu with rfl | rfl | rfl
    · rfl
    · rfl
    · rfl
  mono := fun _ h => h
theorem aggr_chart_count : Aggr r_chart_count := by rintro _ _ _ _ rfl; exact ⟨_, rfl⟩
theorem comp_chart_count_before : Comp r_chart_count (rI .i64) 0 (·.before) := by
  rintro _ _ _ x rfl
  refine ⟨.int .i64 x.before, rfl, fun j c hj => ?_⟩
  match j, hj with
  | 0, hj => exact hj
  | j + 1, hj => exact absurd (List.getElem?_eq_some_iff.1 hj).1 (by simp [Value.cells])
theorem comp_chart_count_after : Comp r_chart_count (rI .i64) 1 (·.after) := by
  rintro _ _ _ x rfl
  refine ⟨.int .i64 x.after, rfl, fun j c hj => ?_⟩
  match j, hj with
  | 0, hj => exact hj
  | j + 1, hj => exact absurd (List.getElem?_eq_some_iff.1 hj).1 (by simp [Value.cells])
theorem comp_chart_count_e : Comp r_chart_count (rI .i64) 2 (·.e) := by
  rintro _ _ _ x rfl
  refine ⟨.int .i64 x.e, rfl, fun j c hj => ?_⟩
  match j, hj with
  | 0, hj => exact hj
  | j + 1, hj => exact absurd (List.getElem?_eq_some_iff.1 hj).1 (by simp [Value.cells])
def r_A2_Int : R (Int × Int) where
  sz := 2
  rep := fun E w v x => v = .agg #[.int .i64 x.1, .int .i64 x.2]
  pos := by decide
  size := by rintro _ _ _ _ rfl; rfl
  one := by
    rintro _ _ _ _ rfl u hu
    simp [Value.cells] at hu
    rcases hu with rfl | rfl
    · rfl
    · rfl
  mono := fun _ h => h
theorem aggr_A2_Int : Aggr r_A2_Int := by rintro _ _ _ _ rfl; exact ⟨_, rfl⟩
structure stitch_form where
  letter : ByteArray
  a : (Int × Int)
  b : (Int × Int)
  sided : Bool
  uses : Int
  made : Int
def r_stitch_form : R stitch_form where
  sz := 8
  rep := fun E w v x => v = .agg #[.string x.letter, .int .i64 x.a.1, .int .i64 x.a.2, .int .i64 x.b.1, .int .i64 x.b.2, .bool x.sided, .int .i64 x.uses, .int .i64 x.made]
  pos := by decide
  size := by rintro _ _ _ _ rfl; rfl
  one := by
    rintro _ _ _ _ rfl u hu
    simp [Value.cells] at hu
    rcases hu with rfl | rfl | rfl | rfl | rfl | rfl | rfl | rfl
    · rfl
    · rfl
    · rfl
    · rfl
    · rfl
    · rfl
    · rfl
    · rfl
  mono := fun _ h => h
theorem aggr_stitch_form : Aggr r_stitch_form := by rintro _ _ _ _ rfl; exact ⟨_, rfl⟩
theorem comp_stitch_form_letter : Comp r_stitch_form rS 0 (·.letter) := by
  rintro _ _ _ x rfl
  refine ⟨.string x.letter, rfl, fun j c hj => ?_⟩
  match j, hj with
  | 0, hj => exact hj
  | j + 1, hj => exact absurd (List.getElem?_eq_some_iff.1 hj).1 (by simp [Value.cells])
theorem comp_stitch_form_a : Comp r_stitch_form r_A2_Int 1 (·.a) := by
  rintro _ _ _ x rfl
  refine ⟨.agg #[.int .i64 x.a.1, .int .i64 x.a.2], rfl, fun j c hj => ?_⟩
  match j, hj with
  | 0, hj => exact hj
  | 1, hj => exact hj
  | j + 2, hj => exact absurd (List.getElem?_eq_some_iff.1 hj).1 (by simp [Value.cells])
theorem comp_stitch_form_b : Comp r_stitch_form r_A2_Int 3 (·.b) := by
  rintro _ _ _ x rfl
  refine ⟨.agg #[.int .i64 x.b.1, .int .i64 x.b.2], rfl, fun j c hj => ?_⟩
  match j, hj with
  | 0, hj => exact hj
  | 1, hj => exact hj
  | j + 2, hj => exact absurd (List.getElem?_eq_some_iff.1 hj).1 (by simp [Value.cells])
theorem comp_stitch_form_sided : Comp r_stitch_form rB 5 (·.sided) := by
  rintro _ _ _ x rfl
  refine ⟨.bool x.sided, rfl, fun j c hj => ?_⟩
  match j, hj with
  | 0, hj => exact hj
  | j + 1, hj => exact absurd (List.getElem?_eq_some_iff.1 hj).1 (by simp [Value.cells])
theorem comp_stitch_form_uses : Comp r_stitch_form (rI .i64) 6 (·.uses) := by
  rintro _ _ _ x rfl
  refine ⟨.int .i64 x.uses, rfl, fun j c hj => ?_⟩
  match j, hj with
  | 0, hj => exact hj
  | j + 1, hj => exact absurd (List.getElem?_eq_some_iff.1 hj).1 (by simp [Value.cells])
theorem comp_stitch_form_made : Comp r_stitch_form (rI .i64) 7 (·.made) := by
  rintro _ _ _ x rfl
  refine ⟨.int .i64 x.made, rfl, fun j c hj => ?_⟩
  match j, hj with
  | 0, hj => exact hj
  | j + 1, hj => exact absurd (List.getElem?_eq_some_iff.1 hj).1 (by simp [Value.cells])
structure yarn_calc where
  a : api_Ratio
  b : api_Ratio
  out : api_Ratio
  e : Int
def r_yarn_calc : R yarn_calc where
  sz := 7
  rep := fun E w v x => v = .agg #[.int .i64 x.a.Num, .int .i64 x.a.Den, .int .i64 x.b.Num, .int .i64 x.b.Den, .int .i64 x.out.Num, .int .i64 x.out.Den, .int .i64 x.e]
  pos := by decide
  size := by rintro _ _ _ _ rfl; rfl
  one := by
    rintro _ _ _ _ rfl u hu
    simp [Value.cells] at hu
    rcases hu with rfl | rfl | rfl | rfl | rfl | rfl | rfl
    · rfl
    · rfl
    · rfl
    · rfl
    · rfl
    · rfl
    · rfl
  mono := fun _ h => h
theorem aggr_yarn_calc : Aggr r_yarn_calc := by rintro _ _ _ _ rfl; exact ⟨_, rfl⟩
theorem comp_yarn_calc_a : Comp r_yarn_calc r_api_Ratio 0 (·.a) := by
  rintro _ _ _ x rfl
  refine ⟨.agg #[.int .i64 x.a.Num, .int .i64 x.a.Den], rfl, fun j c hj => ?_⟩
  match j, hj with
  | 0, hj => exact hj
  | 1, hj => exact hj
  | j + 2, hj => exact absurd (List.getElem?_eq_some_iff.1 hj).1 (by simp [Value.cells])
theorem comp_yarn_calc_b : Comp r_yarn_calc r_api_Ratio 2 (·.b) := by
  rintro _ _ _ x rfl
  refine ⟨.agg #[.int .i64 x.b.Num, .int .i64 x.b.Den], rfl, fun j c hj => ?_⟩
  match j, hj with
  | 0, hj => exact hj
  | 1, hj => exact hj
  | j + 2, hj => exact absurd (List.getElem?_eq_some_iff.1 hj).1 (by simp [Value.cells])
theorem comp_yarn_calc_out : Comp r_yarn_calc r_api_Ratio 4 (·.out) := by
  rintro _ _ _ x rfl
  refine ⟨.agg #[.int .i64 x.out.Num, .int .i64 x.out.Den], rfl, fun j c hj => ?_⟩
  match j, hj with
  | 0, hj => exact hj
  | 1, hj => exact hj
  | j + 2, hj => exact absurd (List.getElem?_eq_some_iff.1 hj).1 (by simp [Value.cells])
theorem comp_yarn_calc_e : Comp r_yarn_calc (rI .i64) 6 (·.e) := by
  rintro _ _ _ x rfl
  refine ⟨.int .i64 x.e, rfl, fun j c hj => ?_⟩
  match j, hj with
  | 0, hj => exact hj
  | j + 1, hj => exact absurd (List.getElem?_eq_some_iff.1 hj).1 (by simp [Value.cells])
def gl_api_Rates (x : api_Rates) : List Value := [.int .i64 x.Length.1, .int .i64 x.Length.2.1, .int .i64 x.Length.2.2.1, .int .i64 x.Length.2.2.2.1, .int .i64 x.Length.2.2.2.2.1, .int .i64 x.Length.2.2.2.2.2.1, .int .i64 x.Length.2.2.2.2.2.2.1, .int .i64 x.Length.2.2.2.2.2.2.2.1, .int .i64 x.Length.2.2.2.2.2.2.2.2.1, .int .i64 x.Length.2.2.2.2.2.2.2.2.2.1, .int .i64 x.Length.2.2.2.2.2.2.2.2.2.2, .int .i64 x.Time.1, .int .i64 x.Time.2.1, .int .i64 x.Time.2.2.1, .int .i64 x.Time.2.2.2.1, .int .i64 x.Time.2.2.2.2.1, .int .i64 x.Time.2.2.2.2.2.1, .int .i64 x.Time.2.2.2.2.2.2.1, .int .i64 x.Time.2.2.2.2.2.2.2.1, .int .i64 x.Time.2.2.2.2.2.2.2.2.1, .int .i64 x.Time.2.2.2.2.2.2.2.2.2.1, .int .i64 x.Time.2.2.2.2.2.2.2.2.2.2, .int .i64 x.Turn]
def gv_api_Rates (x : api_Rates) : Value := .agg (gl_api_Rates x).toArray
def gl_A11_Int (x : (Int × Int × Int × Int × Int × Int × Int × Int × Int × Int × Int)) : List Value := [.int .i64 x.1, .int .i64 x.2.1, .int .i64 x.2.2.1, .int .i64 x.2.2.2.1, .int .i64 x.2.2.2.2.1, .int .i64 x.2.2.2.2.2.1, .int .i64 x.2.2.2.2.2.2.1, .int .i64 x.2.2.2.2.2.2.2.1, .int .i64 x.2.2.2.2.2.2.2.2.1, .int .i64 x.2.2.2.2.2.2.2.2.2.1, .int .i64 x.2.2.2.2.2.2.2.2.2.2]
def gv_A11_Int (x : (Int × Int × Int × Int × Int × Int × Int × Int × Int × Int × Int)) : Value := .agg (gl_A11_Int x).toArray
def gl_stitch_form (x : stitch_form) : List Value := [.string x.letter, .int .i64 x.a.1, .int .i64 x.a.2, .int .i64 x.b.1, .int .i64 x.b.2, .bool x.sided, .int .i64 x.uses, .int .i64 x.made]
def gv_stitch_form (x : stitch_form) : Value := .agg (gl_stitch_form x).toArray
theorem callee3 : ∀ vs w, (callFunc 3 vs).run Try.prog w = .ok (.enter 3 vs) w := callee Try.func3 rfl rfl
theorem callee4 : ∀ vs w, (callFunc 4 vs).run Try.prog w = .ok (.enter 4 vs) w := callee Try.func4 rfl rfl
theorem callee5 : ∀ vs w, (callFunc 5 vs).run Try.prog w = .ok (.enter 5 vs) w := callee Try.func5 rfl rfl
theorem callee6 : ∀ vs w, (callFunc 6 vs).run Try.prog w = .ok (.enter 6 vs) w := callee Try.func6 rfl rfl
theorem callee8 : ∀ vs w, (callFunc 8 vs).run Try.prog w = .ok (.enter 8 vs) w := callee Try.func8 rfl rfl
theorem callee10 : ∀ vs w, (callFunc 10 vs).run Try.prog w = .ok (.enter 10 vs) w := callee Try.func10 rfl rfl
theorem callee11 : ∀ vs w, (callFunc 11 vs).run Try.prog w = .ok (.enter 11 vs) w := callee Try.func11 rfl rfl
theorem callee12 : ∀ vs w, (callFunc 12 vs).run Try.prog w = .ok (.enter 12 vs) w := callee Try.func12 rfl rfl
theorem callee13 : ∀ vs w, (callFunc 13 vs).run Try.prog w = .ok (.enter 13 vs) w := callee Try.func13 rfl rfl
theorem callee14 : ∀ vs w, (callFunc 14 vs).run Try.prog w = .ok (.enter 14 vs) w := callee Try.func14 rfl rfl
theorem callee15 : ∀ vs w, (callFunc 15 vs).run Try.prog w = .ok (.enter 15 vs) w := callee Try.func15 rfl rfl
theorem callee16 : ∀ vs w, (callFunc 16 vs).run Try.prog w = .ok (.enter 16 vs) w := callee Try.func16 rfl rfl
theorem callee17 : ∀ vs w, (callFunc 17 vs).run Try.prog w = .ok (.enter 17 vs) w := callee Try.func17 rfl rfl
theorem callee18 : ∀ vs w, (callFunc 18 vs).run Try.prog w = .ok (.enter 18 vs) w := callee Try.func18 rfl rfl
theorem callee19 : ∀ vs w, (callFunc 19 vs).run Try.prog w = .ok (.enter 19 vs) w := callee Try.func19 rfl rfl
theorem callee20 : ∀ vs w, (callFunc 20 vs).run Try.prog w = .ok (.enter 20 vs) w := callee Try.func20 rfl rfl
theorem callee21 : ∀ vs w, (callFunc 21 vs).run Try.prog w = .ok (.enter 21 vs) w := callee Try.func21 rfl rfl
theorem callee22 : ∀ vs w, (callFunc 22 vs).run Try.prog w = .ok (.enter 22 vs) w := callee Try.func22 rfl rfl
theorem callee23 : ∀ vs w, (callFunc 23 vs).run Try.prog w = .ok (.enter 23 vs) w := callee Try.func23 rfl rfl
theorem callee24 : ∀ vs w, (callFunc 24 vs).run Try.prog w = .ok (.enter 24 vs) w := callee Try.func24 rfl rfl
theorem callee25 : ∀ vs w, (callFunc 25 vs).run Try.prog w = .ok (.enter 25 vs) w := callee Try.func25 rfl rfl
theorem callee26 : ∀ vs w, (callFunc 26 vs).run Try.prog w = .ok (.enter 26 vs) w := callee Try.func26 rfl rfl
theorem callee27 : ∀ vs w, (callFunc 27 vs).run Try.prog w = .ok (.enter 27 vs) w := callee Try.func27 rfl rfl
theorem callee28 : ∀ vs w, (callFunc 28 vs).run Try.prog w = .ok (.enter 28 vs) w := callee Try.func28 rfl rfl
theorem callee29 : ∀ vs w, (callFunc 29 vs).run Try.prog w = .ok (.enter 29 vs) w := callee Try.func29 rfl rfl
theorem callee30 : ∀ vs w, (callFunc 30 vs).run Try.prog w = .ok (.enter 30 vs) w := callee Try.func30 rfl rfl
theorem callee32 : ∀ vs w, (callFunc 32 vs).run Try.prog w = .ok (.enter 32 vs) w := callee Try.func32 rfl rfl
theorem callee33 : ∀ vs w, (callFunc 33 vs).run Try.prog w = .ok (.enter 33 vs) w := callee Try.func33 rfl rfl
theorem callee34 : ∀ vs w, (callFunc 34 vs).run Try.prog w = .ok (.enter 34 vs) w := callee Try.func34 rfl rfl
theorem callee36 : ∀ vs w, (callFunc 36 vs).run Try.prog w = .ok (.enter 36 vs) w := callee Try.func36 rfl rfl
theorem callee37 : ∀ vs w, (callFunc 37 vs).run Try.prog w = .ok (.enter 37 vs) w := callee Try.func37 rfl rfl
theorem callee38 : ∀ vs w, (callFunc 38 vs).run Try.prog w = .ok (.enter 38 vs) w := callee Try.func38 rfl rfl
theorem callee39 : ∀ vs w, (callFunc 39 vs).run Try.prog w = .ok (.enter 39 vs) w := callee Try.func39 rfl rfl
theorem callee40 : ∀ vs w, (callFunc 40 vs).run Try.prog w = .ok (.enter 40 vs) w := callee Try.func40 rfl rfl
theorem callee41 : ∀ vs w, (callFunc 41 vs).run Try.prog w = .ok (.enter 41 vs) w := callee Try.func41 rfl rfl
theorem callee42 : ∀ vs w, (callFunc 42 vs).run Try.prog w = .ok (.enter 42 vs) w := callee Try.func42 rfl rfl
theorem callee43 : ∀ vs w, (callFunc 43 vs).run Try.prog w = .ok (.enter 43 vs) w := callee Try.func43 rfl rfl
theorem callee44 : ∀ vs w, (callFunc 44 vs).run Try.prog w = .ok (.enter 44 vs) w := callee Try.func44 rfl rfl
theorem callee45 : ∀ vs w, (callFunc 45 vs).run Try.prog w = .ok (.enter 45 vs) w := callee Try.func45 rfl rfl
theorem callee46 : ∀ vs w, (callFunc 46 vs).run Try.prog w = .ok (.enter 46 vs) w := callee Try.func46 rfl rfl
theorem callee47 : ∀ vs w, (callFunc 47 vs).run Try.prog w = .ok (.enter 47 vs) w := callee Try.func47 rfl rfl
theorem callee48 : ∀ vs w, (callFunc 48 vs).run Try.prog w = .ok (.enter 48 vs) w := callee Try.func48 rfl rfl
theorem callee49 : ∀ vs w, (callFunc 49 vs).run Try.prog w = .ok (.enter 49 vs) w := callee Try.func49 rfl rfl
theorem callee50 : ∀ vs w, (callFunc 50 vs).run Try.prog w = .ok (.enter 50 vs) w := callee Try.func50 rfl rfl
theorem callee51 : ∀ vs w, (callFunc 51 vs).run Try.prog w = .ok (.enter 51 vs) w := callee Try.func51 rfl rfl
theorem callee53 : ∀ vs w, (callFunc 53 vs).run Try.prog w = .ok (.enter 53 vs) w := callee Try.func53 rfl rfl
theorem callee54 : ∀ vs w, (callFunc 54 vs).run Try.prog w = .ok (.enter 54 vs) w := callee Try.func54 rfl rfl
theorem callee55 : ∀ vs w, (callFunc 55 vs).run Try.prog w = .ok (.enter 55 vs) w := callee Try.func55 rfl rfl
theorem callee56 : ∀ vs w, (callFunc 56 vs).run Try.prog w = .ok (.enter 56 vs) w := callee Try.func56 rfl rfl
theorem callee57 : ∀ vs w, (callFunc 57 vs).run Try.prog w = .ok (.enter 57 vs) w := callee Try.func57 rfl rfl
theorem callee58 : ∀ vs w, (callFunc 58 vs).run Try.prog w = .ok (.enter 58 vs) w := callee Try.func58 rfl rfl
theorem callee59 : ∀ vs w, (callFunc 59 vs).run Try.prog w = .ok (.enter 59 vs) w := callee Try.func59 rfl rfl
theorem callee60 : ∀ vs w, (callFunc 60 vs).run Try.prog w = .ok (.enter 60 vs) w := callee Try.func60 rfl rfl
theorem callee61 : ∀ vs w, (callFunc 61 vs).run Try.prog w = .ok (.enter 61 vs) w := callee Try.func61 rfl rfl
theorem callee62 : ∀ vs w, (callFunc 62 vs).run Try.prog w = .ok (.enter 62 vs) w := callee Try.func62 rfl rfl
theorem callee63 : ∀ vs w, (callFunc 63 vs).run Try.prog w = .ok (.enter 63 vs) w := callee Try.func63 rfl rfl
theorem callee64 : ∀ vs w, (callFunc 64 vs).run Try.prog w = .ok (.enter 64 vs) w := callee Try.func64 rfl rfl
theorem callee65 : ∀ vs w, (callFunc 65 vs).run Try.prog w = .ok (.enter 65 vs) w := callee Try.func65 rfl rfl
theorem callee66 : ∀ vs w, (callFunc 66 vs).run Try.prog w = .ok (.enter 66 vs) w := callee Try.func66 rfl rfl
theorem callee67 : ∀ vs w, (callFunc 67 vs).run Try.prog w = .ok (.enter 67 vs) w := callee Try.func67 rfl rfl
theorem callee68 : ∀ vs w, (callFunc 68 vs).run Try.prog w = .ok (.enter 68 vs) w := callee Try.func68 rfl rfl
theorem callee69 : ∀ vs w, (callFunc 69 vs).run Try.prog w = .ok (.enter 69 vs) w := callee Try.func69 rfl rfl
theorem callee70 : ∀ vs w, (callFunc 70 vs).run Try.prog w = .ok (.enter 70 vs) w := callee Try.func70 rfl rfl
theorem callee71 : ∀ vs w, (callFunc 71 vs).run Try.prog w = .ok (.enter 71 vs) w := callee Try.func71 rfl rfl
theorem callee72 : ∀ vs w, (callFunc 72 vs).run Try.prog w = .ok (.enter 72 vs) w := callee Try.func72 rfl rfl
theorem callee73 : ∀ vs w, (callFunc 73 vs).run Try.prog w = .ok (.enter 73 vs) w := callee Try.func73 rfl rfl
theorem callee74 : ∀ vs w, (callFunc 74 vs).run Try.prog w = .ok (.enter 74 vs) w := callee Try.func74 rfl rfl
theorem callee75 : ∀ vs w, (callFunc 75 vs).run Try.prog w = .ok (.enter 75 vs) w := callee Try.func75 rfl rfl
theorem callee76 : ∀ vs w, (callFunc 76 vs).run Try.prog w = .ok (.enter 76 vs) w := callee Try.func76 rfl rfl
theorem callee77 : ∀ vs w, (callFunc 77 vs).run Try.prog w = .ok (.enter 77 vs) w := callee Try.func77 rfl rfl
theorem callee78 : ∀ vs w, (callFunc 78 vs).run Try.prog w = .ok (.enter 78 vs) w := callee Try.func78 rfl rfl
theorem callee79 : ∀ vs w, (callFunc 79 vs).run Try.prog w = .ok (.enter 79 vs) w := callee Try.func79 rfl rfl
theorem callee80 : ∀ vs w, (callFunc 80 vs).run Try.prog w = .ok (.enter 80 vs) w := callee Try.func80 rfl rfl
theorem callee81 : ∀ vs w, (callFunc 81 vs).run Try.prog w = .ok (.enter 81 vs) w := callee Try.func81 rfl rfl
theorem callee82 : ∀ vs w, (callFunc 82 vs).run Try.prog w = .ok (.enter 82 vs) w := callee Try.func82 rfl rfl
theorem callee83 : ∀ vs w, (callFunc 83 vs).run Try.prog w = .ok (.enter 83 vs) w := callee Try.func83 rfl rfl
theorem callee84 : ∀ vs w, (callFunc 84 vs).run Try.prog w = .ok (.enter 84 vs) w := callee Try.func84 rfl rfl
theorem callee85 : ∀ vs w, (callFunc 85 vs).run Try.prog w = .ok (.enter 85 vs) w := callee Try.func85 rfl rfl
theorem callee86 : ∀ vs w, (callFunc 86 vs).run Try.prog w = .ok (.enter 86 vs) w := callee Try.func86 rfl rfl
theorem callee87 : ∀ vs w, (callFunc 87 vs).run Try.prog w = .ok (.enter 87 vs) w := callee Try.func87 rfl rfl
theorem callee88 : ∀ vs w, (callFunc 88 vs).run Try.prog w = .ok (.enter 88 vs) w := callee Try.func88 rfl rfl
theorem callee89 : ∀ vs w, (callFunc 89 vs).run Try.prog w = .ok (.enter 89 vs) w := callee Try.func89 rfl rfl
theorem callee90 : ∀ vs w, (callFunc 90 vs).run Try.prog w = .ok (.enter 90 vs) w := callee Try.func90 rfl rfl
theorem callee91 : ∀ vs w, (callFunc 91 vs).run Try.prog w = .ok (.enter 91 vs) w := callee Try.func91 rfl rfl
theorem callee92 : ∀ vs w, (callFunc 92 vs).run Try.prog w = .ok (.enter 92 vs) w := callee Try.func92 rfl rfl
theorem callee93 : ∀ vs w, (callFunc 93 vs).run Try.prog w = .ok (.enter 93 vs) w := callee Try.func93 rfl rfl
theorem callee94 : ∀ vs w, (callFunc 94 vs).run Try.prog w = .ok (.enter 94 vs) w := callee Try.func94 rfl rfl
theorem callee95 : ∀ vs w, (callFunc 95 vs).run Try.prog w = .ok (.enter 95 vs) w := callee Try.func95 rfl rfl

end Go.Proofs.Ytdbgkakmhlmpbaa
namespace Go.Proofs.Ytdbgkakmhlmpbaa
open Go.RowKit
set_option linter.unusedVariables false

open Go.ChangeShapes Go.WideShapes Go.ChangeAt Go.Joins
def InK (k : IntKind) (x : Int) : Prop := (Lit.int k x).wf = true
theorem inK_64 {x : Int} (h : InK .i64 x) : -9223372036854775808 ≤ x ∧ x ≤ 9223372036854775807 := by
  simpa [InK, Lit.wf, IntKind.min, IntKind.max, IntKind.signed, IntKind.bits] using h
theorem inK_u8 {x : Int} (h : InK .u8 x) : 0 ≤ x ∧ x ≤ 255 := by
  simpa [InK, Lit.wf, IntKind.min, IntKind.max, IntKind.signed, IntKind.bits] using h
def Wl {α : Type} (p : α → Prop) (xs : List α) : Prop := xs.length ≤ 9223372036854775807 ∧ ∀ x, x ∈ xs → p x
/-- cells of a type read, well formed -/
def OpC {α : Type} (P : Program) (t : TypeId) (r : R α) (p : α → Prop) : Prop :=
  ∀ (H : Type) (enc : TypeId × Value → H) (w : World) (base : Nat) (spare : Nat → Bool) (held : Bool) (fuel : Nat) (cs : List Value) (x : DataW H × List MemPlace),
    DataW.trod enc P w base spare held fuel t cs = some x → ∃ v y, v.cells.toList = cs ∧ r.rep (fun _ => False) w v y ∧ p y
section
variable {P : Program}
theorem op_int {t : TypeId} (k : IntKind) (ht : P.underlying t = some (.int k)) : OpC P t (rI k) (InK k) := fun H enc w base spare held fuel cs x h => by
  obtain ⟨n, rfl, _, hw⟩ := DataW.trod_int ht h
  exact ⟨_, n, rfl, rfl, hw⟩
theorem op_bool {t : TypeId} (ht : P.underlying t = some .bool) : OpC P t rB (fun _ => True) := fun H enc w base spare held fuel cs x h => by
  obtain ⟨n, rfl, _⟩ := DataW.trod_bool ht h
  exact ⟨_, n, rfl, rfl, trivial⟩
theorem op_string {t : TypeId} (ht : P.underlying t = some .string) : OpC P t rS (fun s => s.size ≤ 9223372036854775807) := fun H enc w base spare held fuel cs x h => by
  obtain ⟨n, rfl, _, hw⟩ := DataW.trod_string ht h
  exact ⟨_, n, rfl, rfl, by simpa [maxLen] using hw⟩
theorem choose_list {α : Type} {n : Nat} {p : Nat → α → Prop} (h : ∀ i, i < n → ∃ x, p i x) : ∃ l : List α, l.length = n ∧ ∀ i x, l[i]? = some x → p i x := by
  induction n with
  | zero => exact ⟨[], rfl, fun i x hi => by simp at hi⟩
  | succ n ih =>
    obtain ⟨l, hl, hp⟩ := ih fun i hi => h i (by omega)
    obtain ⟨x, hx⟩ := h n (by omega)
    refine ⟨l ++ [x], by simp [hl], fun i y hi => ?_⟩
    by_cases e : i < l.length
    · rw [List.getElem?_append_left e] at hi; exact hp i y hi
    · rw [List.getElem?_append_right (by omega)] at hi
      have : i - l.length = 0 := by
        have := (List.getElem?_eq_some_iff.1 hi).1
        simp at this; omega
      rw [this] at hi
      simp at hi; subst hi
      have : i = n := by omega
      subst this; exact hx
theorem op_slice {α : Type} {t e : TypeId} {r : R α} {p : α → Prop} (ht : P.underlying t = some (.slice e)) (hc : P.cellsOf e = r.sz) (he : OpC P e r p) : OpC P t (rL r) (Wl p) := fun H enc w base spare held fuel cs x h => by
  rcases Go.Deep.open_slice ht h with ⟨rfl, _⟩ | ⟨a, len, cap, m, n, D, Pl, rfl, _, hl, hm, hmm, _, hx⟩
  · exact ⟨_, [], rfl, rL_nil _ _ _, by simp, fun x hx => by simp at hx⟩
  · have hlm : len ≤ m := by rw [hmm]; split <;> omega
    obtain ⟨b, off, spot⟩ := a
    have hcell : ∀ i, i < len → ∃ vy : Value × α, (∀ j, j < r.sz → w.cell? ((⟨b, off, spot⟩ : Addr).add (i * r.sz + j)) = vy.1.cells.toList[j]?) ∧ r.rep (fun _ => False) w vy.1 vy.2 ∧ p vy.2 := fun i hi => by
      obtain ⟨cs, h1, h2⟩ := hx i (by omega)
      obtain ⟨_, h3, h4⟩ := World.cells?_some h1
      obtain ⟨v, y, h5, h6, h7⟩ := he _ _ _ _ _ _ _ _ _ h2
      refine ⟨(v, y), fun j hj => ?_, h6, h7⟩
      have := h4 j (by rw [hc]; exact hj)
      rw [Addr.add_add, hc] at this
      rw [this, h5]
    obtain ⟨l, hll, hlp⟩ := choose_list hcell
    subst hll
    have hA : All r (fun _ => False) w (l.map (·.1)) (l.map (·.2)) := ⟨by simp, fun k v x hv hx => by
      rw [List.getElem?_map] at hv hx
      cases hk : l[k]? with
      | none => rw [hk] at hv; cases hv
      | some q => rw [hk] at hv hx; simp at hv hx; subst hv hx; exact (hlp k q hk).2.1⟩
    refine ⟨.slice (some ⟨b, off, spot⟩) l.length cap, l.map (·.2), rfl, ?_, by simp [maxLen] at hm ⊢; omega, fun x hx => ?_⟩
    · refine ⟨some ⟨b, off, spot⟩, cap, l.map (·.1), by simp, by simpa using hl, by simp [maxLen] at hm ⊢; omega, hA, fun k u hu => ?_⟩
      have hsz := fun v hv => (hA.cells v hv).1
      have hk := (List.getElem?_eq_some_iff.1 hu).1
      rw [flat_length hsz] at hk
      simp only [List.length_map] at hk
      have hi : k / r.sz < l.length := Nat.div_lt_of_lt_mul (by rw [Nat.mul_comm]; exact hk)
      have hj := Nat.mod_lt k r.pos
      have hq : l[k / r.sz]? = some l[k / r.sz] := List.getElem?_eq_getElem hi
      have h1 := (hlp _ _ hq).1 (k % r.sz) hj
      have h2 := flat_get hsz (k := k / r.sz) (v := l[k / r.sz].1) (by rw [List.getElem?_map, hq]; rfl) hj
      rw [Nat.mul_comm, Nat.div_add_mod] at h1 h2
      rw [hu] at h2
      rw [← h2] at h1
      have hspot : spot = none := by
        have h0 : 0 < l.length := Nat.lt_of_le_of_lt (Nat.zero_le _) hi
        have hq0 : l[0]? = some l[0] := List.getElem?_eq_getElem h0
        have h3 := (hlp 0 _ hq0).1 0 r.pos
        have hs0 := r.size (hlp 0 _ hq0).2.1
        rw [List.getElem?_eq_getElem (by rw [Array.length_toList, hs0]; exact r.pos)] at h3
        simpa [Addr.add] using World.cell?_spot h3
      subst hspot
      rw [add_addr] at h1
      exact ⟨b, off, rfl, not_false, World.block_lt_of_cell? w _ h1, h1⟩
    · obtain ⟨q, hq, rfl⟩ := List.mem_map.1 hx
      obtain ⟨k, hk, rfl⟩ := List.getElem_of_mem hq
      exact (hlp k _ (List.getElem?_eq_getElem hk)).2.2
/-- an argument that is a slice; a struct; numbers -/
theorem top_slice {α : Type} {H : Type} {enc : TypeId × Value → H} {w : World} {base b0 : Nat} {spare : Nat → Bool} {held : Bool} {rr : Reach} {v : Value} {d : DataW H} {p : List MemPlace} {t e : TypeId} {r : R α} {q : List α → Prop} (ht : P.underlying t = some (.slice e)) (ho : OpC P t (rL r) q)
    (hv : Value.okWide P w rr b0 t v) (h : DataW.Trod enc P w base spare held t v d p) : ∃ y, (rL r).rep (fun _ => False) w v y ∧ q y := by
  obtain ⟨a, n, c, rfl⟩ := okWide_slice ht hv
  obtain ⟨fuel, hf⟩ := h
  obtain ⟨v, y, h1, h2, h3⟩ := ho _ _ _ _ _ _ _ _ _ hf
  have hs := scal_L _ _ _ _ _ h2
  rw [hs] at h1
  simp [Value.cells] at h1
  subst h1
  exact ⟨y, h2, h3⟩
theorem top_agg {α : Type} {H : Type} {enc : TypeId × Value → H} {w : World} {base b0 : Nat} {spare : Nat → Bool} {held : Bool} {rr : Reach} {v : Value} {d : DataW H} {p : List MemPlace} {t : TypeId} {fs : Array Field} {r : R α} {q : α → Prop} (ht : P.underlying t = some (.struct fs)) (hr : Aggr r) (ho : OpC P t r q)
    (hv : Value.okWide P w rr b0 t v) (h : DataW.Trod enc P w base spare held t v d p) : ∃ y, r.rep (fun _ => False) w v y ∧ q y := by
  obtain ⟨cs, rfl, hsz⟩ := okWide_struct ht hv
  obtain ⟨fuel, hf⟩ := h
  obtain ⟨v, y, h1, h2, h3⟩ := ho _ _ _ _ _ _ _ _ _ hf
  obtain ⟨ds, rfl⟩ := hr _ _ _ _ h2
  simp [Value.cells] at h1
  subst h1
  exact ⟨y, h2, h3⟩
theorem St0.start {w : World} {D : List Fact} (h : ∀ d, d ∈ D → d.p (fun _ => False) w) : St0 (fun _ => False) [] w w [] D := by
  have hE : tot (fun _ => False) [] = (fun _ => False) := by funext b; simp [tot, keysL]
  exact ⟨Chg.refl _ _, by simp, fun d hd => by rw [hE]; exact h d hd, by simp [keysL], by simp [keysL], fun _ h => h.elim⟩
theorem Chg.below {w w' : World} (h : Chg [] w w') : Below w.heap.size w w' := ⟨h.os, h.tape, h.output, h.size, fun k hk => h.block k hk (by simp)⟩
theorem len1 {α : Type} {l : List α} (h : l.length = 1) : ∃ a, l = [a] := by match l, h with | [a], _ => exact ⟨a, rfl⟩
theorem len2 {α : Type} {l : List α} (h : l.length = 2) : ∃ a b, l = [a, b] := by match l, h with | [a, b], _ => exact ⟨a, b, rfl⟩
theorem len3 {α : Type} {l : List α} (h : l.length = 3) : ∃ a b c, l = [a, b, c] := by match l, h with | [a, b, c], _ => exact ⟨a, b, c, rfl⟩
theorem len4 {α : Type} {l : List α} (h : l.length = 4) : ∃ a b c d, l = [a, b, c, d] := by match l, h with | [a, b, c, d], _ => exact ⟨a, b, c, d, rfl⟩
theorem len5 {α : Type} {l : List α} (h : l.length = 5) : ∃ a b c d e, l = [a, b, c, d, e] := by match l, h with | [a, b, c, d, e], _ => exact ⟨a, b, c, d, e, rfl⟩
theorem len6 {α : Type} {l : List α} (h : l.length = 6) : ∃ a b c d e f, l = [a, b, c, d, e, f] := by match l, h with | [a, b, c, d, e, f], _ => exact ⟨a, b, c, d, e, f, rfl⟩
end
theorem fld {α : Type} {x : Option α} {ys : List α} {i : Nat} (h : x = ys[i]?) (hi : i < ys.length) : ∃ z, x = some z := ⟨ys[i], by rw [h]; exact List.getElem?_eq_getElem hi⟩

end Go.Proofs.Ytdbgkakmhlmpbaa
namespace Go.Proofs.Ytdbgkakmhlmpbaa
open Go.RowKit
set_option linter.unusedVariables false

open Go.ChangeShapes Go.WideShapes Go.ChangeAt Go.Joins
theorem lenSx {α : Type} {l : List α} {n : Nat} (h : l.length = n + 1) : ∃ a k, l = a :: k ∧ k.length = n := by
  cases l with
  | nil => simp at h
  | cons a k => exact ⟨a, k, rfl, by simpa using h⟩
theorem len7 {α : Type} {l : List α} (h : l.length = 7) : ∃ c0 c1 c2 c3 c4 c5 c6, l = [c0, c1, c2, c3, c4, c5, c6] := by
  obtain ⟨c0, l1, rfl, h1⟩ := lenSx h
  obtain ⟨c1, l2, rfl, h2⟩ := lenSx h1
  obtain ⟨c2, l3, rfl, h3⟩ := lenSx h2
  obtain ⟨c3, l4, rfl, h4⟩ := lenSx h3
  obtain ⟨c4, l5, rfl, h5⟩ := lenSx h4
  obtain ⟨c5, l6, rfl, h6⟩ := lenSx h5
  obtain ⟨c6, l7, rfl, h7⟩ := lenSx h6
  obtain rfl := List.eq_nil_of_length_eq_zero h7
  exact ⟨c0, c1, c2, c3, c4, c5, c6, rfl⟩
theorem len8 {α : Type} {l : List α} (h : l.length = 8) : ∃ c0 c1 c2 c3 c4 c5 c6 c7, l = [c0, c1, c2, c3, c4, c5, c6, c7] := by
  obtain ⟨c0, l1, rfl, h1⟩ := lenSx h
  obtain ⟨c1, l2, rfl, h2⟩ := lenSx h1
  obtain ⟨c2, l3, rfl, h3⟩ := lenSx h2
  obtain ⟨c3, l4, rfl, h4⟩ := lenSx h3
  obtain ⟨c4, l5, rfl, h5⟩ := lenSx h4
  obtain ⟨c5, l6, rfl, h6⟩ := lenSx h5
  obtain ⟨c6, l7, rfl, h7⟩ := lenSx h6
  obtain ⟨c7, l8, rfl, h8⟩ := lenSx h7
  obtain rfl := List.eq_nil_of_length_eq_zero h8
  exact ⟨c0, c1, c2, c3, c4, c5, c6, c7, rfl⟩
theorem len11 {α : Type} {l : List α} (h : l.length = 11) : ∃ c0 c1 c2 c3 c4 c5 c6 c7 c8 c9 c10, l = [c0, c1, c2, c3, c4, c5, c6, c7, c8, c9, c10] := by
  obtain ⟨c0, l1, rfl, h1⟩ := lenSx h
  obtain ⟨c1, l2, rfl, h2⟩ := lenSx h1
  obtain ⟨c2, l3, rfl, h3⟩ := lenSx h2
  obtain ⟨c3, l4, rfl, h4⟩ := lenSx h3
  obtain ⟨c4, l5, rfl, h5⟩ := lenSx h4
  obtain ⟨c5, l6, rfl, h6⟩ := lenSx h5
  obtain ⟨c6, l7, rfl, h7⟩ := lenSx h6
  obtain ⟨c7, l8, rfl, h8⟩ := lenSx h7
  obtain ⟨c8, l9, rfl, h9⟩ := lenSx h8
  obtain ⟨c9, l10, rfl, h10⟩ := lenSx h9
  obtain ⟨c10, l11, rfl, h11⟩ := lenSx h10
  obtain rfl := List.eq_nil_of_length_eq_zero h11
  exact ⟨c0, c1, c2, c3, c4, c5, c6, c7, c8, c9, c10, rfl⟩
theorem len23 {α : Type} {l : List α} (h : l.length = 23) : ∃ c0 c1 c2 c3 c4 c5 c6 c7 c8 c9 c10 c11 c12 c13 c14 c15 c16 c17 c18 c19 c20 c21 c22, l = [c0, c1, c2, c3, c4, c5, c6, c7, c8, c9, c10, c11, c12, c13, c14, c15, c16, c17, c18, c19, c20, c21, c22] := by
  obtain ⟨c0, l1, rfl, h1⟩ := lenSx h
  obtain ⟨c1, l2, rfl, h2⟩ := lenSx h1
  obtain ⟨c2, l3, rfl, h3⟩ := lenSx h2
  obtain ⟨c3, l4, rfl, h4⟩ := lenSx h3
  obtain ⟨c4, l5, rfl, h5⟩ := lenSx h4
  obtain ⟨c5, l6, rfl, h6⟩ := lenSx h5
  obtain ⟨c6, l7, rfl, h7⟩ := lenSx h6
  obtain ⟨c7, l8, rfl, h8⟩ := lenSx h7
  obtain ⟨c8, l9, rfl, h9⟩ := lenSx h8
  obtain ⟨c9, l10, rfl, h10⟩ := lenSx h9
  obtain ⟨c10, l11, rfl, h11⟩ := lenSx h10
  obtain ⟨c11, l12, rfl, h12⟩ := lenSx h11
  obtain ⟨c12, l13, rfl, h13⟩ := lenSx h12
  obtain ⟨c13, l14, rfl, h14⟩ := lenSx h13
  obtain ⟨c14, l15, rfl, h15⟩ := lenSx h14
  obtain ⟨c15, l16, rfl, h16⟩ := lenSx h15
  obtain ⟨c16, l17, rfl, h17⟩ := lenSx h16
  obtain ⟨c17, l18, rfl, h18⟩ := lenSx h17
  obtain ⟨c18, l19, rfl, h19⟩ := lenSx h18
  obtain ⟨c19, l20, rfl, h20⟩ := lenSx h19
  obtain ⟨c20, l21, rfl, h21⟩ := lenSx h20
  obtain ⟨c21, l22, rfl, h22⟩ := lenSx h21
  obtain ⟨c22, l23, rfl, h23⟩ := lenSx h22
  obtain rfl := List.eq_nil_of_length_eq_zero h23
  exact ⟨c0, c1, c2, c3, c4, c5, c6, c7, c8, c9, c10, c11, c12, c13, c14, c15, c16, c17, c18, c19, c20, c21, c22, rfl⟩
def wf_api_Bill (x : api_Bill) : Prop := (InK .i64) x.Length ∧ (InK .i64) x.Time
theorem op_api_Bill : OpC Try.prog 23 r_api_Bill wf_api_Bill := fun H enc w base spare held fuel cs x h => by
  obtain ⟨ys, m, _, _, hl, hy, hf⟩ := DataW.trod_struct Try.underlying23 h
  obtain ⟨c0, c1, rfl⟩ := len2 (hl.trans (by kernel_rfl))
  obtain ⟨z0, f0⟩ := fld (hf 0 _ rfl) (by rw [hy]; decide)
  obtain ⟨u0, y0, k0, r0, w0⟩ := (op_int .i64 Try.underlying2) _ _ _ _ _ _ _ _ _ f0
  replace k0 : u0.cells.toList = [c0] := k0.trans (by kernel_rfl)
  obtain rfl : u0 = .int .i64 y0 := r0
  obtain rfl : Value.int .i64 y0 = c0 := by simpa [Value.cells] using k0
  obtain ⟨z1, f1⟩ := fld (hf 1 _ rfl) (by rw [hy]; decide)
  obtain ⟨u1, y1, k1, r1, w1⟩ := (op_int .i64 Try.underlying2) _ _ _ _ _ _ _ _ _ f1
  replace k1 : u1.cells.toList = [c1] := k1.trans (by kernel_rfl)
  obtain rfl : u1 = .int .i64 y1 := r1
  obtain rfl : Value.int .i64 y1 = c1 := by simpa [Value.cells] using k1
  exact ⟨_, ⟨y0, y1⟩, rfl, rfl, ⟨w0, w1⟩⟩
def wf_api_Ratio (x : api_Ratio) : Prop := (InK .i64) x.Num ∧ (InK .i64) x.Den
theorem op_api_Ratio : OpC Try.prog 25 r_api_Ratio wf_api_Ratio := fun H enc w base spare held fuel cs x h => by
  obtain ⟨ys, m, _, _, hl, hy, hf⟩ := DataW.trod_struct Try.underlying25 h
  obtain ⟨c0, c1, rfl⟩ := len2 (hl.trans (by kernel_rfl))
  obtain ⟨z0, f0⟩ := fld (hf 0 _ rfl) (by rw [hy]; decide)
  obtain ⟨u0, y0, k0, r0, w0⟩ := (op_int .i64 Try.underlying2) _ _ _ _ _ _ _ _ _ f0
  replace k0 : u0.cells.toList = [c0] := k0.trans (by kernel_rfl)
  obtain rfl : u0 = .int .i64 y0 := r0
  obtain rfl : Value.int .i64 y0 = c0 := by simpa [Value.cells] using k0
  obtain ⟨z1, f1⟩ := fld (hf 1 _ rfl) (by rw [hy]; decide)
  obtain ⟨u1, y1, k1, r1, w1⟩ := (op_int .i64 Try.underlying2) _ _ _ _ _ _ _ _ _ f1
  replace k1 : u1.cells.toList = [c1] := k1.trans (by kernel_rfl)
  obtain rfl : u1 = .int .i64 y1 := r1
  obtain rfl : Value.int .i64 y1 = c1 := by simpa [Value.cells] using k1
  exact ⟨_, ⟨y0, y1⟩, rfl, rfl, ⟨w0, w1⟩⟩
def wf_api_Count (x : api_Count) : Prop := (InK .u8) x.System ∧ wf_api_Ratio x.N
theorem op_api_Count : OpC Try.prog 27 r_api_Count wf_api_Count := fun H enc w base spare held fuel cs x h => by
  obtain ⟨ys, m, _, _, hl, hy, hf⟩ := DataW.trod_struct Try.underlying27 h
  obtain ⟨c0, c1, c2, rfl⟩ := len3 (hl.trans (by kernel_rfl))
  obtain ⟨z0, f0⟩ := fld (hf 0 _ rfl) (by rw [hy]; decide)
  obtain ⟨u0, y0, k0, r0, w0⟩ := (op_int .u8 Try.underlying5) _ _ _ _ _ _ _ _ _ f0
  replace k0 : u0.cells.toList = [c0] := k0.trans (by kernel_rfl)
  obtain rfl : u0 = .int .u8 y0 := r0
  obtain rfl : Value.int .u8 y0 = c0 := by simpa [Value.cells] using k0
  obtain ⟨z1, f1⟩ := fld (hf 1 _ rfl) (by rw [hy]; decide)
  obtain ⟨u1, y1, k1, r1, w1⟩ := op_api_Ratio _ _ _ _ _ _ _ _ _ f1
  replace k1 : u1.cells.toList = [c1, c2] := k1.trans (by kernel_rfl)
  obtain rfl : u1 = .agg #[.int .i64 y1.Num, .int .i64 y1.Den] := r1
  simp only [Value.cells, List.cons.injEq, and_true] at k1
  obtain ⟨rfl, rfl⟩ := k1
  exact ⟨_, ⟨y0, y1⟩, rfl, rfl, ⟨w0, w1⟩⟩
def wf_api_Stitch (x : api_Stitch) : Prop := (InK .u8) x.Kind ∧ (fun _ => True) x.Purl ∧ (InK .i64) x.A ∧ (InK .i64) x.B
theorem op_api_Stitch : OpC Try.prog 74 r_api_Stitch wf_api_Stitch := fun H enc w base spare held fuel cs x h => by
  obtain ⟨ys, m, _, _, hl, hy, hf⟩ := DataW.trod_struct Try.underlying74 h
  obtain ⟨c0, c1, c2, c3, rfl⟩ := len4 (hl.trans (by kernel_rfl))
  obtain ⟨z0, f0⟩ := fld (hf 0 _ rfl) (by rw [hy]; decide)
  obtain ⟨u0, y0, k0, r0, w0⟩ := (op_int .u8 Try.underlying5) _ _ _ _ _ _ _ _ _ f0
  replace k0 : u0.cells.toList = [c0] := k0.trans (by kernel_rfl)
  obtain rfl : u0 = .int .u8 y0 := r0
  obtain rfl : Value.int .u8 y0 = c0 := by simpa [Value.cells] using k0
  obtain ⟨z1, f1⟩ := fld (hf 1 _ rfl) (by rw [hy]; decide)
  obtain ⟨u1, y1, k1, r1, w1⟩ := (op_bool Try.underlying4) _ _ _ _ _ _ _ _ _ f1
  replace k1 : u1.cells.toList = [c1] := k1.trans (by kernel_rfl)
  obtain rfl : u1 = .bool y1 := r1
  obtain rfl : Value.bool y1 = c1 := by simpa [Value.cells] using k1
  obtain ⟨z2, f2⟩ := fld (hf 2 _ rfl) (by rw [hy]; decide)
  obtain ⟨u2, y2, k2, r2, w2⟩ := (op_int .i64 Try.underlying3) _ _ _ _ _ _ _ _ _ f2
  replace k2 : u2.cells.toList = [c2] := k2.trans (by kernel_rfl)
  obtain rfl : u2 = .int .i64 y2 := r2
  obtain rfl : Value.int .i64 y2 = c2 := by simpa [Value.cells] using k2
  obtain ⟨z3, f3⟩ := fld (hf 3 _ rfl) (by rw [hy]; decide)
  obtain ⟨u3, y3, k3, r3, w3⟩ := (op_int .i64 Try.underlying3) _ _ _ _ _ _ _ _ _ f3
  replace k3 : u3.cells.toList = [c3] := k3.trans (by kernel_rfl)
  obtain rfl : u3 = .int .i64 y3 := r3
  obtain rfl : Value.int .i64 y3 = c3 := by simpa [Value.cells] using k3
  exact ⟨_, ⟨y0, y1, y2, y3⟩, rfl, rfl, ⟨w0, w1, w2, w3⟩⟩
def wf_api_Row (x : api_Row) : Prop := (fun _ => True) x.Back ∧ (Wl wf_api_Stitch) x.Cells
theorem op_api_Row : OpC Try.prog 72 r_api_Row wf_api_Row := fun H enc w base spare held fuel cs x h => by
  obtain ⟨ys, m, _, _, hl, hy, hf⟩ := DataW.trod_struct Try.underlying72 h
  obtain ⟨c0, c1, rfl⟩ := len2 (hl.trans (by kernel_rfl))
  obtain ⟨z0, f0⟩ := fld (hf 0 _ rfl) (by rw [hy]; decide)
  obtain ⟨u0, y0, k0, r0, w0⟩ := (op_bool Try.underlying4) _ _ _ _ _ _ _ _ _ f0
  replace k0 : u0.cells.toList = [c0] := k0.trans (by kernel_rfl)
  obtain rfl : u0 = .bool y0 := r0
  obtain rfl : Value.bool y0 = c0 := by simpa [Value.cells] using k0
  obtain ⟨z1, f1⟩ := fld (hf 1 _ rfl) (by rw [hy]; decide)
  obtain ⟨u1, y1, k1, r1, w1⟩ := (op_slice (r := r_api_Stitch) Try.underlying70 (by kernel_rfl) op_api_Stitch) _ _ _ _ _ _ _ _ _ f1
  replace k1 : u1.cells.toList = [c1] := k1.trans (by kernel_rfl)
  rw [scal_L _ _ _ _ _ r1] at k1
  obtain rfl : u1 = c1 := by simpa using k1
  exact ⟨_, ⟨y0, y1⟩, rfl, ⟨_, rfl, r1⟩, ⟨w0, w1⟩⟩
def wf_api_Chart (x : api_Chart) : Prop := (InK .i64) x.Start ∧ (Wl wf_api_Row) x.Rows
theorem op_api_Chart : OpC Try.prog 41 r_api_Chart wf_api_Chart := fun H enc w base spare held fuel cs x h => by
  obtain ⟨ys, m, _, _, hl, hy, hf⟩ := DataW.trod_struct Try.underlying41 h
  obtain ⟨c0, c1, rfl⟩ := len2 (hl.trans (by kernel_rfl))
  obtain ⟨z0, f0⟩ := fld (hf 0 _ rfl) (by rw [hy]; decide)
  obtain ⟨u0, y0, k0, r0, w0⟩ := (op_int .i64 Try.underlying3) _ _ _ _ _ _ _ _ _ f0
  replace k0 : u0.cells.toList = [c0] := k0.trans (by kernel_rfl)
  obtain rfl : u0 = .int .i64 y0 := r0
  obtain rfl : Value.int .i64 y0 = c0 := by simpa [Value.cells] using k0
  obtain ⟨z1, f1⟩ := fld (hf 1 _ rfl) (by rw [hy]; decide)
  obtain ⟨u1, y1, k1, r1, w1⟩ := (op_slice (r := r_api_Row) Try.underlying39 (by kernel_rfl) op_api_Row) _ _ _ _ _ _ _ _ _ f1
  replace k1 : u1.cells.toList = [c1] := k1.trans (by kernel_rfl)
  rw [scal_L _ _ _ _ _ r1] at k1
  obtain rfl : u1 = c1 := by simpa using k1
  exact ⟨_, ⟨y0, y1⟩, rfl, ⟨_, rfl, r1⟩, ⟨w0, w1⟩⟩
def wf_A11_Int (x : (Int × Int × Int × Int × Int × Int × Int × Int × Int × Int × Int)) : Prop := (InK .i64) x.1 ∧ (InK .i64) x.2.1 ∧ (InK .i64) x.2.2.1 ∧ (InK .i64) x.2.2.2.1 ∧ (InK .i64) x.2.2.2.2.1 ∧ (InK .i64) x.2.2.2.2.2.1 ∧ (InK .i64) x.2.2.2.2.2.2.1 ∧ (InK .i64) x.2.2.2.2.2.2.2.1 ∧ (InK .i64) x.2.2.2.2.2.2.2.2.1 ∧ (InK .i64) x.2.2.2.2.2.2.2.2.2.1 ∧ (InK .i64) x.2.2.2.2.2.2.2.2.2.2
theorem op_A11_Int : OpC Try.prog 42 r_A11_Int wf_A11_Int := fun H enc w base spare held fuel cs x h => by
  obtain ⟨ys, m, _, _, hl, hy, hf⟩ := DataW.trod_array Try.underlying42 h
  obtain ⟨c0, c1, c2, c3, c4, c5, c6, c7, c8, c9, c10, rfl⟩ := len11 (hl.trans (by kernel_rfl))
  obtain ⟨z0, f0⟩ := fld (hf 0 (by decide)) (by rw [hy]; decide)
  obtain ⟨u0, y0, k0, r0, w0⟩ := (op_int .i64 Try.underlying3) _ _ _ _ _ _ _ _ _ f0
  replace k0 : u0.cells.toList = [c0] := k0.trans (by kernel_rfl)
  obtain rfl : u0 = .int .i64 y0 := r0
  obtain rfl : Value.int .i64 y0 = c0 := by simpa [Value.cells] using k0
  obtain ⟨z1, f1⟩ := fld (hf 1 (by decide)) (by rw [hy]; decide)
  obtain ⟨u1, y1, k1, r1, w1⟩ := (op_int .i64 Try.underlying3) _ _ _ _ _ _ _ _ _ f1
  replace k1 : u1.cells.toList = [c1] := k1.trans (by kernel_rfl)
  obtain rfl : u1 = .int .i64 y1 := r1
  obtain rfl : Value.int .i64 y1 = c1 := by simpa [Value.cells] using k1
  obtain ⟨z2, f2⟩ := fld (hf 2 (by decide)) (by rw [hy]; decide)
  obtain ⟨u2, y2, k2, r2, w2⟩ := (op_int .i64 Try.underlying3) _ _ _ _ _ _ _ _ _ f2
  replace k2 : u2.cells.toList = [c2] := k2.trans (by kernel_rfl)
  obtain rfl : u2 = .int .i64 y2 := r2
  obtain rfl : Value.int .i64 y2 = c2 := by simpa [Value.cells] using k2
  obtain ⟨z3, f3⟩ := fld (hf 3 (by decide)) (by rw [hy]; decide)
  obtain ⟨u3, y3, k3, r3, w3⟩ := (op_int .i64 Try.underlying3) _ _ _ _ _ _ _ _ _ f3
  replace k3 : u3.cells.toList = [c3] := k3.trans (by kernel_rfl)
  obtain rfl : u3 = .int .i64 y3 := r3
  obtain rfl : Value.int .i64 y3 = c3 := by simpa [Value.cells] using k3
  obtain ⟨z4, f4⟩ := fld (hf 4 (by decide)) (by rw [hy]; decide)
  obtain ⟨u4, y4, k4, r4, w4⟩ := (op_int .i64 Try.underlying3) _ _ _ _ _ _ _ _ _ f4
  replace k4 : u4.cells.toList = [c4] := k4.trans (by kernel_rfl)
  obtain rfl : u4 = .int .i64 y4 := r4
  obtain rfl : Value.int .i64 y4 = c4 := by simpa [Value.cells] using k4
  obtain ⟨z5, f5⟩ := fld (hf 5 (by decide)) (by rw [hy]; decide)
  obtain ⟨u5, y5, k5, r5, w5⟩ := (op_int .i64 Try.underlying3) _ _ _ _ _ _ _ _ _ f5
  replace k5 : u5.cells.toList = [c5] := k5.trans (by kernel_rfl)
  obtain rfl : u5 = .int .i64 y5 := r5
  obtain rfl : Value.int .i64 y5 = c5 := by simpa [Value.cells] using k5
  obtain ⟨z6, f6⟩ := fld (hf 6 (by decide)) (by rw [hy]; decide)
  obtain ⟨u6, y6, k6, r6, w6⟩ := (op_int .i64 Try.underlying3) _ _ _ _ _ _ _ _ _ f6
  replace k6 : u6.cells.toList = [c6] := k6.trans (by kernel_rfl)
  obtain rfl : u6 = .int .i64 y6 := r6
  obtain rfl : Value.int .i64 y6 = c6 := by simpa [Value.cells] using k6
  obtain ⟨z7, f7⟩ := fld (hf 7 (by decide)) (by rw [hy]; decide)
  obtain ⟨u7, y7, k7, r7, w7⟩ := (op_int .i64 Try.underlying3) _ _ _ _ _ _ _ _ _ f7
  replace k7 : u7.cells.toList = [c7] := k7.trans (by kernel_rfl)
  obtain rfl : u7 = .int .i64 y7 := r7
  obtain rfl : Value.int .i64 y7 = c7 := by simpa [Value.cells] using k7
  obtain ⟨z8, f8⟩ := fld (hf 8 (by decide)) (by rw [hy]; decide)
  obtain ⟨u8, y8, k8, r8, w8⟩ := (op_int .i64 Try.underlying3) _ _ _ _ _ _ _ _ _ f8
  replace k8 : u8.cells.toList = [c8] := k8.trans (by kernel_rfl)
  obtain rfl : u8 = .int .i64 y8 := r8
  obtain rfl : Value.int .i64 y8 = c8 := by simpa [Value.cells] using k8
  obtain ⟨z9, f9⟩ := fld (hf 9 (by decide)) (by rw [hy]; decide)
  obtain ⟨u9, y9, k9, r9, w9⟩ := (op_int .i64 Try.underlying3) _ _ _ _ _ _ _ _ _ f9
  replace k9 : u9.cells.toList = [c9] := k9.trans (by kernel_rfl)
  obtain rfl : u9 = .int .i64 y9 := r9
  obtain rfl : Value.int .i64 y9 = c9 := by simpa [Value.cells] using k9
  obtain ⟨z10, f10⟩ := fld (hf 10 (by decide)) (by rw [hy]; decide)
  obtain ⟨u10, y10, k10, r10, w10⟩ := (op_int .i64 Try.underlying3) _ _ _ _ _ _ _ _ _ f10
  replace k10 : u10.cells.toList = [c10] := k10.trans (by kernel_rfl)
  obtain rfl : u10 = .int .i64 y10 := r10
  obtain rfl : Value.int .i64 y10 = c10 := by simpa [Value.cells] using k10
  exact ⟨_, (y0, y1, y2, y3, y4, y5, y6, y7, y8, y9, y10), rfl, rfl, ⟨w0, w1, w2, w3, w4, w5, w6, w7, w8, w9, w10⟩⟩
def wf_api_Rates (x : api_Rates) : Prop := wf_A11_Int x.Length ∧ wf_A11_Int x.Time ∧ (InK .i64) x.Turn
theorem op_api_Rates : OpC Try.prog 44 r_api_Rates wf_api_Rates := fun H enc w base spare held fuel cs x h => by
  obtain ⟨ys, m, _, _, hl, hy, hf⟩ := DataW.trod_struct Try.underlying44 h
  obtain ⟨c0, c1, c2, c3, c4, c5, c6, c7, c8, c9, c10, c11, c12, c13, c14, c15, c16, c17, c18, c19, c20, c21, c22, rfl⟩ := len23 (hl.trans (by kernel_rfl))
  obtain ⟨z0, f0⟩ := fld (hf 0 _ rfl) (by rw [hy]; decide)
  obtain ⟨u0, y0, k0, r0, w0⟩ := op_A11_Int _ _ _ _ _ _ _ _ _ f0
  replace k0 : u0.cells.toList = [c0, c1, c2, c3, c4, c5, c6, c7, c8, c9, c10] := k0.trans (by kernel_rfl)
  obtain rfl : u0 = .agg #[.int .i64 y0.1, .int .i64 y0.2.1, .int .i64 y0.2.2.1, .int .i64 y0.2.2.2.1, .int .i64 y0.2.2.2.2.1, .int .i64 y0.2.2.2.2.2.1, .int .i64 y0.2.2.2.2.2.2.1, .int .i64 y0.2.2.2.2.2.2.2.1, .int .i64 y0.2.2.2.2.2.2.2.2.1, .int .i64 y0.2.2.2.2.2.2.2.2.2.1, .int .i64 y0.2.2.2.2.2.2.2.2.2.2] := r0
  simp only [Value.cells, List.cons.injEq, and_true] at k0
  obtain ⟨rfl, rfl, rfl, rfl, rfl, rfl, rfl, rfl, rfl, rfl, rfl⟩ := k0
  obtain ⟨z1, f1⟩ := fld (hf 1 _ rfl) (by rw [hy]; decide)
  obtain ⟨u1, y1, k1, r1, w1⟩ := op_A11_Int _ _ _ _ _ _ _ _ _ f1
  replace k1 : u1.cells.toList = [c11, c12, c13, c14, c15, c16, c17, c18, c19, c20, c21] := k1.trans (by kernel_rfl)
  obtain rfl : u1 = .agg #[.int .i64 y1.1, .int .i64 y1.2.1, .int .i64 y1.2.2.1, .int .i64 y1.2.2.2.1, .int .i64 y1.2.2.2.2.1, .int .i64 y1.2.2.2.2.2.1, .int .i64 y1.2.2.2.2.2.2.1, .int .i64 y1.2.2.2.2.2.2.2.1, .int .i64 y1.2.2.2.2.2.2.2.2.1, .int .i64 y1.2.2.2.2.2.2.2.2.2.1, .int .i64 y1.2.2.2.2.2.2.2.2.2.2] := r1
  simp only [Value.cells, List.cons.injEq, and_true] at k1
  obtain ⟨rfl, rfl, rfl, rfl, rfl, rfl, rfl, rfl, rfl, rfl, rfl⟩ := k1
  obtain ⟨z2, f2⟩ := fld (hf 2 _ rfl) (by rw [hy]; decide)
  obtain ⟨u2, y2, k2, r2, w2⟩ := (op_int .i64 Try.underlying3) _ _ _ _ _ _ _ _ _ f2
  replace k2 : u2.cells.toList = [c22] := k2.trans (by kernel_rfl)
  obtain rfl : u2 = .int .i64 y2 := r2
  obtain rfl : Value.int .i64 y2 = c22 := by simpa [Value.cells] using k2
  exact ⟨_, ⟨y0, y1, y2⟩, rfl, rfl, ⟨w0, w1, w2⟩⟩
def wf_chart_count (x : chart_count) : Prop := (InK .i64) x.before ∧ (InK .i64) x.after ∧ (InK .i64) x.e
theorem op_chart_count : OpC Try.prog 120 r_chart_count wf_chart_count := fun H enc w base spare held fuel cs x h => by
  obtain ⟨ys, m, _, _, hl, hy, hf⟩ := DataW.trod_struct Try.underlying120 h
  obtain ⟨c0, c1, c2, rfl⟩ := len3 (hl.trans (by kernel_rfl))
  obtain ⟨z0, f0⟩ := fld (hf 0 _ rfl) (by rw [hy]; decide)
  obtain ⟨u0, y0, k0, r0, w0⟩ := (op_int .i64 Try.underlying3) _ _ _ _ _ _ _ _ _ f0
  replace k0 : u0.cells.toList = [c0] := k0.trans (by kernel_rfl)
  obtain rfl : u0 = .int .i64 y0 := r0
  obtain rfl : Value.int .i64 y0 = c0 := by simpa [Value.cells] using k0
  obtain ⟨z1, f1⟩ := fld (hf 1 _ rfl) (by rw [hy]; decide)
  obtain ⟨u1, y1, k1, r1, w1⟩ := (op_int .i64 Try.underlying3) _ _ _ _ _ _ _ _ _ f1
  replace k1 : u1.cells.toList = [c1] := k1.trans (by kernel_rfl)
  obtain rfl : u1 = .int .i64 y1 := r1
  obtain rfl : Value.int .i64 y1 = c1 := by simpa [Value.cells] using k1
  obtain ⟨z2, f2⟩ := fld (hf 2 _ rfl) (by rw [hy]; decide)
  obtain ⟨u2, y2, k2, r2, w2⟩ := (op_int .i64 Try.underlying28) _ _ _ _ _ _ _ _ _ f2
  replace k2 : u2.cells.toList = [c2] := k2.trans (by kernel_rfl)
  obtain rfl : u2 = .int .i64 y2 := r2
  obtain rfl : Value.int .i64 y2 = c2 := by simpa [Value.cells] using k2
  exact ⟨_, ⟨y0, y1, y2⟩, rfl, rfl, ⟨w0, w1, w2⟩⟩
def wf_A2_Int (x : (Int × Int)) : Prop := (InK .i64) x.1 ∧ (InK .i64) x.2
theorem op_A2_Int : OpC Try.prog 130 r_A2_Int wf_A2_Int := fun H enc w base spare held fuel cs x h => by
  obtain ⟨ys, m, _, _, hl, hy, hf⟩ := DataW.trod_array Try.underlying130 h
  obtain ⟨c0, c1, rfl⟩ := len2 (hl.trans (by kernel_rfl))
  obtain ⟨z0, f0⟩ := fld (hf 0 (by decide)) (by rw [hy]; decide)
  obtain ⟨u0, y0, k0, r0, w0⟩ := (op_int .i64 Try.underlying3) _ _ _ _ _ _ _ _ _ f0
  replace k0 : u0.cells.toList = [c0] := k0.trans (by kernel_rfl)
  obtain rfl : u0 = .int .i64 y0 := r0
  obtain rfl : Value.int .i64 y0 = c0 := by simpa [Value.cells] using k0
  obtain ⟨z1, f1⟩ := fld (hf 1 (by decide)) (by rw [hy]; decide)
  obtain ⟨u1, y1, k1, r1, w1⟩ := (op_int .i64 Try.underlying3) _ _ _ _ _ _ _ _ _ f1
  replace k1 : u1.cells.toList = [c1] := k1.trans (by kernel_rfl)
  obtain rfl : u1 = .int .i64 y1 := r1
  obtain rfl : Value.int .i64 y1 = c1 := by simpa [Value.cells] using k1
  exact ⟨_, (y0, y1), rfl, rfl, ⟨w0, w1⟩⟩
def wf_stitch_form (x : stitch_form) : Prop := (fun s => s.size ≤ 9223372036854775807) x.letter ∧ wf_A2_Int x.a ∧ wf_A2_Int x.b ∧ (fun _ => True) x.sided ∧ (InK .i64) x.uses ∧ (InK .i64) x.made
theorem op_stitch_form : OpC Try.prog 132 r_stitch_form wf_stitch_form := fun H enc w base spare held fuel cs x h => by
  obtain ⟨ys, m, _, _, hl, hy, hf⟩ := DataW.trod_struct Try.underlying132 h
  obtain ⟨c0, c1, c2, c3, c4, c5, c6, c7, rfl⟩ := len8 (hl.trans (by kernel_rfl))
  obtain ⟨z0, f0⟩ := fld (hf 0 _ rfl) (by rw [hy]; decide)
  obtain ⟨u0, y0, k0, r0, w0⟩ := (op_string Try.underlying9) _ _ _ _ _ _ _ _ _ f0
  replace k0 : u0.cells.toList = [c0] := k0.trans (by kernel_rfl)
  obtain rfl : u0 = .string y0 := r0
  obtain rfl : Value.string y0 = c0 := by simpa [Value.cells] using k0
  obtain ⟨z1, f1⟩ := fld (hf 1 _ rfl) (by rw [hy]; decide)
  obtain ⟨u1, y1, k1, r1, w1⟩ := op_A2_Int _ _ _ _ _ _ _ _ _ f1
  replace k1 : u1.cells.toList = [c1, c2] := k1.trans (by kernel_rfl)
  obtain rfl : u1 = .agg #[.int .i64 y1.1, .int .i64 y1.2] := r1
  simp only [Value.cells, List.cons.injEq, and_true] at k1
  obtain ⟨rfl, rfl⟩ := k1
  obtain ⟨z2, f2⟩ := fld (hf 2 _ rfl) (by rw [hy]; decide)
  obtain ⟨u2, y2, k2, r2, w2⟩ := op_A2_Int _ _ _ _ _ _ _ _ _ f2
  replace k2 : u2.cells.toList = [c3, c4] := k2.trans (by kernel_rfl)
  obtain rfl : u2 = .agg #[.int .i64 y2.1, .int .i64 y2.2] := r2
  simp only [Value.cells, List.cons.injEq, and_true] at k2
  obtain ⟨rfl, rfl⟩ := k2
  obtain ⟨z3, f3⟩ := fld (hf 3 _ rfl) (by rw [hy]; decide)
  obtain ⟨u3, y3, k3, r3, w3⟩ := (op_bool Try.underlying4) _ _ _ _ _ _ _ _ _ f3
  replace k3 : u3.cells.toList = [c5] := k3.trans (by kernel_rfl)
  obtain rfl : u3 = .bool y3 := r3
  obtain rfl : Value.bool y3 = c5 := by simpa [Value.cells] using k3
  obtain ⟨z4, f4⟩ := fld (hf 4 _ rfl) (by rw [hy]; decide)
  obtain ⟨u4, y4, k4, r4, w4⟩ := (op_int .i64 Try.underlying3) _ _ _ _ _ _ _ _ _ f4
  replace k4 : u4.cells.toList = [c6] := k4.trans (by kernel_rfl)
  obtain rfl : u4 = .int .i64 y4 := r4
  obtain rfl : Value.int .i64 y4 = c6 := by simpa [Value.cells] using k4
  obtain ⟨z5, f5⟩ := fld (hf 5 _ rfl) (by rw [hy]; decide)
  obtain ⟨u5, y5, k5, r5, w5⟩ := (op_int .i64 Try.underlying3) _ _ _ _ _ _ _ _ _ f5
  replace k5 : u5.cells.toList = [c7] := k5.trans (by kernel_rfl)
  obtain rfl : u5 = .int .i64 y5 := r5
  obtain rfl : Value.int .i64 y5 = c7 := by simpa [Value.cells] using k5
  exact ⟨_, ⟨y0, y1, y2, y3, y4, y5⟩, rfl, rfl, ⟨w0, w1, w2, w3, w4, w5⟩⟩
def wf_yarn_calc (x : yarn_calc) : Prop := wf_api_Ratio x.a ∧ wf_api_Ratio x.b ∧ wf_api_Ratio x.out ∧ (InK .i64) x.e
theorem op_yarn_calc : OpC Try.prog 137 r_yarn_calc wf_yarn_calc := fun H enc w base spare held fuel cs x h => by
  obtain ⟨ys, m, _, _, hl, hy, hf⟩ := DataW.trod_struct Try.underlying137 h
  obtain ⟨c0, c1, c2, c3, c4, c5, c6, rfl⟩ := len7 (hl.trans (by kernel_rfl))
  obtain ⟨z0, f0⟩ := fld (hf 0 _ rfl) (by rw [hy]; decide)
  obtain ⟨u0, y0, k0, r0, w0⟩ := op_api_Ratio _ _ _ _ _ _ _ _ _ f0
  replace k0 : u0.cells.toList = [c0, c1] := k0.trans (by kernel_rfl)
  obtain rfl : u0 = .agg #[.int .i64 y0.Num, .int .i64 y0.Den] := r0
  simp only [Value.cells, List.cons.injEq, and_true] at k0
  obtain ⟨rfl, rfl⟩ := k0
  obtain ⟨z1, f1⟩ := fld (hf 1 _ rfl) (by rw [hy]; decide)
  obtain ⟨u1, y1, k1, r1, w1⟩ := op_api_Ratio _ _ _ _ _ _ _ _ _ f1
  replace k1 : u1.cells.toList = [c2, c3] := k1.trans (by kernel_rfl)
  obtain rfl : u1 = .agg #[.int .i64 y1.Num, .int .i64 y1.Den] := r1
  simp only [Value.cells, List.cons.injEq, and_true] at k1
  obtain ⟨rfl, rfl⟩ := k1
  obtain ⟨z2, f2⟩ := fld (hf 2 _ rfl) (by rw [hy]; decide)
  obtain ⟨u2, y2, k2, r2, w2⟩ := op_api_Ratio _ _ _ _ _ _ _ _ _ f2
  replace k2 : u2.cells.toList = [c4, c5] := k2.trans (by kernel_rfl)
  obtain rfl : u2 = .agg #[.int .i64 y2.Num, .int .i64 y2.Den] := r2
  simp only [Value.cells, List.cons.injEq, and_true] at k2
  obtain ⟨rfl, rfl⟩ := k2
  obtain ⟨z3, f3⟩ := fld (hf 3 _ rfl) (by rw [hy]; decide)
  obtain ⟨u3, y3, k3, r3, w3⟩ := (op_int .i64 Try.underlying28) _ _ _ _ _ _ _ _ _ f3
  replace k3 : u3.cells.toList = [c6] := k3.trans (by kernel_rfl)
  obtain rfl : u3 = .int .i64 y3 := r3
  obtain rfl : Value.int .i64 y3 = c6 := by simpa [Value.cells] using k3
  exact ⟨_, ⟨y0, y1, y2, y3⟩, rfl, rfl, ⟨w0, w1, w2, w3⟩⟩

end Go.Proofs.Ytdbgkakmhlmpbaa
namespace Go.Proofs.Ytdbgkakmhlmpbaa
open Go.RowKit
set_option linter.unusedVariables false

def Le {α : Type} (a b : Option α) : Prop := ∀ r, a = some r → b = some r
theorem Le.rfl {α : Type} (a : Option α) : Le a a := fun _ h => h
theorem Le.bind {α β : Type} {a b : Option α} {f g : α → Option β} (h : Le a b) (hf : ∀ x, Le (f x) (g x)) : Le (Option.bind a f) (Option.bind b g) := by
  intro r hr
  cases ha : a with
  | none => rw [ha] at hr; cases hr
  | some x =>
    rw [ha] at hr
    rw [h x ha]
    exact hf x r hr
theorem Le.ite {α : Type} {c : Prop} [Decidable c] {a b a' b' : Option α} (h : Le a b) (h' : Le a' b') : Le (if c then a else a') (if c then b else b') := by
  by_cases hc : c
  · rw [if_pos hc, if_pos hc]; exact h
  · rw [if_neg hc, if_neg hc]; exact h'
theorem Le.sum {α β γ : Type} {f g : α ⊕ β → Option γ} (h : ∀ a, Le (f (.inl a)) (g (.inl a))) (h' : ∀ b, Le (f (.inr b)) (g (.inr b))) : ∀ z, Le (f z) (g z)
  | .inl a => h a
  | .inr b => h' b
theorem Le.prod {α β γ : Type} {f g : α × β → Option γ} (h : ∀ a b, Le (f (a, b)) (g (a, b))) : ∀ z, Le (f z) (g z)
  | (a, b) => h a b
theorem iterO_Le {σ τ : Type} {B B' : σ → Option (σ ⊕ τ)} (h : ∀ s, Le (B s) (B' s)) : ∀ (n : Nat) (s : σ), Le (iterO B n s) (iterO B' n s) := by
  intro n
  induction n with
  | zero => intro s r hr; cases hr
  | succ n ih =>
    intro s r hr
    unfold iterO at hr ⊢
    cases hB : B s with
    | none => rw [hB] at hr; cases hr
    | some x =>
      rw [hB] at hr
      rw [h s x hB]
      cases x with
      | inl s' => exact ih s' r hr
      | inr t => exact hr
def whileK {σ τ : Type} (B : σ → Option (σ ⊕ τ)) (s : σ) : Option τ := iterO B 1000000 s
theorem Le.loop {σ τ : Type} {B B' : σ → Option (σ ⊕ τ)} (s : σ) (h : ∀ s, Le (B s) (B' s)) : Le (whileK B s) (whileO B' s) :=
  fun r hr => whileO_of (iterO_Le h 1000000 s r hr)

end Go.Proofs.Ytdbgkakmhlmpbaa
namespace Go.Proofs.Ytdbgkakmhlmpbaa
open Go.RowKit
set_option linter.unusedVariables false

noncomputable def F_yarn_factors (p0 : Int) : Option (Int × Int × Bool × Bool) :=
  if p0 == 1 then
    some (1, 1, true, true)
  else
    if p0 == 2 then
      some (1, 9, true, true)
    else
      if p0 == 3 then
        some (1000, 1, false, true)
      else
        if p0 == 4 then
          some (226796185, 384048, false, true)
        else
          some (0, 0, false, false)
set_option maxHeartbeats 4000000 in
set_option maxRecDepth 100000 in
theorem c_yarn_factors (E : Nat → Prop) (w0 : World) (p0 : Int) (r : (Int × Int × Bool × Bool)) (h : F_yarn_factors p0 = some r) (S : St0 E [] w0 w0 [] []) :
    Calls Try.prog 79 #[.int .u8 p0] w0 (Ret (X := Unit) E [] w0 (fun _ => .tuple #[.int .i64 r.1, .int .i64 r.2.1, .bool r.2.2.1, .bool r.2.2.2]) (fun _ => []) (fun _ => [])) := by
  unfold F_yarn_factors at h
  refine sEnter (args := [.int .u8 p0]) 15 Try.func79 rfl rfl (by simp) S (fun a S => ?_)
  refine sSeq (fun K1 hK1 => ?_)
  refine sRegion ?_
  refine sMove (iv 0) S (wN rfl) (.inr rfl) rfl rfl (lb rfl) fun a S => ?_
  refine sMove (iv 0) S (wN rfl) (.inr rfl) rfl rfl (lb rfl) fun a S => ?_
  refine sMove (.bool false) S (wN rfl) (.inr rfl) rfl rfl (lb rfl) fun a S => ?_
  refine sMove (.bool false) S (wN rfl) (.inr rfl) rfl rfl (lb rfl) fun a S => ?_
  refine leafL (leafT (hK1 _ _ ?_))
  refine sSeq (fun K2 hK2 => ?_)
  refine sSeq (fun K3 hK3 => ?_)
  refine sRegion ?_
  refine sMove (.int .u8 p0) S (wN rfl) (.inl rfl) rfl rfl (lb rfl) fun a S => ?_
  refine leafL (leafT (hK3 _ _ ?_))
  refine wp_block ?_
  refine sSeq (fun K4 hK4 => ?_)
  refine sRegion ?_
  refine sBin (.bool (p0 == 1)) S (wN rfl) rfl rfl rfl (bEq _ _ _ _ .u8 p0 1) rfl (lb rfl) fun a S => ?_
  refine sMove (.bool (p0 == 1)) S (wN rfl) (.inr rfl) rfl rfl (lb rfl) fun a S => ?_
  refine leafL (leafT (hK4 _ _ ?_))
  rcases iteSome h with ⟨hc5, h⟩ | ⟨hc5, h⟩
  · refine sCondT S rfl hc5 ?_
    refine sSeq (fun K6 hK6 => ?_)
    refine sRegion ?_
    refine sMove (iv 1) S (wN rfl) (.inr rfl) rfl rfl (lb rfl) fun a S => ?_
    refine sMove (iv 1) S (wN rfl) (.inr rfl) rfl rfl (lb rfl) fun a S => ?_
    refine sMove (.bool true) S (wN rfl) (.inr rfl) rfl rfl (lb rfl) fun a S => ?_
    refine sMove (.bool true) S (wN rfl) (.inr rfl) rfl rfl (lb rfl) fun a S => ?_
    refine leafL (leafT (hK6 _ _ ?_))
    obtain rfl := Option.some.inj h
    exact wp_ret (rBlock (rThen (sRet (.tuple #[iv 1, iv 1, .bool true, .bool true]) S (rsl4 rfl (rvT (t := 2) (v := iv 1) S rfl) (rvT (t := 3) (v := iv 1) S rfl) (rvT (t := 4) (v := .bool true) S rfl) (rvT (t := 5) (v := .bool true) S rfl)) ⟨(), rfl, S.mem.sel [] [] (by decide) rfl rfl⟩)))
  refine sCondF S rfl hc5 ?_
  refine sSeq (fun K7 hK7 => ?_)
  refine sRegion ?_
  refine sBin (.bool (p0 == 2)) S (wN rfl) rfl rfl rfl (bEq _ _ _ _ .u8 p0 2) rfl (lb rfl) fun a S => ?_
  refine sMove (.bool (p0 == 2)) S (wN rfl) (.inr rfl) rfl rfl (lb rfl) fun a S => ?_
  refine leafL (leafT (hK7 _ _ ?_))
  rcases iteSome h with ⟨hc8, h⟩ | ⟨hc8, h⟩
  · refine sCondT S rfl hc8 ?_
    refine sSeq (fun K9 hK9 => ?_)
    refine sRegion ?_
    refine sMove (iv 1) S (wN rfl) (.inr rfl) rfl rfl (lb rfl) fun a S => ?_
    refine sMove (iv 9) S (wN rfl) (.inr rfl) rfl rfl (lb rfl) fun a S => ?_
    refine sMove (.bool true) S (wN rfl) (.inr rfl) rfl rfl (lb rfl) fun a S => ?_
    refine sMove (.bool true) S (wN rfl) (.inr rfl) rfl rfl (lb rfl) fun a S => ?_
    refine leafL (leafT (hK9 _ _ ?_))
    obtain rfl := Option.some.inj h
    exact wp_ret (rBlock (rThen (sRet (.tuple #[iv 1, iv 9, .bool true, .bool true]) S (rsl4 rfl (rvT (t := 2) (v := iv 1) S rfl) (rvT (t := 3) (v := iv 9) S rfl) (rvT (t := 4) (v := .bool true) S rfl) (rvT (t := 5) (v := .bool true) S rfl)) ⟨(), rfl, S.mem.sel [] [] (by decide) rfl rfl⟩)))
  refine sCondF S rfl hc8 ?_
  refine sSeq (fun K10 hK10 => ?_)
  refine sRegion ?_
  refine sBin (.bool (p0 == 3)) S (wN rfl) rfl rfl rfl (bEq _ _ _ _ .u8 p0 3) rfl (lb rfl) fun a S => ?_
  refine sMove (.bool (p0 == 3)) S (wN rfl) (.inr rfl) rfl rfl (lb rfl) fun a S => ?_
  refine leafL (leafT (hK10 _ _ ?_))
  rcases iteSome h with ⟨hc11, h⟩ | ⟨hc11, h⟩
  · refine sCondT S rfl hc11 ?_
    refine sSeq (fun K12 hK12 => ?_)
    refine sRegion ?_
    refine sMove (iv 1000) S (wN rfl) (.inr rfl) rfl rfl (lb rfl) fun a S => ?_
    refine sMove (iv 1) S (wN rfl) (.inr rfl) rfl rfl (lb rfl) fun a S => ?_
    refine sMove (.bool false) S (wN rfl) (.inr rfl) rfl rfl (lb rfl) fun a S => ?_
    refine sMove (.bool true) S (wN rfl) (.inr rfl) rfl rfl (lb rfl) fun a S => ?_
    refine leafL (leafT (hK12 _ _ ?_))
    obtain rfl := Option.some.inj h
    exact wp_ret (rBlock (rThen (sRet (.tuple #[iv 1000, iv 1, .bool false, .bool true]) S (rsl4 rfl (rvT (t := 2) (v := iv 1000) S rfl) (rvT (t := 3) (v := iv 1) S rfl) (rvT (t := 4) (v := .bool false) S rfl) (rvT (t := 5) (v := .bool true) S rfl)) ⟨(), rfl, S.mem.sel [] [] (by decide) rfl rfl⟩)))
  refine sCondF S rfl hc11 ?_
  refine sSeq (fun K13 hK13 => ?_)
  refine sRegion ?_
  refine sBin (.bool (p0 == 4)) S (wN rfl) rfl rfl rfl (bEq _ _ _ _ .u8 p0 4) rfl (lb rfl) fun a S => ?_
  refine sMove (.bool (p0 == 4)) S (wN rfl) (.inr rfl) rfl rfl (lb rfl) fun a S => ?_
  refine leafL (leafT (hK13 _ _ ?_))
  rcases iteSome h with ⟨hc14, h⟩ | ⟨hc14, h⟩
  rotate_left
  · refine sCondF S rfl hc14 ?_
    refine wp_skip (leafB (leafT (hK2 _ _ ?_)))
    refine sSeq (fun K16 hK16 => ?_)
    refine sRegion ?_
    refine sMove (iv 0) S (wN rfl) (.inr rfl) rfl rfl (lb rfl) fun a S => ?_
    refine sMove (iv 0) S (wN rfl) (.inr rfl) rfl rfl (lb rfl) fun a S => ?_
    refine sMove (.bool false) S (wN rfl) (.inr rfl) rfl rfl (lb rfl) fun a S => ?_
    refine sMove (.bool false) S (wN rfl) (.inr rfl) rfl rfl (lb rfl) fun a S => ?_
    refine leafL (leafT (hK16 _ _ ?_))
    obtain rfl := Option.some.inj h
    exact wp_ret (sRet (.tuple #[iv 0, iv 0, .bool false, .bool false]) S (rsl4 rfl (rvT (t := 2) (v := iv 0) S rfl) (rvT (t := 3) (v := iv 0) S rfl) (rvT (t := 4) (v := .bool false) S rfl) (rvT (t := 5) (v := .bool false) S rfl)) ⟨(), rfl, S.mem.sel [] [] (by decide) rfl rfl⟩)
  refine sCondT S rfl hc14 ?_
  refine sSeq (fun K15 hK15 => ?_)
  refine sRegion ?_
  refine sMove (iv 226796185) S (wN rfl) (.inr rfl) rfl rfl (lb rfl) fun a S => ?_
  refine sMove (iv 384048) S (wN rfl) (.inr rfl) rfl rfl (lb rfl) fun a S => ?_
  refine sMove (.bool false) S (wN rfl) (.inr rfl) rfl rfl (lb rfl) fun a S => ?_
  refine sMove (.bool true) S (wN rfl) (.inr rfl) rfl rfl (lb rfl) fun a S => ?_
  refine leafL (leafT (hK15 _ _ ?_))
  obtain rfl := Option.some.inj h
  exact wp_ret (rBlock (rThen (sRet (.tuple #[iv 226796185, iv 384048, .bool false, .bool true]) S (rsl4 rfl (rvT (t := 2) (v := iv 226796185) S rfl) (rvT (t := 3) (v := iv 384048) S rfl) (rvT (t := 4) (v := .bool false) S rfl) (rvT (t := 5) (v := .bool true) S rfl)) ⟨(), rfl, S.mem.sel [] [] (by decide) rfl rfl⟩)))

end Go.Proofs.Ytdbgkakmhlmpbaa
namespace Go.Proofs.Ytdbgkakmhlmpbaa
open Go.RowKit
set_option linter.unusedVariables false

noncomputable def yarn_gcd_l1  : (Int × Int) → Option ((Int × Int) ⊕ Int) := fun s0 => match s0 with
  | (s5, s6) =>
    if s6 != 0 then
      Option.bind (remI s5 s6) fun z14 =>
      some (.inl (s6, z14))
    else
      some (.inr s5)
noncomputable def F_yarn_gcd (p0 : Int) (p1 : Int) : Option Int :=
  Option.bind (α := Int) (
    Option.bind (whileO (yarn_gcd_l1) (p0, p1)) fun e10 =>
      some e10) fun o2 =>
  some o2
set_option maxHeartbeats 4000000 in
set_option maxRecDepth 100000 in
theorem c_yarn_gcd (E : Nat → Prop) (w0 : World) (p0 : Int) (p1 : Int) (r : Int) (h : F_yarn_gcd p0 p1 = some r) (S : St0 E [] w0 w0 [] []) :
    Calls Try.prog 81 #[.int .u64 p0, .int .u64 p1] w0 (Ret (X := Unit) E [] w0 (fun _ => .int .u64 r) (fun _ => []) (fun _ => [])) := by
  unfold F_yarn_gcd at h
  refine sEnter (args := [.int .u64 p0, .int .u64 p1]) 12 Try.func81 rfl rfl (by simp) S (fun a S => ?_)
  refine sSeq (fun K1 hK1 => ?_)
  refine sRegion ?_
  refine sMove (.int .u64 0) S (wN rfl) (.inr rfl) rfl rfl (lb rfl) fun a S => ?_
  refine leafL (leafT (hK1 _ _ ?_))
  obtain ⟨t3, h, g4⟩ := bindSome h
  refine sCut (fun a w => ∃ o2, o2 = t3 ∧ St [] E [] w0 12 a w [(0, .int .u64 o2)] [] []) ?_ (fun a w hI => ?_)
  rotate_left
  · obtain ⟨o2, rfl, S⟩ := hI
    have h := g4
    clear g4
    try dsimp only at h
    refine sSeq (fun K16 hK16 => ?_)
    refine sRegion ?_
    refine sMove (.int .u64 o2) S (wN rfl) (.inl rfl) rfl rfl (lb rfl) fun a S => ?_
    refine sMove (.int .u64 o2) S (wN rfl) (.inr rfl) rfl rfl (lb rfl) fun a S => ?_
    refine leafL (leafT (hK16 _ _ ?_))
    obtain rfl := Option.some.inj h
    exact wp_ret (sRet (.int .u64 o2) S (rsl1 rfl (rvT (t := 4) (v := .int .u64 o2) S rfl)) ⟨(), rfl, S.mem.sel [] [] (by decide) rfl rfl⟩)
  refine wp_block ?_
  obtain ⟨t9, hl, g8⟩ := bindSome h
  refine sLoop hl (fun s0 a w => match s0 with | (s5, s6) => St [] E [] w0 12 a w [(0, .int .u64 s5), (1, .int .u64 s6)] [] []) (S.fix [] [] (by decide) rfl rfl rfl) ?_
  clear hl h
  intro s0 a w c0 hI h hu7
  obtain ⟨s5, s6⟩ := s0
  unfold yarn_gcd_l1 at h
  dsimp only at h hI
  have S := hI
  refine sSeq (fun K11 hK11 => ?_)
  refine sSeq (fun K12 hK12 => ?_)
  refine sRegion ?_
  refine sMove (.int .u64 s6) S (wN rfl) (.inl rfl) rfl rfl (lb rfl) fun a S => ?_
  refine sBin (.bool (s6 != 0)) S (wN rfl) rfl rfl rfl (bNe _ _ _ _ .u64 s6 0) rfl (lb rfl) fun a S => ?_
  refine leafL (leafT (hK12 _ _ ?_))
  rcases iteSome h with ⟨hc13, h⟩ | ⟨hc13, h⟩
  rotate_left
  · refine sCondF S rfl hc13 ?_
    obtain rfl := Option.some.inj h
    obtain rfl := hu7 _ rfl
    have h := g8
    clear g8
    try dsimp only at h
    exact wp_exit (xThen (xThen (xHit (leafT (⟨s5, Option.some.inj h, S.fix [] [] (by decide) rfl rfl rfl⟩)))))
  refine sCondT S rfl hc13 ?_
  refine wp_skip (leafT (hK11 _ _ ?_))
  refine wp_block ?_
  obtain ⟨z14, hx15, h⟩ := bindSome h
  refine sDraw (nf := []) (W := [(0, 7, .int .u64 s6), (1, 8, .int .u64 s5), (2, 9, .int .u64 s6), (3, 10, .int .u64 z14), (4, 0, .int .u64 s6), (5, 1, .int .u64 z14)]) rfl S ?_
  refine node_by (A := [[], [], [], [1, 2], [0, 1], [0, 1, 2, 3, 4]]) (nf := []) (Y := []) (W := [(0, 7, .int .u64 s6), (1, 8, .int .u64 s5), (2, 9, .int .u64 s6), (3, 10, .int .u64 z14), (4, 0, .int .u64 s6), (5, 1, .int .u64 z14)]) 6 (by kernel_rfl) (by kernel_rfl) (by kernel_rfl) (by kernel_rfl) (by kernel_rfl) [0, 1, 2, 3, 4, 5] (by kernel_rfl) (by decide) (by decide) (aF 0 5 (by decide) ?_ (aF 1 4 (by decide) ?_ (aF 2 3 (by decide) ?_ (aF 3 2 (by decide) ?_ (aF 4 1 (by decide) ?_ (aF 5 0 (by decide) ?_ (trivial))))))) [(0, .int .u64 s6), (1, .int .u64 z14)] (fin_of [some 4, some 5] rfl (by kernel_rfl) (by kernel_rfl)) (fun _ a w S => ?_)
  · refine fI 7 (.int .u64 s6) [(1, .int .u64 s6)] 0 [none] rfl rfl rfl rfl rfl rfl fun G a w S => ?_
    refine sMove (.int .u64 s6) S (wN rfl) (.inl rfl) rfl rfl (lb rfl) fun a S => ?_
    exact leafL ⟨rfl, S⟩
  · refine fI 8 (.int .u64 s5) [(0, .int .u64 s5)] 1 [none] rfl rfl rfl rfl rfl rfl fun G a w S => ?_
    refine sMove (.int .u64 s5) S (wN rfl) (.inl rfl) rfl rfl (lb rfl) fun a S => ?_
    exact leafL ⟨rfl, S⟩
  · refine fI 9 (.int .u64 s6) [(1, .int .u64 s6)] 2 [none] rfl rfl rfl rfl rfl rfl fun G a w S => ?_
    refine sMove (.int .u64 s6) S (wN rfl) (.inl rfl) rfl rfl (lb rfl) fun a S => ?_
    exact leafL ⟨rfl, S⟩
  · refine fI 10 (.int .u64 z14) [(8, .int .u64 s5), (9, .int .u64 s6)] 3 [some 1, some 2] rfl rfl rfl rfl rfl rfl fun G a w S => ?_
    refine sBin (.int .u64 z14) S (wN rfl) rfl rfl rfl (bRemK _ _ _ _ (k := .u64) (x := s5) (y := s6) hx15) rfl (lb rfl) fun a S => ?_
    exact leafL ⟨rfl, S⟩
  · refine fI 0 (.int .u64 s6) [(7, .int .u64 s6)] 4 [some 0] rfl rfl rfl rfl rfl rfl fun G a w S => ?_
    refine sMove (.int .u64 s6) S (wN rfl) (.inr rfl) rfl rfl (lb rfl) fun a S => ?_
    exact leafL ⟨rfl, S⟩
  · refine fI 1 (.int .u64 z14) [(10, .int .u64 z14)] 5 [some 3] rfl rfl rfl rfl rfl rfl fun G a w S => ?_
    refine sMove (.int .u64 z14) S (wN rfl) (.inr rfl) rfl rfl (lb rfl) fun a S => ?_
    exact leafL ⟨rfl, S⟩
  exact leafB (leafT (⟨(s6, z14), (Option.some.inj h).symm, (S.fix [] [] (by decide) rfl rfl rfl)⟩))

end Go.Proofs.Ytdbgkakmhlmpbaa
namespace Go.Proofs.Ytdbgkakmhlmpbaa
open Go.RowKit
set_option linter.unusedVariables false

noncomputable def F_yarn_size (p0 : Int) : Option Int :=
  if decide (p0 < 0) then
    some (IntKind.u64.wrap (0 - (IntKind.u64.wrap p0)))
  else
    some (IntKind.u64.wrap p0)
set_option maxHeartbeats 4000000 in
set_option maxRecDepth 100000 in
theorem c_yarn_size (E : Nat → Prop) (w0 : World) (p0 : Int) (r : Int) (h : F_yarn_size p0 = some r) (S : St0 E [] w0 w0 [] []) :
    Calls Try.prog 82 #[iv p0] w0 (Ret (X := Unit) E [] w0 (fun _ => .int .u64 r) (fun _ => []) (fun _ => [])) := by
  unfold F_yarn_size at h
  refine sEnter (args := [iv p0]) 10 Try.func82 rfl rfl (by simp) S (fun a S => ?_)
  refine sSeq (fun K1 hK1 => ?_)
  refine sRegion ?_
  refine sMove (.int .u64 0) S (wN rfl) (.inr rfl) rfl rfl (lb rfl) fun a S => ?_
  refine leafL (leafT (hK1 _ _ ?_))
  refine sSeq (fun K2 hK2 => ?_)
  refine sSeq (fun K3 hK3 => ?_)
  refine sRegion ?_
  refine sMove (iv p0) S (wN rfl) (.inl rfl) rfl rfl (lb rfl) fun a S => ?_
  refine sBin (.bool (decide (p0 < 0))) S (wN rfl) rfl rfl rfl (bLt _ _ _ _ .i64 p0 0) rfl (lb rfl) fun a S => ?_
  refine leafL (leafT (hK3 _ _ ?_))
  rcases iteSome h with ⟨hc4, h⟩ | ⟨hc4, h⟩
  rotate_left
  · refine sCondF S rfl hc4 ?_
    refine wp_skip (leafT (hK2 _ _ ?_))
    refine sSeq (fun K6 hK6 => ?_)
    refine sRegion ?_
    refine sMove (iv p0) S (wN rfl) (.inl rfl) rfl rfl (lb rfl) fun a S => ?_
    refine sConv (k := .i64) (k2 := .u64) (b := p0) S (wN rfl) rfl Try.underlying2 Try.underlying144 rfl rfl (lb rfl) fun a S => ?_
    refine sMove (.int .u64 (IntKind.u64.wrap p0)) S (wN rfl) (.inr rfl) rfl rfl (lb rfl) fun a S => ?_
    refine leafL (leafT (hK6 _ _ ?_))
    obtain rfl := Option.some.inj h
    exact wp_ret (sRet (.int .u64 (IntKind.u64.wrap p0)) S (rsl1 rfl (rvT (t := 2) (v := .int .u64 (IntKind.u64.wrap p0)) S rfl)) ⟨(), rfl, S.mem.sel [] [] (by decide) rfl rfl⟩)
  refine sCondT S rfl hc4 ?_
  refine sSeq (fun K5 hK5 => ?_)
  refine sRegion ?_
  refine sMove (iv p0) S (wN rfl) (.inl rfl) rfl rfl (lb rfl) fun a S => ?_
  refine sConv (k := .i64) (k2 := .u64) (b := p0) S (wN rfl) rfl Try.underlying2 Try.underlying144 rfl rfl (lb rfl) fun a S => ?_
  refine sNegK (k := .u64) (b := IntKind.u64.wrap p0) S (wN rfl) rfl rfl rfl (lb rfl) fun a S => ?_
  refine sMove (.int .u64 (IntKind.u64.wrap (0 - (IntKind.u64.wrap p0)))) S (wN rfl) (.inr rfl) rfl rfl (lb rfl) fun a S => ?_
  refine leafL (leafT (hK5 _ _ ?_))
  obtain rfl := Option.some.inj h
  exact wp_ret (rThen (sRet (.int .u64 (IntKind.u64.wrap (0 - (IntKind.u64.wrap p0)))) S (rsl1 rfl (rvT (t := 2) (v := .int .u64 (IntKind.u64.wrap (0 - (IntKind.u64.wrap p0)))) S rfl)) ⟨(), rfl, S.mem.sel [] [] (by decide) rfl rfl⟩))

end Go.Proofs.Ytdbgkakmhlmpbaa
namespace Go.Proofs.Ytdbgkakmhlmpbaa
open Go.RowKit
set_option linter.unusedVariables false

def anc_yarn_Check_0 : List (List Nat) := [[], [0], [0, 1], [0, 1, 2], [0, 1, 2, 3], [0, 1, 2, 3, 4], [0, 1, 2, 3, 4, 5], [0, 1, 2, 3, 4, 5, 6], [0, 1, 2, 3, 4, 5, 6, 7], [0, 1, 2, 3, 4, 5, 6, 7, 8], [0, 1, 2, 3, 4, 5, 6, 7, 8, 9], [0, 1, 2, 3, 4, 5, 6, 7, 8, 9, 10], [0, 1, 2, 3, 4, 5, 6, 7, 8, 9, 10, 11], [0, 1, 2, 3, 4, 5, 6, 7, 8, 9, 10, 11, 12], [0, 1, 2, 3, 4, 5, 6, 7, 8, 9, 10, 11, 12, 13], [0, 1, 2, 3, 4, 5, 6, 7, 8, 9, 10, 11, 12, 13, 14], [0, 1, 2, 3, 4, 5, 6, 7, 8, 9, 10, 11, 12, 13, 14, 15], [0, 1, 2, 3, 4, 5, 6, 7, 8, 9, 10, 11, 12, 13, 14, 15, 16], [0, 1, 2, 3, 4, 5, 6, 7, 8, 9, 10, 11, 12, 13, 14], [0, 1, 2, 3, 4, 5, 6, 7, 8, 9, 10, 11, 12, 13, 14, 18], [0, 1, 2, 3, 4, 5, 6, 7, 8, 9, 10, 11, 12, 13, 14, 18, 19], [0, 1, 2, 3, 4, 5, 6, 7, 8, 9, 10, 11, 12, 13, 14, 15, 16, 17, 18, 19, 20], [0, 1, 2, 3, 4, 5, 6, 7, 8, 9, 10, 11, 12, 13, 14, 15, 16, 17, 18, 19, 20, 21], [0, 1, 2, 3, 4, 5, 6, 7, 8, 9, 10, 11, 12, 13, 14, 15, 16, 17, 18, 19, 20, 21, 22]]
noncomputable def F_yarn_Check (p0 : api_Ratio) : Option Int :=
  Option.bind (α := Bool) (
    if decide (p0.Den < 1) then
      some true
    else
      if decide (1000000000 < p0.Den) then
        some true
      else
        Option.bind (F_yarn_size p0.Num) fun r9 =>
        if decide (1000000000 < r9) then
          some true
        else
          Option.bind (F_yarn_gcd r9 (IntKind.u64.wrap p0.Den)) fun r12 =>
          some (r12 != 1)) fun o4 =>
  if o4 then
    some 8
  else
    some 0
set_option maxHeartbeats 4000000 in
set_option maxRecDepth 100000 in
theorem c_yarn_Check (E : Nat → Prop) (w0 : World) (p0 : api_Ratio) (v0 : Value) (r : Int) (h : F_yarn_Check p0 = some r) (S : St0 E [] w0 w0 [] [fRep r_api_Ratio (v0) p0]) :
    Calls Try.prog 80 #[v0] w0 (Ret (X := Unit) E [] w0 (fun _ => .int .i64 r) (fun _ => []) (fun _ => [])) := by
  unfold F_yarn_Check at h
  obtain rfl : v0 = .agg #[iv p0.Num, iv p0.Den] := S.know (i := 0) (e := fRep r_api_Ratio (v0) p0) rfl
  refine sEnter (args := [.agg #[iv p0.Num, iv p0.Den]]) 27 Try.func80 rfl rfl (by simp) S (fun a S => ?_)
  refine sSeq (fun K1 hK1 => ?_)
  refine sRegion ?_
  refine sBox (v := .agg #[iv p0.Num, iv p0.Den]) S (wN rfl) rfl rfl [iv p0.Num, iv p0.Den] rfl rfl (lb rfl) fun a b2 w S => ?_
  refine sMove (iv 0) S (wN rfl) (.inr rfl) rfl rfl (lb rfl) fun a S => ?_
  refine leafL (leafT (hK1 _ _ ?_))
  refine sSeq (fun K3 hK3 => ?_)
  obtain ⟨t5, h, g6⟩ := bindSome h
  refine sCut (fun a w => ∃ o4, o4 = t5 ∧ St [] E [] w0 27 a w [(26, .bool o4)] [] []) ?_ (fun a w hI => ?_)
  rotate_left
  · obtain ⟨o4, rfl, S⟩ := hI
    have h := g6
    clear g6
    try dsimp only at h
    rcases iteSome h with ⟨hc14, h⟩ | ⟨hc14, h⟩
    · refine sCondT S rfl hc14 ?_
      refine sSeq (fun K15 hK15 => ?_)
      refine sRegion ?_
      refine sMove (iv 8) S (wN rfl) (.inr rfl) rfl rfl (lb rfl) fun a S => ?_
      refine leafL (leafT (hK15 _ _ ?_))
      obtain rfl := Option.some.inj h
      exact wp_ret (rThen (sRet (iv 8) S (rsl1 rfl (rvT (t := 2) (v := iv 8) S rfl)) ⟨(), rfl, S.mem.sel [] [] (by decide) rfl rfl⟩))
    refine sCondF S rfl hc14 ?_
    refine wp_skip (leafT (hK3 _ _ ?_))
    refine sSeq (fun K16 hK16 => ?_)
    refine sRegion ?_
    refine sMove (iv 0) S (wN rfl) (.inr rfl) rfl rfl (lb rfl) fun a S => ?_
    refine leafL (leafT (hK16 _ _ ?_))
    obtain rfl := Option.some.inj h
    exact wp_ret (sRet (iv 0) S (rsl1 rfl (rvT (t := 2) (v := iv 0) S rfl)) ⟨(), rfl, S.mem.sel [] [] (by decide) rfl rfl⟩)
  rcases iteSome h with ⟨hc7, h⟩ | ⟨hc7, h⟩
  · refine sDraw (nf := []) (W := [(0, 3, .pointer (some ⟨b2, 1, none⟩)), (1, 4, iv p0.Den), (2, 5, .bool (decide (p0.Den < 1))), (3, 6, .bool (decide (p0.Den < 1))), (4, 7, undef), (5, 8, undef), (6, 9, undef), (7, 10, .bool true), (8, 11, .bool true), (9, 12, undef), (10, 13, undef), (11, 14, undef), (12, 15, undef), (13, 16, .bool true), (14, 17, .bool true), (15, 18, undef), (16, 19, undef), (17, 20, undef), (18, 21, undef), (19, 22, undef), (20, 23, undef), (21, 24, undef), (22, 25, undef), (23, 26, .bool true)]) rfl S ?_
    refine node_by (A := anc_yarn_Check_0) (nf := []) (Y := []) (W := [(0, 3, .pointer (some ⟨b2, 1, none⟩)), (1, 4, iv p0.Den), (2, 5, .bool (decide (p0.Den < 1))), (3, 6, .bool (decide (p0.Den < 1))), (4, 7, undef), (5, 8, undef), (6, 9, undef), (7, 10, .bool true), (8, 11, .bool true), (9, 12, undef), (10, 13, undef), (11, 14, undef), (12, 15, undef), (13, 16, .bool true), (14, 17, .bool true), (15, 18, undef), (16, 19, undef), (17, 20, undef), (18, 21, undef), (19, 22, undef), (20, 23, undef), (21, 24, undef), (22, 25, undef), (23, 26, .bool true)]) 24 (by kernel_rfl) (by kernel_rfl) (by kernel_rfl) (by kernel_rfl) (by kernel_rfl) [0, 1, 2, 3, 4, 5, 6, 7, 8, 9, 10, 11, 12, 13, 14, 15, 16, 17, 18, 19, 20, 21, 22, 23] (by kernel_rfl) (by decide) (by decide) (aF 0 23 (by decide) ?_ (aF 1 22 (by decide) ?_ (aF 2 21 (by decide) ?_ (aF 3 20 (by decide) ?_ (aF 4 19 (by decide) ?_ (aF 5 18 (by decide) ?_ (aF 6 17 (by decide) ?_ (aF 7 16 (by decide) ?_ (aF 8 15 (by decide) ?_ (aF 9 14 (by decide) ?_ (aF 10 13 (by decide) ?_ (aF 11 12 (by decide) ?_ (aF 12 11 (by decide) ?_ (aF 13 10 (by decide) ?_ (aF 14 9 (by decide) ?_ (aF 15 8 (by decide) ?_ (aF 16 7 (by decide) ?_ (aF 17 6 (by decide) ?_ (aF 18 5 (by decide) ?_ (aF 19 4 (by decide) ?_ (aF 20 3 (by decide) ?_ (aF 21 2 (by decide) ?_ (aF 22 1 (by decide) ?_ (aF 23 0 (by decide) ?_ (trivial))))))))))))))))))))))))) [(26, .bool true)] (fin_of [some 23] rfl (by kernel_rfl) (by kernel_rfl)) (fun _ a w S => ?_)
    · refine fI 3 (.pointer (some ⟨b2, 1, none⟩)) [(1, .pointer (some ⟨b2, 0, none⟩))] 0 [none] rfl rfl rfl rfl rfl rfl fun G a w S => ?_
      refine sField (b := b2) (off := 0) 1 1 S (wN rfl) rfl rfl rfl rfl rfl (lb rfl) fun a S => ?_
      exact leafL ⟨rfl, S⟩
    · refine fI 4 (iv p0.Den) [(3, .pointer (some ⟨b2, 1, none⟩))] 1 [some 0] rfl rfl rfl rfl rfl rfl fun G a w S => ?_
      refine sLoad1 (p := b2) (off := 1) (T := 25) (vs := [iv p0.Num, iv p0.Den]) 0 (iv p0.Den) S (wN rfl) rfl rfl rfl rfl rfl rfl (lb rfl) fun a S => ?_
      exact leafL ⟨rfl, S⟩
    · refine fI 5 (.bool (decide (p0.Den < 1))) [(4, iv p0.Den)] 2 [some 1] rfl rfl rfl rfl rfl rfl fun G a w S => ?_
      refine sBin (.bool (decide (p0.Den < 1))) S (wN rfl) rfl rfl rfl (bLt _ _ _ _ .i64 p0.Den 1) rfl (lb rfl) fun a S => ?_
      exact leafL ⟨rfl, S⟩
    · refine fI 6 (.bool (decide (p0.Den < 1))) [(5, .bool (decide (p0.Den < 1)))] 3 [some 2] rfl rfl rfl rfl rfl rfl fun G a w S => ?_
      refine sMove (.bool (decide (p0.Den < 1))) S (wN rfl) (.inl rfl) rfl rfl (lb rfl) fun a S => ?_
      exact leafL ⟨rfl, S⟩
    · refine fI 7 undef [(1, .pointer (some ⟨b2, 0, none⟩)), (6, .bool (decide (p0.Den < 1)))] 4 [none, some 3] rfl rfl rfl rfl rfl rfl fun G a w S => ?_
      refine sSkip 3 false 6 7 S rfl rfl rfl hc7 rfl (lb rfl) fun a S => ?_
      exact leafL ⟨rfl, S⟩
    · refine fI 8 undef [(7, undef), (6, .bool (decide (p0.Den < 1)))] 5 [some 4, some 3] rfl rfl rfl rfl rfl rfl fun G a w S => ?_
      refine sSkip 3 false 6 8 S rfl rfl rfl hc7 rfl (lb rfl) fun a S => ?_
      exact leafL ⟨rfl, S⟩
    · refine fI 9 undef [(8, undef), (6, .bool (decide (p0.Den < 1)))] 6 [some 5, some 3] rfl rfl rfl rfl rfl rfl fun G a w S => ?_
      refine sSkip 3 false 6 9 S rfl rfl rfl hc7 rfl (lb rfl) fun a S => ?_
      exact leafL ⟨rfl, S⟩
    · refine fI 10 (.bool true) [(6, .bool (decide (p0.Den < 1))), (9, undef)] 7 [some 3, some 6] rfl rfl rfl rfl rfl rfl fun G a w S => ?_
      refine sPickT (.bool true) S (wN rfl) rfl rfl hc7 rfl rfl (lb rfl) fun a S => ?_
      exact leafL ⟨rfl, S⟩
    · refine fI 11 (.bool true) [(10, .bool true)] 8 [some 7] rfl rfl rfl rfl rfl rfl fun G a w S => ?_
      refine sMove (.bool true) S (wN rfl) (.inl rfl) rfl rfl (lb rfl) fun a S => ?_
      exact leafL ⟨rfl, S⟩
    · refine fI 12 undef [(1, .pointer (some ⟨b2, 0, none⟩)), (11, .bool true)] 9 [none, some 8] rfl rfl rfl rfl rfl rfl fun G a w S => ?_
      refine sSkip 8 false 11 12 S rfl rfl rfl rfl rfl (lb rfl) fun a S => ?_
      exact leafL ⟨rfl, S⟩
    · refine fI 13 undef [(12, undef), (11, .bool true)] 10 [some 9, some 8] rfl rfl rfl rfl rfl rfl fun G a w S => ?_
      refine sSkip 8 false 11 13 S rfl rfl rfl rfl rfl (lb rfl) fun a S => ?_
      exact leafL ⟨rfl, S⟩
    · refine fI 14 undef [(13, undef), (11, .bool true)] 11 [some 10, some 8] rfl rfl rfl rfl rfl rfl fun G a w S => ?_
      refine sSkip 8 false 11 14 S rfl rfl rfl rfl rfl (lb rfl) fun a S => ?_
      exact leafL ⟨rfl, S⟩
    · refine fI 15 undef [(14, undef), (11, .bool true)] 12 [some 11, some 8] rfl rfl rfl rfl rfl rfl fun G a w S => ?_
      refine sSkip 8 false 11 15 S rfl rfl rfl rfl rfl (lb rfl) fun a S => ?_
      exact leafL ⟨rfl, S⟩
    · refine fI 16 (.bool true) [(11, .bool true), (15, undef)] 13 [some 8, some 12] rfl rfl rfl rfl rfl rfl fun G a w S => ?_
      refine sPickT (.bool true) S (wN rfl) rfl rfl rfl rfl rfl (lb rfl) fun a S => ?_
      exact leafL ⟨rfl, S⟩
    · refine fI 17 (.bool true) [(16, .bool true)] 14 [some 13] rfl rfl rfl rfl rfl rfl fun G a w S => ?_
      refine sMove (.bool true) S (wN rfl) (.inl rfl) rfl rfl (lb rfl) fun a S => ?_
      exact leafL ⟨rfl, S⟩
    · refine fI 18 undef [(1, .pointer (some ⟨b2, 0, none⟩)), (17, .bool true)] 15 [none, some 14] rfl rfl rfl rfl rfl rfl fun G a w S => ?_
      refine sSkip 14 false 17 18 S rfl rfl rfl rfl rfl (lb rfl) fun a S => ?_
      exact leafL ⟨rfl, S⟩
    · refine fI 19 undef [(18, undef), (17, .bool true)] 16 [some 15, some 14] rfl rfl rfl rfl rfl rfl fun G a w S => ?_
      refine sSkip 14 false 17 19 S rfl rfl rfl rfl rfl (lb rfl) fun a S => ?_
      exact leafL ⟨rfl, S⟩
    · refine fI 20 undef [(19, undef), (17, .bool true)] 17 [some 16, some 14] rfl rfl rfl rfl rfl rfl fun G a w S => ?_
      refine sSkip 14 false 17 20 S rfl rfl rfl rfl rfl (lb rfl) fun a S => ?_
      exact leafL ⟨rfl, S⟩
    · refine fI 21 undef [(1, .pointer (some ⟨b2, 0, none⟩)), (17, .bool true)] 18 [none, some 14] rfl rfl rfl rfl rfl rfl fun G a w S => ?_
      refine sSkip 14 false 17 21 S rfl rfl rfl rfl rfl (lb rfl) fun a S => ?_
      exact leafL ⟨rfl, S⟩
    · refine fI 22 undef [(21, undef), (17, .bool true)] 19 [some 18, some 14] rfl rfl rfl rfl rfl rfl fun G a w S => ?_
      refine sSkip 14 false 17 22 S rfl rfl rfl rfl rfl (lb rfl) fun a S => ?_
      exact leafL ⟨rfl, S⟩
    · refine fI 23 undef [(22, undef), (17, .bool true)] 20 [some 19, some 14] rfl rfl rfl rfl rfl rfl fun G a w S => ?_
      refine sSkip 14 false 17 23 S rfl rfl rfl rfl rfl (lb rfl) fun a S => ?_
      exact leafL ⟨rfl, S⟩
    · refine fI 24 undef [(20, undef), (23, undef), (17, .bool true)] 21 [some 17, some 20, some 14] rfl rfl rfl rfl rfl rfl fun G a w S => ?_
      refine sSkip 14 false 17 24 S rfl rfl rfl rfl rfl (lb rfl) fun a S => ?_
      exact leafL ⟨rfl, S⟩
    · refine fI 25 undef [(24, undef), (17, .bool true)] 22 [some 21, some 14] rfl rfl rfl rfl rfl rfl fun G a w S => ?_
      refine sSkip 14 false 17 25 S rfl rfl rfl rfl rfl (lb rfl) fun a S => ?_
      exact leafL ⟨rfl, S⟩
    · refine fI 26 (.bool true) [(17, .bool true), (25, undef)] 23 [some 14, some 22] rfl rfl rfl rfl rfl rfl fun G a w S => ?_
      refine sPickT (.bool true) S (wN rfl) rfl rfl rfl rfl rfl (lb rfl) fun a S => ?_
      exact leafL ⟨rfl, S⟩
    exact leafT (⟨true, Option.some.inj h, S.fix [] [] (by decide) rfl rfl rfl⟩)
  rcases iteSome h with ⟨hc8, h⟩ | ⟨hc8, h⟩
  · refine sDraw (nf := []) (W := [(0, 3, .pointer (some ⟨b2, 1, none⟩)), (1, 4, iv p0.Den), (2, 5, .bool (decide (p0.Den < 1))), (3, 6, .bool (decide (p0.Den < 1))), (4, 7, .pointer (some ⟨b2, 1, none⟩)), (5, 8, iv p0.Den), (6, 9, .bool (decide (1000000000 < p0.Den))), (7, 10, .bool (decide (1000000000 < p0.Den))), (8, 11, .bool (decide (1000000000 < p0.Den))), (9, 12, undef), (10, 13, undef), (11, 14, undef), (12, 15, undef), (13, 16, .bool true), (14, 17, .bool true), (15, 18, undef), (16, 19, undef), (17, 20, undef), (18, 21, undef), (19, 22, undef), (20, 23, undef), (21, 24, undef), (22, 25, undef), (23, 26, .bool true)]) rfl S ?_
    refine node_by (A := anc_yarn_Check_0) (nf := []) (Y := []) (W := [(0, 3, .pointer (some ⟨b2, 1, none⟩)), (1, 4, iv p0.Den), (2, 5, .bool (decide (p0.Den < 1))), (3, 6, .bool (decide (p0.Den < 1))), (4, 7, .pointer (some ⟨b2, 1, none⟩)), (5, 8, iv p0.Den), (6, 9, .bool (decide (1000000000 < p0.Den))), (7, 10, .bool (decide (1000000000 < p0.Den))), (8, 11, .bool (decide (1000000000 < p0.Den))), (9, 12, undef), (10, 13, undef), (11, 14, undef), (12, 15, undef), (13, 16, .bool true), (14, 17, .bool true), (15, 18, undef), (16, 19, undef), (17, 20, undef), (18, 21, undef), (19, 22, undef), (20, 23, undef), (21, 24, undef), (22, 25, undef), (23, 26, .bool true)]) 24 (by kernel_rfl) (by kernel_rfl) (by kernel_rfl) (by kernel_rfl) (by kernel_rfl) [0, 1, 2, 3, 4, 5, 6, 7, 8, 9, 10, 11, 12, 13, 14, 15, 16, 17, 18, 19, 20, 21, 22, 23] (by kernel_rfl) (by decide) (by decide) (aF 0 23 (by decide) ?_ (aF 1 22 (by decide) ?_ (aF 2 21 (by decide) ?_ (aF 3 20 (by decide) ?_ (aF 4 19 (by decide) ?_ (aF 5 18 (by decide) ?_ (aF 6 17 (by decide) ?_ (aF 7 16 (by decide) ?_ (aF 8 15 (by decide) ?_ (aF 9 14 (by decide) ?_ (aF 10 13 (by decide) ?_ (aF 11 12 (by decide) ?_ (aF 12 11 (by decide) ?_ (aF 13 10 (by decide) ?_ (aF 14 9 (by decide) ?_ (aF 15 8 (by decide) ?_ (aF 16 7 (by decide) ?_ (aF 17 6 (by decide) ?_ (aF 18 5 (by decide) ?_ (aF 19 4 (by decide) ?_ (aF 20 3 (by decide) ?_ (aF 21 2 (by decide) ?_ (aF 22 1 (by decide) ?_ (aF 23 0 (by decide) ?_ (trivial))))))))))))))))))))))))) [(26, .bool true)] (fin_of [some 23] rfl (by kernel_rfl) (by kernel_rfl)) (fun _ a w S => ?_)
    · refine fI 3 (.pointer (some ⟨b2, 1, none⟩)) [(1, .pointer (some ⟨b2, 0, none⟩))] 0 [none] rfl rfl rfl rfl rfl rfl fun G a w S => ?_
      refine sField (b := b2) (off := 0) 1 1 S (wN rfl) rfl rfl rfl rfl rfl (lb rfl) fun a S => ?_
      exact leafL ⟨rfl, S⟩
    · refine fI 4 (iv p0.Den) [(3, .pointer (some ⟨b2, 1, none⟩))] 1 [some 0] rfl rfl rfl rfl rfl rfl fun G a w S => ?_
      refine sLoad1 (p := b2) (off := 1) (T := 25) (vs := [iv p0.Num, iv p0.Den]) 0 (iv p0.Den) S (wN rfl) rfl rfl rfl rfl rfl rfl (lb rfl) fun a S => ?_
      exact leafL ⟨rfl, S⟩
    · refine fI 5 (.bool (decide (p0.Den < 1))) [(4, iv p0.Den)] 2 [some 1] rfl rfl rfl rfl rfl rfl fun G a w S => ?_
      refine sBin (.bool (decide (p0.Den < 1))) S (wN rfl) rfl rfl rfl (bLt _ _ _ _ .i64 p0.Den 1) rfl (lb rfl) fun a S => ?_
      exact leafL ⟨rfl, S⟩
    · refine fI 6 (.bool (decide (p0.Den < 1))) [(5, .bool (decide (p0.Den < 1)))] 3 [some 2] rfl rfl rfl rfl rfl rfl fun G a w S => ?_
      refine sMove (.bool (decide (p0.Den < 1))) S (wN rfl) (.inl rfl) rfl rfl (lb rfl) fun a S => ?_
      exact leafL ⟨rfl, S⟩
    · refine fI 7 (.pointer (some ⟨b2, 1, none⟩)) [(1, .pointer (some ⟨b2, 0, none⟩)), (6, .bool (decide (p0.Den < 1)))] 4 [none, some 3] rfl rfl rfl rfl rfl rfl fun G a w S => ?_
      refine sField (b := b2) (off := 0) 1 1 S (wG 3 false 6 rfl rfl rfl hc7) rfl rfl rfl rfl rfl (lb rfl) fun a S => ?_
      exact leafL ⟨rfl, S⟩
    · refine fI 8 (iv p0.Den) [(7, .pointer (some ⟨b2, 1, none⟩)), (6, .bool (decide (p0.Den < 1)))] 5 [some 4, some 3] rfl rfl rfl rfl rfl rfl fun G a w S => ?_
      refine sLoad1 (p := b2) (off := 1) (T := 25) (vs := [iv p0.Num, iv p0.Den]) 0 (iv p0.Den) S (wG 3 false 6 rfl rfl rfl hc7) rfl rfl rfl rfl rfl rfl (lb rfl) fun a S => ?_
      exact leafL ⟨rfl, S⟩
    · refine fI 9 (.bool (decide (1000000000 < p0.Den))) [(8, iv p0.Den), (6, .bool (decide (p0.Den < 1)))] 6 [some 5, some 3] rfl rfl rfl rfl rfl rfl fun G a w S => ?_
      refine sBin (.bool (decide (1000000000 < p0.Den))) S (wG 3 false 6 rfl rfl rfl hc7) rfl rfl rfl (bGt _ _ _ _ .i64 p0.Den 1000000000) rfl (lb rfl) fun a S => ?_
      exact leafL ⟨rfl, S⟩
    · refine fI 10 (.bool (decide (1000000000 < p0.Den))) [(6, .bool (decide (p0.Den < 1))), (9, .bool (decide (1000000000 < p0.Den)))] 7 [some 3, some 6] rfl rfl rfl rfl rfl rfl fun G a w S => ?_
      refine sPickF (.bool (decide (1000000000 < p0.Den))) S (wN rfl) rfl rfl hc7 rfl rfl (lb rfl) fun a S => ?_
      exact leafL ⟨rfl, S⟩
    · refine fI 11 (.bool (decide (1000000000 < p0.Den))) [(10, .bool (decide (1000000000 < p0.Den)))] 8 [some 7] rfl rfl rfl rfl rfl rfl fun G a w S => ?_
      refine sMove (.bool (decide (1000000000 < p0.Den))) S (wN rfl) (.inl rfl) rfl rfl (lb rfl) fun a S => ?_
      exact leafL ⟨rfl, S⟩
    · refine fI 12 undef [(1, .pointer (some ⟨b2, 0, none⟩)), (11, .bool (decide (1000000000 < p0.Den)))] 9 [none, some 8] rfl rfl rfl rfl rfl rfl fun G a w S => ?_
      refine sSkip 8 false 11 12 S rfl rfl rfl hc8 rfl (lb rfl) fun a S => ?_
      exact leafL ⟨rfl, S⟩
    · refine fI 13 undef [(12, undef), (11, .bool (decide (1000000000 < p0.Den)))] 10 [some 9, some 8] rfl rfl rfl rfl rfl rfl fun G a w S => ?_
      refine sSkip 8 false 11 13 S rfl rfl rfl hc8 rfl (lb rfl) fun a S => ?_
      exact leafL ⟨rfl, S⟩
    · refine fI 14 undef [(13, undef), (11, .bool (decide (1000000000 < p0.Den)))] 11 [some 10, some 8] rfl rfl rfl rfl rfl rfl fun G a w S => ?_
      refine sSkip 8 false 11 14 S rfl rfl rfl hc8 rfl (lb rfl) fun a S => ?_
      exact leafL ⟨rfl, S⟩
    · refine fI 15 undef [(14, undef), (11, .bool (decide (1000000000 < p0.Den)))] 12 [some 11, some 8] rfl rfl rfl rfl rfl rfl fun G a w S => ?_
      refine sSkip 8 false 11 15 S rfl rfl rfl hc8 rfl (lb rfl) fun a S => ?_
      exact leafL ⟨rfl, S⟩
    · refine fI 16 (.bool true) [(11, .bool (decide (1000000000 < p0.Den))), (15, undef)] 13 [some 8, some 12] rfl rfl rfl rfl rfl rfl fun G a w S => ?_
      refine sPickT (.bool true) S (wN rfl) rfl rfl hc8 rfl rfl (lb rfl) fun a S => ?_
      exact leafL ⟨rfl, S⟩
    · refine fI 17 (.bool true) [(16, .bool true)] 14 [some 13] rfl rfl rfl rfl rfl rfl fun G a w S => ?_
      refine sMove (.bool true) S (wN rfl) (.inl rfl) rfl rfl (lb rfl) fun a S => ?_
      exact leafL ⟨rfl, S⟩
    · refine fI 18 undef [(1, .pointer (some ⟨b2, 0, none⟩)), (17, .bool true)] 15 [none, some 14] rfl rfl rfl rfl rfl rfl fun G a w S => ?_
      refine sSkip 14 false 17 18 S rfl rfl rfl rfl rfl (lb rfl) fun a S => ?_
      exact leafL ⟨rfl, S⟩
    · refine fI 19 undef [(18, undef), (17, .bool true)] 16 [some 15, some 14] rfl rfl rfl rfl rfl rfl fun G a w S => ?_
      refine sSkip 14 false 17 19 S rfl rfl rfl rfl rfl (lb rfl) fun a S => ?_
      exact leafL ⟨rfl, S⟩
    · refine fI 20 undef [(19, undef), (17, .bool true)] 17 [some 16, some 14] rfl rfl rfl rfl rfl rfl fun G a w S => ?_
      refine sSkip 14 false 17 20 S rfl rfl rfl rfl rfl (lb rfl) fun a S => ?_
      exact leafL ⟨rfl, S⟩
    · refine fI 21 undef [(1, .pointer (some ⟨b2, 0, none⟩)), (17, .bool true)] 18 [none, some 14] rfl rfl rfl rfl rfl rfl fun G a w S => ?_
      refine sSkip 14 false 17 21 S rfl rfl rfl rfl rfl (lb rfl) fun a S => ?_
      exact leafL ⟨rfl, S⟩
    · refine fI 22 undef [(21, undef), (17, .bool true)] 19 [some 18, some 14] rfl rfl rfl rfl rfl rfl fun G a w S => ?_
      refine sSkip 14 false 17 22 S rfl rfl rfl rfl rfl (lb rfl) fun a S => ?_
      exact leafL ⟨rfl, S⟩
    · refine fI 23 undef [(22, undef), (17, .bool true)] 20 [some 19, some 14] rfl rfl rfl rfl rfl rfl fun G a w S => ?_
      refine sSkip 14 false 17 23 S rfl rfl rfl rfl rfl (lb rfl) fun a S => ?_
      exact leafL ⟨rfl, S⟩
    · refine fI 24 undef [(20, undef), (23, undef), (17, .bool true)] 21 [some 17, some 20, some 14] rfl rfl rfl rfl rfl rfl fun G a w S => ?_
      refine sSkip 14 false 17 24 S rfl rfl rfl rfl rfl (lb rfl) fun a S => ?_
      exact leafL ⟨rfl, S⟩
    · refine fI 25 undef [(24, undef), (17, .bool true)] 22 [some 21, some 14] rfl rfl rfl rfl rfl rfl fun G a w S => ?_
      refine sSkip 14 false 17 25 S rfl rfl rfl rfl rfl (lb rfl) fun a S => ?_
      exact leafL ⟨rfl, S⟩
    · refine fI 26 (.bool true) [(17, .bool true), (25, undef)] 23 [some 14, some 22] rfl rfl rfl rfl rfl rfl fun G a w S => ?_
      refine sPickT (.bool true) S (wN rfl) rfl rfl rfl rfl rfl (lb rfl) fun a S => ?_
      exact leafL ⟨rfl, S⟩
    exact leafT (⟨true, Option.some.inj h, S.fix [] [] (by decide) rfl rfl rfl⟩)
  obtain ⟨r9, hx10, h⟩ := bindSome h
  rcases iteSome h with ⟨hc11, h⟩ | ⟨hc11, h⟩
  · refine sDraw (nf := []) (W := [(0, 3, .pointer (some ⟨b2, 1, none⟩)), (1, 4, iv p0.Den), (2, 5, .bool (decide (p0.Den < 1))), (3, 6, .bool (decide (p0.Den < 1))), (4, 7, .pointer (some ⟨b2, 1, none⟩)), (5, 8, iv p0.Den), (6, 9, .bool (decide (1000000000 < p0.Den))), (7, 10, .bool (decide (1000000000 < p0.Den))), (8, 11, .bool (decide (1000000000 < p0.Den))), (9, 12, .pointer (some ⟨b2, 0, none⟩)), (10, 13, iv p0.Num), (11, 14, .int .u64 r9), (12, 15, .bool (decide (1000000000 < r9))), (13, 16, .bool (decide (1000000000 < r9))), (14, 17, .bool (decide (1000000000 < r9))), (15, 18, undef), (16, 19, undef), (17, 20, undef), (18, 21, undef), (19, 22, undef), (20, 23, undef), (21, 24, undef), (22, 25, undef), (23, 26, .bool true)]) rfl S ?_
    refine node_by (A := anc_yarn_Check_0) (nf := []) (Y := []) (W := [(0, 3, .pointer (some ⟨b2, 1, none⟩)), (1, 4, iv p0.Den), (2, 5, .bool (decide (p0.Den < 1))), (3, 6, .bool (decide (p0.Den < 1))), (4, 7, .pointer (some ⟨b2, 1, none⟩)), (5, 8, iv p0.Den), (6, 9, .bool (decide (1000000000 < p0.Den))), (7, 10, .bool (decide (1000000000 < p0.Den))), (8, 11, .bool (decide (1000000000 < p0.Den))), (9, 12, .pointer (some ⟨b2, 0, none⟩)), (10, 13, iv p0.Num), (11, 14, .int .u64 r9), (12, 15, .bool (decide (1000000000 < r9))), (13, 16, .bool (decide (1000000000 < r9))), (14, 17, .bool (decide (1000000000 < r9))), (15, 18, undef), (16, 19, undef), (17, 20, undef), (18, 21, undef), (19, 22, undef), (20, 23, undef), (21, 24, undef), (22, 25, undef), (23, 26, .bool true)]) 24 (by kernel_rfl) (by kernel_rfl) (by kernel_rfl) (by kernel_rfl) (by kernel_rfl) [0, 1, 2, 3, 4, 5, 6, 7, 8, 9, 10, 11, 12, 13, 14, 15, 16, 17, 18, 19, 20, 21, 22, 23] (by kernel_rfl) (by decide) (by decide) (aF 0 23 (by decide) ?_ (aF 1 22 (by decide) ?_ (aF 2 21 (by decide) ?_ (aF 3 20 (by decide) ?_ (aF 4 19 (by decide) ?_ (aF 5 18 (by decide) ?_ (aF 6 17 (by decide) ?_ (aF 7 16 (by decide) ?_ (aF 8 15 (by decide) ?_ (aF 9 14 (by decide) ?_ (aF 10 13 (by decide) ?_ (aF 11 12 (by decide) ?_ (aF 12 11 (by decide) ?_ (aF 13 10 (by decide) ?_ (aF 14 9 (by decide) ?_ (aF 15 8 (by decide) ?_ (aF 16 7 (by decide) ?_ (aF 17 6 (by decide) ?_ (aF 18 5 (by decide) ?_ (aF 19 4 (by decide) ?_ (aF 20 3 (by decide) ?_ (aF 21 2 (by decide) ?_ (aF 22 1 (by decide) ?_ (aF 23 0 (by decide) ?_ (trivial))))))))))))))))))))))))) [(26, .bool true)] (fin_of [some 23] rfl (by kernel_rfl) (by kernel_rfl)) (fun _ a w S => ?_)
    · refine fI 3 (.pointer (some ⟨b2, 1, none⟩)) [(1, .pointer (some ⟨b2, 0, none⟩))] 0 [none] rfl rfl rfl rfl rfl rfl fun G a w S => ?_
      refine sField (b := b2) (off := 0) 1 1 S (wN rfl) rfl rfl rfl rfl rfl (lb rfl) fun a S => ?_
      exact leafL ⟨rfl, S⟩
    · refine fI 4 (iv p0.Den) [(3, .pointer (some ⟨b2, 1, none⟩))] 1 [some 0] rfl rfl rfl rfl rfl rfl fun G a w S => ?_
      refine sLoad1 (p := b2) (off := 1) (T := 25) (vs := [iv p0.Num, iv p0.Den]) 0 (iv p0.Den) S (wN rfl) rfl rfl rfl rfl rfl rfl (lb rfl) fun a S => ?_
      exact leafL ⟨rfl, S⟩
    · refine fI 5 (.bool (decide (p0.Den < 1))) [(4, iv p0.Den)] 2 [some 1] rfl rfl rfl rfl rfl rfl fun G a w S => ?_
      refine sBin (.bool (decide (p0.Den < 1))) S (wN rfl) rfl rfl rfl (bLt _ _ _ _ .i64 p0.Den 1) rfl (lb rfl) fun a S => ?_
      exact leafL ⟨rfl, S⟩
    · refine fI 6 (.bool (decide (p0.Den < 1))) [(5, .bool (decide (p0.Den < 1)))] 3 [some 2] rfl rfl rfl rfl rfl rfl fun G a w S => ?_
      refine sMove (.bool (decide (p0.Den < 1))) S (wN rfl) (.inl rfl) rfl rfl (lb rfl) fun a S => ?_
      exact leafL ⟨rfl, S⟩
    · refine fI 7 (.pointer (some ⟨b2, 1, none⟩)) [(1, .pointer (some ⟨b2, 0, none⟩)), (6, .bool (decide (p0.Den < 1)))] 4 [none, some 3] rfl rfl rfl rfl rfl rfl fun G a w S => ?_
      refine sField (b := b2) (off := 0) 1 1 S (wG 3 false 6 rfl rfl rfl hc7) rfl rfl rfl rfl rfl (lb rfl) fun a S => ?_
      exact leafL ⟨rfl, S⟩
    · refine fI 8 (iv p0.Den) [(7, .pointer (some ⟨b2, 1, none⟩)), (6, .bool (decide (p0.Den < 1)))] 5 [some 4, some 3] rfl rfl rfl rfl rfl rfl fun G a w S => ?_
      refine sLoad1 (p := b2) (off := 1) (T := 25) (vs := [iv p0.Num, iv p0.Den]) 0 (iv p0.Den) S (wG 3 false 6 rfl rfl rfl hc7) rfl rfl rfl rfl rfl rfl (lb rfl) fun a S => ?_
      exact leafL ⟨rfl, S⟩
    · refine fI 9 (.bool (decide (1000000000 < p0.Den))) [(8, iv p0.Den), (6, .bool (decide (p0.Den < 1)))] 6 [some 5, some 3] rfl rfl rfl rfl rfl rfl fun G a w S => ?_
      refine sBin (.bool (decide (1000000000 < p0.Den))) S (wG 3 false 6 rfl rfl rfl hc7) rfl rfl rfl (bGt _ _ _ _ .i64 p0.Den 1000000000) rfl (lb rfl) fun a S => ?_
      exact leafL ⟨rfl, S⟩
    · refine fI 10 (.bool (decide (1000000000 < p0.Den))) [(6, .bool (decide (p0.Den < 1))), (9, .bool (decide (1000000000 < p0.Den)))] 7 [some 3, some 6] rfl rfl rfl rfl rfl rfl fun G a w S => ?_
      refine sPickF (.bool (decide (1000000000 < p0.Den))) S (wN rfl) rfl rfl hc7 rfl rfl (lb rfl) fun a S => ?_
      exact leafL ⟨rfl, S⟩
    · refine fI 11 (.bool (decide (1000000000 < p0.Den))) [(10, .bool (decide (1000000000 < p0.Den)))] 8 [some 7] rfl rfl rfl rfl rfl rfl fun G a w S => ?_
      refine sMove (.bool (decide (1000000000 < p0.Den))) S (wN rfl) (.inl rfl) rfl rfl (lb rfl) fun a S => ?_
      exact leafL ⟨rfl, S⟩
    · refine fI 12 (.pointer (some ⟨b2, 0, none⟩)) [(1, .pointer (some ⟨b2, 0, none⟩)), (11, .bool (decide (1000000000 < p0.Den)))] 9 [none, some 8] rfl rfl rfl rfl rfl rfl fun G a w S => ?_
      refine sField (b := b2) (off := 0) 0 0 S (wG 8 false 11 rfl rfl rfl hc8) rfl rfl rfl rfl rfl (lb rfl) fun a S => ?_
      exact leafL ⟨rfl, S⟩
    · refine fI 13 (iv p0.Num) [(12, .pointer (some ⟨b2, 0, none⟩)), (11, .bool (decide (1000000000 < p0.Den)))] 10 [some 9, some 8] rfl rfl rfl rfl rfl rfl fun G a w S => ?_
      refine sLoad1 (p := b2) (off := 0) (T := 25) (vs := [iv p0.Num, iv p0.Den]) 0 (iv p0.Num) S (wG 8 false 11 rfl rfl rfl hc8) rfl rfl rfl rfl rfl rfl (lb rfl) fun a S => ?_
      exact leafL ⟨rfl, S⟩
    · refine fI 14 (.int .u64 r9) [(13, iv p0.Num), (11, .bool (decide (1000000000 < p0.Den)))] 11 [some 10, some 8] rfl rfl rfl rfl rfl rfl fun G a w S => ?_
      have S1 := S.mem
      refine sCallQ (X := Unit) (f := 82) (vs := [iv p0.Num]) (val := fun _ => .int .u64 r9) S (wG 8 false 11 rfl rfl rfl hc8) rfl callee82 rfl (S1.quiet [] rfl) (fun E1 w1 S1 => c_yarn_size E1 w1 p0.Num r9 hx10 S1) rfl (lb rfl) fun _ a w S => ?_
      exact leafL ⟨rfl, S⟩
    · refine fI 15 (.bool (decide (1000000000 < r9))) [(14, .int .u64 r9), (11, .bool (decide (1000000000 < p0.Den)))] 12 [some 11, some 8] rfl rfl rfl rfl rfl rfl fun G a w S => ?_
      refine sBin (.bool (decide (1000000000 < r9))) S (wG 8 false 11 rfl rfl rfl hc8) rfl rfl rfl (bGt _ _ _ _ .u64 r9 1000000000) rfl (lb rfl) fun a S => ?_
      exact leafL ⟨rfl, S⟩
    · refine fI 16 (.bool (decide (1000000000 < r9))) [(11, .bool (decide (1000000000 < p0.Den))), (15, .bool (decide (1000000000 < r9)))] 13 [some 8, some 12] rfl rfl rfl rfl rfl rfl fun G a w S => ?_
      refine sPickF (.bool (decide (1000000000 < r9))) S (wN rfl) rfl rfl hc8 rfl rfl (lb rfl) fun a S => ?_
      exact leafL ⟨rfl, S⟩
    · refine fI 17 (.bool (decide (1000000000 < r9))) [(16, .bool (decide (1000000000 < r9)))] 14 [some 13] rfl rfl rfl rfl rfl rfl fun G a w S => ?_
      refine sMove (.bool (decide (1000000000 < r9))) S (wN rfl) (.inl rfl) rfl rfl (lb rfl) fun a S => ?_
      exact leafL ⟨rfl, S⟩
    · refine fI 18 undef [(1, .pointer (some ⟨b2, 0, none⟩)), (17, .bool (decide (1000000000 < r9)))] 15 [none, some 14] rfl rfl rfl rfl rfl rfl fun G a w S => ?_
      refine sSkip 14 false 17 18 S rfl rfl rfl hc11 rfl (lb rfl) fun a S => ?_
      exact leafL ⟨rfl, S⟩
    · refine fI 19 undef [(18, undef), (17, .bool (decide (1000000000 < r9)))] 16 [some 15, some 14] rfl rfl rfl rfl rfl rfl fun G a w S => ?_
      refine sSkip 14 false 17 19 S rfl rfl rfl hc11 rfl (lb rfl) fun a S => ?_
      exact leafL ⟨rfl, S⟩
    · refine fI 20 undef [(19, undef), (17, .bool (decide (1000000000 < r9)))] 17 [some 16, some 14] rfl rfl rfl rfl rfl rfl fun G a w S => ?_
      refine sSkip 14 false 17 20 S rfl rfl rfl hc11 rfl (lb rfl) fun a S => ?_
      exact leafL ⟨rfl, S⟩
    · refine fI 21 undef [(1, .pointer (some ⟨b2, 0, none⟩)), (17, .bool (decide (1000000000 < r9)))] 18 [none, some 14] rfl rfl rfl rfl rfl rfl fun G a w S => ?_
      refine sSkip 14 false 17 21 S rfl rfl rfl hc11 rfl (lb rfl) fun a S => ?_
      exact leafL ⟨rfl, S⟩
    · refine fI 22 undef [(21, undef), (17, .bool (decide (1000000000 < r9)))] 19 [some 18, some 14] rfl rfl rfl rfl rfl rfl fun G a w S => ?_
      refine sSkip 14 false 17 22 S rfl rfl rfl hc11 rfl (lb rfl) fun a S => ?_
      exact leafL ⟨rfl, S⟩
    · refine fI 23 undef [(22, undef), (17, .bool (decide (1000000000 < r9)))] 20 [some 19, some 14] rfl rfl rfl rfl rfl rfl fun G a w S => ?_
      refine sSkip 14 false 17 23 S rfl rfl rfl hc11 rfl (lb rfl) fun a S => ?_
      exact leafL ⟨rfl, S⟩
    · refine fI 24 undef [(20, undef), (23, undef), (17, .bool (decide (1000000000 < r9)))] 21 [some 17, some 20, some 14] rfl rfl rfl rfl rfl rfl fun G a w S => ?_
      refine sSkip 14 false 17 24 S rfl rfl rfl hc11 rfl (lb rfl) fun a S => ?_
      exact leafL ⟨rfl, S⟩
    · refine fI 25 undef [(24, undef), (17, .bool (decide (1000000000 < r9)))] 22 [some 21, some 14] rfl rfl rfl rfl rfl rfl fun G a w S => ?_
      refine sSkip 14 false 17 25 S rfl rfl rfl hc11 rfl (lb rfl) fun a S => ?_
      exact leafL ⟨rfl, S⟩
    · refine fI 26 (.bool true) [(17, .bool (decide (1000000000 < r9))), (25, undef)] 23 [some 14, some 22] rfl rfl rfl rfl rfl rfl fun G a w S => ?_
      refine sPickT (.bool true) S (wN rfl) rfl rfl hc11 rfl rfl (lb rfl) fun a S => ?_
      exact leafL ⟨rfl, S⟩
    exact leafT (⟨true, Option.some.inj h, S.fix [] [] (by decide) rfl rfl rfl⟩)
  obtain ⟨r12, hx13, h⟩ := bindSome h
  refine sDraw (nf := []) (W := [(0, 3, .pointer (some ⟨b2, 1, none⟩)), (1, 4, iv p0.Den), (2, 5, .bool (decide (p0.Den < 1))), (3, 6, .bool (decide (p0.Den < 1))), (4, 7, .pointer (some ⟨b2, 1, none⟩)), (5, 8, iv p0.Den), (6, 9, .bool (decide (1000000000 < p0.Den))), (7, 10, .bool (decide (1000000000 < p0.Den))), (8, 11, .bool (decide (1000000000 < p0.Den))), (9, 12, .pointer (some ⟨b2, 0, none⟩)), (10, 13, iv p0.Num), (11, 14, .int .u64 r9), (12, 15, .bool (decide (1000000000 < r9))), (13, 16, .bool (decide (1000000000 < r9))), (14, 17, .bool (decide (1000000000 < r9))), (15, 18, .pointer (some ⟨b2, 0, none⟩)), (16, 19, iv p0.Num), (17, 20, .int .u64 r9), (18, 21, .pointer (some ⟨b2, 1, none⟩)), (19, 22, iv p0.Den), (20, 23, .int .u64 (IntKind.u64.wrap p0.Den)), (21, 24, .int .u64 r12), (22, 25, .bool (r12 != 1)), (23, 26, .bool (r12 != 1))]) rfl S ?_
  refine node_by (A := anc_yarn_Check_0) (nf := []) (Y := []) (W := [(0, 3, .pointer (some ⟨b2, 1, none⟩)), (1, 4, iv p0.Den), (2, 5, .bool (decide (p0.Den < 1))), (3, 6, .bool (decide (p0.Den < 1))), (4, 7, .pointer (some ⟨b2, 1, none⟩)), (5, 8, iv p0.Den), (6, 9, .bool (decide (1000000000 < p0.Den))), (7, 10, .bool (decide (1000000000 < p0.Den))), (8, 11, .bool (decide (1000000000 < p0.Den))), (9, 12, .pointer (some ⟨b2, 0, none⟩)), (10, 13, iv p0.Num), (11, 14, .int .u64 r9), (12, 15, .bool (decide (1000000000 < r9))), (13, 16, .bool (decide (1000000000 < r9))), (14, 17, .bool (decide (1000000000 < r9))), (15, 18, .pointer (some ⟨b2, 0, none⟩)), (16, 19, iv p0.Num), (17, 20, .int .u64 r9), (18, 21, .pointer (some ⟨b2, 1, none⟩)), (19, 22, iv p0.Den), (20, 23, .int .u64 (IntKind.u64.wrap p0.Den)), (21, 24, .int .u64 r12), (22, 25, .bool (r12 != 1)), (23, 26, .bool (r12 != 1))]) 24 (by kernel_rfl) (by kernel_rfl) (by kernel_rfl) (by kernel_rfl) (by kernel_rfl) [0, 1, 2, 3, 4, 5, 6, 7, 8, 9, 10, 11, 12, 13, 14, 15, 16, 17, 18, 19, 20, 21, 22, 23] (by kernel_rfl) (by decide) (by decide) (aF 0 23 (by decide) ?_ (aF 1 22 (by decide) ?_ (aF 2 21 (by decide) ?_ (aF 3 20 (by decide) ?_ (aF 4 19 (by decide) ?_ (aF 5 18 (by decide) ?_ (aF 6 17 (by decide) ?_ (aF 7 16 (by decide) ?_ (aF 8 15 (by decide) ?_ (aF 9 14 (by decide) ?_ (aF 10 13 (by decide) ?_ (aF 11 12 (by decide) ?_ (aF 12 11 (by decide) ?_ (aF 13 10 (by decide) ?_ (aF 14 9 (by decide) ?_ (aF 15 8 (by decide) ?_ (aF 16 7 (by decide) ?_ (aF 17 6 (by decide) ?_ (aF 18 5 (by decide) ?_ (aF 19 4 (by decide) ?_ (aF 20 3 (by decide) ?_ (aF 21 2 (by decide) ?_ (aF 22 1 (by decide) ?_ (aF 23 0 (by decide) ?_ (trivial))))))))))))))))))))))))) [(26, .bool (r12 != 1))] (fin_of [some 23] rfl (by kernel_rfl) (by kernel_rfl)) (fun _ a w S => ?_)
  · refine fI 3 (.pointer (some ⟨b2, 1, none⟩)) [(1, .pointer (some ⟨b2, 0, none⟩))] 0 [none] rfl rfl rfl rfl rfl rfl fun G a w S => ?_
    refine sField (b := b2) (off := 0) 1 1 S (wN rfl) rfl rfl rfl rfl rfl (lb rfl) fun a S => ?_
    exact leafL ⟨rfl, S⟩
  · refine fI 4 (iv p0.Den) [(3, .pointer (some ⟨b2, 1, none⟩))] 1 [some 0] rfl rfl rfl rfl rfl rfl fun G a w S => ?_
    refine sLoad1 (p := b2) (off := 1) (T := 25) (vs := [iv p0.Num, iv p0.Den]) 0 (iv p0.Den) S (wN rfl) rfl rfl rfl rfl rfl rfl (lb rfl) fun a S => ?_
    exact leafL ⟨rfl, S⟩
  · refine fI 5 (.bool (decide (p0.Den < 1))) [(4, iv p0.Den)] 2 [some 1] rfl rfl rfl rfl rfl rfl fun G a w S => ?_
    refine sBin (.bool (decide (p0.Den < 1))) S (wN rfl) rfl rfl rfl (bLt _ _ _ _ .i64 p0.Den 1) rfl (lb rfl) fun a S => ?_
    exact leafL ⟨rfl, S⟩
  · refine fI 6 (.bool (decide (p0.Den < 1))) [(5, .bool (decide (p0.Den < 1)))] 3 [some 2] rfl rfl rfl rfl rfl rfl fun G a w S => ?_
    refine sMove (.bool (decide (p0.Den < 1))) S (wN rfl) (.inl rfl) rfl rfl (lb rfl) fun a S => ?_
    exact leafL ⟨rfl, S⟩
  · refine fI 7 (.pointer (some ⟨b2, 1, none⟩)) [(1, .pointer (some ⟨b2, 0, none⟩)), (6, .bool (decide (p0.Den < 1)))] 4 [none, some 3] rfl rfl rfl rfl rfl rfl fun G a w S => ?_
    refine sField (b := b2) (off := 0) 1 1 S (wG 3 false 6 rfl rfl rfl hc7) rfl rfl rfl rfl rfl (lb rfl) fun a S => ?_
    exact leafL ⟨rfl, S⟩
  · refine fI 8 (iv p0.Den) [(7, .pointer (some ⟨b2, 1, none⟩)), (6, .bool (decide (p0.Den < 1)))] 5 [some 4, some 3] rfl rfl rfl rfl rfl rfl fun G a w S => ?_
    refine sLoad1 (p := b2) (off := 1) (T := 25) (vs := [iv p0.Num, iv p0.Den]) 0 (iv p0.Den) S (wG 3 false 6 rfl rfl rfl hc7) rfl rfl rfl rfl rfl rfl (lb rfl) fun a S => ?_
    exact leafL ⟨rfl, S⟩
  · refine fI 9 (.bool (decide (1000000000 < p0.Den))) [(8, iv p0.Den), (6, .bool (decide (p0.Den < 1)))] 6 [some 5, some 3] rfl rfl rfl rfl rfl rfl fun G a w S => ?_
    refine sBin (.bool (decide (1000000000 < p0.Den))) S (wG 3 false 6 rfl rfl rfl hc7) rfl rfl rfl (bGt _ _ _ _ .i64 p0.Den 1000000000) rfl (lb rfl) fun a S => ?_
    exact leafL ⟨rfl, S⟩
  · refine fI 10 (.bool (decide (1000000000 < p0.Den))) [(6, .bool (decide (p0.Den < 1))), (9, .bool (decide (1000000000 < p0.Den)))] 7 [some 3, some 6] rfl rfl rfl rfl rfl rfl fun G a w S => ?_
    refine sPickF (.bool (decide (1000000000 < p0.Den))) S (wN rfl) rfl rfl hc7 rfl rfl (lb rfl) fun a S => ?_
    exact leafL ⟨rfl, S⟩
  · refine fI 11 (.bool (decide (1000000000 < p0.Den))) [(10, .bool (decide (1000000000 < p0.Den)))] 8 [some 7] rfl rfl rfl rfl rfl rfl fun G a w S => ?_
    refine sMove (.bool (decide (1000000000 < p0.Den))) S (wN rfl) (.inl rfl) rfl rfl (lb rfl) fun a S => ?_
    exact leafL ⟨rfl, S⟩
  · refine fI 12 (.pointer (some ⟨b2, 0, none⟩)) [(1, .pointer (some ⟨b2, 0, none⟩)), (11, .bool (decide (1000000000 < p0.Den)))] 9 [none, some 8] rfl rfl rfl rfl rfl rfl fun G a w S => ?_
    refine sField (b := b2) (off := 0) 0 0 S (wG 8 false 11 rfl rfl rfl hc8) rfl rfl rfl rfl rfl (lb rfl) fun a S => ?_
    exact leafL ⟨rfl, S⟩
  · refine fI 13 (iv p0.Num) [(12, .pointer (some ⟨b2, 0, none⟩)), (11, .bool (decide (1000000000 < p0.Den)))] 10 [some 9, some 8] rfl rfl rfl rfl rfl rfl fun G a w S => ?_
    refine sLoad1 (p := b2) (off := 0) (T := 25) (vs := [iv p0.Num, iv p0.Den]) 0 (iv p0.Num) S (wG 8 false 11 rfl rfl rfl hc8) rfl rfl rfl rfl rfl rfl (lb rfl) fun a S => ?_
    exact leafL ⟨rfl, S⟩
  · refine fI 14 (.int .u64 r9) [(13, iv p0.Num), (11, .bool (decide (1000000000 < p0.Den)))] 11 [some 10, some 8] rfl rfl rfl rfl rfl rfl fun G a w S => ?_
    have S1 := S.mem
    refine sCallQ (X := Unit) (f := 82) (vs := [iv p0.Num]) (val := fun _ => .int .u64 r9) S (wG 8 false 11 rfl rfl rfl hc8) rfl callee82 rfl (S1.quiet [] rfl) (fun E1 w1 S1 => c_yarn_size E1 w1 p0.Num r9 hx10 S1) rfl (lb rfl) fun _ a w S => ?_
    exact leafL ⟨rfl, S⟩
  · refine fI 15 (.bool (decide (1000000000 < r9))) [(14, .int .u64 r9), (11, .bool (decide (1000000000 < p0.Den)))] 12 [some 11, some 8] rfl rfl rfl rfl rfl rfl fun G a w S => ?_
    refine sBin (.bool (decide (1000000000 < r9))) S (wG 8 false 11 rfl rfl rfl hc8) rfl rfl rfl (bGt _ _ _ _ .u64 r9 1000000000) rfl (lb rfl) fun a S => ?_
    exact leafL ⟨rfl, S⟩
  · refine fI 16 (.bool (decide (1000000000 < r9))) [(11, .bool (decide (1000000000 < p0.Den))), (15, .bool (decide (1000000000 < r9)))] 13 [some 8, some 12] rfl rfl rfl rfl rfl rfl fun G a w S => ?_
    refine sPickF (.bool (decide (1000000000 < r9))) S (wN rfl) rfl rfl hc8 rfl rfl (lb rfl) fun a S => ?_
    exact leafL ⟨rfl, S⟩
  · refine fI 17 (.bool (decide (1000000000 < r9))) [(16, .bool (decide (1000000000 < r9)))] 14 [some 13] rfl rfl rfl rfl rfl rfl fun G a w S => ?_
    refine sMove (.bool (decide (1000000000 < r9))) S (wN rfl) (.inl rfl) rfl rfl (lb rfl) fun a S => ?_
    exact leafL ⟨rfl, S⟩
  · refine fI 18 (.pointer (some ⟨b2, 0, none⟩)) [(1, .pointer (some ⟨b2, 0, none⟩)), (17, .bool (decide (1000000000 < r9)))] 15 [none, some 14] rfl rfl rfl rfl rfl rfl fun G a w S => ?_
    refine sField (b := b2) (off := 0) 0 0 S (wG 14 false 17 rfl rfl rfl hc11) rfl rfl rfl rfl rfl (lb rfl) fun a S => ?_
    exact leafL ⟨rfl, S⟩
  · refine fI 19 (iv p0.Num) [(18, .pointer (some ⟨b2, 0, none⟩)), (17, .bool (decide (1000000000 < r9)))] 16 [some 15, some 14] rfl rfl rfl rfl rfl rfl fun G a w S => ?_
    refine sLoad1 (p := b2) (off := 0) (T := 25) (vs := [iv p0.Num, iv p0.Den]) 0 (iv p0.Num) S (wG 14 false 17 rfl rfl rfl hc11) rfl rfl rfl rfl rfl rfl (lb rfl) fun a S => ?_
    exact leafL ⟨rfl, S⟩
  · refine fI 20 (.int .u64 r9) [(19, iv p0.Num), (17, .bool (decide (1000000000 < r9)))] 17 [some 16, some 14] rfl rfl rfl rfl rfl rfl fun G a w S => ?_
    have S1 := S.mem
    refine sCallQ (X := Unit) (f := 82) (vs := [iv p0.Num]) (val := fun _ => .int .u64 r9) S (wG 14 false 17 rfl rfl rfl hc11) rfl callee82 rfl (S1.quiet [] rfl) (fun E1 w1 S1 => c_yarn_size E1 w1 p0.Num r9 hx10 S1) rfl (lb rfl) fun _ a w S => ?_
    exact leafL ⟨rfl, S⟩
  · refine fI 21 (.pointer (some ⟨b2, 1, none⟩)) [(1, .pointer (some ⟨b2, 0, none⟩)), (17, .bool (decide (1000000000 < r9)))] 18 [none, some 14] rfl rfl rfl rfl rfl rfl fun G a w S => ?_
    refine sField (b := b2) (off := 0) 1 1 S (wG 14 false 17 rfl rfl rfl hc11) rfl rfl rfl rfl rfl (lb rfl) fun a S => ?_
    exact leafL ⟨rfl, S⟩
  · refine fI 22 (iv p0.Den) [(21, .pointer (some ⟨b2, 1, none⟩)), (17, .bool (decide (1000000000 < r9)))] 19 [some 18, some 14] rfl rfl rfl rfl rfl rfl fun G a w S => ?_
    refine sLoad1 (p := b2) (off := 1) (T := 25) (vs := [iv p0.Num, iv p0.Den]) 0 (iv p0.Den) S (wG 14 false 17 rfl rfl rfl hc11) rfl rfl rfl rfl rfl rfl (lb rfl) fun a S => ?_
    exact leafL ⟨rfl, S⟩
  · refine fI 23 (.int .u64 (IntKind.u64.wrap p0.Den)) [(22, iv p0.Den), (17, .bool (decide (1000000000 < r9)))] 20 [some 19, some 14] rfl rfl rfl rfl rfl rfl fun G a w S => ?_
    refine sConv (k := .i64) (k2 := .u64) (b := p0.Den) S (wG 14 false 17 rfl rfl rfl hc11) rfl Try.underlying2 Try.underlying144 rfl rfl (lb rfl) fun a S => ?_
    exact leafL ⟨rfl, S⟩
  · refine fI 24 (.int .u64 r12) [(20, .int .u64 r9), (23, .int .u64 (IntKind.u64.wrap p0.Den)), (17, .bool (decide (1000000000 < r9)))] 21 [some 17, some 20, some 14] rfl rfl rfl rfl rfl rfl fun G a w S => ?_
    have S1 := S.mem
    refine sCallQ (X := Unit) (f := 81) (vs := [.int .u64 r9, .int .u64 (IntKind.u64.wrap p0.Den)]) (val := fun _ => .int .u64 r12) S (wG 14 false 17 rfl rfl rfl hc11) rfl callee81 rfl (S1.quiet [] rfl) (fun E1 w1 S1 => c_yarn_gcd E1 w1 r9 (IntKind.u64.wrap p0.Den) r12 hx13 S1) rfl (lb rfl) fun _ a w S => ?_
    exact leafL ⟨rfl, S⟩
  · refine fI 25 (.bool (r12 != 1)) [(24, .int .u64 r12), (17, .bool (decide (1000000000 < r9)))] 22 [some 21, some 14] rfl rfl rfl rfl rfl rfl fun G a w S => ?_
    refine sBin (.bool (r12 != 1)) S (wG 14 false 17 rfl rfl rfl hc11) rfl rfl rfl (bNe _ _ _ _ .u64 r12 1) rfl (lb rfl) fun a S => ?_
    exact leafL ⟨rfl, S⟩
  · refine fI 26 (.bool (r12 != 1)) [(17, .bool (decide (1000000000 < r9))), (25, .bool (r12 != 1))] 23 [some 14, some 22] rfl rfl rfl rfl rfl rfl fun G a w S => ?_
    refine sPickF (.bool (r12 != 1)) S (wN rfl) rfl rfl hc11 rfl rfl (lb rfl) fun a S => ?_
    exact leafL ⟨rfl, S⟩
  exact leafT (⟨r12 != 1, Option.some.inj h, S.fix [] [] (by decide) rfl rfl rfl⟩)

end Go.Proofs.Ytdbgkakmhlmpbaa
namespace Go.Proofs.Ytdbgkakmhlmpbaa
open Go.RowKit
set_option linter.unusedVariables false

noncomputable def F_yarn_counted (p0 : api_Count) : Option Int :=
  Option.bind (F_yarn_factors p0.System) fun r5 =>
  Option.bind (α := Bool) (
    if !r5.2.2.2 then
      some true
    else
      Option.bind (F_yarn_Check p0.N) fun r11 =>
      if r11 != 0 then
        some true
      else
        some (decide (p0.N.Num ≤ 0))) fun o7 =>
  if o7 then
    some 8
  else
    some 0
set_option maxHeartbeats 4000000 in
set_option maxRecDepth 100000 in
theorem c_yarn_counted (E : Nat → Prop) (w0 : World) (p0 : api_Count) (v0 : Value) (r : Int) (h : F_yarn_counted p0 = some r) (S : St0 E [] w0 w0 [] [fRep r_api_Count (v0) p0]) :
    Calls Try.prog 58 #[v0] w0 (Ret (X := Unit) E [] w0 (fun _ => .int .i64 r) (fun _ => []) (fun _ => [])) := by
  unfold F_yarn_counted at h
  obtain rfl : v0 = .agg #[.int .u8 p0.System, iv p0.N.Num, iv p0.N.Den] := S.know (i := 0) (e := fRep r_api_Count (v0) p0) rfl
  refine sEnter (args := [.agg #[.int .u8 p0.System, iv p0.N.Num, iv p0.N.Den]]) 29 Try.func58 rfl rfl (by simp) S (fun a S => ?_)
  refine sSeq (fun K1 hK1 => ?_)
  refine sRegion ?_
  refine sBox (v := .agg #[.int .u8 p0.System, iv p0.N.Num, iv p0.N.Den]) S (wN rfl) rfl rfl [.int .u8 p0.System, iv p0.N.Num, iv p0.N.Den] rfl rfl (lb rfl) fun a b2 w S => ?_
  refine sMove (iv 0) S (wN rfl) (.inr rfl) rfl rfl (lb rfl) fun a S => ?_
  refine leafL (leafT (hK1 _ _ ?_))
  refine sSeq (fun K3 hK3 => ?_)
  refine sSeq (fun K4 hK4 => ?_)
  refine sRegion ?_
  refine sField (b := b2) (off := 0) 0 0 S (wN rfl) rfl rfl rfl rfl rfl (lb rfl) fun a S => ?_
  refine sLoad1 (p := b2) (off := 0) (T := 27) (vs := [.int .u8 p0.System, iv p0.N.Num, iv p0.N.Den]) 0 (.int .u8 p0.System) S (wN rfl) rfl rfl rfl rfl rfl rfl (lb rfl) fun a S => ?_
  obtain ⟨r5, hx6, h⟩ := bindSome h
  have S1 := S.mem
  refine sCallQ (X := Unit) (f := 79) (vs := [.int .u8 p0.System]) (val := fun _ => .tuple #[iv r5.1, iv r5.2.1, .bool r5.2.2.1, .bool r5.2.2.2]) S (wN rfl) rfl callee79 rfl (S1.quiet [] rfl) (fun E1 w1 S1 => c_yarn_factors E1 w1 p0.System r5 hx6 S1) rfl (lb rfl) fun _ a w S => ?_
  refine sMove (.tuple #[iv r5.1, iv r5.2.1, .bool r5.2.2.1, .bool r5.2.2.2]) S (wN rfl) (.inl rfl) rfl rfl (lb rfl) fun a S => ?_
  refine sExtract (vs := [iv r5.1, iv r5.2.1, .bool r5.2.2.1, .bool r5.2.2.2]) (iv r5.1) S (wN rfl) rfl rfl rfl rfl (lb rfl) fun a S => ?_
  refine sExtract (vs := [iv r5.1, iv r5.2.1, .bool r5.2.2.1, .bool r5.2.2.2]) (iv r5.2.1) S (wN rfl) rfl rfl rfl rfl (lb rfl) fun a S => ?_
  refine sExtract (vs := [iv r5.1, iv r5.2.1, .bool r5.2.2.1, .bool r5.2.2.2]) (.bool r5.2.2.1) S (wN rfl) rfl rfl rfl rfl (lb rfl) fun a S => ?_
  refine sExtract (vs := [iv r5.1, iv r5.2.1, .bool r5.2.2.1, .bool r5.2.2.2]) (.bool r5.2.2.2) S (wN rfl) rfl rfl rfl rfl (lb rfl) fun a S => ?_
  refine sMove (iv r5.1) S (wN rfl) (.inr rfl) rfl rfl (lb rfl) fun a S => ?_
  refine sMove (iv r5.2.1) S (wN rfl) (.inr rfl) rfl rfl (lb rfl) fun a S => ?_
  refine sMove (.bool r5.2.2.1) S (wN rfl) (.inr rfl) rfl rfl (lb rfl) fun a S => ?_
  refine sMove (.bool r5.2.2.2) S (wN rfl) (.inr rfl) rfl rfl (lb rfl) fun a S => ?_
  refine leafL (leafT (hK4 _ _ ?_))
  obtain ⟨t8, h, g9⟩ := bindSome h
  refine sCut (fun a w => ∃ o7, o7 = t8 ∧ St [] E [] w0 29 a w [(28, .bool o7)] [] []) ?_ (fun a w hI => ?_)
  rotate_left
  · obtain ⟨o7, rfl, S⟩ := hI
    have h := g9
    clear g9
    try dsimp only at h
    rcases iteSome h with ⟨hc14, h⟩ | ⟨hc14, h⟩
    · refine sCondT S rfl hc14 ?_
      refine sSeq (fun K15 hK15 => ?_)
      refine sRegion ?_
      refine sMove (iv 8) S (wN rfl) (.inr rfl) rfl rfl (lb rfl) fun a S => ?_
      refine leafL (leafT (hK15 _ _ ?_))
      obtain rfl := Option.some.inj h
      exact wp_ret (rThen (sRet (iv 8) S (rsl1 rfl (rvT (t := 2) (v := iv 8) S rfl)) ⟨(), rfl, S.mem.sel [] [] (by decide) rfl rfl⟩))
    refine sCondF S rfl hc14 ?_
    refine wp_skip (leafT (hK3 _ _ ?_))
    refine sSeq (fun K16 hK16 => ?_)
    refine sRegion ?_
    refine sMove (iv 0) S (wN rfl) (.inr rfl) rfl rfl (lb rfl) fun a S => ?_
    refine leafL (leafT (hK16 _ _ ?_))
    obtain rfl := Option.some.inj h
    exact wp_ret (sRet (iv 0) S (rsl1 rfl (rvT (t := 2) (v := iv 0) S rfl)) ⟨(), rfl, S.mem.sel [] [] (by decide) rfl rfl⟩)
  refine sRegion ?_
  refine sMove (.bool r5.2.2.2) S (wN rfl) (.inl rfl) rfl rfl (lb rfl) fun a S => ?_
  refine sNot (b := r5.2.2.2) S (wN rfl) rfl rfl rfl (lb rfl) fun a S => ?_
  refine sMove (.bool (!r5.2.2.2)) S (wN rfl) (.inl rfl) rfl rfl (lb rfl) fun a S => ?_
  rcases iteSome h with ⟨hc10, h⟩ | ⟨hc10, h⟩
  · refine sSkip 2 false 17 18 S rfl rfl rfl hc10 rfl (lb rfl) fun a S => ?_
    refine sSkip 2 false 17 19 S rfl rfl rfl hc10 rfl (lb rfl) fun a S => ?_
    refine sSkip 2 false 17 20 S rfl rfl rfl hc10 rfl (lb rfl) fun a S => ?_
    refine sSkip 2 false 17 21 S rfl rfl rfl hc10 rfl (lb rfl) fun a S => ?_
    refine sPickT (.bool true) S (wN rfl) rfl rfl hc10 rfl rfl (lb rfl) fun a S => ?_
    refine sMove (.bool true) S (wN rfl) (.inl rfl) rfl rfl (lb rfl) fun a S => ?_
    refine sSkip 8 false 23 24 S rfl rfl rfl rfl rfl (lb rfl) fun a S => ?_
    refine sSkip 8 false 23 25 S rfl rfl rfl rfl rfl (lb rfl) fun a S => ?_
    refine sSkip 8 false 23 26 S rfl rfl rfl rfl rfl (lb rfl) fun a S => ?_
    refine sSkip 8 false 23 27 S rfl rfl rfl rfl rfl (lb rfl) fun a S => ?_
    refine sPickT (.bool true) S (wN rfl) rfl rfl rfl rfl rfl (lb rfl) fun a S => ?_
    exact leafL (leafT (⟨true, Option.some.inj h, S.fix [] [] (by decide) rfl rfl rfl⟩))
  refine sField (b := b2) (off := 0) 1 1 S (wG 2 false 17 rfl rfl rfl hc10) rfl rfl rfl rfl rfl (lb rfl) fun a S => ?_
  refine sLoadN (p := b2) (off := 1) (T := 27) (vs := [.int .u8 p0.System, iv p0.N.Num, iv p0.N.Den]) 0 [iv p0.N.Num, iv p0.N.Den] S (wG 2 false 17 rfl rfl rfl hc10) rfl rfl rfl rfl rfl rfl rfl (lb rfl) fun a S => ?_
  obtain ⟨r11, hx12, h⟩ := bindSome h
  have S1 := S.mem
  have S1 := S1.learn (fRep r_api_Ratio (.agg #[iv p0.N.Num, iv p0.N.Den]) p0.N) rfl
  refine sCallQ (X := Unit) (f := 80) (vs := [.agg #[iv p0.N.Num, iv p0.N.Den]]) (val := fun _ => iv r11) S (wG 2 false 17 rfl rfl rfl hc10) rfl callee80 rfl (S1.quiet [0] rfl) (fun E1 w1 S1 => c_yarn_Check E1 w1 p0.N (.agg #[iv p0.N.Num, iv p0.N.Den]) r11 hx12 S1) rfl (lb rfl) fun _ a w S => ?_
  refine sBin (.bool (r11 != 0)) S (wG 2 false 17 rfl rfl rfl hc10) rfl rfl rfl (bNe _ _ _ _ .i64 r11 0) rfl (lb rfl) fun a S => ?_
  refine sPickF (.bool (r11 != 0)) S (wN rfl) rfl rfl hc10 rfl rfl (lb rfl) fun a S => ?_
  refine sMove (.bool (r11 != 0)) S (wN rfl) (.inl rfl) rfl rfl (lb rfl) fun a S => ?_
  rcases iteSome h with ⟨hc13, h⟩ | ⟨hc13, h⟩
  · refine sSkip 8 false 23 24 S rfl rfl rfl hc13 rfl (lb rfl) fun a S => ?_
    refine sSkip 8 false 23 25 S rfl rfl rfl hc13 rfl (lb rfl) fun a S => ?_
    refine sSkip 8 false 23 26 S rfl rfl rfl hc13 rfl (lb rfl) fun a S => ?_
    refine sSkip 8 false 23 27 S rfl rfl rfl hc13 rfl (lb rfl) fun a S => ?_
    refine sPickT (.bool true) S (wN rfl) rfl rfl hc13 rfl rfl (lb rfl) fun a S => ?_
    exact leafL (leafT (⟨true, Option.some.inj h, S.fix [] [] (by decide) rfl rfl rfl⟩))
  refine sField (b := b2) (off := 0) 1 1 S (wG 8 false 23 rfl rfl rfl hc13) rfl rfl rfl rfl rfl (lb rfl) fun a S => ?_
  refine sField (b := b2) (off := 1) 0 1 S (wG 8 false 23 rfl rfl rfl hc13) rfl rfl rfl rfl rfl (lb rfl) fun a S => ?_
  refine sLoad1 (p := b2) (off := 1) (T := 27) (vs := [.int .u8 p0.System, iv p0.N.Num, iv p0.N.Den]) 0 (iv p0.N.Num) S (wG 8 false 23 rfl rfl rfl hc13) rfl rfl rfl rfl rfl rfl (lb rfl) fun a S => ?_
  refine sBin (.bool (decide (p0.N.Num ≤ 0))) S (wG 8 false 23 rfl rfl rfl hc13) rfl rfl rfl (bLe _ _ _ _ .i64 p0.N.Num 0) rfl (lb rfl) fun a S => ?_
  refine sPickF (.bool (decide (p0.N.Num ≤ 0))) S (wN rfl) rfl rfl hc13 rfl rfl (lb rfl) fun a S => ?_
  exact leafL (leafT (⟨decide (p0.N.Num ≤ 0), Option.some.inj h, S.fix [] [] (by decide) rfl rfl rfl⟩))

end Go.Proofs.Ytdbgkakmhlmpbaa
namespace Go.Proofs.Ytdbgkakmhlmpbaa
open Go.RowKit
set_option linter.unusedVariables false

def anc_yarn_Make_0 : List (List Nat) := [[], [], [0, 1], [], [], [3, 4], [0, 1, 2], [0, 1, 2, 3, 4, 5, 6]]
noncomputable def F_yarn_Make (p0 : Int) (p1 : Int) : Option (api_Ratio × Int) :=
  if p1 == 0 then
    some ((api_Ratio.mk 0 0), 18)
  else
    Option.bind (F_yarn_size p0) fun r8 =>
    Option.bind (F_yarn_size p1) fun r10 =>
    Option.bind (F_yarn_gcd r8 r10) fun r13 =>
    Option.bind (quoK .u64 r8 r13) fun z16 =>
    Option.bind (quoK .u64 r10 r13) fun z18 =>
    Option.bind (α := Bool) (
      if decide (1000000000 < z16) then
        some true
      else
        some (decide (1000000000 < z18))) fun o21 =>
    if o21 then
      some ((api_Ratio.mk 0 0), 16)
    else
      Option.bind (α := Int) (
        if (decide (p0 < 0)) != (decide (p1 < 0)) then
          some (w64 (0 - (IntKind.i64.wrap z16)))
        else
          some (IntKind.i64.wrap z16)) fun o29 =>
      some ((api_Ratio.mk o29 (IntKind.i64.wrap z18)), 0)
def c_yarn_Make_val (r : (api_Ratio × Int)) (x : Value) : Value := .tuple #[x, .int .i64 r.2]
def c_yarn_Make_D (r : (api_Ratio × Int)) (x : Value) : List Fact := [fRep r_api_Ratio x r.1]
set_option maxHeartbeats 4000000 in
set_option maxRecDepth 100000 in
theorem c_yarn_Make (E : Nat → Prop) (w0 : World) (p0 : Int) (p1 : Int) (r : (api_Ratio × Int)) (h : F_yarn_Make p0 p1 = some r) (S : St0 E [] w0 w0 [] []) :
    Calls Try.prog 60 #[iv p0, iv p1] w0 (Ret (X := Value) E [] w0 (c_yarn_Make_val r) (fun _ => []) (c_yarn_Make_D r)) := by
  unfold F_yarn_Make at h
  refine sEnter (args := [iv p0, iv p1]) 48 Try.func60 rfl rfl (by simp) S (fun a S => ?_)
  refine sSeq (fun K1 hK1 => ?_)
  refine sRegion ?_
  refine sAlloc (.agg #[iv 0, iv 0]) S (wN rfl) rfl rfl [iv 0, iv 0] rfl rfl (lb rfl) fun a b2 w S => ?_
  refine sMove (iv 0) S (wN rfl) (.inr rfl) rfl rfl (lb rfl) fun a S => ?_
  refine leafL (leafT (hK1 _ _ ?_))
  refine sSeq (fun K3 hK3 => ?_)
  refine sSeq (fun K4 hK4 => ?_)
  refine sRegion ?_
  refine sMove (iv p1) S (wN rfl) (.inl rfl) rfl rfl (lb rfl) fun a S => ?_
  refine sBin (.bool (p1 == 0)) S (wN rfl) rfl rfl rfl (bEq _ _ _ _ .i64 p1 0) rfl (lb rfl) fun a S => ?_
  refine leafL (leafT (hK4 _ _ ?_))
  rcases iteSome h with ⟨hc5, h⟩ | ⟨hc5, h⟩
  · refine sCondT S rfl hc5 ?_
    refine sSeq (fun K6 hK6 => ?_)
    refine sRegion ?_
    refine sBuild [] [iv 0, iv 0] S (wN rfl) rfl rfl rfl rfl (lb rfl) fun a S => ?_
    refine sStore (p := b2) (off := 0) (T := 25) (vs := [iv 0, iv 0]) (v := .agg #[iv 0, iv 0]) 0 [iv 0, iv 0] S (wN rfl) rfl rfl rfl rfl rfl rfl rfl (by simp) rfl fun a w S => ?_
    refine sMove (iv 18) S (wN rfl) (.inr rfl) rfl rfl (lb rfl) fun a S => ?_
    refine leafL (leafT (hK6 _ _ ?_))
    obtain rfl := Option.some.inj h
    have S := S.learn (fRep r_api_Ratio (.agg #[iv 0, iv 0]) (api_Ratio.mk 0 0)) rfl
    exact wp_ret (rThen (sRet (.tuple #[.agg #[iv 0, iv 0], iv 18]) S (rsl2 rfl (rvN (c := 4) (t := 25) (T := 25) (p := b2) 0 [iv 0, iv 0] S rfl rfl rfl rfl) (rvT (t := 5) (v := iv 18) S rfl)) ⟨(.agg #[iv 0, iv 0]), rfl, S.mem.sel [] [0] (by decide) rfl rfl⟩))
  refine sCondF S rfl hc5 ?_
  refine wp_skip (leafT (hK3 _ _ ?_))
  refine sSeq (fun K7 hK7 => ?_)
  refine sRegion ?_
  refine sMove (iv p0) S (wN rfl) (.inl rfl) rfl rfl (lb rfl) fun a S => ?_
  obtain ⟨r8, hx9, h⟩ := bindSome h
  have S1 := S.mem
  refine sCallQ (X := Unit) (f := 82) (vs := [iv p0]) (val := fun _ => .int .u64 r8) S (wN rfl) rfl callee82 rfl (S1.quiet [] rfl) (fun E1 w1 S1 => c_yarn_size E1 w1 p0 r8 hx9 S1) rfl (lb rfl) fun _ a w S => ?_
  refine sMove (iv p1) S (wN rfl) (.inl rfl) rfl rfl (lb rfl) fun a S => ?_
  obtain ⟨r10, hx11, h⟩ := bindSome h
  have S1 := S.mem
  refine sCallQ (X := Unit) (f := 82) (vs := [iv p1]) (val := fun _ => .int .u64 r10) S (wN rfl) rfl callee82 rfl (S1.quiet [] rfl) (fun E1 w1 S1 => c_yarn_size E1 w1 p1 r10 hx11 S1) rfl (lb rfl) fun _ a w S => ?_
  refine sMove (.int .u64 r8) S (wN rfl) (.inr rfl) rfl rfl (lb rfl) fun a S => ?_
  refine sMove (.int .u64 r10) S (wN rfl) (.inr rfl) rfl rfl (lb rfl) fun a S => ?_
  refine leafL (leafT (hK7 _ _ ?_))
  refine sSeq (fun K12 hK12 => ?_)
  refine sRegion ?_
  refine sMove (.int .u64 r8) S (wN rfl) (.inl rfl) rfl rfl (lb rfl) fun a S => ?_
  refine sMove (.int .u64 r10) S (wN rfl) (.inl rfl) rfl rfl (lb rfl) fun a S => ?_
  obtain ⟨r13, hx14, h⟩ := bindSome h
  have S1 := S.mem
  refine sCallQ (X := Unit) (f := 81) (vs := [.int .u64 r8, .int .u64 r10]) (val := fun _ => .int .u64 r13) S (wN rfl) rfl callee81 rfl (S1.quiet [] rfl) (fun E1 w1 S1 => c_yarn_gcd E1 w1 r8 r10 r13 hx14 S1) rfl (lb rfl) fun _ a w S => ?_
  refine sMove (.int .u64 r13) S (wN rfl) (.inr rfl) rfl rfl (lb rfl) fun a S => ?_
  refine leafL (leafT (hK12 _ _ ?_))
  refine sSeq (fun K15 hK15 => ?_)
  obtain ⟨z16, hx17, h⟩ := bindSome h
  obtain ⟨z18, hx19, h⟩ := bindSome h
  refine sDraw (nf := []) (W := [(0, 20, .int .u64 r8), (1, 21, .int .u64 r13), (2, 22, .int .u64 z16), (3, 23, .int .u64 r10), (4, 24, .int .u64 r13), (5, 25, .int .u64 z18), (6, 6, .int .u64 z16), (7, 7, .int .u64 z18)]) rfl S ?_
  refine node_by (A := anc_yarn_Make_0) (nf := []) (Y := []) (W := [(0, 20, .int .u64 r8), (1, 21, .int .u64 r13), (2, 22, .int .u64 z16), (3, 23, .int .u64 r10), (4, 24, .int .u64 r13), (5, 25, .int .u64 z18), (6, 6, .int .u64 z16), (7, 7, .int .u64 z18)]) 8 (by kernel_rfl) (by kernel_rfl) (by kernel_rfl) (by kernel_rfl) (by kernel_rfl) [0, 1, 2, 3, 4, 5, 6, 7] (by kernel_rfl) (by decide) (by decide) (aF 0 7 (by decide) ?_ (aF 1 6 (by decide) ?_ (aF 2 5 (by decide) ?_ (aF 3 4 (by decide) ?_ (aF 4 3 (by decide) ?_ (aF 5 2 (by decide) ?_ (aF 6 1 (by decide) ?_ (aF 7 0 (by decide) ?_ (trivial))))))))) [(0, iv p0), (1, iv p1), (4, .pointer (some ⟨b2, 0, none⟩)), (6, .int .u64 z16), (7, .int .u64 z18)] (fin_of [none, none, none, some 6, some 7] rfl (by kernel_rfl) (by kernel_rfl)) (fun _ a w S => ?_)
  · refine fI 20 (.int .u64 r8) [(6, .int .u64 r8)] 0 [none] rfl rfl rfl rfl rfl rfl fun G a w S => ?_
    refine sMove (.int .u64 r8) S (wN rfl) (.inl rfl) rfl rfl (lb rfl) fun a S => ?_
    exact leafL ⟨rfl, S⟩
  · refine fI 21 (.int .u64 r13) [(8, .int .u64 r13)] 1 [none] rfl rfl rfl rfl rfl rfl fun G a w S => ?_
    refine sMove (.int .u64 r13) S (wN rfl) (.inl rfl) rfl rfl (lb rfl) fun a S => ?_
    exact leafL ⟨rfl, S⟩
  · refine fI 22 (.int .u64 z16) [(20, .int .u64 r8), (21, .int .u64 r13)] 2 [some 0, some 1] rfl rfl rfl rfl rfl rfl fun G a w S => ?_
    refine sBin (.int .u64 z16) S (wN rfl) rfl rfl rfl (bQuoK _ _ _ _ (k := .u64) (x := r8) (y := r13) hx17) rfl (lb rfl) fun a S => ?_
    exact leafL ⟨rfl, S⟩
  · refine fI 23 (.int .u64 r10) [(7, .int .u64 r10)] 3 [none] rfl rfl rfl rfl rfl rfl fun G a w S => ?_
    refine sMove (.int .u64 r10) S (wN rfl) (.inl rfl) rfl rfl (lb rfl) fun a S => ?_
    exact leafL ⟨rfl, S⟩
  · refine fI 24 (.int .u64 r13) [(8, .int .u64 r13)] 4 [none] rfl rfl rfl rfl rfl rfl fun G a w S => ?_
    refine sMove (.int .u64 r13) S (wN rfl) (.inl rfl) rfl rfl (lb rfl) fun a S => ?_
    exact leafL ⟨rfl, S⟩
  · refine fI 25 (.int .u64 z18) [(23, .int .u64 r10), (24, .int .u64 r13)] 5 [some 3, some 4] rfl rfl rfl rfl rfl rfl fun G a w S => ?_
    refine sBin (.int .u64 z18) S (wN rfl) rfl rfl rfl (bQuoK _ _ _ _ (k := .u64) (x := r10) (y := r13) hx19) rfl (lb rfl) fun a S => ?_
    exact leafL ⟨rfl, S⟩
  · refine fI 6 (.int .u64 z16) [(22, .int .u64 z16)] 6 [some 2] rfl rfl rfl rfl rfl rfl fun G a w S => ?_
    refine sMove (.int .u64 z16) S (wN rfl) (.inr rfl) rfl rfl (lb rfl) fun a S => ?_
    exact leafL ⟨rfl, S⟩
  · refine fI 7 (.int .u64 z18) [(25, .int .u64 z18)] 7 [some 5] rfl rfl rfl rfl rfl rfl fun G a w S => ?_
    refine sMove (.int .u64 z18) S (wN rfl) (.inr rfl) rfl rfl (lb rfl) fun a S => ?_
    exact leafL ⟨rfl, S⟩
  refine leafT (hK15 _ _ ?_)
  refine sSeq (fun K20 hK20 => ?_)
  obtain ⟨t22, h, g23⟩ := bindSome h
  refine sCut (fun a w => ∃ o21, o21 = t22 ∧ St [] E [] w0 48 a w [(0, iv p0), (1, iv p1), (4, .pointer (some ⟨b2, 0, none⟩)), (6, .int .u64 z16), (7, .int .u64 z18), (31, .bool o21)] [eBox b2 25 [iv 0, iv 0]] []) ?_ (fun a w hI => ?_)
  · refine sRegion ?_
    refine sMove (.int .u64 z16) S (wN rfl) (.inl rfl) rfl rfl (lb rfl) fun a S => ?_
    refine sBin (.bool (decide (1000000000 < z16))) S (wN rfl) rfl rfl rfl (bGt _ _ _ _ .u64 z16 1000000000) rfl (lb rfl) fun a S => ?_
    refine sMove (.bool (decide (1000000000 < z16))) S (wN rfl) (.inl rfl) rfl rfl (lb rfl) fun a S => ?_
    rcases iteSome h with ⟨hc24, h⟩ | ⟨hc24, h⟩
    · refine sSkip 2 false 28 29 S rfl rfl rfl hc24 rfl (lb rfl) fun a S => ?_
      refine sSkip 2 false 28 30 S rfl rfl rfl hc24 rfl (lb rfl) fun a S => ?_
      refine sPickT (.bool true) S (wN rfl) rfl rfl hc24 rfl rfl (lb rfl) fun a S => ?_
      exact leafL (leafT (⟨true, Option.some.inj h, S.fix [0] [] (by decide) rfl rfl rfl⟩))
    refine sMove (.int .u64 z18) S (wG 2 false 28 rfl rfl rfl hc24) (.inl rfl) rfl rfl (lb rfl) fun a S => ?_
    refine sBin (.bool (decide (1000000000 < z18))) S (wG 2 false 28 rfl rfl rfl hc24) rfl rfl rfl (bGt _ _ _ _ .u64 z18 1000000000) rfl (lb rfl) fun a S => ?_
    refine sPickF (.bool (decide (1000000000 < z18))) S (wN rfl) rfl rfl hc24 rfl rfl (lb rfl) fun a S => ?_
    exact leafL (leafT (⟨decide (1000000000 < z18), Option.some.inj h, S.fix [0] [] (by decide) rfl rfl rfl⟩))
  obtain ⟨o21, rfl, S⟩ := hI
  have h := g23
  clear g23
  try dsimp only at h
  rcases iteSome h with ⟨hc25, h⟩ | ⟨hc25, h⟩
  · refine sCondT S rfl hc25 ?_
    refine sSeq (fun K26 hK26 => ?_)
    refine sRegion ?_
    refine sBuild [] [iv 0, iv 0] S (wN rfl) rfl rfl rfl rfl (lb rfl) fun a S => ?_
    refine sStore (p := b2) (off := 0) (T := 25) (vs := [iv 0, iv 0]) (v := .agg #[iv 0, iv 0]) 0 [iv 0, iv 0] S (wN rfl) rfl rfl rfl rfl rfl rfl rfl (by simp) rfl fun a w S => ?_
    refine sMove (iv 16) S (wN rfl) (.inr rfl) rfl rfl (lb rfl) fun a S => ?_
    refine leafL (leafT (hK26 _ _ ?_))
    obtain rfl := Option.some.inj h
    have S := S.learn (fRep r_api_Ratio (.agg #[iv 0, iv 0]) (api_Ratio.mk 0 0)) rfl
    exact wp_ret (rThen (sRet (.tuple #[.agg #[iv 0, iv 0], iv 16]) S (rsl2 rfl (rvN (c := 4) (t := 25) (T := 25) (p := b2) 0 [iv 0, iv 0] S rfl rfl rfl rfl) (rvT (t := 5) (v := iv 16) S rfl)) ⟨(.agg #[iv 0, iv 0]), rfl, S.mem.sel [] [0] (by decide) rfl rfl⟩))
  refine sCondF S rfl hc25 ?_
  refine wp_skip (leafT (hK20 _ _ ?_))
  refine sSeq (fun K27 hK27 => ?_)
  refine sRegion ?_
  refine sMove (.int .u64 z16) S (wN rfl) (.inl rfl) rfl rfl (lb rfl) fun a S => ?_
  refine sConv (k := .u64) (k2 := .i64) (b := z16) S (wN rfl) rfl Try.underlying144 Try.underlying2 rfl rfl (lb rfl) fun a S => ?_
  refine sMove (.int .u64 z18) S (wN rfl) (.inl rfl) rfl rfl (lb rfl) fun a S => ?_
  refine sConv (k := .u64) (k2 := .i64) (b := z18) S (wN rfl) rfl Try.underlying144 Try.underlying2 rfl rfl (lb rfl) fun a S => ?_
  refine sBuild [(0, iv (IntKind.i64.wrap z16)), (1, iv (IntKind.i64.wrap z18))] [iv (IntKind.i64.wrap z16), iv (IntKind.i64.wrap z18)] S (wN rfl) rfl rfl rfl rfl (lb rfl) fun a S => ?_
  refine sAlloc (.agg #[iv 0, iv 0]) S (wN rfl) rfl rfl [iv 0, iv 0] rfl rfl (lb rfl) fun a b28 w S => ?_
  refine sStore (p := b28) (off := 0) (T := 25) (vs := [iv 0, iv 0]) (v := .agg #[iv (IntKind.i64.wrap z16), iv (IntKind.i64.wrap z18)]) 0 [iv (IntKind.i64.wrap z16), iv (IntKind.i64.wrap z18)] S (wN rfl) rfl rfl rfl rfl rfl rfl rfl (by simp) rfl fun a w S => ?_
  refine leafL (leafT (hK27 _ _ ?_))
  obtain ⟨t30, h, g31⟩ := bindSome h
  refine sCut (fun a w => ∃ o29, o29 = t30 ∧ St [] E [] w0 48 a w [(4, .pointer (some ⟨b2, 0, none⟩)), (9, .pointer (some ⟨b28, 0, none⟩))] [eBox b2 25 [iv 0, iv 0], eBox b28 25 [iv o29, iv (IntKind.i64.wrap z18)]] []) ?_ (fun a w hI => ?_)
  rotate_left
  · obtain ⟨o29, rfl, S⟩ := hI
    have h := g31
    clear g31
    try dsimp only at h
    refine sSeq (fun K34 hK34 => ?_)
    refine sRegion ?_
    refine sLoadN (p := b28) (off := 0) (T := 25) (vs := [iv o29, iv (IntKind.i64.wrap z18)]) 1 [iv o29, iv (IntKind.i64.wrap z18)] S (wN rfl) rfl rfl rfl rfl rfl rfl rfl (lb rfl) fun a S => ?_
    refine sStore (p := b2) (off := 0) (T := 25) (vs := [iv 0, iv 0]) (v := .agg #[iv o29, iv (IntKind.i64.wrap z18)]) 0 [iv o29, iv (IntKind.i64.wrap z18)] S (wN rfl) rfl rfl rfl rfl rfl rfl rfl (by simp) rfl fun a w S => ?_
    refine sMove (iv 0) S (wN rfl) (.inr rfl) rfl rfl (lb rfl) fun a S => ?_
    refine leafL (leafT (hK34 _ _ ?_))
    obtain rfl := Option.some.inj h
    have S := S.learn (fRep r_api_Ratio (.agg #[iv o29, iv (IntKind.i64.wrap z18)]) (api_Ratio.mk o29 (IntKind.i64.wrap z18))) rfl
    exact wp_ret (sRet (.tuple #[.agg #[iv o29, iv (IntKind.i64.wrap z18)], iv 0]) S (rsl2 rfl (rvN (c := 4) (t := 25) (T := 25) (p := b2) 0 [iv o29, iv (IntKind.i64.wrap z18)] S rfl rfl rfl rfl) (rvT (t := 5) (v := iv 0) S rfl)) ⟨(.agg #[iv o29, iv (IntKind.i64.wrap z18)]), rfl, S.mem.sel [] [0] (by decide) rfl rfl⟩)
  refine sSeq (fun K32 hK32 => ?_)
  refine sRegion ?_
  refine sMove (iv p0) S (wN rfl) (.inl rfl) rfl rfl (lb rfl) fun a S => ?_
  refine sBin (.bool (decide (p0 < 0))) S (wN rfl) rfl rfl rfl (bLt _ _ _ _ .i64 p0 0) rfl (lb rfl) fun a S => ?_
  refine sMove (iv p1) S (wN rfl) (.inl rfl) rfl rfl (lb rfl) fun a S => ?_
  refine sBin (.bool (decide (p1 < 0))) S (wN rfl) rfl rfl rfl (bLt _ _ _ _ .i64 p1 0) rfl (lb rfl) fun a S => ?_
  refine sBin (.bool ((decide (p0 < 0)) != (decide (p1 < 0)))) S (wN rfl) rfl rfl rfl (bNeB _ _ _ _ Try.underlying4 (decide (p0 < 0)) (decide (p1 < 0))) rfl (lb rfl) fun a S => ?_
  refine leafL (leafT (hK32 _ _ ?_))
  rcases iteSome h with ⟨hc33, h⟩ | ⟨hc33, h⟩
  rotate_left
  · refine sCondF S rfl hc33 ?_
    exact wp_skip (leafT (⟨IntKind.i64.wrap z16, Option.some.inj h, S.fix [1, 0] [] (by decide) rfl rfl rfl⟩))
  refine sCondT S rfl hc33 ?_
  refine sRegion ?_
  refine sField (b := b28) (off := 0) 0 0 S (wN rfl) rfl rfl rfl rfl rfl (lb rfl) fun a S => ?_
  refine sLoad1 (p := b28) (off := 0) (T := 25) (vs := [iv (IntKind.i64.wrap z16), iv (IntKind.i64.wrap z18)]) 0 (iv (IntKind.i64.wrap z16)) S (wN rfl) rfl rfl rfl rfl rfl rfl (lb rfl) fun a S => ?_
  refine sNeg (b := IntKind.i64.wrap z16) S (wN rfl) rfl rfl rfl (lb rfl) fun a S => ?_
  refine sField (b := b28) (off := 0) 0 0 S (wN rfl) rfl rfl rfl rfl rfl (lb rfl) fun a S => ?_
  refine sStore (p := b28) (off := 0) (T := 25) (vs := [iv (IntKind.i64.wrap z16), iv (IntKind.i64.wrap z18)]) (v := iv (w64 (0 - (IntKind.i64.wrap z16)))) 0 [iv (w64 (0 - (IntKind.i64.wrap z16)))] S (wN rfl) rfl rfl rfl rfl rfl rfl rfl (by simp) rfl fun a w S => ?_
  exact leafL (leafT (⟨w64 (0 - (IntKind.i64.wrap z16)), Option.some.inj h, S.fix [1, 0] [] (by decide) rfl rfl rfl⟩))

end Go.Proofs.Ytdbgkakmhlmpbaa
