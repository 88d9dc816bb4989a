/- Several texts in one: GTy SpO GOp KeA G63 G41 G42 G43s0 G44s0 G13 G17 G49 G70 G48 G52s0 G51s0 G19 G24 G72s0 G77s0 G71s0 G56 -/
import Derived.WalkKit
import Derived.Maps.AppendAt
import Derived.Deep.AppendLies
import Derived.KernelRfl
import Derived.Laws.OwnMore
import Derived.Great.BuildSlice
import Derived.Orders
import Derived.Laws.StructEq
import Derived.ChangeKeysEq
import Derived.Defers
import Derived.Laws.BytesString
import Derived.RangeFuncNested
import Derived.RangeFuncBound
import Derived.RangeFuncCalls
import Derived.RangeFuncLeaves
import Derived.OrdersIn
import Derived.LoopNIn
import Derived.ArgAppend
import Derived.Test.YthfifeabomdlpaaProg
import Derived.ProofKit
import Derived.OpenShut
import Derived.ChangeOld
import Derived.Deep.Slices
import Derived.Lib.SmallJoins
import Derived.JoinedOf
import Derived.JoinedAt
import Derived.Below
import Derived.Test.YthfifeabomdlpaaRows
import Derived.Test.YthfifeabomdlpaaMBlockReads1
namespace Go.Proofs.Ythfifeabomdlpaa
open Go.RowKit
set_option linter.unusedVariables false

structure api_Grid where
  W : Int
  H : Int
  Bits : (List Bool)
def r_api_Grid : R api_Grid where
  sz := 3
  rep := fun E w v x => ∃ v0, v = .agg #[.int .i64 x.W, .int .i64 x.H, v0] ∧ (rL rB).rep E w v0 x.Bits
  pos := by decide
  size := by rintro _ _ _ _ ⟨v0, rfl, h0⟩; rfl
  one := by
    rintro _ _ _ _ ⟨v0, rfl, h0⟩ u hu
    simp [Value.cells] at hu
    rcases hu with rfl | rfl | rfl
    · rfl
    · rfl
    · exact (rL rB).one h0 _ (by rw [scal_L _ _ _ _ _ h0]; simp)
  mono := by
    rintro _ _ _ _ _ _ h ⟨v0, e, h0⟩
    exact ⟨v0, e, (rL rB).mono h h0⟩
theorem callee13 : ∀ vs w, (callFunc 13 vs).run Try.prog w = .ok (.enter 13 vs) w := callee Try.func13 rfl rfl
theorem callee17 : ∀ vs w, (callFunc 17 vs).run Try.prog w = .ok (.enter 17 vs) w := callee Try.func17 rfl rfl
theorem callee19 : ∀ vs w, (callFunc 19 vs).run Try.prog w = .ok (.enter 19 vs) w := callee Try.func19 rfl rfl
theorem callee24 : ∀ vs w, (callFunc 24 vs).run Try.prog w = .ok (.enter 24 vs) w := callee Try.func24 rfl rfl
theorem callee25 : ∀ vs w, (callFunc 25 vs).run Try.prog w = .ok (.enter 25 vs) w := callee Try.func25 rfl rfl
theorem callee26 : ∀ vs w, (callFunc 26 vs).run Try.prog w = .ok (.enter 26 vs) w := callee Try.func26 rfl rfl
theorem callee27 : ∀ vs w, (callFunc 27 vs).run Try.prog w = .ok (.enter 27 vs) w := callee Try.func27 rfl rfl
theorem callee29 : ∀ vs w, (callFunc 29 vs).run Try.prog w = .ok (.enter 29 vs) w := callee Try.func29 rfl rfl
theorem callee31 : ∀ vs w, (callFunc 31 vs).run Try.prog w = .ok (.enter 31 vs) w := callee Try.func31 rfl rfl
theorem callee36 : ∀ vs w, (callFunc 36 vs).run Try.prog w = .ok (.enter 36 vs) w := callee Try.func36 rfl rfl
theorem callee37 : ∀ vs w, (callFunc 37 vs).run Try.prog w = .ok (.enter 37 vs) w := callee Try.func37 rfl rfl
theorem callee38 : ∀ vs w, (callFunc 38 vs).run Try.prog w = .ok (.enter 38 vs) w := callee Try.func38 rfl rfl
theorem callee39 : ∀ vs w, (callFunc 39 vs).run Try.prog w = .ok (.enter 39 vs) w := callee Try.func39 rfl rfl
theorem callee40 : ∀ vs w, (callFunc 40 vs).run Try.prog w = .ok (.enter 40 vs) w := callee Try.func40 rfl rfl
theorem callee41 : ∀ vs w, (callFunc 41 vs).run Try.prog w = .ok (.enter 41 vs) w := callee Try.func41 rfl rfl
theorem callee42 : ∀ vs w, (callFunc 42 vs).run Try.prog w = .ok (.enter 42 vs) w := callee Try.func42 rfl rfl
theorem callee43 : ∀ vs w, (callFunc 43 vs).run Try.prog w = .ok (.enter 43 vs) w := callee Try.func43 rfl rfl
theorem callee44 : ∀ vs w, (callFunc 44 vs).run Try.prog w = .ok (.enter 44 vs) w := callee Try.func44 rfl rfl
theorem callee48 : ∀ vs w, (callFunc 48 vs).run Try.prog w = .ok (.enter 48 vs) w := callee Try.func48 rfl rfl
theorem callee49 : ∀ vs w, (callFunc 49 vs).run Try.prog w = .ok (.enter 49 vs) w := callee Try.func49 rfl rfl
theorem callee51 : ∀ vs w, (callFunc 51 vs).run Try.prog w = .ok (.enter 51 vs) w := callee Try.func51 rfl rfl
theorem callee52 : ∀ vs w, (callFunc 52 vs).run Try.prog w = .ok (.enter 52 vs) w := callee Try.func52 rfl rfl
theorem callee56 : ∀ vs w, (callFunc 56 vs).run Try.prog w = .ok (.enter 56 vs) w := callee Try.func56 rfl rfl
theorem callee57 : ∀ vs w, (callFunc 57 vs).run Try.prog w = .ok (.enter 57 vs) w := callee Try.func57 rfl rfl
theorem callee58 : ∀ vs w, (callFunc 58 vs).run Try.prog w = .ok (.enter 58 vs) w := callee Try.func58 rfl rfl
theorem callee59 : ∀ vs w, (callFunc 59 vs).run Try.prog w = .ok (.enter 59 vs) w := callee Try.func59 rfl rfl
theorem callee60 : ∀ vs w, (callFunc 60 vs).run Try.prog w = .ok (.enter 60 vs) w := callee Try.func60 rfl rfl
theorem callee61 : ∀ vs w, (callFunc 61 vs).run Try.prog w = .ok (.enter 61 vs) w := callee Try.func61 rfl rfl
theorem callee62 : ∀ vs w, (callFunc 62 vs).run Try.prog w = .ok (.enter 62 vs) w := callee Try.func62 rfl rfl
theorem callee63 : ∀ vs w, (callFunc 63 vs).run Try.prog w = .ok (.enter 63 vs) w := callee Try.func63 rfl rfl
theorem callee70 : ∀ vs w, (callFunc 70 vs).run Try.prog w = .ok (.enter 70 vs) w := callee Try.func70 rfl rfl
theorem callee71 : ∀ vs w, (callFunc 71 vs).run Try.prog w = .ok (.enter 71 vs) w := callee Try.func71 rfl rfl
theorem callee72 : ∀ vs w, (callFunc 72 vs).run Try.prog w = .ok (.enter 72 vs) w := callee Try.func72 rfl rfl
theorem callee73 : ∀ vs w, (callFunc 73 vs).run Try.prog w = .ok (.enter 73 vs) w := callee Try.func73 rfl rfl
theorem callee74 : ∀ vs w, (callFunc 74 vs).run Try.prog w = .ok (.enter 74 vs) w := callee Try.func74 rfl rfl
theorem callee75 : ∀ vs w, (callFunc 75 vs).run Try.prog w = .ok (.enter 75 vs) w := callee Try.func75 rfl rfl
theorem callee76 : ∀ vs w, (callFunc 76 vs).run Try.prog w = .ok (.enter 76 vs) w := callee Try.func76 rfl rfl
theorem callee77 : ∀ vs w, (callFunc 77 vs).run Try.prog w = .ok (.enter 77 vs) w := callee Try.func77 rfl rfl

end Go.Proofs.Ythfifeabomdlpaa
namespace Go.Proofs.Ythfifeabomdlpaa
open Go.RowKit
set_option linter.unusedVariables false

open Go.ChangeShapes Go.WideShapes Go.ChangeAt Go.Joins
def InK (k : IntKind) (x : Int) : Prop := (Lit.int k x).wf = true
def Wl {α : Type} (p : α → Prop) (xs : List α) : Prop := xs.length ≤ 9223372036854775807 ∧ ∀ x, x ∈ xs → p x
/-- cells of a type read, well formed -/
def OpC {α : Type} (P : Program) (t : TypeId) (r : R α) (p : α → Prop) : Prop :=
  ∀ (H : Type) (enc : TypeId × Value → H) (w : World) (base : Nat) (spare : Nat → Bool) (held : Bool) (fuel : Nat) (cs : List Value) (x : DataW H × List MemPlace),
    DataW.trod enc P w base spare held fuel t cs = some x → ∃ v y, v.cells.toList = cs ∧ r.rep (fun _ => False) w v y ∧ p y
section
variable {P : Program}
theorem op_int {t : TypeId} (k : IntKind) (ht : P.underlying t = some (.int k)) : OpC P t (rI k) (InK k) := fun H enc w base spare held fuel cs x h => by
  obtain ⟨n, rfl, _, hw⟩ := DataW.trod_int ht h
  exact ⟨_, n, rfl, rfl, hw⟩
theorem choose_list {α : Type} {n : Nat} {p : Nat → α → Prop} (h : ∀ i, i < n → ∃ x, p i x) : ∃ l : List α, l.length = n ∧ ∀ i x, l[i]? = some x → p i x := by
  induction n with
  | zero => exact ⟨[], rfl, fun i x hi => by simp at hi⟩
  | succ n ih =>
    obtain ⟨l, hl, hp⟩ := ih fun i hi => h i (by omega)
    obtain ⟨x, hx⟩ := h n (by omega)
    refine ⟨l ++ [x], by simp [hl], fun i y hi => ?_⟩
    by_cases e : i < l.length
    · rw [List.getElem?_append_left e] at hi; exact hp i y hi
    · rw [List.getElem?_append_right (by omega)] at hi
      have : i - l.length = 0 := by
        have := (List.getElem?_eq_some_iff.1 hi).1
        simp at this; omega
      rw [this] at hi
      simp at hi; subst hi
      have : i = n := by omega
      subst this; exact hx
theorem op_slice {α : Type} {t e : TypeId} {r : R α} {p : α → Prop} (ht : P.underlying t = some (.slice e)) (hc : P.cellsOf e = r.sz) (he : OpC P e r p) : OpC P t (rL r) (Wl p) := fun H enc w base spare held fuel cs x h => by
  rcases Go.Deep.open_slice ht h with ⟨rfl, _⟩ | ⟨a, len, cap, m, n, D, Pl, rfl, _, hl, hm, hmm, _, hx⟩
  · exact ⟨_, [], rfl, rL_nil _ _ _, by simp, fun x hx => by simp at hx⟩
  · have hlm : len ≤ m := by rw [hmm]; split <;> omega
    obtain ⟨b, off, spot⟩ := a
    have hcell : ∀ i, i < len → ∃ vy : Value × α, (∀ j, j < r.sz → w.cell? ((⟨b, off, spot⟩ : Addr).add (i * r.sz + j)) = vy.1.cells.toList[j]?) ∧ r.rep (fun _ => False) w vy.1 vy.2 ∧ p vy.2 := fun i hi => by
      obtain ⟨cs, h1, h2⟩ := hx i (by omega)
      obtain ⟨_, h3, h4⟩ := World.cells?_some h1
      obtain ⟨v, y, h5, h6, h7⟩ := he _ _ _ _ _ _ _ _ _ h2
      refine ⟨(v, y), fun j hj => ?_, h6, h7⟩
      have := h4 j (by rw [hc]; exact hj)
      rw [Addr.add_add, hc] at this
      rw [this, h5]
    obtain ⟨l, hll, hlp⟩ := choose_list hcell
    subst hll
    have hA : All r (fun _ => False) w (l.map (·.1)) (l.map (·.2)) := ⟨by simp, fun k v x hv hx => by
      rw [List.getElem?_map] at hv hx
      cases hk : l[k]? with
      | none => rw [hk] at hv; cases hv
      | some q => rw [hk] at hv hx; simp at hv hx; subst hv hx; exact (hlp k q hk).2.1⟩
    refine ⟨.slice (some ⟨b, off, spot⟩) l.length cap, l.map (·.2), rfl, ?_, by simp [maxLen] at hm ⊢; omega, fun x hx => ?_⟩
    · refine ⟨some ⟨b, off, spot⟩, cap, l.map (·.1), by simp, by simpa using hl, by simp [maxLen] at hm ⊢; omega, hA, fun k u hu => ?_⟩
      have hsz := fun v hv => (hA.cells v hv).1
      have hk := (List.getElem?_eq_some_iff.1 hu).1
      rw [flat_length hsz] at hk
      simp only [List.length_map] at hk
      have hi : k / r.sz < l.length := Nat.div_lt_of_lt_mul (by rw [Nat.mul_comm]; exact hk)
      have hj := Nat.mod_lt k r.pos
      have hq : l[k / r.sz]? = some l[k / r.sz] := List.getElem?_eq_getElem hi
      have h1 := (hlp _ _ hq).1 (k % r.sz) hj
      have h2 := flat_get hsz (k := k / r.sz) (v := l[k / r.sz].1) (by rw [List.getElem?_map, hq]; rfl) hj
      rw [Nat.mul_comm, Nat.div_add_mod] at h1 h2
      rw [hu] at h2
      rw [← h2] at h1
      have hspot : spot = none := by
        have h0 : 0 < l.length := Nat.lt_of_le_of_lt (Nat.zero_le _) hi
        have hq0 : l[0]? = some l[0] := List.getElem?_eq_getElem h0
        have h3 := (hlp 0 _ hq0).1 0 r.pos
        have hs0 := r.size (hlp 0 _ hq0).2.1
        rw [List.getElem?_eq_getElem (by rw [Array.length_toList, hs0]; exact r.pos)] at h3
        simpa [Addr.add] using World.cell?_spot h3
      subst hspot
      rw [add_addr] at h1
      exact ⟨b, off, rfl, not_false, World.block_lt_of_cell? w _ h1, h1⟩
    · obtain ⟨q, hq, rfl⟩ := List.mem_map.1 hx
      obtain ⟨k, hk, rfl⟩ := List.getElem_of_mem hq
      exact (hlp k _ (List.getElem?_eq_getElem hk)).2.2
/-- an argument that is a slice; a struct; numbers -/
theorem top_slice {α : Type} {H : Type} {enc : TypeId × Value → H} {w : World} {base b0 : Nat} {spare : Nat → Bool} {held : Bool} {rr : Reach} {v : Value} {d : DataW H} {p : List MemPlace} {t e : TypeId} {r : R α} {q : List α → Prop} (ht : P.underlying t = some (.slice e)) (ho : OpC P t (rL r) q)
    (hv : Value.okWide P w rr b0 t v) (h : DataW.Trod enc P w base spare held t v d p) : ∃ y, (rL r).rep (fun _ => False) w v y ∧ q y := by
  obtain ⟨a, n, c, rfl⟩ := okWide_slice ht hv
  obtain ⟨fuel, hf⟩ := h
  obtain ⟨v, y, h1, h2, h3⟩ := ho _ _ _ _ _ _ _ _ _ hf
  have hs := scal_L _ _ _ _ _ h2
  rw [hs] at h1
  simp [Value.cells] at h1
  subst h1
  exact ⟨y, h2, h3⟩
theorem St0.start {w : World} {D : List Fact} (h : ∀ d, d ∈ D → d.p (fun _ => False) w) : St0 (fun _ => False) [] w w [] D := by
  have hE : tot (fun _ => False) [] = (fun _ => False) := by funext b; simp [tot, keysL]
  exact ⟨Chg.refl _ _, by simp, fun d hd => by rw [hE]; exact h d hd, by simp [keysL], by simp [keysL], fun _ h => h.elim⟩
theorem Chg.below {w w' : World} (h : Chg [] w w') : Below w.heap.size w w' := ⟨h.os, h.tape, h.output, h.size, fun k hk => h.block k hk (by simp)⟩
end
end Go.Proofs.Ythfifeabomdlpaa
namespace Go.Proofs.Ythfifeabomdlpaa
open Go.RowKit
set_option linter.unusedVariables false

open Go.ChangeShapes Go.WideShapes Go.ChangeAt Go.Joins
end Go.Proofs.Ythfifeabomdlpaa
namespace Go.Proofs.Ythfifeabomdlpaa
open Go.RowKit
set_option linter.unusedVariables false

def Le {α : Type} (a b : Option α) : Prop := ∀ r, a = some r → b = some r
theorem Le.rfl {α : Type} (a : Option α) : Le a a := fun _ h => h
theorem Le.bind {α β : Type} {a b : Option α} {f g : α → Option β} (h : Le a b) (hf : ∀ x, Le (f x) (g x)) : Le (Option.bind a f) (Option.bind b g) := by
  intro r hr
  cases ha : a with
  | none => rw [ha] at hr; cases hr
  | some x =>
    rw [ha] at hr
    rw [h x ha]
    exact hf x r hr
theorem Le.ite {α : Type} {c : Prop} [Decidable c] {a b a' b' : Option α} (h : Le a b) (h' : Le a' b') : Le (if c then a else a') (if c then b else b') := by
  by_cases hc : c
  · rw [if_pos hc, if_pos hc]; exact h
  · rw [if_neg hc, if_neg hc]; exact h'
theorem Le.sum {α β γ : Type} {f g : α ⊕ β → Option γ} (h : ∀ a, Le (f (.inl a)) (g (.inl a))) (h' : ∀ b, Le (f (.inr b)) (g (.inr b))) : ∀ z, Le (f z) (g z)
  | .inl a => h a
  | .inr b => h' b
theorem Le.prod {α β γ : Type} {f g : α × β → Option γ} (h : ∀ a b, Le (f (a, b)) (g (a, b))) : ∀ z, Le (f z) (g z)
  | (a, b) => h a b
theorem iterO_Le {σ τ : Type} {B B' : σ → Option (σ ⊕ τ)} (h : ∀ s, Le (B s) (B' s)) : ∀ (n : Nat) (s : σ), Le (iterO B n s) (iterO B' n s) := by
  intro n
  induction n with
  | zero => intro s r hr; cases hr
  | succ n ih =>
    intro s r hr
    unfold iterO at hr ⊢
    cases hB : B s with
    | none => rw [hB] at hr; cases hr
    | some x =>
      rw [hB] at hr
      rw [h s x hB]
      cases x with
      | inl s' => exact ih s' r hr
      | inr t => exact hr
def whileK {σ τ : Type} (B : σ → Option (σ ⊕ τ)) (s : σ) : Option τ := iterO B 1000000 s
theorem Le.loop {σ τ : Type} {B B' : σ → Option (σ ⊕ τ)} (s : σ) (h : ∀ s, Le (B s) (B' s)) : Le (whileK B s) (whileO B' s) :=
  fun r hr => whileO_of (iterO_Le h 1000000 s r hr)

end Go.Proofs.Ythfifeabomdlpaa
namespace Go.Proofs.Ythfifeabomdlpaa
open Go.RowKit
set_option linter.unusedVariables false

noncomputable def F_grid_Check (p0 : api_Grid) : Option Int :=
  if decide (64 < (if p0.W < p0.H then p0.H else p0.W)) then
    some 4
  else
    Option.bind (α := Bool) (
      if decide ((if p0.H < p0.W then p0.H else p0.W) < 1) then
        some true
      else
        some ((p0.Bits.length : Int) != (w64 (p0.W * p0.H)))) fun o11 =>
    if o11 then
      some 8
    else
      some 0
set_option maxHeartbeats 4000000 in
set_option maxRecDepth 100000 in
theorem c_grid_Check (E : Nat → Prop) (w0 : World) (p0 : api_Grid) (v0 : Value) (r : Int) (h : F_grid_Check p0 = some r) (S : St0 E [] w0 w0 [] [fRep r_api_Grid (v0) p0]) :
    Calls Try.prog 63 #[v0] w0 (Ret (X := Unit) E [] w0 (fun _ => .int .i64 r) (fun _ => []) (fun _ => [])) := by
  unfold F_grid_Check at h
  obtain ⟨u1, rfl, hu2⟩ := S.know (i := 0) (e := fRep r_api_Grid (v0) p0) rfl
  have S := S.learn (fRep (rL rB) u1 p0.Bits) hu2
  obtain ⟨ad3, cp4, _, rfl, _⟩ := hu2
  refine sEnter (args := [.agg #[iv p0.W, iv p0.H, .slice ad3 p0.Bits.length cp4]]) 28 Try.func63 rfl rfl (by simp) S (fun a S => ?_)
  refine sSeq (fun K5 hK5 => ?_)
  refine sRegion ?_
  refine sBox (v := .agg #[iv p0.W, iv p0.H, .slice ad3 p0.Bits.length cp4]) S (wN rfl) rfl rfl [iv p0.W, iv p0.H, .slice ad3 p0.Bits.length cp4] rfl rfl (lb rfl) fun a b6 w S => ?_
  refine sMove (iv 0) S (wN rfl) (.inr rfl) rfl rfl (lb rfl) fun a S => ?_
  refine leafL (leafT (hK5 _ _ ?_))
  refine sSeq (fun K7 hK7 => ?_)
  refine wp_block ?_
  refine sSeq (fun K8 hK8 => ?_)
  refine sRegion ?_
  refine sField (b := b6) (off := 0) 0 0 S (wN rfl) rfl rfl rfl rfl rfl (lb rfl) fun a S => ?_
  refine sLoad1 (p := b6) (off := 0) (T := 24) (vs := [iv p0.W, iv p0.H, .slice ad3 p0.Bits.length cp4]) 0 (iv p0.W) S (wN rfl) rfl rfl rfl rfl rfl rfl (lb rfl) fun a S => ?_
  refine sField (b := b6) (off := 0) 1 1 S (wN rfl) rfl rfl rfl rfl rfl (lb rfl) fun a S => ?_
  refine sLoad1 (p := b6) (off := 1) (T := 24) (vs := [iv p0.W, iv p0.H, .slice ad3 p0.Bits.length cp4]) 0 (iv p0.H) S (wN rfl) rfl rfl rfl rfl rfl rfl (lb rfl) fun a S => ?_
  refine sMax2 (p := p0.W) (q := p0.H) S (wN rfl) rfl rfl rfl rfl (lb rfl) fun a S => ?_
  refine sBin (.bool (decide (64 < (if p0.W < p0.H then p0.H else p0.W)))) S (wN rfl) rfl rfl rfl (bGt _ _ _ _ .i64 (if p0.W < p0.H then p0.H else p0.W) 64) rfl (lb rfl) fun a S => ?_
  refine sMove (.bool (decide (64 < (if p0.W < p0.H then p0.H else p0.W)))) S (wN rfl) (.inr rfl) rfl rfl (lb rfl) fun a S => ?_
  refine leafL (leafT (hK8 _ _ ?_))
  rcases iteSome h with ⟨hc9, h⟩ | ⟨hc9, h⟩
  · refine sCondT S rfl hc9 ?_
    refine sSeq (fun K10 hK10 => ?_)
    refine sRegion ?_
    refine sMove (iv 4) S (wN rfl) (.inr rfl) rfl rfl (lb rfl) fun a S => ?_
    refine leafL (leafT (hK10 _ _ ?_))
    obtain rfl := Option.some.inj h
    exact wp_ret (rBlock (rThen (sRet (iv 4) S (rsl1 rfl (rvT (t := 2) (v := iv 4) S rfl)) ⟨(), rfl, S.mem.sel [] [] (by decide) rfl rfl⟩)))
  refine sCondF S rfl hc9 ?_
  obtain ⟨t12, h, g13⟩ := bindSome h
  refine sCut (fun a w => ∃ o11, o11 = t12 ∧ St [] E [] w0 28 a w [(10, .bool o11)] [] []) ?_ (fun a w hI => ?_)
  rotate_left
  · obtain ⟨o11, rfl, S⟩ := hI
    have h := g13
    clear g13
    try dsimp only at h
    rcases iteSome h with ⟨hc15, h⟩ | ⟨hc15, h⟩
    · refine sCondT S rfl hc15 ?_
      refine sSeq (fun K16 hK16 => ?_)
      refine sRegion ?_
      refine sMove (iv 8) S (wN rfl) (.inr rfl) rfl rfl (lb rfl) fun a S => ?_
      refine leafL (leafT (hK16 _ _ ?_))
      obtain rfl := Option.some.inj h
      exact wp_ret (rBlock (rThen (sRet (iv 8) S (rsl1 rfl (rvT (t := 2) (v := iv 8) S rfl)) ⟨(), rfl, S.mem.sel [] [] (by decide) rfl rfl⟩)))
    refine sCondF S rfl hc15 ?_
    refine wp_skip (leafB (leafT (hK7 _ _ ?_)))
    refine sSeq (fun K17 hK17 => ?_)
    refine sRegion ?_
    refine sMove (iv 0) S (wN rfl) (.inr rfl) rfl rfl (lb rfl) fun a S => ?_
    refine leafL (leafT (hK17 _ _ ?_))
    obtain rfl := Option.some.inj h
    exact wp_ret (sRet (iv 0) S (rsl1 rfl (rvT (t := 2) (v := iv 0) S rfl)) ⟨(), rfl, S.mem.sel [] [] (by decide) rfl rfl⟩)
  refine sRegion ?_
  refine sField (b := b6) (off := 0) 0 0 S (wN rfl) rfl rfl rfl rfl rfl (lb rfl) fun a S => ?_
  refine sLoad1 (p := b6) (off := 0) (T := 24) (vs := [iv p0.W, iv p0.H, .slice ad3 p0.Bits.length cp4]) 0 (iv p0.W) S (wN rfl) rfl rfl rfl rfl rfl rfl (lb rfl) fun a S => ?_
  refine sField (b := b6) (off := 0) 1 1 S (wN rfl) rfl rfl rfl rfl rfl (lb rfl) fun a S => ?_
  refine sLoad1 (p := b6) (off := 1) (T := 24) (vs := [iv p0.W, iv p0.H, .slice ad3 p0.Bits.length cp4]) 0 (iv p0.H) S (wN rfl) rfl rfl rfl rfl rfl rfl (lb rfl) fun a S => ?_
  refine sMin2 (p := p0.W) (q := p0.H) S (wN rfl) rfl rfl rfl rfl (lb rfl) fun a S => ?_
  refine sBin (.bool (decide ((if p0.H < p0.W then p0.H else p0.W) < 1))) S (wN rfl) rfl rfl rfl (bLt _ _ _ _ .i64 (if p0.H < p0.W then p0.H else p0.W) 1) rfl (lb rfl) fun a S => ?_
  refine sMove (.bool (decide ((if p0.H < p0.W then p0.H else p0.W) < 1))) S (wN rfl) (.inl rfl) rfl rfl (lb rfl) fun a S => ?_
  rcases iteSome h with ⟨hc14, h⟩ | ⟨hc14, h⟩
  · refine sSkip 6 false 17 18 S rfl rfl rfl hc14 rfl (lb rfl) fun a S => ?_
    refine sSkip 6 false 17 19 S rfl rfl rfl hc14 rfl (lb rfl) fun a S => ?_
    refine sSkip 6 false 17 20 S rfl rfl rfl hc14 rfl (lb rfl) fun a S => ?_
    refine sSkip 6 false 17 21 S rfl rfl rfl hc14 rfl (lb rfl) fun a S => ?_
    refine sSkip 6 false 17 22 S rfl rfl rfl hc14 rfl (lb rfl) fun a S => ?_
    refine sSkip 6 false 17 23 S rfl rfl rfl hc14 rfl (lb rfl) fun a S => ?_
    refine sSkip 6 false 17 24 S rfl rfl rfl hc14 rfl (lb rfl) fun a S => ?_
    refine sSkip 6 false 17 25 S rfl rfl rfl hc14 rfl (lb rfl) fun a S => ?_
    refine sSkip 6 false 17 26 S rfl rfl rfl hc14 rfl (lb rfl) fun a S => ?_
    refine sPickT (.bool true) S (wN rfl) rfl rfl hc14 rfl rfl (lb rfl) fun a S => ?_
    refine sMove (.bool true) S (wN rfl) (.inr rfl) rfl rfl (lb rfl) fun a S => ?_
    exact leafL (leafT (⟨true, Option.some.inj h, S.fix [] [] (by decide) rfl rfl rfl⟩))
  refine sField (b := b6) (off := 0) 2 2 S (wG 6 false 17 rfl rfl rfl hc14) rfl rfl rfl rfl rfl (lb rfl) fun a S => ?_
  refine sLoad1 (p := b6) (off := 2) (T := 24) (vs := [iv p0.W, iv p0.H, .slice ad3 p0.Bits.length cp4]) 0 (.slice ad3 p0.Bits.length cp4) S (wG 6 false 17 rfl rfl rfl hc14) rfl rfl rfl rfl rfl rfl (lb rfl) fun a S => ?_
  refine sLen (ad := ad3) (m := p0.Bits.length) (c := cp4) S (wG 6 false 17 rfl rfl rfl hc14) rfl Try.underlying22 rfl rfl (lb rfl) fun a S => ?_
  refine sField (b := b6) (off := 0) 0 0 S (wG 6 false 17 rfl rfl rfl hc14) rfl rfl rfl rfl rfl (lb rfl) fun a S => ?_
  refine sLoad1 (p := b6) (off := 0) (T := 24) (vs := [iv p0.W, iv p0.H, .slice ad3 p0.Bits.length cp4]) 0 (iv p0.W) S (wG 6 false 17 rfl rfl rfl hc14) rfl rfl rfl rfl rfl rfl (lb rfl) fun a S => ?_
  refine sField (b := b6) (off := 0) 1 1 S (wG 6 false 17 rfl rfl rfl hc14) rfl rfl rfl rfl rfl (lb rfl) fun a S => ?_
  refine sLoad1 (p := b6) (off := 1) (T := 24) (vs := [iv p0.W, iv p0.H, .slice ad3 p0.Bits.length cp4]) 0 (iv p0.H) S (wG 6 false 17 rfl rfl rfl hc14) rfl rfl rfl rfl rfl rfl (lb rfl) fun a S => ?_
  refine sBin (iv (w64 (p0.W * p0.H))) S (wG 6 false 17 rfl rfl rfl hc14) rfl rfl rfl (bMul _ _ _ _ p0.W p0.H) rfl (lb rfl) fun a S => ?_
  refine sBin (.bool ((p0.Bits.length : Int) != (w64 (p0.W * p0.H)))) S (wG 6 false 17 rfl rfl rfl hc14) rfl rfl rfl (bNe _ _ _ _ .i64 (p0.Bits.length : Int) (w64 (p0.W * p0.H))) rfl (lb rfl) fun a S => ?_
  refine sPickF (.bool ((p0.Bits.length : Int) != (w64 (p0.W * p0.H)))) S (wN rfl) rfl rfl hc14 rfl rfl (lb rfl) fun a S => ?_
  refine sMove (.bool ((p0.Bits.length : Int) != (w64 (p0.W * p0.H)))) S (wN rfl) (.inr rfl) rfl rfl (lb rfl) fun a S => ?_
  exact leafL (leafT (⟨(p0.Bits.length : Int) != (w64 (p0.W * p0.H)), Option.some.inj h, S.fix [] [] (by decide) rfl rfl rfl⟩))

end Go.Proofs.Ythfifeabomdlpaa
namespace Go.Proofs.Ythfifeabomdlpaa
open Go.RowKit
set_option linter.unusedVariables false

noncomputable def block_checked_l1 (p0 : (List api_Grid)) : Int → Option (Int ⊕ (Int ⊕ Unit)) := fun s0 => match s0 with
  | s7 =>
    if decide (s7 < (p0.length : Int)) then
      Option.bind (idxO p0 s7) fun x16 =>
      Option.bind (F_grid_Check x16) fun r27 =>
      if r27 != 0 then
        some (.inr (.inl r27))
      else
        some (.inl (w64 (s7 + 1)))
    else
      some (.inr (.inr ()))
noncomputable def F_block_checked (p0 : (List api_Grid)) : Option Int :=
  Option.bind (α := Unit ⊕ Int) (
    Option.bind (whileO (block_checked_l1 p0) 0) fun z0 => match z0 with
      | .inl z =>
        some (.inr z)
      | .inr _ =>
        some (.inl ())) fun z0 => match z0 with
    | .inl _ =>
      some 0
    | .inr z =>
      some z
set_option maxHeartbeats 4000000 in
set_option maxRecDepth 100000 in
theorem c_block_checked (E : Nat → Prop) (w0 : World) (p0 : (List api_Grid)) (v0 : Value) (r : Int) (h : F_block_checked p0 = some r) (S : St0 E [] w0 w0 [] [fRep (rL r_api_Grid) (v0) p0]) :
    Calls Try.prog 41 #[v0] w0 (Ret (X := Unit) E [] w0 (fun _ => .int .i64 r) (fun _ => []) (fun _ => [])) := by
  unfold F_block_checked at h
  obtain ⟨ad1, cp2, _, rfl, _⟩ := S.know (i := 0) (e := fRep (rL r_api_Grid) (v0) p0) rfl
  refine sEnter (args := [.slice ad1 p0.length cp2]) 18 Try.func41 rfl rfl (by simp) S (fun a S => ?_)
  refine sSeq (fun K3 hK3 => ?_)
  refine sRegion ?_
  refine sMove (iv 0) S (wN rfl) (.inr rfl) rfl rfl (lb rfl) fun a S => ?_
  refine leafL (leafT (hK3 _ _ ?_))
  obtain ⟨t4, h, g5⟩ := bindSome h
  refine sCut (fun a w => .inl () = t4 ∧ St [] E [] w0 18 a w [] [] []) ?_ (fun a w hI => ?_)
  rotate_left
  · obtain ⟨rfl, S⟩ := hI
    have h := g5
    clear g5
    try dsimp only at h
    refine sSeq (fun K32 hK32 => ?_)
    refine sRegion ?_
    refine sMove (iv 0) S (wN rfl) (.inr rfl) rfl rfl (lb rfl) fun a S => ?_
    refine leafL (leafT (hK32 _ _ ?_))
    obtain rfl := Option.some.inj h
    exact wp_ret (sRet (iv 0) S (rsl1 rfl (rvT (t := 2) (v := iv 0) S rfl)) ⟨(), rfl, S.mem.sel [] [] (by decide) rfl rfl⟩)
  refine sSeq (fun K6 hK6 => ?_)
  refine sRegion ?_
  refine sMove (.slice ad1 p0.length cp2) S (wN rfl) (.inl rfl) rfl rfl (lb rfl) fun a S => ?_
  refine sLen (ad := ad1) (m := p0.length) (c := cp2) S (wN rfl) rfl Try.underlying34 rfl rfl (lb rfl) fun a S => ?_
  refine sMove (iv 0) S (wN rfl) (.inl rfl) rfl rfl (lb rfl) fun a S => ?_
  refine leafL (leafT (hK6 _ _ ?_))
  refine wp_block ?_
  obtain ⟨t10, hl, g9⟩ := bindSome h
  refine sLoop hl (fun s0 a w => match s0 with | s7 => St [] E [] w0 18 a w [(6, .slice ad1 p0.length cp2), (7, iv (p0.length : Int)), (8, iv s7)] [] [fRep (rL r_api_Grid) (.slice ad1 p0.length cp2) p0]) (S.fix [] [0] (by decide) rfl rfl rfl) ?_
  clear hl h
  intro s7 a w c0 hI h hu8
  unfold block_checked_l1 at h
  dsimp only at h hI
  have S := hI
  refine sSeq (fun K11 hK11 => ?_)
  refine sRegion ?_
  refine sBin (.bool (decide (s7 < (p0.length : Int)))) S (wN rfl) rfl rfl rfl (bLt _ _ _ _ .i64 s7 (p0.length : Int)) rfl (lb rfl) fun a S => ?_
  refine leafL (leafT (hK11 _ _ ?_))
  refine sSeq (fun K12 hK12 => ?_)
  rcases iteSome h with ⟨hc13, h⟩ | ⟨hc13, h⟩
  rotate_left
  · refine sCondF S rfl hc13 ?_
    obtain rfl := Option.some.inj h
    obtain rfl := hu8 _ rfl
    have h := g9
    clear g9
    try dsimp only at h
    exact wp_exit (xThen (xThen (xHit (leafT (⟨Option.some.inj h, S.fix [] [] (by decide) rfl rfl rfl⟩)))))
  refine sCondT S rfl hc13 ?_
  refine wp_skip (leafT (hK12 _ _ ?_))
  refine sSeq (fun K14 hK14 => ?_)
  refine wp_block ?_
  refine sSeq (fun K15 hK15 => ?_)
  refine sRegion ?_
  obtain ⟨x16, hx17, h⟩ := bindSome h
  obtain ⟨q18, hq19, S⟩ := pIdx (P := Try.prog) (r := r_api_Grid) (v := .slice ad1 p0.length cp2) (xs := p0) (j := s7) 34 24 0 S Try.underlying34 rfl rfl hx17
  refine sIdxV (v := .slice ad1 p0.length cp2) (k := .i64) (j := s7) S (wN rfl) rfl rfl rfl hq19 rfl (lb rfl) fun a S => ?_
  obtain ⟨u20, S⟩ := pLoad (r := r_api_Grid) (q := q18) (x := x16) 0 S rfl
  obtain ⟨u21, rfl, hu22⟩ := S.mem.know (i := 1) (e := fRep r_api_Grid (u20) x16) rfl
  have S := S.learn (fRep (rL rB) u21 x16.Bits) hu22
  obtain ⟨ad23, cp24, _, rfl, _⟩ := hu22
  refine sLoadVN (vq := q18) 1 [iv x16.W, iv x16.H, .slice ad23 x16.Bits.length cp24] S (wN rfl) rfl rfl rfl rfl rfl rfl (lb rfl) fun a S => ?_
  refine sAlloc (.agg #[iv 0, iv 0, .slice none 0 0]) S (wN rfl) rfl rfl [iv 0, iv 0, .slice none 0 0] rfl rfl (lb rfl) fun a b25 w S => ?_
  refine sStore (p := b25) (off := 0) (T := 24) (vs := [iv 0, iv 0, .slice none 0 0]) (v := .agg #[iv x16.W, iv x16.H, .slice ad23 x16.Bits.length cp24]) 0 [iv x16.W, iv x16.H, .slice ad23 x16.Bits.length cp24] S (wN rfl) rfl rfl rfl rfl rfl rfl rfl (by simp) rfl fun a w S => ?_
  refine leafL (leafT (hK15 _ _ ?_))
  refine sSeq (fun K26 hK26 => ?_)
  refine sRegion ?_
  refine sLoadN (p := b25) (off := 0) (T := 24) (vs := [iv x16.W, iv x16.H, .slice ad23 x16.Bits.length cp24]) 0 [iv x16.W, iv x16.H, .slice ad23 x16.Bits.length cp24] S (wN rfl) rfl rfl rfl rfl rfl rfl rfl (lb rfl) fun a S => ?_
  obtain ⟨r27, hx28, h⟩ := bindSome h
  have S1 := S.mem
  refine sCallQ (X := Unit) (f := 63) (vs := [.agg #[iv x16.W, iv x16.H, .slice ad23 x16.Bits.length cp24]]) (val := fun _ => iv r27) S (wN rfl) rfl callee63 rfl (S1.quiet [2] rfl) (fun E1 w1 S1 => c_grid_Check E1 w1 x16 (.agg #[iv x16.W, iv x16.H, .slice ad23 x16.Bits.length cp24]) r27 hx28 S1) rfl (lb rfl) fun _ a w S => ?_
  refine sMove (iv r27) S (wN rfl) (.inr rfl) rfl rfl (lb rfl) fun a S => ?_
  refine leafL (leafT (hK26 _ _ ?_))
  refine sSeq (fun K29 hK29 => ?_)
  refine sRegion ?_
  refine sMove (iv r27) S (wN rfl) (.inl rfl) rfl rfl (lb rfl) fun a S => ?_
  refine sBin (.bool (r27 != 0)) S (wN rfl) rfl rfl rfl (bNe _ _ _ _ .i64 r27 0) rfl (lb rfl) fun a S => ?_
  refine leafL (leafT (hK29 _ _ ?_))
  rcases iteSome h with ⟨hc30, h⟩ | ⟨hc30, h⟩
  rotate_left
  · refine sCondF S rfl hc30 ?_
    refine wp_skip (leafB (leafT (hK14 _ _ ?_)))
    refine sRegion ?_
    refine sBin (iv (w64 (s7 + 1))) S (wN rfl) rfl rfl rfl (bAdd _ _ _ _ s7 1) rfl (lb rfl) fun a S => ?_
    refine sMove (iv (w64 (s7 + 1))) S (wN rfl) (.inl rfl) rfl rfl (lb rfl) fun a S => ?_
    exact leafL (leafT (⟨w64 (s7 + 1), (Option.some.inj h).symm, (S.fix [] [4] (by decide) rfl rfl rfl)⟩))
  refine sCondT S rfl hc30 ?_
  refine sSeq (fun K31 hK31 => ?_)
  refine sRegion ?_
  refine sMove (iv r27) S (wN rfl) (.inl rfl) rfl rfl (lb rfl) fun a S => ?_
  refine sMove (iv r27) S (wN rfl) (.inr rfl) rfl rfl (lb rfl) fun a S => ?_
  refine leafL (leafT (hK31 _ _ ?_))
  obtain rfl := Option.some.inj h
  obtain rfl := hu8 _ rfl
  have h := g9
  clear g9
  try dsimp only at h
  obtain rfl := Option.some.inj h
  have h := g5
  clear g5
  try dsimp only at h
  obtain rfl := Option.some.inj h
  exact wp_ret (rBlock (rThen (rThen (rBlock (rThen (sRet (iv r27) S (rsl1 rfl (rvT (t := 2) (v := iv r27) S rfl)) ⟨(), rfl, S.mem.sel [] [] (by decide) rfl rfl⟩))))))

end Go.Proofs.Ythfifeabomdlpaa
namespace Go.Proofs.Ythfifeabomdlpaa
open Go.RowKit
set_option linter.unusedVariables false

noncomputable def F_block_alike (p0 : api_Grid) (p1 : api_Grid) : Option Bool :=
  Option.bind (α := Bool) (
    if p0.W == p1.W then
      some (p0.H == p1.H)
    else
      some false) fun o12 =>
  some o12
set_option maxHeartbeats 4000000 in
set_option maxRecDepth 100000 in
theorem c_block_alike (E : Nat → Prop) (w0 : World) (p0 : api_Grid) (v0 : Value) (p1 : api_Grid) (v1 : Value) (r : Bool) (h : F_block_alike p0 p1 = some r) (S : St0 E [] w0 w0 [] [fRep r_api_Grid (v0) p0, fRep r_api_Grid (v1) p1]) :
    Calls Try.prog 42 #[v0, v1] w0 (Ret (X := Unit) E [] w0 (fun _ => .bool r) (fun _ => []) (fun _ => [])) := by
  unfold F_block_alike at h
  obtain ⟨u1, rfl, hu2⟩ := S.know (i := 0) (e := fRep r_api_Grid (v0) p0) rfl
  have S := S.learn (fRep (rL rB) u1 p0.Bits) hu2
  obtain ⟨ad3, cp4, _, rfl, _⟩ := hu2
  obtain ⟨u5, rfl, hu6⟩ := S.know (i := 2) (e := fRep r_api_Grid (v1) p1) rfl
  have S := S.learn (fRep (rL rB) u5 p1.Bits) hu6
  obtain ⟨ad7, cp8, _, rfl, _⟩ := hu6
  refine sEnter (args := [.agg #[iv p0.W, iv p0.H, .slice ad3 p0.Bits.length cp4], .agg #[iv p1.W, iv p1.H, .slice ad7 p1.Bits.length cp8]]) 17 Try.func42 rfl rfl (by simp) S (fun a S => ?_)
  refine sSeq (fun K9 hK9 => ?_)
  refine sRegion ?_
  refine sBox (v := .agg #[iv p0.W, iv p0.H, .slice ad3 p0.Bits.length cp4]) S (wN rfl) rfl rfl [iv p0.W, iv p0.H, .slice ad3 p0.Bits.length cp4] rfl rfl (lb rfl) fun a b10 w S => ?_
  refine sBox (v := .agg #[iv p1.W, iv p1.H, .slice ad7 p1.Bits.length cp8]) S (wN rfl) rfl rfl [iv p1.W, iv p1.H, .slice ad7 p1.Bits.length cp8] rfl rfl (lb rfl) fun a b11 w S => ?_
  refine sMove (.bool false) S (wN rfl) (.inr rfl) rfl rfl (lb rfl) fun a S => ?_
  refine leafL (leafT (hK9 _ _ ?_))
  obtain ⟨t13, h, g14⟩ := bindSome h
  refine sCut (fun a w => ∃ o12, o12 = t13 ∧ St [] E [] w0 17 a w [(4, .bool o12)] [] []) ?_ (fun a w hI => ?_)
  rotate_left
  · obtain ⟨o12, rfl, S⟩ := hI
    have h := g14
    clear g14
    try dsimp only at h
    obtain rfl := Option.some.inj h
    exact wp_ret (sRet (.bool o12) S (rsl1 rfl (rvT (t := 4) (v := .bool o12) S rfl)) ⟨(), rfl, S.mem.sel [] [] (by decide) rfl rfl⟩)
  refine sRegion ?_
  refine sField (b := b10) (off := 0) 0 0 S (wN rfl) rfl rfl rfl rfl rfl (lb rfl) fun a S => ?_
  refine sLoad1 (p := b10) (off := 0) (T := 24) (vs := [iv p0.W, iv p0.H, .slice ad3 p0.Bits.length cp4]) 1 (iv p0.W) S (wN rfl) rfl rfl rfl rfl rfl rfl (lb rfl) fun a S => ?_
  refine sField (b := b11) (off := 0) 0 0 S (wN rfl) rfl rfl rfl rfl rfl (lb rfl) fun a S => ?_
  refine sLoad1 (p := b11) (off := 0) (T := 24) (vs := [iv p1.W, iv p1.H, .slice ad7 p1.Bits.length cp8]) 0 (iv p1.W) S (wN rfl) rfl rfl rfl rfl rfl rfl (lb rfl) fun a S => ?_
  refine sBin (.bool (p0.W == p1.W)) S (wN rfl) rfl rfl rfl (bEq _ _ _ _ .i64 p0.W p1.W) rfl (lb rfl) fun a S => ?_
  refine sMove (.bool (p0.W == p1.W)) S (wN rfl) (.inl rfl) rfl rfl (lb rfl) fun a S => ?_
  rcases iteSome h with ⟨hc15, h⟩ | ⟨hc15, h⟩
  rotate_left
  · refine sSkip 5 true 10 11 S rfl rfl rfl hc15 rfl (lb rfl) fun a S => ?_
    refine sSkip 5 true 10 12 S rfl rfl rfl hc15 rfl (lb rfl) fun a S => ?_
    refine sSkip 5 true 10 13 S rfl rfl rfl hc15 rfl (lb rfl) fun a S => ?_
    refine sSkip 5 true 10 14 S rfl rfl rfl hc15 rfl (lb rfl) fun a S => ?_
    refine sSkip 5 true 10 15 S rfl rfl rfl hc15 rfl (lb rfl) fun a S => ?_
    refine sPickF (.bool false) S (wN rfl) rfl rfl hc15 rfl rfl (lb rfl) fun a S => ?_
    refine sMove (.bool false) S (wN rfl) (.inr rfl) rfl rfl (lb rfl) fun a S => ?_
    exact leafL (leafT (⟨false, Option.some.inj h, S.fix [] [] (by decide) rfl rfl rfl⟩))
  refine sField (b := b10) (off := 0) 1 1 S (wG 5 true 10 rfl rfl rfl hc15) rfl rfl rfl rfl rfl (lb rfl) fun a S => ?_
  refine sLoad1 (p := b10) (off := 1) (T := 24) (vs := [iv p0.W, iv p0.H, .slice ad3 p0.Bits.length cp4]) 1 (iv p0.H) S (wG 5 true 10 rfl rfl rfl hc15) rfl rfl rfl rfl rfl rfl (lb rfl) fun a S => ?_
  refine sField (b := b11) (off := 0) 1 1 S (wG 5 true 10 rfl rfl rfl hc15) rfl rfl rfl rfl rfl (lb rfl) fun a S => ?_
  refine sLoad1 (p := b11) (off := 1) (T := 24) (vs := [iv p1.W, iv p1.H, .slice ad7 p1.Bits.length cp8]) 0 (iv p1.H) S (wG 5 true 10 rfl rfl rfl hc15) rfl rfl rfl rfl rfl rfl (lb rfl) fun a S => ?_
  refine sBin (.bool (p0.H == p1.H)) S (wG 5 true 10 rfl rfl rfl hc15) rfl rfl rfl (bEq _ _ _ _ .i64 p0.H p1.H) rfl (lb rfl) fun a S => ?_
  refine sPickT (.bool (p0.H == p1.H)) S (wN rfl) rfl rfl hc15 rfl rfl (lb rfl) fun a S => ?_
  refine sMove (.bool (p0.H == p1.H)) S (wN rfl) (.inr rfl) rfl rfl (lb rfl) fun a S => ?_
  exact leafL (leafT (⟨p0.H == p1.H, Option.some.inj h, S.fix [] [] (by decide) rfl rfl rfl⟩))

end Go.Proofs.Ythfifeabomdlpaa
namespace Go.Proofs.Ythfifeabomdlpaa
open Go.RowKit
set_option linter.unusedVariables false

noncomputable def F_block_zero_s0 (p0 : Int) (p1 : Int) : Option (api_Grid × Int) :=
  Option.bind (α := Bool) (
    if decide (64 < p0) then
      some true
    else
      some (decide (64 < p1))) fun o4 =>
  if o4 then
    some ((api_Grid.mk 0 0 ([] : (List Bool))), 4)
  else
    Option.bind (makeO (w64 (p0 * p1)) false) fun m13 =>
    some ((api_Grid.mk p0 p1 m13), 0)
set_option maxHeartbeats 4000000 in
set_option maxRecDepth 100000 in
theorem c_block_zero_s0 (E : Nat → Prop) (w0 : World) (p0 : Int) (p1 : Int) (r : (api_Grid × Int)) (h : F_block_zero_s0 p0 p1 = some r) (S : St0 E [] w0 w0 [] []) :
    Calls Try.prog 43 #[iv p0, iv p1] w0 (Ret (X := Option Addr × Nat) E [] w0 (fun x => .tuple #[.agg #[iv r.1.W, iv r.1.H, .slice x.1 r.1.Bits.length x.2], iv r.2]) (fun x => [eRow rB 4 (.slice x.1 r.1.Bits.length x.2) r.1.Bits]) (fun _ => [])) := by
  unfold F_block_zero_s0 at h
  refine sEnter (args := [iv p0, iv p1]) 20 Try.func43 rfl rfl (by simp) S (fun a S => ?_)
  refine sSeq (fun K1 hK1 => ?_)
  refine sRegion ?_
  refine sAlloc (.agg #[iv 0, iv 0, .slice none 0 0]) S (wN rfl) rfl rfl [iv 0, iv 0, .slice none 0 0] rfl rfl (lb rfl) fun a b2 w S => ?_
  refine sMove (iv 0) S (wN rfl) (.inr rfl) rfl rfl (lb rfl) fun a S => ?_
  refine leafL (leafT (hK1 _ _ ?_))
  refine sSeq (fun K3 hK3 => ?_)
  obtain ⟨t5, h, g6⟩ := bindSome h
  refine sCut (fun a w => ∃ o4, o4 = t5 ∧ St [] E [] w0 20 a w [(0, iv p0), (1, iv p1), (4, .pointer (some ⟨b2, 0, none⟩)), (11, .bool o4)] [eBox b2 24 [iv 0, iv 0, .slice none 0 0]] []) ?_ (fun a w hI => ?_)
  · refine sRegion ?_
    refine sMove (iv p0) S (wN rfl) (.inl rfl) rfl rfl (lb rfl) fun a S => ?_
    refine sBin (.bool (decide (64 < p0))) S (wN rfl) rfl rfl rfl (bGt _ _ _ _ .i64 p0 64) rfl (lb rfl) fun a S => ?_
    refine sMove (.bool (decide (64 < p0))) S (wN rfl) (.inl rfl) rfl rfl (lb rfl) fun a S => ?_
    rcases iteSome h with ⟨hc7, h⟩ | ⟨hc7, h⟩
    · refine sSkip 2 false 8 9 S rfl rfl rfl hc7 rfl (lb rfl) fun a S => ?_
      refine sSkip 2 false 8 10 S rfl rfl rfl hc7 rfl (lb rfl) fun a S => ?_
      refine sPickT (.bool true) S (wN rfl) rfl rfl hc7 rfl rfl (lb rfl) fun a S => ?_
      exact leafL (leafT (⟨true, Option.some.inj h, S.fix [0] [] (by decide) rfl rfl rfl⟩))
    refine sMove (iv p1) S (wG 2 false 8 rfl rfl rfl hc7) (.inl rfl) rfl rfl (lb rfl) fun a S => ?_
    refine sBin (.bool (decide (64 < p1))) S (wG 2 false 8 rfl rfl rfl hc7) rfl rfl rfl (bGt _ _ _ _ .i64 p1 64) rfl (lb rfl) fun a S => ?_
    refine sPickF (.bool (decide (64 < p1))) S (wN rfl) rfl rfl hc7 rfl rfl (lb rfl) fun a S => ?_
    exact leafL (leafT (⟨decide (64 < p1), Option.some.inj h, S.fix [0] [] (by decide) rfl rfl rfl⟩))
  obtain ⟨o4, rfl, S⟩ := hI
  have h := g6
  clear g6
  try dsimp only at h
  rcases iteSome h with ⟨hc8, h⟩ | ⟨hc8, h⟩
  · refine sCondT S rfl hc8 ?_
    refine sSeq (fun K9 hK9 => ?_)
    refine sRegion ?_
    refine sBuild [] [iv 0, iv 0, .slice none 0 0] S (wN rfl) rfl rfl rfl rfl (lb rfl) fun a S => ?_
    refine sStore (p := b2) (off := 0) (T := 24) (vs := [iv 0, iv 0, .slice none 0 0]) (v := .agg #[iv 0, iv 0, .slice none 0 0]) 0 [iv 0, iv 0, .slice none 0 0] S (wN rfl) rfl rfl rfl rfl rfl rfl rfl (by simp) rfl fun a w S => ?_
    refine sMove (iv 4) S (wN rfl) (.inr rfl) rfl rfl (lb rfl) fun a S => ?_
    refine leafL (leafT (hK9 _ _ ?_))
    obtain rfl := Option.some.inj h
    have S := S.nilRow rB 4 (α := Bool)
    exact wp_ret (rThen (sRet (.tuple #[.agg #[iv 0, iv 0, .slice none 0 0], iv 4]) S (rsl2 rfl (rvN (c := 4) (t := 24) (T := 24) (p := b2) 1 [iv 0, iv 0, .slice none 0 0] S rfl rfl rfl rfl) (rvT (t := 5) (v := iv 4) S rfl)) ⟨(none, 0), rfl, S.mem.sel [0] [] (by decide) rfl rfl⟩))
  refine sCondF S rfl hc8 ?_
  refine wp_skip (leafT (hK3 _ _ ?_))
  refine sSeq (fun K10 hK10 => ?_)
  refine sRegion ?_
  refine sMove (iv p0) S (wN rfl) (.inl rfl) rfl rfl (lb rfl) fun a S => ?_
  refine sMove (iv p1) S (wN rfl) (.inl rfl) rfl rfl (lb rfl) fun a S => ?_
  refine sMove (iv p0) S (wN rfl) (.inl rfl) rfl rfl (lb rfl) fun a S => ?_
  refine sMove (iv p1) S (wN rfl) (.inl rfl) rfl rfl (lb rfl) fun a S => ?_
  refine sBin (iv (w64 (p0 * p1))) S (wN rfl) rfl rfl rfl (bMul _ _ _ _ p0 p1) rfl (lb rfl) fun a S => ?_
  obtain ⟨m13, hx14, h⟩ := bindSome h
  refine sMake (r := rB) (m := w64 (p0 * p1)) (xs := m13) (.bool false) false 1 S (wN rfl) rfl Try.underlying22 rfl rfl (by decide) (fun _ _ => rfl) rfl rfl hx14 rfl (lb rfl) fun a w ad11 cp12 S => ?_
  refine sBuild [(0, iv p0), (1, iv p1), (2, .slice ad11 m13.length cp12)] [iv p0, iv p1, .slice ad11 m13.length cp12] S (wN rfl) rfl rfl rfl rfl (lb rfl) fun a S => ?_
  refine sStore (p := b2) (off := 0) (T := 24) (vs := [iv 0, iv 0, .slice none 0 0]) (v := .agg #[iv p0, iv p1, .slice ad11 m13.length cp12]) 1 [iv p0, iv p1, .slice ad11 m13.length cp12] S (wN rfl) rfl rfl rfl rfl rfl rfl rfl (by simp) rfl fun a w S => ?_
  refine sMove (iv 0) S (wN rfl) (.inr rfl) rfl rfl (lb rfl) fun a S => ?_
  refine leafL (leafT (hK10 _ _ ?_))
  obtain rfl := Option.some.inj h
  exact wp_ret (sRet (.tuple #[.agg #[iv p0, iv p1, .slice ad11 m13.length cp12], iv 0]) S (rsl2 rfl (rvN (c := 4) (t := 24) (T := 24) (p := b2) 0 [iv p0, iv p1, .slice ad11 m13.length cp12] S rfl rfl rfl rfl) (rvT (t := 5) (v := iv 0) S rfl)) ⟨(ad11, cp12), rfl, S.mem.sel [1] [] (by decide) rfl rfl⟩)

end Go.Proofs.Ythfifeabomdlpaa
namespace Go.Proofs.Ythfifeabomdlpaa
open Go.RowKit
set_option linter.unusedVariables false

def anc_block_put_s0_0 : List (List Nat) := [[], [0], [], [], [3], [2, 3, 4], [], [2, 3, 4, 5, 6], [], [8], [2, 3, 4, 5, 6, 7, 8, 9], [], [], [12], [11, 12, 13], [2, 3, 4, 5, 6, 7, 8, 9, 10, 11, 12, 13, 14], [0, 1, 2, 3, 4, 5, 6, 7, 8, 9, 10, 11, 12, 13, 14, 15], [], [17], [], [], [20], [19, 20, 21], [], [23], [], [25], [23, 24, 25, 26], [17, 18, 19, 20, 21, 22, 23, 24, 25, 26, 27], [0, 1, 2, 3, 4, 5, 6, 7, 8, 9, 10, 11, 12, 13, 14, 15, 16, 17, 18, 19, 20, 21, 22, 23, 24, 25, 26, 27, 28]]
noncomputable def block_put_s0_l1 (p3 : api_Grid) (p5 : Int) (p0 : Int) (p4 : Int) : (Int × List Bool) → Option ((Int × List Bool) ⊕ List Bool) := fun s0 => match s0 with
  | (s9, s10) =>
    if decide (s9 < p3.H) then
      Option.bind (α := List Bool) (
        Option.bind (sliceO s10 (w64 ((w64 ((w64 ((w64 (p5 * p3.H)) + s9)) * p0)) + (w64 (p4 * p3.W)))) (s10.length : Int)) fun y22 =>
        Option.bind (sliceO p3.Bits (w64 (s9 * p3.W)) (w64 ((w64 (s9 + 1)) * p3.W))) fun y26 =>
        some (cpA s10 (w64 ((w64 ((w64 ((w64 (p5 * p3.H)) + s9)) * p0)) + (w64 (p4 * p3.W)))).toNat ((s10.length : Int)).toNat y26)) fun o18 =>
      some (.inl (w64 (s9 + 1), o18))
    else
      some (.inr s10)
noncomputable def F_block_put_s0 (p0 : Int) (p1 : Int) (p2 : (List Bool)) (p3 : api_Grid) (p4 : Int) (p5 : Int) : Option (List Bool) :=
  Option.bind (whileO (block_put_s0_l1 p3 p5 p0 p4) (0, p2)) fun e14 =>
    (keepO p2 e14).bind fun _ =>
    some e14
set_option maxHeartbeats 4000000 in
set_option maxRecDepth 100000 in
theorem c_block_put_s0 (E : Nat → Prop) (w0 : World) (p0 : Int) (p1 : Int) (p2 : (List Bool)) (ad_2 : Option Addr) (cp_2 : Nat) (p3 : api_Grid) (v3 : Value) (p4 : Int) (p5 : Int) (r : (List Bool)) (h : F_block_put_s0 p0 p1 p2 p3 p4 p5 = some r) (S : St0 E (keysL [eRow rB 4 (.slice ad_2 p2.length cp_2) p2]) w0 w0 [eRow rB 4 (.slice ad_2 p2.length cp_2) p2] [fRep r_api_Grid (v3) p3]) :
    Calls Try.prog 44 #[.agg #[iv p0, iv p1, .slice ad_2 p2.length cp_2], v3, iv p4, iv p5] w0 (Ret (X := Unit) E (keysL [eRow rB 4 (.slice ad_2 p2.length cp_2) p2]) w0 (fun _ => .tuple #[]) (fun _ => [eRow rB 4 (.slice ad_2 p2.length cp_2) r]) (fun _ => [])) := by
  unfold F_block_put_s0 at h
  obtain ⟨u1, rfl, hu2⟩ := S.know (i := 0) (e := fRep r_api_Grid (v3) p3) rfl
  have S := S.learn (fRep (rL rB) u1 p3.Bits) hu2
  obtain ⟨ad3, cp4, _, rfl, _⟩ := hu2
  refine sEnter (args := [.agg #[iv p0, iv p1, .slice ad_2 p2.length cp_2], .agg #[iv p3.W, iv p3.H, .slice ad3 p3.Bits.length cp4], iv p4, iv p5]) 45 Try.func44 rfl rfl (by simp) S (fun a S => ?_)
  refine sSeq (fun K5 hK5 => ?_)
  refine sRegion ?_
  refine sBox (v := .agg #[iv p0, iv p1, .slice ad_2 p2.length cp_2]) S (wN rfl) rfl rfl [iv p0, iv p1, .slice ad_2 p2.length cp_2] rfl rfl (lb rfl) fun a b6 w S => ?_
  refine sBox (v := .agg #[iv p3.W, iv p3.H, .slice ad3 p3.Bits.length cp4]) S (wN rfl) rfl rfl [iv p3.W, iv p3.H, .slice ad3 p3.Bits.length cp4] rfl rfl (lb rfl) fun a b7 w S => ?_
  refine leafL (leafT (hK5 _ _ ?_))
  refine sSeq (fun K8 hK8 => ?_)
  refine sRegion ?_
  refine sField (b := b7) (off := 0) 1 1 S (wN rfl) rfl rfl rfl rfl rfl (lb rfl) fun a S => ?_
  refine sLoad1 (p := b7) (off := 1) (T := 24) (vs := [iv p3.W, iv p3.H, .slice ad3 p3.Bits.length cp4]) 0 (iv p3.H) S (wN rfl) rfl rfl rfl rfl rfl rfl (lb rfl) fun a S => ?_
  refine sMove (iv 0) S (wN rfl) (.inl rfl) rfl rfl (lb rfl) fun a S => ?_
  refine leafL (leafT (hK8 _ _ ?_))
  refine wp_block ?_
  obtain ⟨t13, hl, g12⟩ := bindSome h
  refine sLoop hl (fun s0 a w => match s0 with | (s9, s10) => St [] E (keysL [eRow rB 4 (.slice ad_2 p2.length cp_2) p2]) w0 45 a w [(2, iv p4), (3, iv p5), (4, .pointer (some ⟨b6, 0, none⟩)), (5, .pointer (some ⟨b7, 0, none⟩)), (10, iv p3.H), (11, iv s9)] [eBox b6 24 [iv p0, iv p1, .slice ad_2 s10.length cp_2], eBox b7 24 [iv p3.W, iv p3.H, .slice ad3 p3.Bits.length cp4], eRow rB 4 (.slice ad_2 s10.length cp_2) s10] [fRep (rL rB) (.slice ad3 p3.Bits.length cp4) p3.Bits]) (S.fix [1, 0, 2] [0] (by decide) rfl rfl rfl) ?_
  clear hl h
  intro s0 a w c0 hI h hu11
  obtain ⟨s9, s10⟩ := s0
  unfold block_put_s0_l1 at h
  dsimp only at h hI
  have S := hI
  refine sSeq (fun K15 hK15 => ?_)
  refine sRegion ?_
  refine sBin (.bool (decide (s9 < p3.H))) S (wN rfl) rfl rfl rfl (bLt _ _ _ _ .i64 s9 p3.H) rfl (lb rfl) fun a S => ?_
  refine leafL (leafT (hK15 _ _ ?_))
  refine sSeq (fun K16 hK16 => ?_)
  rcases iteSome h with ⟨hc17, h⟩ | ⟨hc17, h⟩
  rotate_left
  · refine sCondF S rfl hc17 ?_
    obtain rfl := Option.some.inj h
    obtain rfl := hu11 _ rfl
    have h := g12
    clear g12
    try dsimp only at h
    obtain ⟨_, hk38, h⟩ := bindSome h
    rw [keepO_v hk38 ad_2 cp_2] at S
    obtain rfl := Option.some.inj h
    exact wp_exit (xThen (xThen (xHit (sEnd (.tuple #[]) S (rsl0 rfl ) ⟨(), rfl, S.mem.sel [2] [] (by decide) rfl rfl⟩))))
  refine sCondT S rfl hc17 ?_
  refine wp_skip (leafT (hK16 _ _ ?_))
  obtain ⟨t19, h, g20⟩ := bindSome h
  refine sCut (fun a w => ∃ o18, o18 = t19 ∧ St [] E (keysL [eRow rB 4 (.slice ad_2 p2.length cp_2) p2]) w0 45 a w [(2, iv p4), (3, iv p5), (4, .pointer (some ⟨b6, 0, none⟩)), (5, .pointer (some ⟨b7, 0, none⟩)), (10, iv p3.H), (11, iv s9)] [eBox b6 24 [iv p0, iv p1, .slice ad_2 o18.length cp_2], eBox b7 24 [iv p3.W, iv p3.H, .slice ad3 p3.Bits.length cp4], eRow rB 4 (.slice ad_2 o18.length cp_2) o18] [fRep (rL rB) (.slice ad3 p3.Bits.length cp4) p3.Bits]) ?_ (fun a w hI => ?_)
  rotate_left
  · obtain ⟨o18, rfl, S⟩ := hI
    have h := g20
    clear g20
    try dsimp only at h
    refine sRegion ?_
    refine sBin (iv (w64 (s9 + 1))) S (wN rfl) rfl rfl rfl (bAdd _ _ _ _ s9 1) rfl (lb rfl) fun a S => ?_
    refine sMove (iv (w64 (s9 + 1))) S (wN rfl) (.inl rfl) rfl rfl (lb rfl) fun a S => ?_
    exact leafL (leafT (⟨(w64 (s9 + 1), o18), (Option.some.inj h).symm, (S.fix [0, 1, 2] [0] (by decide) rfl rfl rfl)⟩))
  refine wp_block ?_
  refine sSeq (fun K21 hK21 => ?_)
  refine sRegion ?_
  refine sMove (iv s9) S (wN rfl) (.inl rfl) rfl rfl (lb rfl) fun a S => ?_
  refine sMove (iv s9) S (wN rfl) (.inr rfl) rfl rfl (lb rfl) fun a S => ?_
  refine leafL (leafT (hK21 _ _ ?_))
  obtain ⟨y22, hx23, h⟩ := bindSome h
  obtain ⟨y26, hx27, h⟩ := bindSome h
  refine sDraw (nf := [16, 28, 29]) (W := [(0, 14, .pointer (some ⟨b6, 2, none⟩)), (1, 15, .slice ad_2 s10.length cp_2), (2, 16, iv p5), (3, 17, .pointer (some ⟨b7, 1, none⟩)), (4, 18, iv p3.H), (5, 19, iv (w64 (p5 * p3.H))), (6, 20, iv s9), (7, 21, iv (w64 ((w64 (p5 * p3.H)) + s9))), (8, 22, .pointer (some ⟨b6, 0, none⟩)), (9, 23, iv p0), (10, 24, iv (w64 ((w64 ((w64 (p5 * p3.H)) + s9)) * p0))), (11, 25, iv p4), (12, 26, .pointer (some ⟨b7, 0, none⟩)), (13, 27, iv p3.W), (14, 28, iv (w64 (p4 * p3.W))), (15, 29, iv (w64 ((w64 ((w64 ((w64 (p5 * p3.H)) + s9)) * p0)) + (w64 (p4 * p3.W))))), (17, 31, .pointer (some ⟨b7, 2, none⟩)), (18, 32, .slice ad3 p3.Bits.length cp4), (19, 33, iv s9), (20, 34, .pointer (some ⟨b7, 0, none⟩)), (21, 35, iv p3.W), (22, 36, iv (w64 (s9 * p3.W))), (23, 37, iv s9), (24, 38, iv (w64 (s9 + 1))), (25, 39, .pointer (some ⟨b7, 0, none⟩)), (26, 40, iv p3.W), (27, 41, iv (w64 ((w64 (s9 + 1)) * p3.W)))]) rfl S ?_
  refine node_by (A := anc_block_put_s0_0) (nf := [16, 28, 29]) (Y := []) (W := [(0, 14, .pointer (some ⟨b6, 2, none⟩)), (1, 15, .slice ad_2 s10.length cp_2), (2, 16, iv p5), (3, 17, .pointer (some ⟨b7, 1, none⟩)), (4, 18, iv p3.H), (5, 19, iv (w64 (p5 * p3.H))), (6, 20, iv s9), (7, 21, iv (w64 ((w64 (p5 * p3.H)) + s9))), (8, 22, .pointer (some ⟨b6, 0, none⟩)), (9, 23, iv p0), (10, 24, iv (w64 ((w64 ((w64 (p5 * p3.H)) + s9)) * p0))), (11, 25, iv p4), (12, 26, .pointer (some ⟨b7, 0, none⟩)), (13, 27, iv p3.W), (14, 28, iv (w64 (p4 * p3.W))), (15, 29, iv (w64 ((w64 ((w64 ((w64 (p5 * p3.H)) + s9)) * p0)) + (w64 (p4 * p3.W))))), (17, 31, .pointer (some ⟨b7, 2, none⟩)), (18, 32, .slice ad3 p3.Bits.length cp4), (19, 33, iv s9), (20, 34, .pointer (some ⟨b7, 0, none⟩)), (21, 35, iv p3.W), (22, 36, iv (w64 (s9 * p3.W))), (23, 37, iv s9), (24, 38, iv (w64 (s9 + 1))), (25, 39, .pointer (some ⟨b7, 0, none⟩)), (26, 40, iv p3.W), (27, 41, iv (w64 ((w64 (s9 + 1)) * p3.W)))]) 30 (by kernel_rfl) (by kernel_rfl) (by kernel_rfl) (by kernel_rfl) (by kernel_rfl) [0, 1, 2, 3, 4, 5, 6, 7, 8, 9, 10, 11, 12, 13, 14, 15, 17, 18, 19, 20, 21, 22, 23, 24, 25, 26, 27] (by kernel_rfl) (by decide) (by decide) (aF 0 29 (by decide) ?_ (aF 1 28 (by decide) ?_ (aF 2 27 (by decide) ?_ (aF 3 26 (by decide) ?_ (aF 4 25 (by decide) ?_ (aF 5 24 (by decide) ?_ (aF 6 23 (by decide) ?_ (aF 7 22 (by decide) ?_ (aF 8 21 (by decide) ?_ (aF 9 20 (by decide) ?_ (aF 10 19 (by decide) ?_ (aF 11 18 (by decide) ?_ (aF 12 17 (by decide) ?_ (aF 13 16 (by decide) ?_ (aF 14 15 (by decide) ?_ (aF 15 14 (by decide) ?_ (aN 16 13 (by decide) ?_ (aF 17 12 (by decide) ?_ (aF 18 11 (by decide) ?_ (aF 19 10 (by decide) ?_ (aF 20 9 (by decide) ?_ (aF 21 8 (by decide) ?_ (aF 22 7 (by decide) ?_ (aF 23 6 (by decide) ?_ (aF 24 5 (by decide) ?_ (aF 25 4 (by decide) ?_ (aF 26 3 (by decide) ?_ (aF 27 2 (by decide) ?_ (aN 28 1 (by decide) ?_ (aB 29 0 16 (by decide) (trivial))))))))))))))))))))))))))))))) [] (fun q hq => by cases hq) (fun hY => absurd (hY 16 (by decide)) (by decide))
  · refine fI 14 (.pointer (some ⟨b6, 2, none⟩)) [(4, .pointer (some ⟨b6, 0, none⟩))] 0 [none] rfl rfl rfl rfl rfl rfl fun G a w S => ?_
    refine sField (b := b6) (off := 0) 2 2 S (wN rfl) rfl rfl rfl rfl rfl (lb rfl) fun a S => ?_
    exact leafL ⟨rfl, S⟩
  · refine fI 15 (.slice ad_2 s10.length cp_2) [(14, .pointer (some ⟨b6, 2, none⟩))] 1 [some 0] rfl rfl rfl rfl rfl rfl fun G a w S => ?_
    refine sLoad1 (p := b6) (off := 2) (T := 24) (vs := [iv p0, iv p1, .slice ad_2 s10.length cp_2]) 0 (.slice ad_2 s10.length cp_2) S (wN rfl) rfl rfl rfl rfl rfl rfl (lb rfl) fun a S => ?_
    exact leafL ⟨rfl, S⟩
  · refine fI 16 (iv p5) [(3, iv p5)] 2 [none] rfl rfl rfl rfl rfl rfl fun G a w S => ?_
    refine sMove (iv p5) S (wN rfl) (.inl rfl) rfl rfl (lb rfl) fun a S => ?_
    exact leafL ⟨rfl, S⟩
  · refine fI 17 (.pointer (some ⟨b7, 1, none⟩)) [(5, .pointer (some ⟨b7, 0, none⟩))] 3 [none] rfl rfl rfl rfl rfl rfl fun G a w S => ?_
    refine sField (b := b7) (off := 0) 1 1 S (wN rfl) rfl rfl rfl rfl rfl (lb rfl) fun a S => ?_
    exact leafL ⟨rfl, S⟩
  · refine fI 18 (iv p3.H) [(17, .pointer (some ⟨b7, 1, none⟩))] 4 [some 3] rfl rfl rfl rfl rfl rfl fun G a w S => ?_
    refine sLoad1 (p := b7) (off := 1) (T := 24) (vs := [iv p3.W, iv p3.H, .slice ad3 p3.Bits.length cp4]) 1 (iv p3.H) S (wN rfl) rfl rfl rfl rfl rfl rfl (lb rfl) fun a S => ?_
    exact leafL ⟨rfl, S⟩
  · refine fI 19 (iv (w64 (p5 * p3.H))) [(16, iv p5), (18, iv p3.H)] 5 [some 2, some 4] rfl rfl rfl rfl rfl rfl fun G a w S => ?_
    refine sBin (iv (w64 (p5 * p3.H))) S (wN rfl) rfl rfl rfl (bMul _ _ _ _ p5 p3.H) rfl (lb rfl) fun a S => ?_
    exact leafL ⟨rfl, S⟩
  · refine fI 20 (iv s9) [(8, iv s9)] 6 [none] rfl rfl rfl rfl rfl rfl fun G a w S => ?_
    refine sMove (iv s9) S (wN rfl) (.inl rfl) rfl rfl (lb rfl) fun a S => ?_
    exact leafL ⟨rfl, S⟩
  · refine fI 21 (iv (w64 ((w64 (p5 * p3.H)) + s9))) [(19, iv (w64 (p5 * p3.H))), (20, iv s9)] 7 [some 5, some 6] rfl rfl rfl rfl rfl rfl fun G a w S => ?_
    refine sBin (iv (w64 ((w64 (p5 * p3.H)) + s9))) S (wN rfl) rfl rfl rfl (bAdd _ _ _ _ (w64 (p5 * p3.H)) s9) rfl (lb rfl) fun a S => ?_
    exact leafL ⟨rfl, S⟩
  · refine fI 22 (.pointer (some ⟨b6, 0, none⟩)) [(4, .pointer (some ⟨b6, 0, none⟩))] 8 [none] rfl rfl rfl rfl rfl rfl fun G a w S => ?_
    refine sField (b := b6) (off := 0) 0 0 S (wN rfl) rfl rfl rfl rfl rfl (lb rfl) fun a S => ?_
    exact leafL ⟨rfl, S⟩
  · refine fI 23 (iv p0) [(22, .pointer (some ⟨b6, 0, none⟩))] 9 [some 8] rfl rfl rfl rfl rfl rfl fun G a w S => ?_
    refine sLoad1 (p := b6) (off := 0) (T := 24) (vs := [iv p0, iv p1, .slice ad_2 s10.length cp_2]) 0 (iv p0) S (wN rfl) rfl rfl rfl rfl rfl rfl (lb rfl) fun a S => ?_
    exact leafL ⟨rfl, S⟩
  · refine fI 24 (iv (w64 ((w64 ((w64 (p5 * p3.H)) + s9)) * p0))) [(21, iv (w64 ((w64 (p5 * p3.H)) + s9))), (23, iv p0)] 10 [some 7, some 9] rfl rfl rfl rfl rfl rfl fun G a w S => ?_
    refine sBin (iv (w64 ((w64 ((w64 (p5 * p3.H)) + s9)) * p0))) S (wN rfl) rfl rfl rfl (bMul _ _ _ _ (w64 ((w64 (p5 * p3.H)) + s9)) p0) rfl (lb rfl) fun a S => ?_
    exact leafL ⟨rfl, S⟩
  · refine fI 25 (iv p4) [(2, iv p4)] 11 [none] rfl rfl rfl rfl rfl rfl fun G a w S => ?_
    refine sMove (iv p4) S (wN rfl) (.inl rfl) rfl rfl (lb rfl) fun a S => ?_
    exact leafL ⟨rfl, S⟩
  · refine fI 26 (.pointer (some ⟨b7, 0, none⟩)) [(5, .pointer (some ⟨b7, 0, none⟩))] 12 [none] rfl rfl rfl rfl rfl rfl fun G a w S => ?_
    refine sField (b := b7) (off := 0) 0 0 S (wN rfl) rfl rfl rfl rfl rfl (lb rfl) fun a S => ?_
    exact leafL ⟨rfl, S⟩
  · refine fI 27 (iv p3.W) [(26, .pointer (some ⟨b7, 0, none⟩))] 13 [some 12] rfl rfl rfl rfl rfl rfl fun G a w S => ?_
    refine sLoad1 (p := b7) (off := 0) (T := 24) (vs := [iv p3.W, iv p3.H, .slice ad3 p3.Bits.length cp4]) 1 (iv p3.W) S (wN rfl) rfl rfl rfl rfl rfl rfl (lb rfl) fun a S => ?_
    exact leafL ⟨rfl, S⟩
  · refine fI 28 (iv (w64 (p4 * p3.W))) [(25, iv p4), (27, iv p3.W)] 14 [some 11, some 13] rfl rfl rfl rfl rfl rfl fun G a w S => ?_
    refine sBin (iv (w64 (p4 * p3.W))) S (wN rfl) rfl rfl rfl (bMul _ _ _ _ p4 p3.W) rfl (lb rfl) fun a S => ?_
    exact leafL ⟨rfl, S⟩
  · refine fI 29 (iv (w64 ((w64 ((w64 ((w64 (p5 * p3.H)) + s9)) * p0)) + (w64 (p4 * p3.W))))) [(24, iv (w64 ((w64 ((w64 (p5 * p3.H)) + s9)) * p0))), (28, iv (w64 (p4 * p3.W)))] 15 [some 10, some 14] rfl rfl rfl rfl rfl rfl fun G a w S => ?_
    refine sBin (iv (w64 ((w64 ((w64 ((w64 (p5 * p3.H)) + s9)) * p0)) + (w64 (p4 * p3.W))))) S (wN rfl) rfl rfl rfl (bAdd _ _ _ _ (w64 ((w64 ((w64 (p5 * p3.H)) + s9)) * p0)) (w64 (p4 * p3.W))) rfl (lb rfl) fun a S => ?_
    exact leafL ⟨rfl, S⟩
  · refine ⟨_, [(15, .slice ad_2 s10.length cp_2), (29, iv (w64 ((w64 ((w64 ((w64 (p5 * p3.H)) + s9)) * p0)) + (w64 (p4 * p3.W)))))], rfl, (srcs_of [some 1, some 15] rfl rfl rfl), fun G a w S => ?_⟩
    refine sSliceR (r := rB) (T := 4) (v := .slice ad_2 s10.length cp_2) (xs := s10) (vlo := (some (.int .i64 (w64 ((w64 ((w64 ((w64 (p5 * p3.H)) + s9)) * p0)) + (w64 (p4 * p3.W))))))) (vhi := none) (lo' := w64 ((w64 ((w64 ((w64 (p5 * p3.H)) + s9)) * p0)) + (w64 (p4 * p3.W)))) (hi' := (s10.length : Int)) 2 S (wN rfl) rfl Try.underlying22 rfl rfl rfl rfl rfl (.inl rfl) (.inr ⟨rfl, rfl⟩) hx23 rfl (lb rfl) fun a os30 hO31 S => ?_
    refine leafL ⟨rfl, _, _, .inl ⟨30, os30, [], rfl, S, hz_of rfl, ?_⟩⟩
    refine node_by (A := anc_block_put_s0_0) (nf := [16, 28, 29]) (Y := [16]) 30 (by kernel_rfl) (by kernel_rfl) (by kernel_rfl) (by kernel_rfl) (by kernel_rfl) [16, 0, 1, 2, 3, 4, 5, 6, 7, 8, 9, 10, 11, 12, 13, 14, 15, 17, 18, 19, 20, 21, 22, 23, 24, 25, 26, 27] (by kernel_rfl) (by decide) (by decide) (aD 0 29 16 (by decide) (aD 1 28 16 (by decide) (aD 2 27 16 (by decide) (aD 3 26 16 (by decide) (aD 4 25 16 (by decide) (aD 5 24 16 (by decide) (aD 6 23 16 (by decide) (aD 7 22 16 (by decide) (aD 8 21 16 (by decide) (aD 9 20 16 (by decide) (aD 10 19 16 (by decide) (aD 11 18 16 (by decide) (aD 12 17 16 (by decide) (aD 13 16 16 (by decide) (aD 14 15 16 (by decide) (aD 15 14 16 (by decide) (aY 16 13 (by decide) (aF 17 12 (by decide) ?_ (aF 18 11 (by decide) ?_ (aF 19 10 (by decide) ?_ (aF 20 9 (by decide) ?_ (aF 21 8 (by decide) ?_ (aF 22 7 (by decide) ?_ (aF 23 6 (by decide) ?_ (aF 24 5 (by decide) ?_ (aF 25 4 (by decide) ?_ (aF 26 3 (by decide) ?_ (aF 27 2 (by decide) ?_ (aN 28 1 (by decide) ?_ (aB 29 0 28 (by decide) (trivial))))))))))))))))))))))))))))))) [] (fun q hq => by cases hq) (fun hY => absurd (hY 28 (by decide)) (by decide))
    · refine fI 31 (.pointer (some ⟨b7, 2, none⟩)) [(5, .pointer (some ⟨b7, 0, none⟩))] 17 [none] rfl rfl rfl rfl rfl rfl fun G a w S => ?_
      refine sField (b := b7) (off := 0) 2 2 S (wN rfl) rfl rfl rfl rfl rfl (lb rfl) fun a S => ?_
      exact leafL ⟨rfl, S⟩
    · refine fI 32 (.slice ad3 p3.Bits.length cp4) [(31, .pointer (some ⟨b7, 2, none⟩))] 18 [some 17] rfl rfl rfl rfl rfl rfl fun G a w S => ?_
      refine sLoad1 (p := b7) (off := 2) (T := 24) (vs := [iv p3.W, iv p3.H, .slice ad3 p3.Bits.length cp4]) 1 (.slice ad3 p3.Bits.length cp4) S (wN rfl) rfl rfl rfl rfl rfl rfl (lb rfl) fun a S => ?_
      exact leafL ⟨rfl, S⟩
    · refine fI 33 (iv s9) [(8, iv s9)] 19 [none] rfl rfl rfl rfl rfl rfl fun G a w S => ?_
      refine sMove (iv s9) S (wN rfl) (.inl rfl) rfl rfl (lb rfl) fun a S => ?_
      exact leafL ⟨rfl, S⟩
    · refine fI 34 (.pointer (some ⟨b7, 0, none⟩)) [(5, .pointer (some ⟨b7, 0, none⟩))] 20 [none] rfl rfl rfl rfl rfl rfl fun G a w S => ?_
      refine sField (b := b7) (off := 0) 0 0 S (wN rfl) rfl rfl rfl rfl rfl (lb rfl) fun a S => ?_
      exact leafL ⟨rfl, S⟩
    · refine fI 35 (iv p3.W) [(34, .pointer (some ⟨b7, 0, none⟩))] 21 [some 20] rfl rfl rfl rfl rfl rfl fun G a w S => ?_
      refine sLoad1 (p := b7) (off := 0) (T := 24) (vs := [iv p3.W, iv p3.H, .slice ad3 p3.Bits.length cp4]) 1 (iv p3.W) S (wN rfl) rfl rfl rfl rfl rfl rfl (lb rfl) fun a S => ?_
      exact leafL ⟨rfl, S⟩
    · refine fI 36 (iv (w64 (s9 * p3.W))) [(33, iv s9), (35, iv p3.W)] 22 [some 19, some 21] rfl rfl rfl rfl rfl rfl fun G a w S => ?_
      refine sBin (iv (w64 (s9 * p3.W))) S (wN rfl) rfl rfl rfl (bMul _ _ _ _ s9 p3.W) rfl (lb rfl) fun a S => ?_
      exact leafL ⟨rfl, S⟩
    · refine fI 37 (iv s9) [(8, iv s9)] 23 [none] rfl rfl rfl rfl rfl rfl fun G a w S => ?_
      refine sMove (iv s9) S (wN rfl) (.inl rfl) rfl rfl (lb rfl) fun a S => ?_
      exact leafL ⟨rfl, S⟩
    · refine fI 38 (iv (w64 (s9 + 1))) [(37, iv s9)] 24 [some 23] rfl rfl rfl rfl rfl rfl fun G a w S => ?_
      refine sBin (iv (w64 (s9 + 1))) S (wN rfl) rfl rfl rfl (bAdd _ _ _ _ s9 1) rfl (lb rfl) fun a S => ?_
      exact leafL ⟨rfl, S⟩
    · refine fI 39 (.pointer (some ⟨b7, 0, none⟩)) [(5, .pointer (some ⟨b7, 0, none⟩))] 25 [none] rfl rfl rfl rfl rfl rfl fun G a w S => ?_
      refine sField (b := b7) (off := 0) 0 0 S (wN rfl) rfl rfl rfl rfl rfl (lb rfl) fun a S => ?_
      exact leafL ⟨rfl, S⟩
    · refine fI 40 (iv p3.W) [(39, .pointer (some ⟨b7, 0, none⟩))] 26 [some 25] rfl rfl rfl rfl rfl rfl fun G a w S => ?_
      refine sLoad1 (p := b7) (off := 0) (T := 24) (vs := [iv p3.W, iv p3.H, .slice ad3 p3.Bits.length cp4]) 1 (iv p3.W) S (wN rfl) rfl rfl rfl rfl rfl rfl (lb rfl) fun a S => ?_
      exact leafL ⟨rfl, S⟩
    · refine fI 41 (iv (w64 ((w64 (s9 + 1)) * p3.W))) [(38, iv (w64 (s9 + 1))), (40, iv p3.W)] 27 [some 24, some 26] rfl rfl rfl rfl rfl rfl fun G a w S => ?_
      refine sBin (iv (w64 ((w64 (s9 + 1)) * p3.W))) S (wN rfl) rfl rfl rfl (bMul _ _ _ _ (w64 (s9 + 1)) p3.W) rfl (lb rfl) fun a S => ?_
      exact leafL ⟨rfl, S⟩
    refine ⟨_, [(32, .slice ad3 p3.Bits.length cp4), (36, iv (w64 (s9 * p3.W))), (41, iv (w64 ((w64 (s9 + 1)) * p3.W)))], rfl, (srcs_of [some 18, some 22, some 27] rfl rfl rfl), fun G a w S => ?_⟩
    refine sSlice (r := rB) (v := .slice ad3 p3.Bits.length cp4) (xs := p3.Bits) (vlo := (some (.int .i64 (w64 (s9 * p3.W))))) (vhi := (some (.int .i64 (w64 ((w64 (s9 + 1)) * p3.W))))) (lo' := w64 (s9 * p3.W)) (hi' := w64 ((w64 (s9 + 1)) * p3.W)) 0 S (wN rfl) rfl Try.underlying22 rfl rfl rfl rfl rfl (.inl rfl) (.inl rfl) hx27 rfl (lb rfl) fun a ad32 cp33 S => ?_
    refine leafL ⟨rfl, _, _, .inl ⟨42, (.slice ad32 y26.length cp33), [], rfl, S, hz_of rfl, ?_⟩⟩
    refine node_by (A := anc_block_put_s0_0) (nf := [16, 28, 29]) (Y := [28, 16]) 30 (by kernel_rfl) (by kernel_rfl) (by kernel_rfl) (by kernel_rfl) (by kernel_rfl) [28, 16, 0, 1, 2, 3, 4, 5, 6, 7, 8, 9, 10, 11, 12, 13, 14, 15, 17, 18, 19, 20, 21, 22, 23, 24, 25, 26, 27] (by kernel_rfl) (by decide) (by decide) (aD 0 29 16 (by decide) (aD 1 28 16 (by decide) (aD 2 27 16 (by decide) (aD 3 26 16 (by decide) (aD 4 25 16 (by decide) (aD 5 24 16 (by decide) (aD 6 23 16 (by decide) (aD 7 22 16 (by decide) (aD 8 21 16 (by decide) (aD 9 20 16 (by decide) (aD 10 19 16 (by decide) (aD 11 18 16 (by decide) (aD 12 17 16 (by decide) (aD 13 16 16 (by decide) (aD 14 15 16 (by decide) (aD 15 14 16 (by decide) (aY 16 13 (by decide) (aD 17 12 28 (by decide) (aD 18 11 28 (by decide) (aD 19 10 28 (by decide) (aD 20 9 28 (by decide) (aD 21 8 28 (by decide) (aD 22 7 28 (by decide) (aD 23 6 28 (by decide) (aD 24 5 28 (by decide) (aD 25 4 28 (by decide) (aD 26 3 28 (by decide) (aD 27 2 28 (by decide) (aY 28 1 (by decide) (aN 29 0 (by decide) ?_ (trivial))))))))))))))))))))))))))))))) [] (fun q hq => by cases hq) (fun hY => absurd (hY 29 (by decide)) (by decide))
    refine ⟨_, [(30, os30), (42, .slice ad32 y26.length cp33)], rfl, (srcs_of [some 1, some 0] rfl rfl rfl), fun G a w S => ?_⟩
    refine sCopyS (r := rB) (T := 4) (xs := s10) (ys := y26) (v := .slice ad_2 s10.length cp_2) (u := .slice ad32 y26.length cp33) (l := (w64 ((w64 ((w64 ((w64 (p5 * p3.H)) + s9)) * p0)) + (w64 (p4 * p3.W)))).toNat) (q := ((s10.length : Int)).toNat) 2 0 S hO31 (sliceO_le hx23).1 (sliceO_le hx23).2 (wN rfl) rfl Try.underlying22 rfl rfl rfl rfl rfl rfl (lb rfl) fun a w S => ?_
    refine leafL ⟨rfl, _, _, .inl ⟨43, (iv ((Nat.min y26.length (((s10.length : Int)).toNat - (w64 ((w64 ((w64 ((w64 (p5 * p3.H)) + s9)) * p0)) + (w64 (p4 * p3.W)))).toNat) : Nat) : Int)), [], rfl, S, hz_of rfl, ?_⟩⟩
    refine node_by (A := anc_block_put_s0_0) (nf := [16, 28, 29]) (Y := [29, 28, 16]) 30 (by kernel_rfl) (by kernel_rfl) (by kernel_rfl) (by kernel_rfl) (by kernel_rfl) [29, 28, 16, 0, 1, 2, 3, 4, 5, 6, 7, 8, 9, 10, 11, 12, 13, 14, 15, 17, 18, 19, 20, 21, 22, 23, 24, 25, 26, 27] (by kernel_rfl) (by decide) (by decide) (aD 0 29 29 (by decide) (aD 1 28 29 (by decide) (aD 2 27 29 (by decide) (aD 3 26 29 (by decide) (aD 4 25 29 (by decide) (aD 5 24 29 (by decide) (aD 6 23 29 (by decide) (aD 7 22 29 (by decide) (aD 8 21 29 (by decide) (aD 9 20 29 (by decide) (aD 10 19 29 (by decide) (aD 11 18 29 (by decide) (aD 12 17 29 (by decide) (aD 13 16 29 (by decide) (aD 14 15 29 (by decide) (aD 15 14 29 (by decide) (aY 16 13 (by decide) (aD 17 12 29 (by decide) (aD 18 11 29 (by decide) (aD 19 10 29 (by decide) (aD 20 9 29 (by decide) (aD 21 8 29 (by decide) (aD 22 7 29 (by decide) (aD 23 6 29 (by decide) (aD 24 5 29 (by decide) (aD 25 4 29 (by decide) (aD 26 3 29 (by decide) (aD 27 2 29 (by decide) (aY 28 1 (by decide) (aY 29 0 (by decide) (trivial))))))))))))))))))))))))))))))) [(2, iv p4), (3, iv p5), (4, .pointer (some ⟨b6, 0, none⟩)), (5, .pointer (some ⟨b7, 0, none⟩)), (10, iv p3.H), (11, iv s9)] (fin_of [none, none, none, none, none, none] rfl (by kernel_rfl) (by kernel_rfl)) (fun _ a w S => ?_)
    rw [cpA_v hx23 y26 ad_2 cp_2] at S
    exact leafB (leafT (⟨cpA s10 (w64 ((w64 ((w64 ((w64 (p5 * p3.H)) + s9)) * p0)) + (w64 (p4 * p3.W)))).toNat ((s10.length : Int)).toNat y26, Option.some.inj h, S.fix [1, 2, 0] [1] (by decide) rfl rfl rfl⟩))
  · refine fI 31 (.pointer (some ⟨b7, 2, none⟩)) [(5, .pointer (some ⟨b7, 0, none⟩))] 16 [none] rfl rfl rfl rfl rfl rfl fun G a w S => ?_
    refine sField (b := b7) (off := 0) 2 2 S (wN rfl) rfl rfl rfl rfl rfl (lb rfl) fun a S => ?_
    exact leafL ⟨rfl, S⟩
  · refine fI 32 (.slice ad3 p3.Bits.length cp4) [(31, .pointer (some ⟨b7, 2, none⟩))] 17 [some 16] rfl rfl rfl rfl rfl rfl fun G a w S => ?_
    refine sLoad1 (p := b7) (off := 2) (T := 24) (vs := [iv p3.W, iv p3.H, .slice ad3 p3.Bits.length cp4]) 1 (.slice ad3 p3.Bits.length cp4) S (wN rfl) rfl rfl rfl rfl rfl rfl (lb rfl) fun a S => ?_
    exact leafL ⟨rfl, S⟩
  · refine fI 33 (iv s9) [(8, iv s9)] 18 [none] rfl rfl rfl rfl rfl rfl fun G a w S => ?_
    refine sMove (iv s9) S (wN rfl) (.inl rfl) rfl rfl (lb rfl) fun a S => ?_
    exact leafL ⟨rfl, S⟩
  · refine fI 34 (.pointer (some ⟨b7, 0, none⟩)) [(5, .pointer (some ⟨b7, 0, none⟩))] 19 [none] rfl rfl rfl rfl rfl rfl fun G a w S => ?_
    refine sField (b := b7) (off := 0) 0 0 S (wN rfl) rfl rfl rfl rfl rfl (lb rfl) fun a S => ?_
    exact leafL ⟨rfl, S⟩
  · refine fI 35 (iv p3.W) [(34, .pointer (some ⟨b7, 0, none⟩))] 20 [some 19] rfl rfl rfl rfl rfl rfl fun G a w S => ?_
    refine sLoad1 (p := b7) (off := 0) (T := 24) (vs := [iv p3.W, iv p3.H, .slice ad3 p3.Bits.length cp4]) 1 (iv p3.W) S (wN rfl) rfl rfl rfl rfl rfl rfl (lb rfl) fun a S => ?_
    exact leafL ⟨rfl, S⟩
  · refine fI 36 (iv (w64 (s9 * p3.W))) [(33, iv s9), (35, iv p3.W)] 21 [some 18, some 20] rfl rfl rfl rfl rfl rfl fun G a w S => ?_
    refine sBin (iv (w64 (s9 * p3.W))) S (wN rfl) rfl rfl rfl (bMul _ _ _ _ s9 p3.W) rfl (lb rfl) fun a S => ?_
    exact leafL ⟨rfl, S⟩
  · refine fI 37 (iv s9) [(8, iv s9)] 22 [none] rfl rfl rfl rfl rfl rfl fun G a w S => ?_
    refine sMove (iv s9) S (wN rfl) (.inl rfl) rfl rfl (lb rfl) fun a S => ?_
    exact leafL ⟨rfl, S⟩
  · refine fI 38 (iv (w64 (s9 + 1))) [(37, iv s9)] 23 [some 22] rfl rfl rfl rfl rfl rfl fun G a w S => ?_
    refine sBin (iv (w64 (s9 + 1))) S (wN rfl) rfl rfl rfl (bAdd _ _ _ _ s9 1) rfl (lb rfl) fun a S => ?_
    exact leafL ⟨rfl, S⟩
  · refine fI 39 (.pointer (some ⟨b7, 0, none⟩)) [(5, .pointer (some ⟨b7, 0, none⟩))] 24 [none] rfl rfl rfl rfl rfl rfl fun G a w S => ?_
    refine sField (b := b7) (off := 0) 0 0 S (wN rfl) rfl rfl rfl rfl rfl (lb rfl) fun a S => ?_
    exact leafL ⟨rfl, S⟩
  · refine fI 40 (iv p3.W) [(39, .pointer (some ⟨b7, 0, none⟩))] 25 [some 24] rfl rfl rfl rfl rfl rfl fun G a w S => ?_
    refine sLoad1 (p := b7) (off := 0) (T := 24) (vs := [iv p3.W, iv p3.H, .slice ad3 p3.Bits.length cp4]) 1 (iv p3.W) S (wN rfl) rfl rfl rfl rfl rfl rfl (lb rfl) fun a S => ?_
    exact leafL ⟨rfl, S⟩
  · refine fI 41 (iv (w64 ((w64 (s9 + 1)) * p3.W))) [(38, iv (w64 (s9 + 1))), (40, iv p3.W)] 26 [some 23, some 25] rfl rfl rfl rfl rfl rfl fun G a w S => ?_
    refine sBin (iv (w64 ((w64 (s9 + 1)) * p3.W))) S (wN rfl) rfl rfl rfl (bMul _ _ _ _ (w64 (s9 + 1)) p3.W) rfl (lb rfl) fun a S => ?_
    exact leafL ⟨rfl, S⟩
  refine ⟨_, [(32, .slice ad3 p3.Bits.length cp4), (36, iv (w64 (s9 * p3.W))), (41, iv (w64 ((w64 (s9 + 1)) * p3.W)))], rfl, (srcs_of [some 17, some 21, some 26] rfl rfl rfl), fun G a w S => ?_⟩
  refine sSlice (r := rB) (v := .slice ad3 p3.Bits.length cp4) (xs := p3.Bits) (vlo := (some (.int .i64 (w64 (s9 * p3.W))))) (vhi := (some (.int .i64 (w64 ((w64 (s9 + 1)) * p3.W))))) (lo' := w64 (s9 * p3.W)) (hi' := w64 ((w64 (s9 + 1)) * p3.W)) 0 S (wN rfl) rfl Try.underlying22 rfl rfl rfl rfl rfl (.inl rfl) (.inl rfl) hx27 rfl (lb rfl) fun a ad34 cp35 S => ?_
  refine leafL ⟨rfl, _, _, .inl ⟨42, (.slice ad34 y26.length cp35), [], rfl, S, hz_of rfl, ?_⟩⟩
  refine node_by (A := anc_block_put_s0_0) (nf := [16, 28, 29]) (Y := [28]) 30 (by kernel_rfl) (by kernel_rfl) (by kernel_rfl) (by kernel_rfl) (by kernel_rfl) [28, 0, 1, 2, 3, 4, 5, 6, 7, 8, 9, 10, 11, 12, 13, 14, 15, 17, 18, 19, 20, 21, 22, 23, 24, 25, 26, 27] (by kernel_rfl) (by decide) (by decide) (aF 0 29 (by decide) ?_ (aF 1 28 (by decide) ?_ (aF 2 27 (by decide) ?_ (aF 3 26 (by decide) ?_ (aF 4 25 (by decide) ?_ (aF 5 24 (by decide) ?_ (aF 6 23 (by decide) ?_ (aF 7 22 (by decide) ?_ (aF 8 21 (by decide) ?_ (aF 9 20 (by decide) ?_ (aF 10 19 (by decide) ?_ (aF 11 18 (by decide) ?_ (aF 12 17 (by decide) ?_ (aF 13 16 (by decide) ?_ (aF 14 15 (by decide) ?_ (aF 15 14 (by decide) ?_ (aN 16 13 (by decide) ?_ (aD 17 12 28 (by decide) (aD 18 11 28 (by decide) (aD 19 10 28 (by decide) (aD 20 9 28 (by decide) (aD 21 8 28 (by decide) (aD 22 7 28 (by decide) (aD 23 6 28 (by decide) (aD 24 5 28 (by decide) (aD 25 4 28 (by decide) (aD 26 3 28 (by decide) (aD 27 2 28 (by decide) (aY 28 1 (by decide) (aB 29 0 16 (by decide) (trivial))))))))))))))))))))))))))))))) [] (fun q hq => by cases hq) (fun hY => absurd (hY 16 (by decide)) (by decide))
  · refine fI 14 (.pointer (some ⟨b6, 2, none⟩)) [(4, .pointer (some ⟨b6, 0, none⟩))] 1 [none] rfl rfl rfl rfl rfl rfl fun G a w S => ?_
    refine sField (b := b6) (off := 0) 2 2 S (wN rfl) rfl rfl rfl rfl rfl (lb rfl) fun a S => ?_
    exact leafL ⟨rfl, S⟩
  · refine fI 15 (.slice ad_2 s10.length cp_2) [(14, .pointer (some ⟨b6, 2, none⟩))] 2 [some 1] rfl rfl rfl rfl rfl rfl fun G a w S => ?_
    refine sLoad1 (p := b6) (off := 2) (T := 24) (vs := [iv p0, iv p1, .slice ad_2 s10.length cp_2]) 0 (.slice ad_2 s10.length cp_2) S (wN rfl) rfl rfl rfl rfl rfl rfl (lb rfl) fun a S => ?_
    exact leafL ⟨rfl, S⟩
  · refine fI 16 (iv p5) [(3, iv p5)] 3 [none] rfl rfl rfl rfl rfl rfl fun G a w S => ?_
    refine sMove (iv p5) S (wN rfl) (.inl rfl) rfl rfl (lb rfl) fun a S => ?_
    exact leafL ⟨rfl, S⟩
  · refine fI 17 (.pointer (some ⟨b7, 1, none⟩)) [(5, .pointer (some ⟨b7, 0, none⟩))] 4 [none] rfl rfl rfl rfl rfl rfl fun G a w S => ?_
    refine sField (b := b7) (off := 0) 1 1 S (wN rfl) rfl rfl rfl rfl rfl (lb rfl) fun a S => ?_
    exact leafL ⟨rfl, S⟩
  · refine fI 18 (iv p3.H) [(17, .pointer (some ⟨b7, 1, none⟩))] 5 [some 4] rfl rfl rfl rfl rfl rfl fun G a w S => ?_
    refine sLoad1 (p := b7) (off := 1) (T := 24) (vs := [iv p3.W, iv p3.H, .slice ad3 p3.Bits.length cp4]) 1 (iv p3.H) S (wN rfl) rfl rfl rfl rfl rfl rfl (lb rfl) fun a S => ?_
    exact leafL ⟨rfl, S⟩
  · refine fI 19 (iv (w64 (p5 * p3.H))) [(16, iv p5), (18, iv p3.H)] 6 [some 3, some 5] rfl rfl rfl rfl rfl rfl fun G a w S => ?_
    refine sBin (iv (w64 (p5 * p3.H))) S (wN rfl) rfl rfl rfl (bMul _ _ _ _ p5 p3.H) rfl (lb rfl) fun a S => ?_
    exact leafL ⟨rfl, S⟩
  · refine fI 20 (iv s9) [(8, iv s9)] 7 [none] rfl rfl rfl rfl rfl rfl fun G a w S => ?_
    refine sMove (iv s9) S (wN rfl) (.inl rfl) rfl rfl (lb rfl) fun a S => ?_
    exact leafL ⟨rfl, S⟩
  · refine fI 21 (iv (w64 ((w64 (p5 * p3.H)) + s9))) [(19, iv (w64 (p5 * p3.H))), (20, iv s9)] 8 [some 6, some 7] rfl rfl rfl rfl rfl rfl fun G a w S => ?_
    refine sBin (iv (w64 ((w64 (p5 * p3.H)) + s9))) S (wN rfl) rfl rfl rfl (bAdd _ _ _ _ (w64 (p5 * p3.H)) s9) rfl (lb rfl) fun a S => ?_
    exact leafL ⟨rfl, S⟩
  · refine fI 22 (.pointer (some ⟨b6, 0, none⟩)) [(4, .pointer (some ⟨b6, 0, none⟩))] 9 [none] rfl rfl rfl rfl rfl rfl fun G a w S => ?_
    refine sField (b := b6) (off := 0) 0 0 S (wN rfl) rfl rfl rfl rfl rfl (lb rfl) fun a S => ?_
    exact leafL ⟨rfl, S⟩
  · refine fI 23 (iv p0) [(22, .pointer (some ⟨b6, 0, none⟩))] 10 [some 9] rfl rfl rfl rfl rfl rfl fun G a w S => ?_
    refine sLoad1 (p := b6) (off := 0) (T := 24) (vs := [iv p0, iv p1, .slice ad_2 s10.length cp_2]) 0 (iv p0) S (wN rfl) rfl rfl rfl rfl rfl rfl (lb rfl) fun a S => ?_
    exact leafL ⟨rfl, S⟩
  · refine fI 24 (iv (w64 ((w64 ((w64 (p5 * p3.H)) + s9)) * p0))) [(21, iv (w64 ((w64 (p5 * p3.H)) + s9))), (23, iv p0)] 11 [some 8, some 10] rfl rfl rfl rfl rfl rfl fun G a w S => ?_
    refine sBin (iv (w64 ((w64 ((w64 (p5 * p3.H)) + s9)) * p0))) S (wN rfl) rfl rfl rfl (bMul _ _ _ _ (w64 ((w64 (p5 * p3.H)) + s9)) p0) rfl (lb rfl) fun a S => ?_
    exact leafL ⟨rfl, S⟩
  · refine fI 25 (iv p4) [(2, iv p4)] 12 [none] rfl rfl rfl rfl rfl rfl fun G a w S => ?_
    refine sMove (iv p4) S (wN rfl) (.inl rfl) rfl rfl (lb rfl) fun a S => ?_
    exact leafL ⟨rfl, S⟩
  · refine fI 26 (.pointer (some ⟨b7, 0, none⟩)) [(5, .pointer (some ⟨b7, 0, none⟩))] 13 [none] rfl rfl rfl rfl rfl rfl fun G a w S => ?_
    refine sField (b := b7) (off := 0) 0 0 S (wN rfl) rfl rfl rfl rfl rfl (lb rfl) fun a S => ?_
    exact leafL ⟨rfl, S⟩
  · refine fI 27 (iv p3.W) [(26, .pointer (some ⟨b7, 0, none⟩))] 14 [some 13] rfl rfl rfl rfl rfl rfl fun G a w S => ?_
    refine sLoad1 (p := b7) (off := 0) (T := 24) (vs := [iv p3.W, iv p3.H, .slice ad3 p3.Bits.length cp4]) 1 (iv p3.W) S (wN rfl) rfl rfl rfl rfl rfl rfl (lb rfl) fun a S => ?_
    exact leafL ⟨rfl, S⟩
  · refine fI 28 (iv (w64 (p4 * p3.W))) [(25, iv p4), (27, iv p3.W)] 15 [some 12, some 14] rfl rfl rfl rfl rfl rfl fun G a w S => ?_
    refine sBin (iv (w64 (p4 * p3.W))) S (wN rfl) rfl rfl rfl (bMul _ _ _ _ p4 p3.W) rfl (lb rfl) fun a S => ?_
    exact leafL ⟨rfl, S⟩
  · refine fI 29 (iv (w64 ((w64 ((w64 ((w64 (p5 * p3.H)) + s9)) * p0)) + (w64 (p4 * p3.W))))) [(24, iv (w64 ((w64 ((w64 (p5 * p3.H)) + s9)) * p0))), (28, iv (w64 (p4 * p3.W)))] 16 [some 11, some 15] rfl rfl rfl rfl rfl rfl fun G a w S => ?_
    refine sBin (iv (w64 ((w64 ((w64 ((w64 (p5 * p3.H)) + s9)) * p0)) + (w64 (p4 * p3.W))))) S (wN rfl) rfl rfl rfl (bAdd _ _ _ _ (w64 ((w64 ((w64 (p5 * p3.H)) + s9)) * p0)) (w64 (p4 * p3.W))) rfl (lb rfl) fun a S => ?_
    exact leafL ⟨rfl, S⟩
  refine ⟨_, [(15, .slice ad_2 s10.length cp_2), (29, iv (w64 ((w64 ((w64 ((w64 (p5 * p3.H)) + s9)) * p0)) + (w64 (p4 * p3.W)))))], rfl, (srcs_of [some 2, some 16] rfl rfl rfl), fun G a w S => ?_⟩
  refine sSliceR (r := rB) (T := 4) (v := .slice ad_2 s10.length cp_2) (xs := s10) (vlo := (some (.int .i64 (w64 ((w64 ((w64 ((w64 (p5 * p3.H)) + s9)) * p0)) + (w64 (p4 * p3.W))))))) (vhi := none) (lo' := w64 ((w64 ((w64 ((w64 (p5 * p3.H)) + s9)) * p0)) + (w64 (p4 * p3.W)))) (hi' := (s10.length : Int)) 2 S (wN rfl) rfl Try.underlying22 rfl rfl rfl rfl rfl (.inl rfl) (.inr ⟨rfl, rfl⟩) hx23 rfl (lb rfl) fun a os36 hO37 S => ?_
  refine leafL ⟨rfl, _, _, .inl ⟨30, os36, [], rfl, S, hz_of rfl, ?_⟩⟩
  refine node_by (A := anc_block_put_s0_0) (nf := [16, 28, 29]) (Y := [16, 28]) 30 (by kernel_rfl) (by kernel_rfl) (by kernel_rfl) (by kernel_rfl) (by kernel_rfl) [16, 28, 0, 1, 2, 3, 4, 5, 6, 7, 8, 9, 10, 11, 12, 13, 14, 15, 17, 18, 19, 20, 21, 22, 23, 24, 25, 26, 27] (by kernel_rfl) (by decide) (by decide) (aD 0 29 16 (by decide) (aD 1 28 16 (by decide) (aD 2 27 16 (by decide) (aD 3 26 16 (by decide) (aD 4 25 16 (by decide) (aD 5 24 16 (by decide) (aD 6 23 16 (by decide) (aD 7 22 16 (by decide) (aD 8 21 16 (by decide) (aD 9 20 16 (by decide) (aD 10 19 16 (by decide) (aD 11 18 16 (by decide) (aD 12 17 16 (by decide) (aD 13 16 16 (by decide) (aD 14 15 16 (by decide) (aD 15 14 16 (by decide) (aY 16 13 (by decide) (aD 17 12 28 (by decide) (aD 18 11 28 (by decide) (aD 19 10 28 (by decide) (aD 20 9 28 (by decide) (aD 21 8 28 (by decide) (aD 22 7 28 (by decide) (aD 23 6 28 (by decide) (aD 24 5 28 (by decide) (aD 25 4 28 (by decide) (aD 26 3 28 (by decide) (aD 27 2 28 (by decide) (aY 28 1 (by decide) (aN 29 0 (by decide) ?_ (trivial))))))))))))))))))))))))))))))) [] (fun q hq => by cases hq) (fun hY => absurd (hY 29 (by decide)) (by decide))
  refine ⟨_, [(30, os36), (42, .slice ad34 y26.length cp35)], rfl, (srcs_of [some 0, some 1] rfl rfl rfl), fun G a w S => ?_⟩
  refine sCopyS (r := rB) (T := 4) (xs := s10) (ys := y26) (v := .slice ad_2 s10.length cp_2) (u := .slice ad34 y26.length cp35) (l := (w64 ((w64 ((w64 ((w64 (p5 * p3.H)) + s9)) * p0)) + (w64 (p4 * p3.W)))).toNat) (q := ((s10.length : Int)).toNat) 2 0 S hO37 (sliceO_le hx23).1 (sliceO_le hx23).2 (wN rfl) rfl Try.underlying22 rfl rfl rfl rfl rfl rfl (lb rfl) fun a w S => ?_
  refine leafL ⟨rfl, _, _, .inl ⟨43, (iv ((Nat.min y26.length (((s10.length : Int)).toNat - (w64 ((w64 ((w64 ((w64 (p5 * p3.H)) + s9)) * p0)) + (w64 (p4 * p3.W)))).toNat) : Nat) : Int)), [], rfl, S, hz_of rfl, ?_⟩⟩
  refine node_by (A := anc_block_put_s0_0) (nf := [16, 28, 29]) (Y := [29, 16, 28]) 30 (by kernel_rfl) (by kernel_rfl) (by kernel_rfl) (by kernel_rfl) (by kernel_rfl) [29, 16, 28, 0, 1, 2, 3, 4, 5, 6, 7, 8, 9, 10, 11, 12, 13, 14, 15, 17, 18, 19, 20, 21, 22, 23, 24, 25, 26, 27] (by kernel_rfl) (by decide) (by decide) (aD 0 29 29 (by decide) (aD 1 28 29 (by decide) (aD 2 27 29 (by decide) (aD 3 26 29 (by decide) (aD 4 25 29 (by decide) (aD 5 24 29 (by decide) (aD 6 23 29 (by decide) (aD 7 22 29 (by decide) (aD 8 21 29 (by decide) (aD 9 20 29 (by decide) (aD 10 19 29 (by decide) (aD 11 18 29 (by decide) (aD 12 17 29 (by decide) (aD 13 16 29 (by decide) (aD 14 15 29 (by decide) (aD 15 14 29 (by decide) (aY 16 13 (by decide) (aD 17 12 29 (by decide) (aD 18 11 29 (by decide) (aD 19 10 29 (by decide) (aD 20 9 29 (by decide) (aD 21 8 29 (by decide) (aD 22 7 29 (by decide) (aD 23 6 29 (by decide) (aD 24 5 29 (by decide) (aD 25 4 29 (by decide) (aD 26 3 29 (by decide) (aD 27 2 29 (by decide) (aY 28 1 (by decide) (aY 29 0 (by decide) (trivial))))))))))))))))))))))))))))))) [(2, iv p4), (3, iv p5), (4, .pointer (some ⟨b6, 0, none⟩)), (5, .pointer (some ⟨b7, 0, none⟩)), (10, iv p3.H), (11, iv s9)] (fin_of [none, none, none, none, none, none] rfl (by kernel_rfl) (by kernel_rfl)) (fun _ a w S => ?_)
  rw [cpA_v hx23 y26 ad_2 cp_2] at S
  exact leafB (leafT (⟨cpA s10 (w64 ((w64 ((w64 ((w64 (p5 * p3.H)) + s9)) * p0)) + (w64 (p4 * p3.W)))).toNat ((s10.length : Int)).toNat y26, Option.some.inj h, S.fix [1, 2, 0] [1] (by decide) rfl rfl rfl⟩))

end Go.Proofs.Ythfifeabomdlpaa
namespace Go.Proofs.Ythfifeabomdlpaa
open Go.RowKit
set_option linter.unusedVariables false

def anc_block_Fill_0 : List (List Nat) := [[], [], [], [], [3], [2, 3, 4], [], [], [7], [6, 7, 8], [0, 1, 2, 3, 4, 5, 6, 7, 8, 9]]
noncomputable def block_Fill_l1 (p0 : api_Grid) (p1 : api_Grid) (p2 : api_Grid) (r34 : (api_Grid × Int)) : (Int × List Bool) → Option ((Int × List Bool) ⊕ List Bool) := fun s0 => match s0 with
  | (s47, s48) =>
    if decide (s47 < (p0.Bits.length : Int)) then
      Option.bind (idxO p0.Bits s47) fun x58 =>
      Option.bind (α := (Int × Int × List Bool)) (
        if x58 then
          some (p1.W, p1.H, p1.Bits)
        else
          some (p2.W, p2.H, p2.Bits)) fun (o65, o66, o67) =>
      Option.bind (remI s47 p0.W) fun z74 =>
      Option.bind (quoI s47 p0.W) fun z76 =>
      Option.bind (F_block_put_s0 r34.1.W r34.1.H s48 (api_Grid.mk o65 o66 o67) z74 z76) fun r78 =>
      some (.inl (w64 (s47 + 1), r78))
    else
      some (.inr s48)
noncomputable def F_block_Fill (p0 : api_Grid) (p1 : api_Grid) (p2 : api_Grid) : Option (api_Grid × Int) :=
  Option.bind (F_block_checked [p0, p1, p2]) fun r22 =>
  if r22 != 0 then
    some ((api_Grid.mk 0 0 ([] : (List Bool))), r22)
  else
    Option.bind (F_block_alike p1 p2) fun r29 =>
    if !r29 then
      some ((api_Grid.mk 0 0 ([] : (List Bool))), 26)
    else
      Option.bind (F_block_zero_s0 (w64 (p0.W * p1.W)) (w64 (p0.H * p1.H))) fun r34 =>
      if r34.2 != 0 then
        some ((api_Grid.mk 0 0 ([] : (List Bool))), r34.2)
      else
        Option.bind (α := List Bool) (
          Option.bind (whileO (block_Fill_l1 p0 p1 p2 r34) (0, r34.1.Bits)) fun e52 =>
            some e52) fun o43 =>
        some ((api_Grid.mk r34.1.W r34.1.H o43), 0)
def c_block_Fill_val (r : (api_Grid × Int)) (x : Value) : Value := .tuple #[x, .int .i64 r.2]
def c_block_Fill_D (r : (api_Grid × Int)) (x : Value) : List Fact := [fRep r_api_Grid x r.1]
set_option maxHeartbeats 4000000 in
set_option maxRecDepth 100000 in
theorem c_block_Fill (E : Nat → Prop) (w0 : World) (p0 : api_Grid) (v0 : Value) (p1 : api_Grid) (v1 : Value) (p2 : api_Grid) (v2 : Value) (r : (api_Grid × Int)) (h : F_block_Fill p0 p1 p2 = some r) (S : St0 E [] w0 w0 [] [fRep r_api_Grid (v0) p0, fRep r_api_Grid (v1) p1, fRep r_api_Grid (v2) p2]) :
    Calls Try.prog 13 #[v0, v1, v2] w0 (Ret (X := Value) E [] w0 (c_block_Fill_val r) (fun _ => []) (c_block_Fill_D r)) := by
  unfold F_block_Fill at h
  obtain ⟨u1, rfl, hu2⟩ := S.know (i := 0) (e := fRep r_api_Grid (v0) p0) rfl
  have S := S.learn (fRep (rL rB) u1 p0.Bits) hu2
  obtain ⟨ad3, cp4, _, rfl, _⟩ := hu2
  obtain ⟨u5, rfl, hu6⟩ := S.know (i := 2) (e := fRep r_api_Grid (v1) p1) rfl
  have S := S.learn (fRep (rL rB) u5 p1.Bits) hu6
  obtain ⟨ad7, cp8, _, rfl, _⟩ := hu6
  obtain ⟨u9, rfl, hu10⟩ := S.know (i := 4) (e := fRep r_api_Grid (v2) p2) rfl
  have S := S.learn (fRep (rL rB) u9 p2.Bits) hu10
  obtain ⟨ad11, cp12, _, rfl, _⟩ := hu10
  refine sEnter (args := [.agg #[iv p0.W, iv p0.H, .slice ad3 p0.Bits.length cp4], .agg #[iv p1.W, iv p1.H, .slice ad7 p1.Bits.length cp8], .agg #[iv p2.W, iv p2.H, .slice ad11 p2.Bits.length cp12]]) 70 Try.func13 rfl rfl (by simp) S (fun a S => ?_)
  refine sSeq (fun K13 hK13 => ?_)
  refine sRegion ?_
  refine sBox (v := .agg #[iv p0.W, iv p0.H, .slice ad3 p0.Bits.length cp4]) S (wN rfl) rfl rfl [iv p0.W, iv p0.H, .slice ad3 p0.Bits.length cp4] rfl rfl (lb rfl) fun a b14 w S => ?_
  refine sBox (v := .agg #[iv p1.W, iv p1.H, .slice ad7 p1.Bits.length cp8]) S (wN rfl) rfl rfl [iv p1.W, iv p1.H, .slice ad7 p1.Bits.length cp8] rfl rfl (lb rfl) fun a b15 w S => ?_
  refine sBox (v := .agg #[iv p2.W, iv p2.H, .slice ad11 p2.Bits.length cp12]) S (wN rfl) rfl rfl [iv p2.W, iv p2.H, .slice ad11 p2.Bits.length cp12] rfl rfl (lb rfl) fun a b16 w S => ?_
  refine sAlloc (.agg #[iv 0, iv 0, .slice none 0 0]) S (wN rfl) rfl rfl [iv 0, iv 0, .slice none 0 0] rfl rfl (lb rfl) fun a b17 w S => ?_
  refine sMove (iv 0) S (wN rfl) (.inr rfl) rfl rfl (lb rfl) fun a S => ?_
  refine leafL (leafT (hK13 _ _ ?_))
  refine sSeq (fun K18 hK18 => ?_)
  refine sSeq (fun K19 hK19 => ?_)
  refine sRegion ?_
  refine sLoadN (p := b14) (off := 0) (T := 24) (vs := [iv p0.W, iv p0.H, .slice ad3 p0.Bits.length cp4]) 3 [iv p0.W, iv p0.H, .slice ad3 p0.Bits.length cp4] S (wN rfl) rfl rfl rfl rfl rfl rfl rfl (lb rfl) fun a S => ?_
  refine sLoadN (p := b15) (off := 0) (T := 24) (vs := [iv p1.W, iv p1.H, .slice ad7 p1.Bits.length cp8]) 2 [iv p1.W, iv p1.H, .slice ad7 p1.Bits.length cp8] S (wN rfl) rfl rfl rfl rfl rfl rfl rfl (lb rfl) fun a S => ?_
  refine sLoadN (p := b16) (off := 0) (T := 24) (vs := [iv p2.W, iv p2.H, .slice ad11 p2.Bits.length cp12]) 1 [iv p2.W, iv p2.H, .slice ad11 p2.Bits.length cp12] S (wN rfl) rfl rfl rfl rfl rfl rfl rfl (lb rfl) fun a S => ?_
  refine sLit (r := r_api_Grid) (T := 24) (xs := [p0, p1, p2]) [(0, .agg #[iv p0.W, iv p0.H, .slice ad3 p0.Bits.length cp4]), (1, .agg #[iv p1.W, iv p1.H, .slice ad7 p1.Bits.length cp8]), (2, .agg #[iv p2.W, iv p2.H, .slice ad11 p2.Bits.length cp12])] 3 [.agg #[iv p0.W, iv p0.H, .slice ad3 p0.Bits.length cp4], .agg #[iv p1.W, iv p1.H, .slice ad7 p1.Bits.length cp8], .agg #[iv p2.W, iv p2.H, .slice ad11 p2.Bits.length cp12]] [iv p0.W, iv p0.H, .slice ad3 p0.Bits.length cp4, iv p1.W, iv p1.H, .slice ad7 p1.Bits.length cp8, iv p2.W, iv p2.H, .slice ad11 p2.Bits.length cp12] (.agg #[iv 0, iv 0, .slice none 0 0]) 40 S (wN rfl) rfl rfl Try.underlying34 rfl (by decide) (by decide) (by kernel_rfl) rfl (fun E1 w1 hE => All.cons (r_api_Grid.mono hE (S.mem.know (i := 3) (e := fRep r_api_Grid (.agg #[iv p0.W, iv p0.H, .slice ad3 p0.Bits.length cp4]) p0) rfl)) (All.cons (r_api_Grid.mono hE (S.mem.know (i := 4) (e := fRep r_api_Grid (.agg #[iv p1.W, iv p1.H, .slice ad7 p1.Bits.length cp8]) p1) rfl)) (All.cons (r_api_Grid.mono hE (S.mem.know (i := 5) (e := fRep r_api_Grid (.agg #[iv p2.W, iv p2.H, .slice ad11 p2.Bits.length cp12]) p2) rfl)) (All.nil _ _ _)))) rfl rfl (lb rfl) fun a w ad20 cp21 S => ?_
  obtain ⟨r22, hx23, h⟩ := bindSome h
  have S1 := S.mem
  have S1 := S1.shutR (r := r_api_Grid) (T := 24) (v := .slice ad20 [p0, p1, p2].length cp21) (xs := [p0, p1, p2]) 0 rfl
  refine sCallQ (X := Unit) (f := 41) (vs := [.slice ad20 [p0, p1, p2].length cp21]) (val := fun _ => iv r22) S (wN rfl) rfl callee41 rfl (S1.quiet [0] rfl) (fun E1 w1 S1 => c_block_checked E1 w1 [p0, p1, p2] (.slice ad20 [p0, p1, p2].length cp21) r22 hx23 S1) rfl (lb rfl) fun _ a w S => ?_
  refine sMove (iv r22) S (wN rfl) (.inr rfl) rfl rfl (lb rfl) fun a S => ?_
  refine leafL (leafT (hK19 _ _ ?_))
  refine sSeq (fun K24 hK24 => ?_)
  refine sRegion ?_
  refine sMove (iv r22) S (wN rfl) (.inl rfl) rfl rfl (lb rfl) fun a S => ?_
  refine sBin (.bool (r22 != 0)) S (wN rfl) rfl rfl rfl (bNe _ _ _ _ .i64 r22 0) rfl (lb rfl) fun a S => ?_
  refine leafL (leafT (hK24 _ _ ?_))
  rcases iteSome h with ⟨hc25, h⟩ | ⟨hc25, h⟩
  · refine sCondT S rfl hc25 ?_
    refine sSeq (fun K26 hK26 => ?_)
    refine sRegion ?_
    refine sBuild [] [iv 0, iv 0, .slice none 0 0] S (wN rfl) rfl rfl rfl rfl (lb rfl) fun a S => ?_
    refine sMove (iv r22) S (wN rfl) (.inl rfl) rfl rfl (lb rfl) fun a S => ?_
    refine sStore (p := b17) (off := 0) (T := 24) (vs := [iv 0, iv 0, .slice none 0 0]) (v := .agg #[iv 0, iv 0, .slice none 0 0]) 1 [iv 0, iv 0, .slice none 0 0] S (wN rfl) rfl rfl rfl rfl rfl rfl rfl (by simp) rfl fun a w S => ?_
    refine sMove (iv r22) S (wN rfl) (.inr rfl) rfl rfl (lb rfl) fun a S => ?_
    refine leafL (leafT (hK26 _ _ ?_))
    obtain rfl := Option.some.inj h
    have S := S.learn (fRep (rL rB) (.slice none 0 0) ([] : (List Bool))) (rL_nil _ _ _)
    have S := S.learn (fRep r_api_Grid (.agg #[iv 0, iv 0, .slice none 0 0]) (api_Grid.mk 0 0 ([] : (List Bool)))) ⟨_, rfl, S.mem.know (i := 0) (e := fRep (rL rB) (.slice none 0 0) ([] : (List Bool))) rfl⟩
    exact wp_ret (rThen (sRet (.tuple #[.agg #[iv 0, iv 0, .slice none 0 0], iv r22]) S (rsl2 rfl (rvN (c := 6) (t := 24) (T := 24) (p := b17) 0 [iv 0, iv 0, .slice none 0 0] S rfl rfl rfl rfl) (rvT (t := 7) (v := iv r22) S rfl)) ⟨(.agg #[iv 0, iv 0, .slice none 0 0]), rfl, S.mem.sel [] [0] (by decide) rfl rfl⟩))
  refine sCondF S rfl hc25 ?_
  refine wp_skip (leafT (hK18 _ _ ?_))
  refine sSeq (fun K27 hK27 => ?_)
  refine sSeq (fun K28 hK28 => ?_)
  refine sRegion ?_
  refine sLoadN (p := b15) (off := 0) (T := 24) (vs := [iv p1.W, iv p1.H, .slice ad7 p1.Bits.length cp8]) 3 [iv p1.W, iv p1.H, .slice ad7 p1.Bits.length cp8] S (wN rfl) rfl rfl rfl rfl rfl rfl rfl (lb rfl) fun a S => ?_
  refine sLoadN (p := b16) (off := 0) (T := 24) (vs := [iv p2.W, iv p2.H, .slice ad11 p2.Bits.length cp12]) 2 [iv p2.W, iv p2.H, .slice ad11 p2.Bits.length cp12] S (wN rfl) rfl rfl rfl rfl rfl rfl rfl (lb rfl) fun a S => ?_
  obtain ⟨r29, hx30, h⟩ := bindSome h
  have S1 := S.mem
  refine sCallQ (X := Unit) (f := 42) (vs := [.agg #[iv p1.W, iv p1.H, .slice ad7 p1.Bits.length cp8], .agg #[iv p2.W, iv p2.H, .slice ad11 p2.Bits.length cp12]]) (val := fun _ => .bool r29) S (wN rfl) rfl callee42 rfl (S1.quiet [4, 5] rfl) (fun E1 w1 S1 => c_block_alike E1 w1 p1 (.agg #[iv p1.W, iv p1.H, .slice ad7 p1.Bits.length cp8]) p2 (.agg #[iv p2.W, iv p2.H, .slice ad11 p2.Bits.length cp12]) r29 hx30 S1) rfl (lb rfl) fun _ a w S => ?_
  refine sNot (b := r29) S (wN rfl) rfl rfl rfl (lb rfl) fun a S => ?_
  refine leafL (leafT (hK28 _ _ ?_))
  rcases iteSome h with ⟨hc31, h⟩ | ⟨hc31, h⟩
  · refine sCondT S rfl hc31 ?_
    refine sSeq (fun K32 hK32 => ?_)
    refine sRegion ?_
    refine sBuild [] [iv 0, iv 0, .slice none 0 0] S (wN rfl) rfl rfl rfl rfl (lb rfl) fun a S => ?_
    refine sStore (p := b17) (off := 0) (T := 24) (vs := [iv 0, iv 0, .slice none 0 0]) (v := .agg #[iv 0, iv 0, .slice none 0 0]) 1 [iv 0, iv 0, .slice none 0 0] S (wN rfl) rfl rfl rfl rfl rfl rfl rfl (by simp) rfl fun a w S => ?_
    refine sMove (iv 26) S (wN rfl) (.inr rfl) rfl rfl (lb rfl) fun a S => ?_
    refine leafL (leafT (hK32 _ _ ?_))
    obtain rfl := Option.some.inj h
    have S := S.learn (fRep (rL rB) (.slice none 0 0) ([] : (List Bool))) (rL_nil _ _ _)
    have S := S.learn (fRep r_api_Grid (.agg #[iv 0, iv 0, .slice none 0 0]) (api_Grid.mk 0 0 ([] : (List Bool)))) ⟨_, rfl, S.mem.know (i := 0) (e := fRep (rL rB) (.slice none 0 0) ([] : (List Bool))) rfl⟩
    exact wp_ret (rThen (sRet (.tuple #[.agg #[iv 0, iv 0, .slice none 0 0], iv 26]) S (rsl2 rfl (rvN (c := 6) (t := 24) (T := 24) (p := b17) 0 [iv 0, iv 0, .slice none 0 0] S rfl rfl rfl rfl) (rvT (t := 7) (v := iv 26) S rfl)) ⟨(.agg #[iv 0, iv 0, .slice none 0 0]), rfl, S.mem.sel [] [0] (by decide) rfl rfl⟩))
  refine sCondF S rfl hc31 ?_
  refine wp_skip (leafT (hK27 _ _ ?_))
  refine sSeq (fun K33 hK33 => ?_)
  refine sRegion ?_
  refine sField (b := b14) (off := 0) 0 0 S (wN rfl) rfl rfl rfl rfl rfl (lb rfl) fun a S => ?_
  refine sLoad1 (p := b14) (off := 0) (T := 24) (vs := [iv p0.W, iv p0.H, .slice ad3 p0.Bits.length cp4]) 4 (iv p0.W) S (wN rfl) rfl rfl rfl rfl rfl rfl (lb rfl) fun a S => ?_
  refine sField (b := b15) (off := 0) 0 0 S (wN rfl) rfl rfl rfl rfl rfl (lb rfl) fun a S => ?_
  refine sLoad1 (p := b15) (off := 0) (T := 24) (vs := [iv p1.W, iv p1.H, .slice ad7 p1.Bits.length cp8]) 3 (iv p1.W) S (wN rfl) rfl rfl rfl rfl rfl rfl (lb rfl) fun a S => ?_
  refine sBin (iv (w64 (p0.W * p1.W))) S (wN rfl) rfl rfl rfl (bMul _ _ _ _ p0.W p1.W) rfl (lb rfl) fun a S => ?_
  refine sField (b := b14) (off := 0) 1 1 S (wN rfl) rfl rfl rfl rfl rfl (lb rfl) fun a S => ?_
  refine sLoad1 (p := b14) (off := 1) (T := 24) (vs := [iv p0.W, iv p0.H, .slice ad3 p0.Bits.length cp4]) 4 (iv p0.H) S (wN rfl) rfl rfl rfl rfl rfl rfl (lb rfl) fun a S => ?_
  refine sField (b := b15) (off := 0) 1 1 S (wN rfl) rfl rfl rfl rfl rfl (lb rfl) fun a S => ?_
  refine sLoad1 (p := b15) (off := 1) (T := 24) (vs := [iv p1.W, iv p1.H, .slice ad7 p1.Bits.length cp8]) 3 (iv p1.H) S (wN rfl) rfl rfl rfl rfl rfl rfl (lb rfl) fun a S => ?_
  refine sBin (iv (w64 (p0.H * p1.H))) S (wN rfl) rfl rfl rfl (bMul _ _ _ _ p0.H p1.H) rfl (lb rfl) fun a S => ?_
  obtain ⟨r34, hx35, h⟩ := bindSome h
  refine sCall (X := Option Addr × Nat) (f := 43) (vs := [iv (w64 (p0.W * p1.W)), iv (w64 (p0.H * p1.H))]) (val := fun x => .tuple #[.agg #[iv r34.1.W, iv r34.1.H, .slice x.1 r34.1.Bits.length x.2], iv r34.2]) (B' := fun x => [eRow rB 4 (.slice x.1 r34.1.Bits.length x.2) r34.1.Bits]) (D' := fun _ => []) [] [eRow r_api_Grid 24 (.slice ad20 [p0, p1, p2].length cp21) [p0, p1, p2], eBox b17 24 [iv 0, iv 0, .slice none 0 0], eBox b16 24 [iv p2.W, iv p2.H, .slice ad11 p2.Bits.length cp12], eBox b15 24 [iv p1.W, iv p1.H, .slice ad7 p1.Bits.length cp8], eBox b14 24 [iv p0.W, iv p0.H, .slice ad3 p0.Bits.length cp4]] [] [0, 1, 2, 3, 4] [] S (wN rfl) rfl callee43 rfl (by decide) rfl rfl (fun E1 w1 S1 => c_block_zero_s0 E1 w1 (w64 (p0.W * p1.W)) (w64 (p0.H * p1.H)) r34 hx35 S1) rfl (lb rfl) fun xx a w S => ?_
  obtain ⟨ad36, cp37⟩ := xx
  dsimp only at S
  refine sMove (.tuple #[.agg #[iv r34.1.W, iv r34.1.H, .slice ad36 r34.1.Bits.length cp37], iv r34.2]) S (wN rfl) (.inl rfl) rfl rfl (lb rfl) fun a S => ?_
  refine sExtract (vs := [.agg #[iv r34.1.W, iv r34.1.H, .slice ad36 r34.1.Bits.length cp37], iv r34.2]) (.agg #[iv r34.1.W, iv r34.1.H, .slice ad36 r34.1.Bits.length cp37]) S (wN rfl) rfl rfl rfl rfl (lb rfl) fun a S => ?_
  refine sExtract (vs := [.agg #[iv r34.1.W, iv r34.1.H, .slice ad36 r34.1.Bits.length cp37], iv r34.2]) (iv r34.2) S (wN rfl) rfl rfl rfl rfl (lb rfl) fun a S => ?_
  refine sAlloc (.agg #[iv 0, iv 0, .slice none 0 0]) S (wN rfl) rfl rfl [iv 0, iv 0, .slice none 0 0] rfl rfl (lb rfl) fun a b38 w S => ?_
  refine sStore (p := b38) (off := 0) (T := 24) (vs := [iv 0, iv 0, .slice none 0 0]) (v := .agg #[iv r34.1.W, iv r34.1.H, .slice ad36 r34.1.Bits.length cp37]) 0 [iv r34.1.W, iv r34.1.H, .slice ad36 r34.1.Bits.length cp37] S (wN rfl) rfl rfl rfl rfl rfl rfl rfl (by simp) rfl fun a w S => ?_
  refine sMove (iv r34.2) S (wN rfl) (.inr rfl) rfl rfl (lb rfl) fun a S => ?_
  refine leafL (leafT (hK33 _ _ ?_))
  refine sSeq (fun K39 hK39 => ?_)
  refine sSeq (fun K40 hK40 => ?_)
  refine sRegion ?_
  refine sMove (iv r34.2) S (wN rfl) (.inl rfl) rfl rfl (lb rfl) fun a S => ?_
  refine sBin (.bool (r34.2 != 0)) S (wN rfl) rfl rfl rfl (bNe _ _ _ _ .i64 r34.2 0) rfl (lb rfl) fun a S => ?_
  refine leafL (leafT (hK40 _ _ ?_))
  rcases iteSome h with ⟨hc41, h⟩ | ⟨hc41, h⟩
  · refine sCondT S rfl hc41 ?_
    refine sSeq (fun K42 hK42 => ?_)
    refine sRegion ?_
    refine sBuild [] [iv 0, iv 0, .slice none 0 0] S (wN rfl) rfl rfl rfl rfl (lb rfl) fun a S => ?_
    refine sMove (iv r34.2) S (wN rfl) (.inl rfl) rfl rfl (lb rfl) fun a S => ?_
    refine sStore (p := b17) (off := 0) (T := 24) (vs := [iv 0, iv 0, .slice none 0 0]) (v := .agg #[iv 0, iv 0, .slice none 0 0]) 3 [iv 0, iv 0, .slice none 0 0] S (wN rfl) rfl rfl rfl rfl rfl rfl rfl (by simp) rfl fun a w S => ?_
    refine sMove (iv r34.2) S (wN rfl) (.inr rfl) rfl rfl (lb rfl) fun a S => ?_
    refine leafL (leafT (hK42 _ _ ?_))
    obtain rfl := Option.some.inj h
    have S := S.learn (fRep (rL rB) (.slice none 0 0) ([] : (List Bool))) (rL_nil _ _ _)
    have S := S.learn (fRep r_api_Grid (.agg #[iv 0, iv 0, .slice none 0 0]) (api_Grid.mk 0 0 ([] : (List Bool)))) ⟨_, rfl, S.mem.know (i := 0) (e := fRep (rL rB) (.slice none 0 0) ([] : (List Bool))) rfl⟩
    exact wp_ret (rThen (sRet (.tuple #[.agg #[iv 0, iv 0, .slice none 0 0], iv r34.2]) S (rsl2 rfl (rvN (c := 6) (t := 24) (T := 24) (p := b17) 0 [iv 0, iv 0, .slice none 0 0] S rfl rfl rfl rfl) (rvT (t := 7) (v := iv r34.2) S rfl)) ⟨(.agg #[iv 0, iv 0, .slice none 0 0]), rfl, S.mem.sel [] [0] (by decide) rfl rfl⟩))
  refine sCondF S rfl hc41 ?_
  refine wp_skip (leafT (hK39 _ _ ?_))
  obtain ⟨t44, h, g45⟩ := bindSome h
  refine sCut (fun a w => ∃ o43, o43 = t44 ∧ St [] E [] w0 70 a w [(6, .pointer (some ⟨b17, 0, none⟩)), (9, .pointer (some ⟨b38, 0, none⟩))] [eBox b17 24 [iv 0, iv 0, .slice none 0 0], eBox b38 24 [iv r34.1.W, iv r34.1.H, .slice ad36 o43.length cp37], eRow rB 4 (.slice ad36 o43.length cp37) o43] []) ?_ (fun a w hI => ?_)
  rotate_left
  · obtain ⟨o43, rfl, S⟩ := hI
    have h := g45
    clear g45
    try dsimp only at h
    refine sSeq (fun K81 hK81 => ?_)
    refine sRegion ?_
    refine sLoadN (p := b38) (off := 0) (T := 24) (vs := [iv r34.1.W, iv r34.1.H, .slice ad36 o43.length cp37]) 1 [iv r34.1.W, iv r34.1.H, .slice ad36 o43.length cp37] S (wN rfl) rfl rfl rfl rfl rfl rfl rfl (lb rfl) fun a S => ?_
    refine sStore (p := b17) (off := 0) (T := 24) (vs := [iv 0, iv 0, .slice none 0 0]) (v := .agg #[iv r34.1.W, iv r34.1.H, .slice ad36 o43.length cp37]) 0 [iv r34.1.W, iv r34.1.H, .slice ad36 o43.length cp37] S (wN rfl) rfl rfl rfl rfl rfl rfl rfl (by simp) rfl fun a w S => ?_
    refine sMove (iv 0) S (wN rfl) (.inr rfl) rfl rfl (lb rfl) fun a S => ?_
    refine leafL (leafT (hK81 _ _ ?_))
    obtain rfl := Option.some.inj h
    have S := S.shutR (r := rB) (T := 4) (v := .slice ad36 o43.length cp37) (xs := o43) 2 rfl
    have S := S.learn (fRep r_api_Grid (.agg #[iv r34.1.W, iv r34.1.H, .slice ad36 o43.length cp37]) (api_Grid.mk r34.1.W r34.1.H o43)) ⟨_, rfl, S.mem.know (i := 0) (e := fRep (rL rB) (.slice ad36 o43.length cp37) o43) rfl⟩
    exact wp_ret (sRet (.tuple #[.agg #[iv r34.1.W, iv r34.1.H, .slice ad36 o43.length cp37], iv 0]) S (rsl2 rfl (rvN (c := 6) (t := 24) (T := 24) (p := b17) 0 [iv r34.1.W, iv r34.1.H, .slice ad36 o43.length cp37] S rfl rfl rfl rfl) (rvT (t := 7) (v := iv 0) S rfl)) ⟨(.agg #[iv r34.1.W, iv r34.1.H, .slice ad36 o43.length cp37]), rfl, S.mem.sel [] [0] (by decide) rfl rfl⟩)
  refine sSeq (fun K46 hK46 => ?_)
  refine sRegion ?_
  refine sField (b := b14) (off := 0) 2 2 S (wN rfl) rfl rfl rfl rfl rfl (lb rfl) fun a S => ?_
  refine sLoad1 (p := b14) (off := 2) (T := 24) (vs := [iv p0.W, iv p0.H, .slice ad3 p0.Bits.length cp4]) 6 (.slice ad3 p0.Bits.length cp4) S (wN rfl) rfl rfl rfl rfl rfl rfl (lb rfl) fun a S => ?_
  refine sLen (ad := ad3) (m := p0.Bits.length) (c := cp4) S (wN rfl) rfl Try.underlying22 rfl rfl (lb rfl) fun a S => ?_
  refine sMove (iv 0) S (wN rfl) (.inl rfl) rfl rfl (lb rfl) fun a S => ?_
  refine leafL (leafT (hK46 _ _ ?_))
  refine wp_block ?_
  obtain ⟨t51, hl, g50⟩ := bindSome h
  refine sLoop hl (fun s0 a w => match s0 with | (s47, s48) => St [] E [] w0 70 a w [(3, .pointer (some ⟨b14, 0, none⟩)), (4, .pointer (some ⟨b15, 0, none⟩)), (5, .pointer (some ⟨b16, 0, none⟩)), (6, .pointer (some ⟨b17, 0, none⟩)), (9, .pointer (some ⟨b38, 0, none⟩)), (47, .slice ad3 p0.Bits.length cp4), (48, iv (p0.Bits.length : Int)), (49, iv s47)] [eBox b14 24 [iv p0.W, iv p0.H, .slice ad3 p0.Bits.length cp4], eBox b15 24 [iv p1.W, iv p1.H, .slice ad7 p1.Bits.length cp8], eBox b16 24 [iv p2.W, iv p2.H, .slice ad11 p2.Bits.length cp12], eBox b17 24 [iv 0, iv 0, .slice none 0 0], eBox b38 24 [iv r34.1.W, iv r34.1.H, .slice ad36 s48.length cp37], eRow rB 4 (.slice ad36 s48.length cp37) s48] [fRep (rL rB) (.slice ad3 p0.Bits.length cp4) p0.Bits, fRep (rL rB) (.slice ad7 p1.Bits.length cp8) p1.Bits, fRep (rL rB) (.slice ad11 p2.Bits.length cp12) p2.Bits]) (S.fix [6, 5, 4, 3, 0, 1] [2, 1, 0] (by decide) rfl rfl rfl) ?_
  clear hl h
  intro s0 a w c0 hI h hu49
  obtain ⟨s47, s48⟩ := s0
  unfold block_Fill_l1 at h
  dsimp only at h hI
  have S := hI
  refine sSeq (fun K53 hK53 => ?_)
  refine sRegion ?_
  refine sBin (.bool (decide (s47 < (p0.Bits.length : Int)))) S (wN rfl) rfl rfl rfl (bLt _ _ _ _ .i64 s47 (p0.Bits.length : Int)) rfl (lb rfl) fun a S => ?_
  refine leafL (leafT (hK53 _ _ ?_))
  refine sSeq (fun K54 hK54 => ?_)
  rcases iteSome h with ⟨hc55, h⟩ | ⟨hc55, h⟩
  rotate_left
  · refine sCondF S rfl hc55 ?_
    obtain rfl := Option.some.inj h
    obtain rfl := hu49 _ rfl
    have h := g50
    clear g50
    try dsimp only at h
    exact wp_exit (xThen (xThen (xHit (leafT (⟨s48, Option.some.inj h, S.fix [3, 4, 5] [] (by decide) rfl rfl rfl⟩)))))
  refine sCondT S rfl hc55 ?_
  refine wp_skip (leafT (hK54 _ _ ?_))
  refine sSeq (fun K56 hK56 => ?_)
  refine wp_block ?_
  refine sSeq (fun K57 hK57 => ?_)
  refine sRegion ?_
  refine sMove (iv s47) S (wN rfl) (.inl rfl) rfl rfl (lb rfl) fun a S => ?_
  obtain ⟨x58, hx59, h⟩ := bindSome h
  obtain ⟨q60, hq61, S⟩ := pIdx (P := Try.prog) (r := rB) (v := .slice ad3 p0.Bits.length cp4) (xs := p0.Bits) (j := s47) 22 4 0 S Try.underlying22 rfl rfl hx59
  refine sIdxV (v := .slice ad3 p0.Bits.length cp4) (k := .i64) (j := s47) S (wN rfl) rfl rfl rfl hq61 rfl (lb rfl) fun a S => ?_
  obtain ⟨u62, S⟩ := pLoad (r := rB) (q := q60) (x := x58) 0 S rfl
  obtain rfl : u62 = .bool x58 := S.mem.know (i := 1) (e := fRep rB (u62) x58) rfl
  refine sLoadV1 (vq := q60) 0 (.bool x58) S (wN rfl) rfl rfl rfl rfl rfl (lb rfl) fun a S => ?_
  refine sMove (iv s47) S (wN rfl) (.inr rfl) rfl rfl (lb rfl) fun a S => ?_
  refine sMove (.bool x58) S (wN rfl) (.inr rfl) rfl rfl (lb rfl) fun a S => ?_
  refine leafL (leafT (hK57 _ _ ?_))
  refine sSeq (fun K63 hK63 => ?_)
  refine sRegion ?_
  refine sLoadN (p := b16) (off := 0) (T := 24) (vs := [iv p2.W, iv p2.H, .slice ad11 p2.Bits.length cp12]) 2 [iv p2.W, iv p2.H, .slice ad11 p2.Bits.length cp12] S (wN rfl) rfl rfl rfl rfl rfl rfl rfl (lb rfl) fun a S => ?_
  refine sAlloc (.agg #[iv 0, iv 0, .slice none 0 0]) S (wN rfl) rfl rfl [iv 0, iv 0, .slice none 0 0] rfl rfl (lb rfl) fun a b64 w S => ?_
  refine sStore (p := b64) (off := 0) (T := 24) (vs := [iv 0, iv 0, .slice none 0 0]) (v := .agg #[iv p2.W, iv p2.H, .slice ad11 p2.Bits.length cp12]) 0 [iv p2.W, iv p2.H, .slice ad11 p2.Bits.length cp12] S (wN rfl) rfl rfl rfl rfl rfl rfl rfl (by simp) rfl fun a w S => ?_
  refine leafL (leafT (hK63 _ _ ?_))
  obtain ⟨t70, h, g71⟩ := bindSome h
  refine sCut (fun a w => ∃ o65, ∃ o66, ∃ o67, (o65, o66, o67) = t70 ∧ ∃ ad68, ∃ cp69, St [] E [] w0 70 a w [(3, .pointer (some ⟨b14, 0, none⟩)), (4, .pointer (some ⟨b15, 0, none⟩)), (5, .pointer (some ⟨b16, 0, none⟩)), (6, .pointer (some ⟨b17, 0, none⟩)), (9, .pointer (some ⟨b38, 0, none⟩)), (11, iv s47), (13, .pointer (some ⟨b64, 0, none⟩)), (47, .slice ad3 p0.Bits.length cp4), (48, iv (p0.Bits.length : Int)), (49, iv s47)] [eBox b14 24 [iv p0.W, iv p0.H, .slice ad3 p0.Bits.length cp4], eBox b15 24 [iv p1.W, iv p1.H, .slice ad7 p1.Bits.length cp8], eBox b16 24 [iv p2.W, iv p2.H, .slice ad11 p2.Bits.length cp12], eBox b17 24 [iv 0, iv 0, .slice none 0 0], eBox b38 24 [iv r34.1.W, iv r34.1.H, .slice ad36 s48.length cp37], eBox b64 24 [iv o65, iv o66, .slice ad68 o67.length cp69], eRow rB 4 (.slice ad36 s48.length cp37) s48] [fRep (rL rB) (.slice ad3 p0.Bits.length cp4) p0.Bits, fRep (rL rB) (.slice ad7 p1.Bits.length cp8) p1.Bits, fRep (rL rB) (.slice ad11 p2.Bits.length cp12) p2.Bits, fRep (rL rB) (.slice ad68 o67.length cp69) o67]) ?_ (fun a w hI => ?_)
  · refine sSeq (fun K72 hK72 => ?_)
    refine sRegion ?_
    refine sMove (.bool x58) S (wN rfl) (.inl rfl) rfl rfl (lb rfl) fun a S => ?_
    refine leafL (leafT (hK72 _ _ ?_))
    rcases iteSome h with ⟨hc73, h⟩ | ⟨hc73, h⟩
    rotate_left
    · refine sCondF S rfl hc73 ?_
      exact wp_skip (leafT (⟨p2.W, p2.H, p2.Bits, Option.some.inj h, ad11, cp12, S.fix [1, 2, 3, 4, 5, 0, 6] [3, 4, 5, 5] (by decide) rfl rfl rfl⟩))
    refine sCondT S rfl hc73 ?_
    refine sRegion ?_
    refine sLoadN (p := b15) (off := 0) (T := 24) (vs := [iv p1.W, iv p1.H, .slice ad7 p1.Bits.length cp8]) 2 [iv p1.W, iv p1.H, .slice ad7 p1.Bits.length cp8] S (wN rfl) rfl rfl rfl rfl rfl rfl rfl (lb rfl) fun a S => ?_
    refine sStore (p := b64) (off := 0) (T := 24) (vs := [iv p2.W, iv p2.H, .slice ad11 p2.Bits.length cp12]) (v := .agg #[iv p1.W, iv p1.H, .slice ad7 p1.Bits.length cp8]) 0 [iv p1.W, iv p1.H, .slice ad7 p1.Bits.length cp8] S (wN rfl) rfl rfl rfl rfl rfl rfl rfl (by simp) rfl fun a w S => ?_
    exact leafL (leafT (⟨p1.W, p1.H, p1.Bits, Option.some.inj h, ad7, cp8, S.fix [1, 2, 3, 4, 5, 0, 6] [3, 4, 5, 4] (by decide) rfl rfl rfl⟩))
  obtain ⟨o65, o66, o67, rfl, ad68, cp69, S⟩ := hI
  have h := g71
  clear g71
  try dsimp only at h
  obtain ⟨z74, hx75, h⟩ := bindSome h
  obtain ⟨z76, hx77, h⟩ := bindSome h
  obtain ⟨r78, hx79, h⟩ := bindSome h
  refine sDraw (nf := [10]) (W := [(0, 57, .agg #[iv r34.1.W, iv r34.1.H, .slice ad36 s48.length cp37]), (1, 58, .agg #[iv o65, iv o66, .slice ad68 o67.length cp69]), (2, 59, iv s47), (3, 60, .pointer (some ⟨b14, 0, none⟩)), (4, 61, iv p0.W), (5, 62, iv z74), (6, 63, iv s47), (7, 64, .pointer (some ⟨b14, 0, none⟩)), (8, 65, iv p0.W), (9, 66, iv z76)]) rfl S ?_
  refine node_by (A := anc_block_Fill_0) (nf := [10]) (Y := []) (W := [(0, 57, .agg #[iv r34.1.W, iv r34.1.H, .slice ad36 s48.length cp37]), (1, 58, .agg #[iv o65, iv o66, .slice ad68 o67.length cp69]), (2, 59, iv s47), (3, 60, .pointer (some ⟨b14, 0, none⟩)), (4, 61, iv p0.W), (5, 62, iv z74), (6, 63, iv s47), (7, 64, .pointer (some ⟨b14, 0, none⟩)), (8, 65, iv p0.W), (9, 66, iv z76)]) 11 (by kernel_rfl) (by kernel_rfl) (by kernel_rfl) (by kernel_rfl) (by kernel_rfl) [0, 1, 2, 3, 4, 5, 6, 7, 8, 9] (by kernel_rfl) (by decide) (by decide) (aF 0 10 (by decide) ?_ (aF 1 9 (by decide) ?_ (aF 2 8 (by decide) ?_ (aF 3 7 (by decide) ?_ (aF 4 6 (by decide) ?_ (aF 5 5 (by decide) ?_ (aF 6 4 (by decide) ?_ (aF 7 3 (by decide) ?_ (aF 8 2 (by decide) ?_ (aF 9 1 (by decide) ?_ (aN 10 0 (by decide) ?_ (trivial)))))))))))) [] (fun q hq => by cases hq) (fun hY => absurd (hY 10 (by decide)) (by decide))
  · refine fI 57 (.agg #[iv r34.1.W, iv r34.1.H, .slice ad36 s48.length cp37]) [(9, .pointer (some ⟨b38, 0, none⟩))] 0 [none] rfl rfl rfl rfl rfl rfl fun G a w S => ?_
    refine sLoadN (p := b38) (off := 0) (T := 24) (vs := [iv r34.1.W, iv r34.1.H, .slice ad36 s48.length cp37]) 4 [iv r34.1.W, iv r34.1.H, .slice ad36 s48.length cp37] S (wN rfl) rfl rfl rfl rfl rfl rfl rfl (lb rfl) fun a S => ?_
    exact leafL ⟨rfl, S⟩
  · refine fI 58 (.agg #[iv o65, iv o66, .slice ad68 o67.length cp69]) [(13, .pointer (some ⟨b64, 0, none⟩))] 1 [none] rfl rfl rfl rfl rfl rfl fun G a w S => ?_
    refine sLoadN (p := b64) (off := 0) (T := 24) (vs := [iv o65, iv o66, .slice ad68 o67.length cp69]) 5 [iv o65, iv o66, .slice ad68 o67.length cp69] S (wN rfl) rfl rfl rfl rfl rfl rfl rfl (lb rfl) fun a S => ?_
    exact leafL ⟨rfl, S⟩
  · refine fI 59 (iv s47) [(11, iv s47)] 2 [none] rfl rfl rfl rfl rfl rfl fun G a w S => ?_
    refine sMove (iv s47) S (wN rfl) (.inl rfl) rfl rfl (lb rfl) fun a S => ?_
    exact leafL ⟨rfl, S⟩
  · refine fI 60 (.pointer (some ⟨b14, 0, none⟩)) [(3, .pointer (some ⟨b14, 0, none⟩))] 3 [none] rfl rfl rfl rfl rfl rfl fun G a w S => ?_
    refine sField (b := b14) (off := 0) 0 0 S (wN rfl) rfl rfl rfl rfl rfl (lb rfl) fun a S => ?_
    exact leafL ⟨rfl, S⟩
  · refine fI 61 (iv p0.W) [(60, .pointer (some ⟨b14, 0, none⟩))] 4 [some 3] rfl rfl rfl rfl rfl rfl fun G a w S => ?_
    refine sLoad1 (p := b14) (off := 0) (T := 24) (vs := [iv p0.W, iv p0.H, .slice ad3 p0.Bits.length cp4]) 0 (iv p0.W) S (wN rfl) rfl rfl rfl rfl rfl rfl (lb rfl) fun a S => ?_
    exact leafL ⟨rfl, S⟩
  · refine fI 62 (iv z74) [(59, iv s47), (61, iv p0.W)] 5 [some 2, some 4] rfl rfl rfl rfl rfl rfl fun G a w S => ?_
    refine sBin (iv z74) S (wN rfl) rfl rfl rfl (bRem _ _ _ _ (x := s47) (y := p0.W) hx75) rfl (lb rfl) fun a S => ?_
    exact leafL ⟨rfl, S⟩
  · refine fI 63 (iv s47) [(11, iv s47)] 6 [none] rfl rfl rfl rfl rfl rfl fun G a w S => ?_
    refine sMove (iv s47) S (wN rfl) (.inl rfl) rfl rfl (lb rfl) fun a S => ?_
    exact leafL ⟨rfl, S⟩
  · refine fI 64 (.pointer (some ⟨b14, 0, none⟩)) [(3, .pointer (some ⟨b14, 0, none⟩))] 7 [none] rfl rfl rfl rfl rfl rfl fun G a w S => ?_
    refine sField (b := b14) (off := 0) 0 0 S (wN rfl) rfl rfl rfl rfl rfl (lb rfl) fun a S => ?_
    exact leafL ⟨rfl, S⟩
  · refine fI 65 (iv p0.W) [(64, .pointer (some ⟨b14, 0, none⟩))] 8 [some 7] rfl rfl rfl rfl rfl rfl fun G a w S => ?_
    refine sLoad1 (p := b14) (off := 0) (T := 24) (vs := [iv p0.W, iv p0.H, .slice ad3 p0.Bits.length cp4]) 0 (iv p0.W) S (wN rfl) rfl rfl rfl rfl rfl rfl (lb rfl) fun a S => ?_
    exact leafL ⟨rfl, S⟩
  · refine fI 66 (iv z76) [(63, iv s47), (65, iv p0.W)] 9 [some 6, some 8] rfl rfl rfl rfl rfl rfl fun G a w S => ?_
    refine sBin (iv z76) S (wN rfl) rfl rfl rfl (bQuo _ _ _ _ (x := s47) (y := p0.W) hx77) rfl (lb rfl) fun a S => ?_
    exact leafL ⟨rfl, S⟩
  refine ⟨_, [(57, .agg #[iv r34.1.W, iv r34.1.H, .slice ad36 s48.length cp37]), (58, .agg #[iv o65, iv o66, .slice ad68 o67.length cp69]), (62, iv z74), (66, iv z76)], rfl, (srcs_of [some 0, some 1, some 5, some 9] rfl rfl rfl), fun G a w S => ?_⟩
  have S := S.learn (fRep r_api_Grid (.agg #[iv o65, iv o66, .slice ad68 o67.length cp69]) (api_Grid.mk o65 o66 o67)) ⟨_, rfl, S.mem.know (i := 3) (e := fRep (rL rB) (.slice ad68 o67.length cp69) o67) rfl⟩
  refine sCall (X := Unit) (f := 44) (vs := [.agg #[iv r34.1.W, iv r34.1.H, .slice ad36 s48.length cp37], .agg #[iv o65, iv o66, .slice ad68 o67.length cp69], iv z74, iv z76]) (val := fun _ => .tuple #[]) (B' := fun _ => [eRow rB 4 (.slice ad36 s48.length cp37) r78]) (D' := fun _ => []) [eRow rB 4 (.slice ad36 s48.length cp37) s48] [eBox b14 24 [iv p0.W, iv p0.H, .slice ad3 p0.Bits.length cp4], eBox b15 24 [iv p1.W, iv p1.H, .slice ad7 p1.Bits.length cp8], eBox b16 24 [iv p2.W, iv p2.H, .slice ad11 p2.Bits.length cp12], eBox b17 24 [iv 0, iv 0, .slice none 0 0], eBox b38 24 [iv r34.1.W, iv r34.1.H, .slice ad36 s48.length cp37], eBox b64 24 [iv o65, iv o66, .slice ad68 o67.length cp69]] [fRep r_api_Grid (.agg #[iv o65, iv o66, .slice ad68 o67.length cp69]) (api_Grid.mk o65 o66 o67)] [6, 0, 1, 2, 3, 4, 5] [0] S (wN rfl) rfl callee44 rfl (by decide) rfl rfl (fun E1 w1 S1 => c_block_put_s0 E1 w1 r34.1.W r34.1.H s48 ad36 cp37 (api_Grid.mk o65 o66 o67) (.agg #[iv o65, iv o66, .slice ad68 o67.length cp69]) z74 z76 r78 hx79 S1) rfl (lb rfl) fun _ a w S => ?_
  refine leafL ⟨rfl, _, _, .inl ⟨67, (.tuple #[]), [], rfl, S, hz_of rfl, ?_⟩⟩
  refine node_by (A := anc_block_Fill_0) (nf := [10]) (Y := [10]) 11 (by kernel_rfl) (by kernel_rfl) (by kernel_rfl) (by kernel_rfl) (by kernel_rfl) [10, 0, 1, 2, 3, 4, 5, 6, 7, 8, 9] (by kernel_rfl) (by decide) (by decide) (aD 0 10 10 (by decide) (aD 1 9 10 (by decide) (aD 2 8 10 (by decide) (aD 3 7 10 (by decide) (aD 4 6 10 (by decide) (aD 5 5 10 (by decide) (aD 6 4 10 (by decide) (aD 7 3 10 (by decide) (aD 8 2 10 (by decide) (aD 9 1 10 (by decide) (aY 10 0 (by decide) (trivial)))))))))))) [(3, .pointer (some ⟨b14, 0, none⟩)), (4, .pointer (some ⟨b15, 0, none⟩)), (5, .pointer (some ⟨b16, 0, none⟩)), (6, .pointer (some ⟨b17, 0, none⟩)), (9, .pointer (some ⟨b38, 0, none⟩)), (47, .slice ad3 p0.Bits.length cp4), (48, iv (p0.Bits.length : Int)), (49, iv s47)] (fin_of [none, none, none, none, none, none, none, none] rfl (by kernel_rfl) (by kernel_rfl)) (fun _ a w S => ?_)
  have hr80 := row_v (S.mem.hold (i := 0) (e := eRow rB 4 (.slice ad36 s48.length cp37) r78) rfl)
  rw [hr80] at S
  refine leafB (leafT (hK56 _ _ ?_))
  refine sRegion ?_
  refine sBin (iv (w64 (s47 + 1))) S (wN rfl) rfl rfl rfl (bAdd _ _ _ _ s47 1) rfl (lb rfl) fun a S => ?_
  refine sMove (iv (w64 (s47 + 1))) S (wN rfl) (.inl rfl) rfl rfl (lb rfl) fun a S => ?_
  exact leafL (leafT (⟨(w64 (s47 + 1), r78), (Option.some.inj h).symm, (S.fix [1, 2, 3, 4, 5, 0] [1, 2, 3] (by decide) rfl rfl rfl)⟩))

end Go.Proofs.Ythfifeabomdlpaa
namespace Go.Proofs.Ythfifeabomdlpaa
open Go.RowKit
set_option linter.unusedVariables false

def anc_raddleref01_Same_0 : List (List Nat) := [[], [0], [], [0, 1, 2], [0, 1, 2, 3], [], [5], [], [5, 6, 7], [5, 6, 7, 8], [0, 1, 2, 3, 4, 5, 6, 7, 8, 9]]
noncomputable def raddleref01_Same_l1 (p0 : api_Grid) (p1 : api_Grid) : Int → Option (Int ⊕ (Bool ⊕ Unit)) := fun s0 => match s0 with
  | s23 =>
    if decide (s23 < (p0.Bits.length : Int)) then
      Option.bind (idxO p0.Bits s23) fun x32 =>
      Option.bind (idxO p1.Bits s23) fun x37 =>
      if x32 != x37 then
        some (.inr (.inl false))
      else
        some (.inl (w64 (s23 + 1)))
    else
      some (.inr (.inr ()))
noncomputable def F_raddleref01_Same (p0 : api_Grid) (p1 : api_Grid) : Option Bool :=
  Option.bind (α := Bool) (
    if p0.W != p1.W then
      some true
    else
      if p0.H != p1.H then
        some true
      else
        some ((p0.Bits.length : Int) != (p1.Bits.length : Int))) fun o13 =>
  if o13 then
    some false
  else
    Option.bind (α := Unit ⊕ Bool) (
      Option.bind (whileO (raddleref01_Same_l1 p0 p1) 0) fun z0 => match z0 with
        | .inl z =>
          some (.inr z)
        | .inr _ =>
          some (.inl ())) fun z0 => match z0 with
      | .inl _ =>
        some true
      | .inr z =>
        some z
set_option maxHeartbeats 4000000 in
set_option maxRecDepth 100000 in
theorem c_raddleref01_Same (E : Nat → Prop) (w0 : World) (p0 : api_Grid) (v0 : Value) (p1 : api_Grid) (v1 : Value) (r : Bool) (h : F_raddleref01_Same p0 p1 = some r) (S : St0 E [] w0 w0 [] [fRep r_api_Grid (v0) p0, fRep r_api_Grid (v1) p1]) :
    Calls Try.prog 17 #[v0, v1] w0 (Ret (X := Unit) E [] w0 (fun _ => .bool r) (fun _ => []) (fun _ => [])) := by
  unfold F_raddleref01_Same at h
  obtain ⟨u1, rfl, hu2⟩ := S.know (i := 0) (e := fRep r_api_Grid (v0) p0) rfl
  have S := S.learn (fRep (rL rB) u1 p0.Bits) hu2
  obtain ⟨ad3, cp4, _, rfl, _⟩ := hu2
  obtain ⟨u5, rfl, hu6⟩ := S.know (i := 2) (e := fRep r_api_Grid (v1) p1) rfl
  have S := S.learn (fRep (rL rB) u5 p1.Bits) hu6
  obtain ⟨ad7, cp8, _, rfl, _⟩ := hu6
  refine sEnter (args := [.agg #[iv p0.W, iv p0.H, .slice ad3 p0.Bits.length cp4], .agg #[iv p1.W, iv p1.H, .slice ad7 p1.Bits.length cp8]]) 45 Try.func17 rfl rfl (by simp) S (fun a S => ?_)
  refine sSeq (fun K9 hK9 => ?_)
  refine sRegion ?_
  refine sBox (v := .agg #[iv p0.W, iv p0.H, .slice ad3 p0.Bits.length cp4]) S (wN rfl) rfl rfl [iv p0.W, iv p0.H, .slice ad3 p0.Bits.length cp4] rfl rfl (lb rfl) fun a b10 w S => ?_
  refine sBox (v := .agg #[iv p1.W, iv p1.H, .slice ad7 p1.Bits.length cp8]) S (wN rfl) rfl rfl [iv p1.W, iv p1.H, .slice ad7 p1.Bits.length cp8] rfl rfl (lb rfl) fun a b11 w S => ?_
  refine sMove (.bool false) S (wN rfl) (.inr rfl) rfl rfl (lb rfl) fun a S => ?_
  refine leafL (leafT (hK9 _ _ ?_))
  refine sSeq (fun K12 hK12 => ?_)
  obtain ⟨t14, h, g15⟩ := bindSome h
  refine sCut (fun a w => ∃ o13, o13 = t14 ∧ St [] E [] w0 45 a w [(2, .pointer (some ⟨b10, 0, none⟩)), (3, .pointer (some ⟨b11, 0, none⟩)), (26, .bool o13)] [eBox b10 24 [iv p0.W, iv p0.H, .slice ad3 p0.Bits.length cp4], eBox b11 24 [iv p1.W, iv p1.H, .slice ad7 p1.Bits.length cp8]] [fRep (rL rB) (.slice ad3 p0.Bits.length cp4) p0.Bits, fRep (rL rB) (.slice ad7 p1.Bits.length cp8) p1.Bits]) ?_ (fun a w hI => ?_)
  · refine sRegion ?_
    refine sField (b := b10) (off := 0) 0 0 S (wN rfl) rfl rfl rfl rfl rfl (lb rfl) fun a S => ?_
    refine sLoad1 (p := b10) (off := 0) (T := 24) (vs := [iv p0.W, iv p0.H, .slice ad3 p0.Bits.length cp4]) 1 (iv p0.W) S (wN rfl) rfl rfl rfl rfl rfl rfl (lb rfl) fun a S => ?_
    refine sField (b := b11) (off := 0) 0 0 S (wN rfl) rfl rfl rfl rfl rfl (lb rfl) fun a S => ?_
    refine sLoad1 (p := b11) (off := 0) (T := 24) (vs := [iv p1.W, iv p1.H, .slice ad7 p1.Bits.length cp8]) 0 (iv p1.W) S (wN rfl) rfl rfl rfl rfl rfl rfl (lb rfl) fun a S => ?_
    refine sBin (.bool (p0.W != p1.W)) S (wN rfl) rfl rfl rfl (bNe _ _ _ _ .i64 p0.W p1.W) rfl (lb rfl) fun a S => ?_
    refine sMove (.bool (p0.W != p1.W)) S (wN rfl) (.inl rfl) rfl rfl (lb rfl) fun a S => ?_
    rcases iteSome h with ⟨hc16, h⟩ | ⟨hc16, h⟩
    · refine sSkip 5 false 11 12 S rfl rfl rfl hc16 rfl (lb rfl) fun a S => ?_
      refine sSkip 5 false 11 13 S rfl rfl rfl hc16 rfl (lb rfl) fun a S => ?_
      refine sSkip 5 false 11 14 S rfl rfl rfl hc16 rfl (lb rfl) fun a S => ?_
      refine sSkip 5 false 11 15 S rfl rfl rfl hc16 rfl (lb rfl) fun a S => ?_
      refine sSkip 5 false 11 16 S rfl rfl rfl hc16 rfl (lb rfl) fun a S => ?_
      refine sPickT (.bool true) S (wN rfl) rfl rfl hc16 rfl rfl (lb rfl) fun a S => ?_
      refine sMove (.bool true) S (wN rfl) (.inl rfl) rfl rfl (lb rfl) fun a S => ?_
      refine sSkip 12 false 18 19 S rfl rfl rfl rfl rfl (lb rfl) fun a S => ?_
      refine sSkip 12 false 18 20 S rfl rfl rfl rfl rfl (lb rfl) fun a S => ?_
      refine sSkip 12 false 18 21 S rfl rfl rfl rfl rfl (lb rfl) fun a S => ?_
      refine sSkip 12 false 18 22 S rfl rfl rfl rfl rfl (lb rfl) fun a S => ?_
      refine sSkip 12 false 18 23 S rfl rfl rfl rfl rfl (lb rfl) fun a S => ?_
      refine sSkip 12 false 18 24 S rfl rfl rfl rfl rfl (lb rfl) fun a S => ?_
      refine sSkip 12 false 18 25 S rfl rfl rfl rfl rfl (lb rfl) fun a S => ?_
      refine sPickT (.bool true) S (wN rfl) rfl rfl rfl rfl rfl (lb rfl) fun a S => ?_
      exact leafL (leafT (⟨true, Option.some.inj h, S.fix [1, 0] [1, 0] (by decide) rfl rfl rfl⟩))
    refine sField (b := b10) (off := 0) 1 1 S (wG 5 false 11 rfl rfl rfl hc16) rfl rfl rfl rfl rfl (lb rfl) fun a S => ?_
    refine sLoad1 (p := b10) (off := 1) (T := 24) (vs := [iv p0.W, iv p0.H, .slice ad3 p0.Bits.length cp4]) 1 (iv p0.H) S (wG 5 false 11 rfl rfl rfl hc16) rfl rfl rfl rfl rfl rfl (lb rfl) fun a S => ?_
    refine sField (b := b11) (off := 0) 1 1 S (wG 5 false 11 rfl rfl rfl hc16) rfl rfl rfl rfl rfl (lb rfl) fun a S => ?_
    refine sLoad1 (p := b11) (off := 1) (T := 24) (vs := [iv p1.W, iv p1.H, .slice ad7 p1.Bits.length cp8]) 0 (iv p1.H) S (wG 5 false 11 rfl rfl rfl hc16) rfl rfl rfl rfl rfl rfl (lb rfl) fun a S => ?_
    refine sBin (.bool (p0.H != p1.H)) S (wG 5 false 11 rfl rfl rfl hc16) rfl rfl rfl (bNe _ _ _ _ .i64 p0.H p1.H) rfl (lb rfl) fun a S => ?_
    refine sPickF (.bool (p0.H != p1.H)) S (wN rfl) rfl rfl hc16 rfl rfl (lb rfl) fun a S => ?_
    refine sMove (.bool (p0.H != p1.H)) S (wN rfl) (.inl rfl) rfl rfl (lb rfl) fun a S => ?_
    rcases iteSome h with ⟨hc17, h⟩ | ⟨hc17, h⟩
    · refine sSkip 12 false 18 19 S rfl rfl rfl hc17 rfl (lb rfl) fun a S => ?_
      refine sSkip 12 false 18 20 S rfl rfl rfl hc17 rfl (lb rfl) fun a S => ?_
      refine sSkip 12 false 18 21 S rfl rfl rfl hc17 rfl (lb rfl) fun a S => ?_
      refine sSkip 12 false 18 22 S rfl rfl rfl hc17 rfl (lb rfl) fun a S => ?_
      refine sSkip 12 false 18 23 S rfl rfl rfl hc17 rfl (lb rfl) fun a S => ?_
      refine sSkip 12 false 18 24 S rfl rfl rfl hc17 rfl (lb rfl) fun a S => ?_
      refine sSkip 12 false 18 25 S rfl rfl rfl hc17 rfl (lb rfl) fun a S => ?_
      refine sPickT (.bool true) S (wN rfl) rfl rfl hc17 rfl rfl (lb rfl) fun a S => ?_
      exact leafL (leafT (⟨true, Option.some.inj h, S.fix [1, 0] [1, 0] (by decide) rfl rfl rfl⟩))
    refine sField (b := b10) (off := 0) 2 2 S (wG 12 false 18 rfl rfl rfl hc17) rfl rfl rfl rfl rfl (lb rfl) fun a S => ?_
    refine sLoad1 (p := b10) (off := 2) (T := 24) (vs := [iv p0.W, iv p0.H, .slice ad3 p0.Bits.length cp4]) 1 (.slice ad3 p0.Bits.length cp4) S (wG 12 false 18 rfl rfl rfl hc17) rfl rfl rfl rfl rfl rfl (lb rfl) fun a S => ?_
    refine sLen (ad := ad3) (m := p0.Bits.length) (c := cp4) S (wG 12 false 18 rfl rfl rfl hc17) rfl Try.underlying22 rfl rfl (lb rfl) fun a S => ?_
    refine sField (b := b11) (off := 0) 2 2 S (wG 12 false 18 rfl rfl rfl hc17) rfl rfl rfl rfl rfl (lb rfl) fun a S => ?_
    refine sLoad1 (p := b11) (off := 2) (T := 24) (vs := [iv p1.W, iv p1.H, .slice ad7 p1.Bits.length cp8]) 0 (.slice ad7 p1.Bits.length cp8) S (wG 12 false 18 rfl rfl rfl hc17) rfl rfl rfl rfl rfl rfl (lb rfl) fun a S => ?_
    refine sLen (ad := ad7) (m := p1.Bits.length) (c := cp8) S (wG 12 false 18 rfl rfl rfl hc17) rfl Try.underlying22 rfl rfl (lb rfl) fun a S => ?_
    refine sBin (.bool ((p0.Bits.length : Int) != (p1.Bits.length : Int))) S (wG 12 false 18 rfl rfl rfl hc17) rfl rfl rfl (bNe _ _ _ _ .i64 (p0.Bits.length : Int) (p1.Bits.length : Int)) rfl (lb rfl) fun a S => ?_
    refine sPickF (.bool ((p0.Bits.length : Int) != (p1.Bits.length : Int))) S (wN rfl) rfl rfl hc17 rfl rfl (lb rfl) fun a S => ?_
    exact leafL (leafT (⟨(p0.Bits.length : Int) != (p1.Bits.length : Int), Option.some.inj h, S.fix [1, 0] [1, 0] (by decide) rfl rfl rfl⟩))
  obtain ⟨o13, rfl, S⟩ := hI
  have h := g15
  clear g15
  try dsimp only at h
  rcases iteSome h with ⟨hc18, h⟩ | ⟨hc18, h⟩
  · refine sCondT S rfl hc18 ?_
    refine sSeq (fun K19 hK19 => ?_)
    refine sRegion ?_
    refine sMove (.bool false) S (wN rfl) (.inr rfl) rfl rfl (lb rfl) fun a S => ?_
    refine leafL (leafT (hK19 _ _ ?_))
    obtain rfl := Option.some.inj h
    exact wp_ret (rThen (sRet (.bool false) S (rsl1 rfl (rvT (t := 4) (v := .bool false) S rfl)) ⟨(), rfl, S.mem.sel [] [] (by decide) rfl rfl⟩))
  refine sCondF S rfl hc18 ?_
  refine wp_skip (leafT (hK12 _ _ ?_))
  obtain ⟨t20, h, g21⟩ := bindSome h
  refine sCut (fun a w => .inl () = t20 ∧ St [] E [] w0 45 a w [] [] []) ?_ (fun a w hI => ?_)
  rotate_left
  · obtain ⟨rfl, S⟩ := hI
    have h := g21
    clear g21
    try dsimp only at h
    refine sSeq (fun K50 hK50 => ?_)
    refine sRegion ?_
    refine sMove (.bool true) S (wN rfl) (.inr rfl) rfl rfl (lb rfl) fun a S => ?_
    refine leafL (leafT (hK50 _ _ ?_))
    obtain rfl := Option.some.inj h
    exact wp_ret (sRet (.bool true) S (rsl1 rfl (rvT (t := 4) (v := .bool true) S rfl)) ⟨(), rfl, S.mem.sel [] [] (by decide) rfl rfl⟩)
  refine sSeq (fun K22 hK22 => ?_)
  refine sRegion ?_
  refine sMove (iv 0) S (wN rfl) (.inr rfl) rfl rfl (lb rfl) fun a S => ?_
  refine leafL (leafT (hK22 _ _ ?_))
  refine wp_block ?_
  obtain ⟨t26, hl, g25⟩ := bindSome h
  refine sLoop hl (fun s0 a w => match s0 with | s23 => St [] E [] w0 45 a w [(2, .pointer (some ⟨b10, 0, none⟩)), (3, .pointer (some ⟨b11, 0, none⟩)), (5, iv s23)] [eBox b10 24 [iv p0.W, iv p0.H, .slice ad3 p0.Bits.length cp4], eBox b11 24 [iv p1.W, iv p1.H, .slice ad7 p1.Bits.length cp8]] [fRep (rL rB) (.slice ad3 p0.Bits.length cp4) p0.Bits, fRep (rL rB) (.slice ad7 p1.Bits.length cp8) p1.Bits]) (S.fix [0, 1] [0, 1] (by decide) rfl rfl rfl) ?_
  clear hl h
  intro s23 a w c0 hI h hu24
  unfold raddleref01_Same_l1 at h
  dsimp only at h hI
  have S := hI
  refine sSeq (fun K27 hK27 => ?_)
  refine sSeq (fun K28 hK28 => ?_)
  refine sRegion ?_
  refine sMove (iv s23) S (wN rfl) (.inl rfl) rfl rfl (lb rfl) fun a S => ?_
  refine sField (b := b10) (off := 0) 2 2 S (wN rfl) rfl rfl rfl rfl rfl (lb rfl) fun a S => ?_
  refine sLoad1 (p := b10) (off := 2) (T := 24) (vs := [iv p0.W, iv p0.H, .slice ad3 p0.Bits.length cp4]) 0 (.slice ad3 p0.Bits.length cp4) S (wN rfl) rfl rfl rfl rfl rfl rfl (lb rfl) fun a S => ?_
  refine sLen (ad := ad3) (m := p0.Bits.length) (c := cp4) S (wN rfl) rfl Try.underlying22 rfl rfl (lb rfl) fun a S => ?_
  refine sBin (.bool (decide (s23 < (p0.Bits.length : Int)))) S (wN rfl) rfl rfl rfl (bLt _ _ _ _ .i64 s23 (p0.Bits.length : Int)) rfl (lb rfl) fun a S => ?_
  refine leafL (leafT (hK28 _ _ ?_))
  rcases iteSome h with ⟨hc29, h⟩ | ⟨hc29, h⟩
  rotate_left
  · refine sCondF S rfl hc29 ?_
    obtain rfl := Option.some.inj h
    obtain rfl := hu24 _ rfl
    have h := g25
    clear g25
    try dsimp only at h
    exact wp_exit (xThen (xThen (xHit (leafT (⟨Option.some.inj h, S.fix [] [] (by decide) rfl rfl rfl⟩)))))
  refine sCondT S rfl hc29 ?_
  refine wp_skip (leafT (hK27 _ _ ?_))
  refine sSeq (fun K30 hK30 => ?_)
  refine wp_block ?_
  refine sSeq (fun K31 hK31 => ?_)
  obtain ⟨x32, hx33, h⟩ := bindSome h
  obtain ⟨x37, hx38, h⟩ := bindSome h
  obtain ⟨q42, hq43, S⟩ := pIdx (P := Try.prog) (r := rB) (v := .slice ad3 p0.Bits.length cp4) (xs := p0.Bits) (j := s23) 22 4 0 S Try.underlying22 rfl rfl hx33
  obtain ⟨u44, S⟩ := pLoad (r := rB) (q := q42) (x := x32) 0 S rfl
  obtain rfl : u44 = .bool x32 := S.mem.know (i := 1) (e := fRep rB (u44) x32) rfl
  obtain ⟨q45, hq46, S⟩ := pIdx (P := Try.prog) (r := rB) (v := .slice ad7 p1.Bits.length cp8) (xs := p1.Bits) (j := s23) 22 4 4 S Try.underlying22 rfl rfl hx38
  obtain ⟨u47, S⟩ := pLoad (r := rB) (q := q45) (x := x37) 0 S rfl
  obtain rfl : u47 = .bool x37 := S.mem.know (i := 1) (e := fRep rB (u47) x37) rfl
  refine sDraw (nf := []) (W := [(0, 34, .pointer (some ⟨b10, 2, none⟩)), (1, 35, .slice ad3 p0.Bits.length cp4), (2, 36, iv s23), (3, 37, q42), (4, 38, .bool x32), (5, 39, .pointer (some ⟨b11, 2, none⟩)), (6, 40, .slice ad7 p1.Bits.length cp8), (7, 41, iv s23), (8, 42, q45), (9, 43, .bool x37), (10, 44, .bool (x32 != x37))]) rfl S ?_
  refine node_by (A := anc_raddleref01_Same_0) (nf := []) (Y := []) (W := [(0, 34, .pointer (some ⟨b10, 2, none⟩)), (1, 35, .slice ad3 p0.Bits.length cp4), (2, 36, iv s23), (3, 37, q42), (4, 38, .bool x32), (5, 39, .pointer (some ⟨b11, 2, none⟩)), (6, 40, .slice ad7 p1.Bits.length cp8), (7, 41, iv s23), (8, 42, q45), (9, 43, .bool x37), (10, 44, .bool (x32 != x37))]) 11 (by kernel_rfl) (by kernel_rfl) (by kernel_rfl) (by kernel_rfl) (by kernel_rfl) [0, 1, 2, 3, 4, 5, 6, 7, 8, 9, 10] (by kernel_rfl) (by decide) (by decide) (aF 0 10 (by decide) ?_ (aF 1 9 (by decide) ?_ (aF 2 8 (by decide) ?_ (aF 3 7 (by decide) ?_ (aF 4 6 (by decide) ?_ (aF 5 5 (by decide) ?_ (aF 6 4 (by decide) ?_ (aF 7 3 (by decide) ?_ (aF 8 2 (by decide) ?_ (aF 9 1 (by decide) ?_ (aF 10 0 (by decide) ?_ (trivial)))))))))))) [(2, .pointer (some ⟨b10, 0, none⟩)), (3, .pointer (some ⟨b11, 0, none⟩)), (5, iv s23), (44, .bool (x32 != x37))] (fin_of [none, none, none, some 10] rfl (by kernel_rfl) (by kernel_rfl)) (fun _ a w S => ?_)
  · refine fI 34 (.pointer (some ⟨b10, 2, none⟩)) [(2, .pointer (some ⟨b10, 0, none⟩))] 0 [none] rfl rfl rfl rfl rfl rfl fun G a w S => ?_
    refine sField (b := b10) (off := 0) 2 2 S (wN rfl) rfl rfl rfl rfl rfl (lb rfl) fun a S => ?_
    exact leafL ⟨rfl, S⟩
  · refine fI 35 (.slice ad3 p0.Bits.length cp4) [(34, .pointer (some ⟨b10, 2, none⟩))] 1 [some 0] rfl rfl rfl rfl rfl rfl fun G a w S => ?_
    refine sLoad1 (p := b10) (off := 2) (T := 24) (vs := [iv p0.W, iv p0.H, .slice ad3 p0.Bits.length cp4]) 0 (.slice ad3 p0.Bits.length cp4) S (wN rfl) rfl rfl rfl rfl rfl rfl (lb rfl) fun a S => ?_
    exact leafL ⟨rfl, S⟩
  · refine fI 36 (iv s23) [(5, iv s23)] 2 [none] rfl rfl rfl rfl rfl rfl fun G a w S => ?_
    refine sMove (iv s23) S (wN rfl) (.inl rfl) rfl rfl (lb rfl) fun a S => ?_
    exact leafL ⟨rfl, S⟩
  · refine fI 37 q42 [(35, .slice ad3 p0.Bits.length cp4), (36, iv s23)] 3 [some 1, some 2] rfl rfl rfl rfl rfl rfl fun G a w S => ?_
    refine sIdxV (v := .slice ad3 p0.Bits.length cp4) (k := .i64) (j := s23) S (wN rfl) rfl rfl rfl hq43 rfl (lb rfl) fun a S => ?_
    exact leafL ⟨rfl, S⟩
  · refine fI 38 (.bool x32) [(37, q42)] 4 [some 3] rfl rfl rfl rfl rfl rfl fun G a w S => ?_
    refine sLoadV1 (vq := q42) 3 (.bool x32) S (wN rfl) rfl rfl rfl rfl rfl (lb rfl) fun a S => ?_
    exact leafL ⟨rfl, S⟩
  · refine fI 39 (.pointer (some ⟨b11, 2, none⟩)) [(3, .pointer (some ⟨b11, 0, none⟩))] 5 [none] rfl rfl rfl rfl rfl rfl fun G a w S => ?_
    refine sField (b := b11) (off := 0) 2 2 S (wN rfl) rfl rfl rfl rfl rfl (lb rfl) fun a S => ?_
    exact leafL ⟨rfl, S⟩
  · refine fI 40 (.slice ad7 p1.Bits.length cp8) [(39, .pointer (some ⟨b11, 2, none⟩))] 6 [some 5] rfl rfl rfl rfl rfl rfl fun G a w S => ?_
    refine sLoad1 (p := b11) (off := 2) (T := 24) (vs := [iv p1.W, iv p1.H, .slice ad7 p1.Bits.length cp8]) 1 (.slice ad7 p1.Bits.length cp8) S (wN rfl) rfl rfl rfl rfl rfl rfl (lb rfl) fun a S => ?_
    exact leafL ⟨rfl, S⟩
  · refine fI 41 (iv s23) [(5, iv s23)] 7 [none] rfl rfl rfl rfl rfl rfl fun G a w S => ?_
    refine sMove (iv s23) S (wN rfl) (.inl rfl) rfl rfl (lb rfl) fun a S => ?_
    exact leafL ⟨rfl, S⟩
  · refine fI 42 q45 [(40, .slice ad7 p1.Bits.length cp8), (41, iv s23)] 8 [some 6, some 7] rfl rfl rfl rfl rfl rfl fun G a w S => ?_
    refine sIdxV (v := .slice ad7 p1.Bits.length cp8) (k := .i64) (j := s23) S (wN rfl) rfl rfl rfl hq46 rfl (lb rfl) fun a S => ?_
    exact leafL ⟨rfl, S⟩
  · refine fI 43 (.bool x37) [(42, q45)] 9 [some 8] rfl rfl rfl rfl rfl rfl fun G a w S => ?_
    refine sLoadV1 (vq := q45) 0 (.bool x37) S (wN rfl) rfl rfl rfl rfl rfl (lb rfl) fun a S => ?_
    exact leafL ⟨rfl, S⟩
  · refine fI 44 (.bool (x32 != x37)) [(38, .bool x32), (43, .bool x37)] 10 [some 4, some 9] rfl rfl rfl rfl rfl rfl fun G a w S => ?_
    refine sBin (.bool (x32 != x37)) S (wN rfl) rfl rfl rfl (bNeB _ _ _ _ Try.underlying4 x32 x37) rfl (lb rfl) fun a S => ?_
    exact leafL ⟨rfl, S⟩
  refine leafT (hK31 _ _ ?_)
  rcases iteSome h with ⟨hc48, h⟩ | ⟨hc48, h⟩
  rotate_left
  · refine sCondF S rfl hc48 ?_
    refine wp_skip (leafB (leafT (hK30 _ _ ?_)))
    refine sRegion ?_
    refine sMove (iv s23) S (wN rfl) (.inl rfl) rfl rfl (lb rfl) fun a S => ?_
    refine sBin (iv (w64 (s23 + 1))) S (wN rfl) rfl rfl rfl (bAdd _ _ _ _ s23 1) rfl (lb rfl) fun a S => ?_
    refine sMove (iv (w64 (s23 + 1))) S (wN rfl) (.inr rfl) rfl rfl (lb rfl) fun a S => ?_
    exact leafL (leafT (⟨w64 (s23 + 1), (Option.some.inj h).symm, (S.fix [0, 1] [6, 7] (by decide) rfl rfl rfl)⟩))
  refine sCondT S rfl hc48 ?_
  refine sSeq (fun K49 hK49 => ?_)
  refine sRegion ?_
  refine sMove (.bool false) S (wN rfl) (.inr rfl) rfl rfl (lb rfl) fun a S => ?_
  refine leafL (leafT (hK49 _ _ ?_))
  obtain rfl := Option.some.inj h
  obtain rfl := hu24 _ rfl
  have h := g25
  clear g25
  try dsimp only at h
  obtain rfl := Option.some.inj h
  have h := g21
  clear g21
  try dsimp only at h
  obtain rfl := Option.some.inj h
  exact wp_ret (rBlock (rThen (rThen (rBlock (rThen (sRet (.bool false) S (rsl1 rfl (rvT (t := 4) (v := .bool false) S rfl)) ⟨(), rfl, S.mem.sel [] [] (by decide) rfl rfl⟩))))))

end Go.Proofs.Ythfifeabomdlpaa
namespace Go.Proofs.Ythfifeabomdlpaa
open Go.RowKit
set_option linter.unusedVariables false

def anc_block_part_0 : List (List Nat) := [[], [0], [], [2], [], [], [], [5, 6], [2, 3, 4, 5, 6, 7], [0, 1, 2, 3, 4, 5, 6, 7, 8], [0, 1, 2, 3, 4, 5, 6, 7, 8, 9], [0, 1, 2, 3, 4, 5, 6, 7, 8, 9, 10]]
noncomputable def block_part_l1 (p2 : Int) (p0 : api_Grid) (p4 : Int) (p3 : Int) (p1 : Int) : (Int × List Bool) → Option ((Int × List Bool) ⊕ List Bool) := fun s0 => match s0 with
  | (s16, s17) =>
    if decide (s16 < p2) then
      Option.bind (sliceO p0.Bits (w64 ((w64 ((w64 ((w64 (p4 * p2)) + s16)) * p0.W)) + (w64 (p3 * p1)))) (w64 ((w64 ((w64 ((w64 ((w64 (p4 * p2)) + s16)) * p0.W)) + (w64 (p3 * p1)))) + p1))) fun y32 =>
      Option.bind (appO s17 y32) fun l36 =>
      some (.inl (w64 (s16 + 1), l36))
    else
      some (.inr s17)
noncomputable def F_block_part (p0 : api_Grid) (p1 : Int) (p2 : Int) (p3 : Int) (p4 : Int) : Option api_Grid :=
  Option.bind (α := List Bool) (
    Option.bind (whileO (block_part_l1 p2 p0 p4 p3 p1) (0, ([] : List Bool))) fun e23 =>
      some e23) fun o10 =>
  some (api_Grid.mk p1 p2 o10)
def c_block_part_val (r : api_Grid) (x : Value) : Value := x
def c_block_part_D (r : api_Grid) (x : Value) : List Fact := [fRep r_api_Grid x r]
set_option maxHeartbeats 4000000 in
set_option maxRecDepth 100000 in
theorem c_block_part (E : Nat → Prop) (w0 : World) (p0 : api_Grid) (v0 : Value) (p1 : Int) (p2 : Int) (p3 : Int) (p4 : Int) (r : api_Grid) (h : F_block_part p0 p1 p2 p3 p4 = some r) (S : St0 E [] w0 w0 [] [fRep r_api_Grid (v0) p0]) :
    Calls Try.prog 49 #[v0, iv p1, iv p2, iv p3, iv p4] w0 (Ret (X := Value) E [] w0 (c_block_part_val r) (fun _ => []) (c_block_part_D r)) := by
  unfold F_block_part at h
  obtain ⟨u1, rfl, hu2⟩ := S.know (i := 0) (e := fRep r_api_Grid (v0) p0) rfl
  have S := S.learn (fRep (rL rB) u1 p0.Bits) hu2
  obtain ⟨ad3, cp4, _, rfl, _⟩ := hu2
  refine sEnter (args := [.agg #[iv p0.W, iv p0.H, .slice ad3 p0.Bits.length cp4], iv p1, iv p2, iv p3, iv p4]) 46 Try.func49 rfl rfl (by simp) S (fun a S => ?_)
  refine sSeq (fun K5 hK5 => ?_)
  refine sRegion ?_
  refine sBox (v := .agg #[iv p0.W, iv p0.H, .slice ad3 p0.Bits.length cp4]) S (wN rfl) rfl rfl [iv p0.W, iv p0.H, .slice ad3 p0.Bits.length cp4] rfl rfl (lb rfl) fun a b6 w S => ?_
  refine sAlloc (.agg #[iv 0, iv 0, .slice none 0 0]) S (wN rfl) rfl rfl [iv 0, iv 0, .slice none 0 0] rfl rfl (lb rfl) fun a b7 w S => ?_
  refine leafL (leafT (hK5 _ _ ?_))
  refine sSeq (fun K8 hK8 => ?_)
  refine sRegion ?_
  refine sMove (iv p1) S (wN rfl) (.inl rfl) rfl rfl (lb rfl) fun a S => ?_
  refine sMove (iv p2) S (wN rfl) (.inl rfl) rfl rfl (lb rfl) fun a S => ?_
  refine sBuild [(0, iv p1), (1, iv p2)] [iv p1, iv p2, .slice none 0 0] S (wN rfl) rfl rfl rfl rfl (lb rfl) fun a S => ?_
  refine sAlloc (.agg #[iv 0, iv 0, .slice none 0 0]) S (wN rfl) rfl rfl [iv 0, iv 0, .slice none 0 0] rfl rfl (lb rfl) fun a b9 w S => ?_
  refine sStore (p := b9) (off := 0) (T := 24) (vs := [iv 0, iv 0, .slice none 0 0]) (v := .agg #[iv p1, iv p2, .slice none 0 0]) 0 [iv p1, iv p2, .slice none 0 0] S (wN rfl) rfl rfl rfl rfl rfl rfl rfl (by simp) rfl fun a w S => ?_
  refine leafL (leafT (hK8 _ _ ?_))
  obtain ⟨t13, h, g14⟩ := bindSome h
  refine sCut (fun a w => ∃ o10, o10 = t13 ∧ ∃ ad11, ∃ cp12, St [] E [] w0 46 a w [(10, .pointer (some ⟨b7, 0, none⟩)), (11, .pointer (some ⟨b9, 0, none⟩))] [eBox b7 24 [iv 0, iv 0, .slice none 0 0], eBox b9 24 [iv p1, iv p2, .slice ad11 o10.length cp12], eRow rB 4 (.slice ad11 o10.length cp12) o10] []) ?_ (fun a w hI => ?_)
  rotate_left
  · obtain ⟨o10, rfl, ad11, cp12, S⟩ := hI
    have h := g14
    clear g14
    try dsimp only at h
    refine sSeq (fun K44 hK44 => ?_)
    refine sRegion ?_
    refine sLoadN (p := b9) (off := 0) (T := 24) (vs := [iv p1, iv p2, .slice ad11 o10.length cp12]) 1 [iv p1, iv p2, .slice ad11 o10.length cp12] S (wN rfl) rfl rfl rfl rfl rfl rfl rfl (lb rfl) fun a S => ?_
    refine sStore (p := b7) (off := 0) (T := 24) (vs := [iv 0, iv 0, .slice none 0 0]) (v := .agg #[iv p1, iv p2, .slice ad11 o10.length cp12]) 0 [iv p1, iv p2, .slice ad11 o10.length cp12] S (wN rfl) rfl rfl rfl rfl rfl rfl rfl (by simp) rfl fun a w S => ?_
    refine leafL (leafT (hK44 _ _ ?_))
    obtain rfl := Option.some.inj h
    have S := S.shutR (r := rB) (T := 4) (v := .slice ad11 o10.length cp12) (xs := o10) 2 rfl
    have S := S.learn (fRep r_api_Grid (.agg #[iv p1, iv p2, .slice ad11 o10.length cp12]) (api_Grid.mk p1 p2 o10)) ⟨_, rfl, S.mem.know (i := 0) (e := fRep (rL rB) (.slice ad11 o10.length cp12) o10) rfl⟩
    exact wp_ret (sRet (.agg #[iv p1, iv p2, .slice ad11 o10.length cp12]) S (rsl1 rfl (rvN (c := 10) (t := 24) (T := 24) (p := b7) 0 [iv p1, iv p2, .slice ad11 o10.length cp12] S rfl rfl rfl rfl)) ⟨(.agg #[iv p1, iv p2, .slice ad11 o10.length cp12]), rfl, S.mem.sel [] [0] (by decide) rfl rfl⟩)
  refine sSeq (fun K15 hK15 => ?_)
  refine sRegion ?_
  refine sMove (iv p2) S (wN rfl) (.inl rfl) rfl rfl (lb rfl) fun a S => ?_
  refine sMove (iv 0) S (wN rfl) (.inl rfl) rfl rfl (lb rfl) fun a S => ?_
  refine leafL (leafT (hK15 _ _ ?_))
  refine wp_block ?_
  have S := S.nilRow rB 4 (α := Bool)
  obtain ⟨t22, hl, g21⟩ := bindSome h
  refine sLoop hl (fun s0 a w => match s0 with | (s16, s17) => ∃ ad18, ∃ cp19, St [] E [] w0 46 a w [(1, iv p1), (2, iv p2), (3, iv p3), (4, iv p4), (5, .pointer (some ⟨b6, 0, none⟩)), (10, .pointer (some ⟨b7, 0, none⟩)), (11, .pointer (some ⟨b9, 0, none⟩)), (17, iv p2), (18, iv s16)] [eBox b6 24 [iv p0.W, iv p0.H, .slice ad3 p0.Bits.length cp4], eBox b7 24 [iv 0, iv 0, .slice none 0 0], eBox b9 24 [iv p1, iv p2, .slice ad18 s17.length cp19], eRow rB 4 (.slice ad18 s17.length cp19) s17] [fRep (rL rB) (.slice ad3 p0.Bits.length cp4) p0.Bits]) ⟨none, 0, S.fix [3, 2, 1, 0] [0] (by decide) rfl rfl rfl⟩ ?_
  clear hl h
  intro s0 a w c0 hI h hu20
  obtain ⟨s16, s17⟩ := s0
  unfold block_part_l1 at h
  dsimp only at h hI
  obtain ⟨ad18, cp19, S⟩ := hI
  refine sSeq (fun K26 hK26 => ?_)
  refine sRegion ?_
  refine sBin (.bool (decide (s16 < p2))) S (wN rfl) rfl rfl rfl (bLt _ _ _ _ .i64 s16 p2) rfl (lb rfl) fun a S => ?_
  refine leafL (leafT (hK26 _ _ ?_))
  refine sSeq (fun K27 hK27 => ?_)
  rcases iteSome h with ⟨hc28, h⟩ | ⟨hc28, h⟩
  rotate_left
  · refine sCondF S rfl hc28 ?_
    obtain rfl := Option.some.inj h
    obtain rfl := hu20 _ rfl
    have h := g21
    clear g21
    try dsimp only at h
    exact wp_exit (xThen (xThen (xHit (leafT (⟨s17, Option.some.inj h, ad18, cp19, S.fix [1, 2, 3] [] (by decide) rfl rfl rfl⟩)))))
  refine sCondT S rfl hc28 ?_
  refine wp_skip (leafT (hK27 _ _ ?_))
  refine sSeq (fun K29 hK29 => ?_)
  refine wp_block ?_
  refine sSeq (fun K30 hK30 => ?_)
  refine sRegion ?_
  refine sMove (iv s16) S (wN rfl) (.inl rfl) rfl rfl (lb rfl) fun a S => ?_
  refine sMove (iv s16) S (wN rfl) (.inr rfl) rfl rfl (lb rfl) fun a S => ?_
  refine leafL (leafT (hK30 _ _ ?_))
  refine sSeq (fun K31 hK31 => ?_)
  refine sRegion ?_
  refine sMove (iv p4) S (wN rfl) (.inl rfl) rfl rfl (lb rfl) fun a S => ?_
  refine sMove (iv p2) S (wN rfl) (.inl rfl) rfl rfl (lb rfl) fun a S => ?_
  refine sBin (iv (w64 (p4 * p2))) S (wN rfl) rfl rfl rfl (bMul _ _ _ _ p4 p2) rfl (lb rfl) fun a S => ?_
  refine sMove (iv s16) S (wN rfl) (.inl rfl) rfl rfl (lb rfl) fun a S => ?_
  refine sBin (iv (w64 ((w64 (p4 * p2)) + s16))) S (wN rfl) rfl rfl rfl (bAdd _ _ _ _ (w64 (p4 * p2)) s16) rfl (lb rfl) fun a S => ?_
  refine sField (b := b6) (off := 0) 0 0 S (wN rfl) rfl rfl rfl rfl rfl (lb rfl) fun a S => ?_
  refine sLoad1 (p := b6) (off := 0) (T := 24) (vs := [iv p0.W, iv p0.H, .slice ad3 p0.Bits.length cp4]) 0 (iv p0.W) S (wN rfl) rfl rfl rfl rfl rfl rfl (lb rfl) fun a S => ?_
  refine sBin (iv (w64 ((w64 ((w64 (p4 * p2)) + s16)) * p0.W))) S (wN rfl) rfl rfl rfl (bMul _ _ _ _ (w64 ((w64 (p4 * p2)) + s16)) p0.W) rfl (lb rfl) fun a S => ?_
  refine sMove (iv p3) S (wN rfl) (.inl rfl) rfl rfl (lb rfl) fun a S => ?_
  refine sMove (iv p1) S (wN rfl) (.inl rfl) rfl rfl (lb rfl) fun a S => ?_
  refine sBin (iv (w64 (p3 * p1))) S (wN rfl) rfl rfl rfl (bMul _ _ _ _ p3 p1) rfl (lb rfl) fun a S => ?_
  refine sBin (iv (w64 ((w64 ((w64 ((w64 (p4 * p2)) + s16)) * p0.W)) + (w64 (p3 * p1))))) S (wN rfl) rfl rfl rfl (bAdd _ _ _ _ (w64 ((w64 ((w64 (p4 * p2)) + s16)) * p0.W)) (w64 (p3 * p1))) rfl (lb rfl) fun a S => ?_
  refine sMove (iv (w64 ((w64 ((w64 ((w64 (p4 * p2)) + s16)) * p0.W)) + (w64 (p3 * p1))))) S (wN rfl) (.inr rfl) rfl rfl (lb rfl) fun a S => ?_
  refine leafL (leafT (hK31 _ _ ?_))
  obtain ⟨y32, hx33, h⟩ := bindSome h
  obtain ⟨l36, hx37, h⟩ := bindSome h
  refine sDraw (nf := [8, 9, 11]) (W := [(0, 33, .pointer (some ⟨b9, 2, none⟩)), (1, 34, .slice ad18 s17.length cp19), (2, 35, .pointer (some ⟨b6, 2, none⟩)), (3, 36, .slice ad3 p0.Bits.length cp4), (4, 37, iv (w64 ((w64 ((w64 ((w64 (p4 * p2)) + s16)) * p0.W)) + (w64 (p3 * p1))))), (5, 38, iv (w64 ((w64 ((w64 ((w64 (p4 * p2)) + s16)) * p0.W)) + (w64 (p3 * p1))))), (6, 39, iv p1), (7, 40, iv (w64 ((w64 ((w64 ((w64 ((w64 (p4 * p2)) + s16)) * p0.W)) + (w64 (p3 * p1)))) + p1)))]) rfl S ?_
  refine node_by (A := anc_block_part_0) (nf := [8, 9, 11]) (Y := []) (W := [(0, 33, .pointer (some ⟨b9, 2, none⟩)), (1, 34, .slice ad18 s17.length cp19), (2, 35, .pointer (some ⟨b6, 2, none⟩)), (3, 36, .slice ad3 p0.Bits.length cp4), (4, 37, iv (w64 ((w64 ((w64 ((w64 (p4 * p2)) + s16)) * p0.W)) + (w64 (p3 * p1))))), (5, 38, iv (w64 ((w64 ((w64 ((w64 (p4 * p2)) + s16)) * p0.W)) + (w64 (p3 * p1))))), (6, 39, iv p1), (7, 40, iv (w64 ((w64 ((w64 ((w64 ((w64 (p4 * p2)) + s16)) * p0.W)) + (w64 (p3 * p1)))) + p1)))]) 12 (by kernel_rfl) (by kernel_rfl) (by kernel_rfl) (by kernel_rfl) (by kernel_rfl) [0, 1, 2, 3, 4, 5, 6, 7] (by kernel_rfl) (by decide) (by decide) (aF 0 11 (by decide) ?_ (aF 1 10 (by decide) ?_ (aF 2 9 (by decide) ?_ (aF 3 8 (by decide) ?_ (aF 4 7 (by decide) ?_ (aF 5 6 (by decide) ?_ (aF 6 5 (by decide) ?_ (aF 7 4 (by decide) ?_ (aN 8 3 (by decide) ?_ (aB 9 2 8 (by decide) (aE 10 1 8 (by decide) (aB 11 0 8 (by decide) (trivial))))))))))))) [] (fun q hq => by cases hq) (fun hY => absurd (hY 8 (by decide)) (by decide))
  · refine fI 33 (.pointer (some ⟨b9, 2, none⟩)) [(11, .pointer (some ⟨b9, 0, none⟩))] 0 [none] rfl rfl rfl rfl rfl rfl fun G a w S => ?_
    refine sField (b := b9) (off := 0) 2 2 S (wN rfl) rfl rfl rfl rfl rfl (lb rfl) fun a S => ?_
    exact leafL ⟨rfl, S⟩
  · refine fI 34 (.slice ad18 s17.length cp19) [(33, .pointer (some ⟨b9, 2, none⟩))] 1 [some 0] rfl rfl rfl rfl rfl rfl fun G a w S => ?_
    refine sLoad1 (p := b9) (off := 2) (T := 24) (vs := [iv p1, iv p2, .slice ad18 s17.length cp19]) 2 (.slice ad18 s17.length cp19) S (wN rfl) rfl rfl rfl rfl rfl rfl (lb rfl) fun a S => ?_
    exact leafL ⟨rfl, S⟩
  · refine fI 35 (.pointer (some ⟨b6, 2, none⟩)) [(5, .pointer (some ⟨b6, 0, none⟩))] 2 [none] rfl rfl rfl rfl rfl rfl fun G a w S => ?_
    refine sField (b := b6) (off := 0) 2 2 S (wN rfl) rfl rfl rfl rfl rfl (lb rfl) fun a S => ?_
    exact leafL ⟨rfl, S⟩
  · refine fI 36 (.slice ad3 p0.Bits.length cp4) [(35, .pointer (some ⟨b6, 2, none⟩))] 3 [some 2] rfl rfl rfl rfl rfl rfl fun G a w S => ?_
    refine sLoad1 (p := b6) (off := 2) (T := 24) (vs := [iv p0.W, iv p0.H, .slice ad3 p0.Bits.length cp4]) 0 (.slice ad3 p0.Bits.length cp4) S (wN rfl) rfl rfl rfl rfl rfl rfl (lb rfl) fun a S => ?_
    exact leafL ⟨rfl, S⟩
  · refine fI 37 (iv (w64 ((w64 ((w64 ((w64 (p4 * p2)) + s16)) * p0.W)) + (w64 (p3 * p1))))) [(13, iv (w64 ((w64 ((w64 ((w64 (p4 * p2)) + s16)) * p0.W)) + (w64 (p3 * p1)))))] 4 [none] rfl rfl rfl rfl rfl rfl fun G a w S => ?_
    refine sMove (iv (w64 ((w64 ((w64 ((w64 (p4 * p2)) + s16)) * p0.W)) + (w64 (p3 * p1))))) S (wN rfl) (.inl rfl) rfl rfl (lb rfl) fun a S => ?_
    exact leafL ⟨rfl, S⟩
  · refine fI 38 (iv (w64 ((w64 ((w64 ((w64 (p4 * p2)) + s16)) * p0.W)) + (w64 (p3 * p1))))) [(13, iv (w64 ((w64 ((w64 ((w64 (p4 * p2)) + s16)) * p0.W)) + (w64 (p3 * p1)))))] 5 [none] rfl rfl rfl rfl rfl rfl fun G a w S => ?_
    refine sMove (iv (w64 ((w64 ((w64 ((w64 (p4 * p2)) + s16)) * p0.W)) + (w64 (p3 * p1))))) S (wN rfl) (.inl rfl) rfl rfl (lb rfl) fun a S => ?_
    exact leafL ⟨rfl, S⟩
  · refine fI 39 (iv p1) [(1, iv p1)] 6 [none] rfl rfl rfl rfl rfl rfl fun G a w S => ?_
    refine sMove (iv p1) S (wN rfl) (.inl rfl) rfl rfl (lb rfl) fun a S => ?_
    exact leafL ⟨rfl, S⟩
  · refine fI 40 (iv (w64 ((w64 ((w64 ((w64 ((w64 (p4 * p2)) + s16)) * p0.W)) + (w64 (p3 * p1)))) + p1))) [(38, iv (w64 ((w64 ((w64 ((w64 (p4 * p2)) + s16)) * p0.W)) + (w64 (p3 * p1))))), (39, iv p1)] 7 [some 5, some 6] rfl rfl rfl rfl rfl rfl fun G a w S => ?_
    refine sBin (iv (w64 ((w64 ((w64 ((w64 ((w64 (p4 * p2)) + s16)) * p0.W)) + (w64 (p3 * p1)))) + p1))) S (wN rfl) rfl rfl rfl (bAdd _ _ _ _ (w64 ((w64 ((w64 ((w64 (p4 * p2)) + s16)) * p0.W)) + (w64 (p3 * p1)))) p1) rfl (lb rfl) fun a S => ?_
    exact leafL ⟨rfl, S⟩
  refine ⟨_, [(36, .slice ad3 p0.Bits.length cp4), (37, iv (w64 ((w64 ((w64 ((w64 (p4 * p2)) + s16)) * p0.W)) + (w64 (p3 * p1))))), (40, iv (w64 ((w64 ((w64 ((w64 ((w64 (p4 * p2)) + s16)) * p0.W)) + (w64 (p3 * p1)))) + p1)))], rfl, (srcs_of [some 3, some 4, some 7] rfl rfl rfl), fun G a w S => ?_⟩
  refine sSlice (r := rB) (v := .slice ad3 p0.Bits.length cp4) (xs := p0.Bits) (vlo := (some (.int .i64 (w64 ((w64 ((w64 ((w64 (p4 * p2)) + s16)) * p0.W)) + (w64 (p3 * p1))))))) (vhi := (some (.int .i64 (w64 ((w64 ((w64 ((w64 ((w64 (p4 * p2)) + s16)) * p0.W)) + (w64 (p3 * p1)))) + p1))))) (lo' := w64 ((w64 ((w64 ((w64 (p4 * p2)) + s16)) * p0.W)) + (w64 (p3 * p1)))) (hi' := w64 ((w64 ((w64 ((w64 ((w64 (p4 * p2)) + s16)) * p0.W)) + (w64 (p3 * p1)))) + p1)) 0 S (wN rfl) rfl Try.underlying22 rfl rfl rfl rfl rfl (.inl rfl) (.inl rfl) hx33 rfl (lb rfl) fun a ad40 cp41 S => ?_
  refine leafL ⟨rfl, _, _, .inl ⟨41, (.slice ad40 y32.length cp41), [], rfl, S, hz_of rfl, ?_⟩⟩
  refine node_by (A := anc_block_part_0) (nf := [8, 9, 11]) (Y := [8]) 12 (by kernel_rfl) (by kernel_rfl) (by kernel_rfl) (by kernel_rfl) (by kernel_rfl) [8, 0, 1, 2, 3, 4, 5, 6, 7] (by kernel_rfl) (by decide) (by decide) (aF 0 11 (by decide) ?_ (aF 1 10 (by decide) ?_ (aD 2 9 8 (by decide) (aD 3 8 8 (by decide) (aD 4 7 8 (by decide) (aD 5 6 8 (by decide) (aD 6 5 8 (by decide) (aD 7 4 8 (by decide) (aY 8 3 (by decide) (aN 9 2 (by decide) ?_ (aE 10 1 9 (by decide) (aB 11 0 9 (by decide) (trivial))))))))))))) [] (fun q hq => by cases hq) (fun hY => absurd (hY 9 (by decide)) (by decide))
  · refine fI 33 (.pointer (some ⟨b9, 2, none⟩)) [(11, .pointer (some ⟨b9, 0, none⟩))] 1 [none] rfl rfl rfl rfl rfl rfl fun G a w S => ?_
    refine sField (b := b9) (off := 0) 2 2 S (wN rfl) rfl rfl rfl rfl rfl (lb rfl) fun a S => ?_
    exact leafL ⟨rfl, S⟩
  · refine fI 34 (.slice ad18 s17.length cp19) [(33, .pointer (some ⟨b9, 2, none⟩))] 2 [some 1] rfl rfl rfl rfl rfl rfl fun G a w S => ?_
    refine sLoad1 (p := b9) (off := 2) (T := 24) (vs := [iv p1, iv p2, .slice ad18 s17.length cp19]) 2 (.slice ad18 s17.length cp19) S (wN rfl) rfl rfl rfl rfl rfl rfl (lb rfl) fun a S => ?_
    exact leafL ⟨rfl, S⟩
  refine ⟨_, [(34, .slice ad18 s17.length cp19), (41, .slice ad40 y32.length cp41)], rfl, (srcs_of [some 2, some 0] rfl rfl rfl), fun G a w S => ?_⟩
  refine sApp (r := rB) (T := 4) (xs := s17) (ys := y32) (v := .slice ad18 s17.length cp19) (u := .slice ad40 y32.length cp41) 3 (.bool false) 1 S (wN rfl) rfl Try.underlying22 rfl rfl (by decide) rfl rfl rfl (src_D 0 S.mem rfl) hx37 rfl (lb rfl) fun a w ad42 cp43 S => ?_
  refine leafL ⟨rfl, _, _, .inl ⟨42, (.slice ad42 l36.length cp43), [(10, 43, .pointer (some ⟨b9, 2, none⟩))], rfl, S, hz_of rfl, ?_⟩⟩
  refine node_by (A := anc_block_part_0) (nf := [8, 9, 11]) (Y := [9, 8]) 12 (by kernel_rfl) (by kernel_rfl) (by kernel_rfl) (by kernel_rfl) (by kernel_rfl) [10, 9, 8, 0, 1, 2, 3, 4, 5, 6, 7] (by kernel_rfl) (by decide) (by decide) (aD 0 11 9 (by decide) (aD 1 10 9 (by decide) (aD 2 9 9 (by decide) (aD 3 8 9 (by decide) (aD 4 7 9 (by decide) (aD 5 6 9 (by decide) (aD 6 5 9 (by decide) (aD 7 4 9 (by decide) (aY 8 3 (by decide) (aY 9 2 (by decide) (aF 10 1 (by decide) ?_ (aN 11 0 (by decide) ?_ (trivial))))))))))))) [] (fun q hq => by cases hq) (fun hY => absurd (hY 11 (by decide)) (by decide))
  · refine fI 43 (.pointer (some ⟨b9, 2, none⟩)) [(11, .pointer (some ⟨b9, 0, none⟩))] 0 [none] rfl rfl rfl rfl rfl rfl fun G a w S => ?_
    refine sField (b := b9) (off := 0) 2 2 S (wN rfl) rfl rfl rfl rfl rfl (lb rfl) fun a S => ?_
    exact leafL ⟨rfl, S⟩
  refine ⟨_, [(42, .slice ad42 l36.length cp43), (43, .pointer (some ⟨b9, 2, none⟩))], rfl, (srcs_of [some 1, some 0] rfl rfl rfl), fun G a w S => ?_⟩
  refine sStore (p := b9) (off := 2) (T := 24) (vs := [iv p1, iv p2, .slice ad18 s17.length cp19]) (v := .slice ad42 l36.length cp43) 3 [.slice ad42 l36.length cp43] S (wN rfl) rfl rfl rfl rfl rfl rfl rfl (by simp) rfl fun a w S => ?_
  refine leafL ⟨rfl, _, _, .inr ⟨[], rfl, S, hz_of rfl, ?_⟩⟩
  refine node_by (A := anc_block_part_0) (nf := [8, 9, 11]) (Y := [11, 9, 8]) 12 (by kernel_rfl) (by kernel_rfl) (by kernel_rfl) (by kernel_rfl) (by kernel_rfl) [10, 9, 8, 0, 1, 2, 3, 4, 5, 6, 7] (by kernel_rfl) (by decide) (by decide) (aD 0 11 11 (by decide) (aD 1 10 11 (by decide) (aD 2 9 11 (by decide) (aD 3 8 11 (by decide) (aD 4 7 11 (by decide) (aD 5 6 11 (by decide) (aD 6 5 11 (by decide) (aD 7 4 11 (by decide) (aY 8 3 (by decide) (aY 9 2 (by decide) (aD 10 1 11 (by decide) (aY 11 0 (by decide) (trivial))))))))))))) [(1, iv p1), (2, iv p2), (3, iv p3), (4, iv p4), (5, .pointer (some ⟨b6, 0, none⟩)), (10, .pointer (some ⟨b7, 0, none⟩)), (11, .pointer (some ⟨b9, 0, none⟩)), (17, iv p2), (18, iv s16)] (fin_of [none, none, none, none, none, none, none, none, none] rfl (by kernel_rfl) (by kernel_rfl)) (fun _ a w S => ?_)
  refine leafB (leafT (hK29 _ _ ?_))
  refine sRegion ?_
  refine sBin (iv (w64 (s16 + 1))) S (wN rfl) rfl rfl rfl (bAdd _ _ _ _ s16 1) rfl (lb rfl) fun a S => ?_
  refine sMove (iv (w64 (s16 + 1))) S (wN rfl) (.inl rfl) rfl rfl (lb rfl) fun a S => ?_
  exact leafL (leafT (⟨(w64 (s16 + 1), l36), (Option.some.inj h).symm, ⟨ad42, cp43, S.fix [2, 3, 0, 1] [1] (by decide) rfl rfl rfl⟩⟩))

end Go.Proofs.Ythfifeabomdlpaa
namespace Go.Proofs.Ythfifeabomdlpaa
open Go.RowKit
set_option linter.unusedVariables false

def anc_slices_Equal___bool_bool__0 : List (List Nat) := [[], [], [0, 1], [0, 1, 2], [], [], [4, 5], [4, 5, 6], [0, 1, 2, 3, 4, 5, 6, 7]]
noncomputable def slices_Equal___bool_bool__l1 (p0 : (List Bool)) (p1 : (List Bool)) : Int → Option (Int ⊕ (Bool ⊕ Unit)) := fun s0 => match s0 with
  | s13 =>
    if decide (s13 < (p0.length : Int)) then
      Option.bind (idxO p0 s13) fun x23 =>
      Option.bind (idxO p1 s13) fun x28 =>
      if x23 != x28 then
        some (.inr (.inl false))
      else
        some (.inl (w64 (s13 + 1)))
    else
      some (.inr (.inr ()))
noncomputable def F_slices_Equal___bool_bool_ (p0 : (List Bool)) (p1 : (List Bool)) : Option Bool :=
  if (p0.length : Int) != (p1.length : Int) then
    some false
  else
    Option.bind (α := Unit ⊕ Bool) (
      Option.bind (whileO (slices_Equal___bool_bool__l1 p0 p1) 0) fun z0 => match z0 with
        | .inl z =>
          some (.inr z)
        | .inr _ =>
          some (.inl ())) fun z0 => match z0 with
      | .inl _ =>
        some true
      | .inr z =>
        some z
set_option maxHeartbeats 4000000 in
set_option maxRecDepth 100000 in
theorem c_slices_Equal___bool_bool_ (E : Nat → Prop) (w0 : World) (p0 : (List Bool)) (v0 : Value) (p1 : (List Bool)) (v1 : Value) (r : Bool) (h : F_slices_Equal___bool_bool_ p0 p1 = some r) (S : St0 E [] w0 w0 [] [fRep (rL rB) (v0) p0, fRep (rL rB) (v1) p1]) :
    Calls Try.prog 70 #[v0, v1] w0 (Ret (X := Unit) E [] w0 (fun _ => .bool r) (fun _ => []) (fun _ => [])) := by
  unfold F_slices_Equal___bool_bool_ at h
  obtain ⟨ad1, cp2, _, rfl, _⟩ := S.know (i := 0) (e := fRep (rL rB) (v0) p0) rfl
  obtain ⟨ad3, cp4, _, rfl, _⟩ := S.know (i := 1) (e := fRep (rL rB) (v1) p1) rfl
  refine sEnter (args := [.slice ad1 p0.length cp2, .slice ad3 p1.length cp4]) 26 Try.func70 rfl rfl (by simp) S (fun a S => ?_)
  refine sSeq (fun K5 hK5 => ?_)
  refine sRegion ?_
  refine sMove (.bool false) S (wN rfl) (.inr rfl) rfl rfl (lb rfl) fun a S => ?_
  refine leafL (leafT (hK5 _ _ ?_))
  refine sSeq (fun K6 hK6 => ?_)
  refine sSeq (fun K7 hK7 => ?_)
  refine sRegion ?_
  refine sMove (.slice ad1 p0.length cp2) S (wN rfl) (.inl rfl) rfl rfl (lb rfl) fun a S => ?_
  refine sLen (ad := ad1) (m := p0.length) (c := cp2) S (wN rfl) rfl Try.underlying22 rfl rfl (lb rfl) fun a S => ?_
  refine sMove (.slice ad3 p1.length cp4) S (wN rfl) (.inl rfl) rfl rfl (lb rfl) fun a S => ?_
  refine sLen (ad := ad3) (m := p1.length) (c := cp4) S (wN rfl) rfl Try.underlying22 rfl rfl (lb rfl) fun a S => ?_
  refine sBin (.bool ((p0.length : Int) != (p1.length : Int))) S (wN rfl) rfl rfl rfl (bNe _ _ _ _ .i64 (p0.length : Int) (p1.length : Int)) rfl (lb rfl) fun a S => ?_
  refine leafL (leafT (hK7 _ _ ?_))
  rcases iteSome h with ⟨hc8, h⟩ | ⟨hc8, h⟩
  · refine sCondT S rfl hc8 ?_
    refine sSeq (fun K9 hK9 => ?_)
    refine sRegion ?_
    refine sMove (.bool false) S (wN rfl) (.inr rfl) rfl rfl (lb rfl) fun a S => ?_
    refine leafL (leafT (hK9 _ _ ?_))
    obtain rfl := Option.some.inj h
    exact wp_ret (rThen (sRet (.bool false) S (rsl1 rfl (rvT (t := 4) (v := .bool false) S rfl)) ⟨(), rfl, S.mem.sel [] [] (by decide) rfl rfl⟩))
  refine sCondF S rfl hc8 ?_
  refine wp_skip (leafT (hK6 _ _ ?_))
  obtain ⟨t10, h, g11⟩ := bindSome h
  refine sCut (fun a w => .inl () = t10 ∧ St [] E [] w0 26 a w [] [] []) ?_ (fun a w hI => ?_)
  rotate_left
  · obtain ⟨rfl, S⟩ := hI
    have h := g11
    clear g11
    try dsimp only at h
    refine sSeq (fun K41 hK41 => ?_)
    refine sRegion ?_
    refine sMove (.bool true) S (wN rfl) (.inr rfl) rfl rfl (lb rfl) fun a S => ?_
    refine leafL (leafT (hK41 _ _ ?_))
    obtain rfl := Option.some.inj h
    exact wp_ret (sRet (.bool true) S (rsl1 rfl (rvT (t := 4) (v := .bool true) S rfl)) ⟨(), rfl, S.mem.sel [] [] (by decide) rfl rfl⟩)
  refine sSeq (fun K12 hK12 => ?_)
  refine sRegion ?_
  refine sMove (.slice ad1 p0.length cp2) S (wN rfl) (.inl rfl) rfl rfl (lb rfl) fun a S => ?_
  refine sLen (ad := ad1) (m := p0.length) (c := cp2) S (wN rfl) rfl Try.underlying22 rfl rfl (lb rfl) fun a S => ?_
  refine sMove (iv 0) S (wN rfl) (.inl rfl) rfl rfl (lb rfl) fun a S => ?_
  refine leafL (leafT (hK12 _ _ ?_))
  refine wp_block ?_
  obtain ⟨t16, hl, g15⟩ := bindSome h
  refine sLoop hl (fun s0 a w => match s0 with | s13 => St [] E [] w0 26 a w [(0, .slice ad1 p0.length cp2), (1, .slice ad3 p1.length cp4), (12, iv (p0.length : Int)), (13, iv s13)] [] [fRep (rL rB) (.slice ad1 p0.length cp2) p0, fRep (rL rB) (.slice ad3 p1.length cp4) p1]) (S.fix [] [0, 1] (by decide) rfl rfl rfl) ?_
  clear hl h
  intro s13 a w c0 hI h hu14
  unfold slices_Equal___bool_bool__l1 at h
  dsimp only at h hI
  have S := hI
  refine sSeq (fun K17 hK17 => ?_)
  refine sRegion ?_
  refine sBin (.bool (decide (s13 < (p0.length : Int)))) S (wN rfl) rfl rfl rfl (bLt _ _ _ _ .i64 s13 (p0.length : Int)) rfl (lb rfl) fun a S => ?_
  refine leafL (leafT (hK17 _ _ ?_))
  refine sSeq (fun K18 hK18 => ?_)
  rcases iteSome h with ⟨hc19, h⟩ | ⟨hc19, h⟩
  rotate_left
  · refine sCondF S rfl hc19 ?_
    obtain rfl := Option.some.inj h
    obtain rfl := hu14 _ rfl
    have h := g15
    clear g15
    try dsimp only at h
    exact wp_exit (xThen (xThen (xHit (leafT (⟨Option.some.inj h, S.fix [] [] (by decide) rfl rfl rfl⟩)))))
  refine sCondT S rfl hc19 ?_
  refine wp_skip (leafT (hK18 _ _ ?_))
  refine sSeq (fun K20 hK20 => ?_)
  refine wp_block ?_
  refine sSeq (fun K21 hK21 => ?_)
  refine sRegion ?_
  refine sMove (iv s13) S (wN rfl) (.inl rfl) rfl rfl (lb rfl) fun a S => ?_
  refine sMove (iv s13) S (wN rfl) (.inr rfl) rfl rfl (lb rfl) fun a S => ?_
  refine leafL (leafT (hK21 _ _ ?_))
  refine sSeq (fun K22 hK22 => ?_)
  obtain ⟨x23, hx24, h⟩ := bindSome h
  obtain ⟨x28, hx29, h⟩ := bindSome h
  obtain ⟨q33, hq34, S⟩ := pIdx (P := Try.prog) (r := rB) (v := .slice ad1 p0.length cp2) (xs := p0) (j := s13) 22 4 0 S Try.underlying22 rfl rfl hx24
  obtain ⟨u35, S⟩ := pLoad (r := rB) (q := q33) (x := x23) 0 S rfl
  obtain rfl : u35 = .bool x23 := S.mem.know (i := 1) (e := fRep rB (u35) x23) rfl
  obtain ⟨q36, hq37, S⟩ := pIdx (P := Try.prog) (r := rB) (v := .slice ad3 p1.length cp4) (xs := p1) (j := s13) 22 4 4 S Try.underlying22 rfl rfl hx29
  obtain ⟨u38, S⟩ := pLoad (r := rB) (q := q36) (x := x28) 0 S rfl
  obtain rfl : u38 = .bool x28 := S.mem.know (i := 1) (e := fRep rB (u38) x28) rfl
  refine sDraw (nf := []) (W := [(0, 16, .slice ad1 p0.length cp2), (1, 17, iv s13), (2, 18, q33), (3, 19, .bool x23), (4, 20, .slice ad3 p1.length cp4), (5, 21, iv s13), (6, 22, q36), (7, 23, .bool x28), (8, 24, .bool (x23 != x28))]) rfl S ?_
  refine node_by (A := anc_slices_Equal___bool_bool__0) (nf := []) (Y := []) (W := [(0, 16, .slice ad1 p0.length cp2), (1, 17, iv s13), (2, 18, q33), (3, 19, .bool x23), (4, 20, .slice ad3 p1.length cp4), (5, 21, iv s13), (6, 22, q36), (7, 23, .bool x28), (8, 24, .bool (x23 != x28))]) 9 (by kernel_rfl) (by kernel_rfl) (by kernel_rfl) (by kernel_rfl) (by kernel_rfl) [0, 1, 2, 3, 4, 5, 6, 7, 8] (by kernel_rfl) (by decide) (by decide) (aF 0 8 (by decide) ?_ (aF 1 7 (by decide) ?_ (aF 2 6 (by decide) ?_ (aF 3 5 (by decide) ?_ (aF 4 4 (by decide) ?_ (aF 5 3 (by decide) ?_ (aF 6 2 (by decide) ?_ (aF 7 1 (by decide) ?_ (aF 8 0 (by decide) ?_ (trivial)))))))))) [(0, .slice ad1 p0.length cp2), (1, .slice ad3 p1.length cp4), (12, iv (p0.length : Int)), (13, iv s13), (24, .bool (x23 != x28))] (fin_of [none, none, none, none, some 8] rfl (by kernel_rfl) (by kernel_rfl)) (fun _ a w S => ?_)
  · refine fI 16 (.slice ad1 p0.length cp2) [(0, .slice ad1 p0.length cp2)] 0 [none] rfl rfl rfl rfl rfl rfl fun G a w S => ?_
    refine sMove (.slice ad1 p0.length cp2) S (wN rfl) (.inl rfl) rfl rfl (lb rfl) fun a S => ?_
    exact leafL ⟨rfl, S⟩
  · refine fI 17 (iv s13) [(5, iv s13)] 1 [none] rfl rfl rfl rfl rfl rfl fun G a w S => ?_
    refine sMove (iv s13) S (wN rfl) (.inl rfl) rfl rfl (lb rfl) fun a S => ?_
    exact leafL ⟨rfl, S⟩
  · refine fI 18 q33 [(16, .slice ad1 p0.length cp2), (17, iv s13)] 2 [some 0, some 1] rfl rfl rfl rfl rfl rfl fun G a w S => ?_
    refine sIdxV (v := .slice ad1 p0.length cp2) (k := .i64) (j := s13) S (wN rfl) rfl rfl rfl hq34 rfl (lb rfl) fun a S => ?_
    exact leafL ⟨rfl, S⟩
  · refine fI 19 (.bool x23) [(18, q33)] 3 [some 2] rfl rfl rfl rfl rfl rfl fun G a w S => ?_
    refine sLoadV1 (vq := q33) 3 (.bool x23) S (wN rfl) rfl rfl rfl rfl rfl (lb rfl) fun a S => ?_
    exact leafL ⟨rfl, S⟩
  · refine fI 20 (.slice ad3 p1.length cp4) [(1, .slice ad3 p1.length cp4)] 4 [none] rfl rfl rfl rfl rfl rfl fun G a w S => ?_
    refine sMove (.slice ad3 p1.length cp4) S (wN rfl) (.inl rfl) rfl rfl (lb rfl) fun a S => ?_
    exact leafL ⟨rfl, S⟩
  · refine fI 21 (iv s13) [(5, iv s13)] 5 [none] rfl rfl rfl rfl rfl rfl fun G a w S => ?_
    refine sMove (iv s13) S (wN rfl) (.inl rfl) rfl rfl (lb rfl) fun a S => ?_
    exact leafL ⟨rfl, S⟩
  · refine fI 22 q36 [(20, .slice ad3 p1.length cp4), (21, iv s13)] 6 [some 4, some 5] rfl rfl rfl rfl rfl rfl fun G a w S => ?_
    refine sIdxV (v := .slice ad3 p1.length cp4) (k := .i64) (j := s13) S (wN rfl) rfl rfl rfl hq37 rfl (lb rfl) fun a S => ?_
    exact leafL ⟨rfl, S⟩
  · refine fI 23 (.bool x28) [(22, q36)] 7 [some 6] rfl rfl rfl rfl rfl rfl fun G a w S => ?_
    refine sLoadV1 (vq := q36) 0 (.bool x28) S (wN rfl) rfl rfl rfl rfl rfl (lb rfl) fun a S => ?_
    exact leafL ⟨rfl, S⟩
  · refine fI 24 (.bool (x23 != x28)) [(19, .bool x23), (23, .bool x28)] 8 [some 3, some 7] rfl rfl rfl rfl rfl rfl fun G a w S => ?_
    refine sBin (.bool (x23 != x28)) S (wN rfl) rfl rfl rfl (bNeB _ _ _ _ Try.underlying4 x23 x28) rfl (lb rfl) fun a S => ?_
    exact leafL ⟨rfl, S⟩
  refine leafT (hK22 _ _ ?_)
  rcases iteSome h with ⟨hc39, h⟩ | ⟨hc39, h⟩
  rotate_left
  · refine sCondF S rfl hc39 ?_
    refine wp_skip (leafB (leafT (hK20 _ _ ?_)))
    refine sRegion ?_
    refine sBin (iv (w64 (s13 + 1))) S (wN rfl) rfl rfl rfl (bAdd _ _ _ _ s13 1) rfl (lb rfl) fun a S => ?_
    refine sMove (iv (w64 (s13 + 1))) S (wN rfl) (.inl rfl) rfl rfl (lb rfl) fun a S => ?_
    exact leafL (leafT (⟨w64 (s13 + 1), (Option.some.inj h).symm, (S.fix [] [6, 7] (by decide) rfl rfl rfl)⟩))
  refine sCondT S rfl hc39 ?_
  refine sSeq (fun K40 hK40 => ?_)
  refine sRegion ?_
  refine sMove (.bool false) S (wN rfl) (.inr rfl) rfl rfl (lb rfl) fun a S => ?_
  refine leafL (leafT (hK40 _ _ ?_))
  obtain rfl := Option.some.inj h
  obtain rfl := hu14 _ rfl
  have h := g15
  clear g15
  try dsimp only at h
  obtain rfl := Option.some.inj h
  have h := g11
  clear g11
  try dsimp only at h
  obtain rfl := Option.some.inj h
  exact wp_ret (rBlock (rThen (rThen (rBlock (rThen (sRet (.bool false) S (rsl1 rfl (rvT (t := 4) (v := .bool false) S rfl)) ⟨(), rfl, S.mem.sel [] [] (by decide) rfl rfl⟩))))))

end Go.Proofs.Ythfifeabomdlpaa
namespace Go.Proofs.Ythfifeabomdlpaa
open Go.RowKit
set_option linter.unusedVariables false

noncomputable def F_grid_Same (p0 : api_Grid) (p1 : api_Grid) : Option Bool :=
  Option.bind (α := Bool) (
    if p0.W == p1.W then
      if p0.H == p1.H then
        Option.bind (F_slices_Equal___bool_bool_ p0.Bits p1.Bits) fun r17 =>
        some r17
      else
        some false
    else
      some false) fun o12 =>
  some o12
set_option maxHeartbeats 4000000 in
set_option maxRecDepth 100000 in
theorem c_grid_Same (E : Nat → Prop) (w0 : World) (p0 : api_Grid) (v0 : Value) (p1 : api_Grid) (v1 : Value) (r : Bool) (h : F_grid_Same p0 p1 = some r) (S : St0 E [] w0 w0 [] [fRep r_api_Grid (v0) p0, fRep r_api_Grid (v1) p1]) :
    Calls Try.prog 48 #[v0, v1] w0 (Ret (X := Unit) E [] w0 (fun _ => .bool r) (fun _ => []) (fun _ => [])) := by
  unfold F_grid_Same at h
  obtain ⟨u1, rfl, hu2⟩ := S.know (i := 0) (e := fRep r_api_Grid (v0) p0) rfl
  have S := S.learn (fRep (rL rB) u1 p0.Bits) hu2
  obtain ⟨ad3, cp4, _, rfl, _⟩ := hu2
  obtain ⟨u5, rfl, hu6⟩ := S.know (i := 2) (e := fRep r_api_Grid (v1) p1) rfl
  have S := S.learn (fRep (rL rB) u5 p1.Bits) hu6
  obtain ⟨ad7, cp8, _, rfl, _⟩ := hu6
  refine sEnter (args := [.agg #[iv p0.W, iv p0.H, .slice ad3 p0.Bits.length cp4], .agg #[iv p1.W, iv p1.H, .slice ad7 p1.Bits.length cp8]]) 24 Try.func48 rfl rfl (by simp) S (fun a S => ?_)
  refine sSeq (fun K9 hK9 => ?_)
  refine sRegion ?_
  refine sBox (v := .agg #[iv p0.W, iv p0.H, .slice ad3 p0.Bits.length cp4]) S (wN rfl) rfl rfl [iv p0.W, iv p0.H, .slice ad3 p0.Bits.length cp4] rfl rfl (lb rfl) fun a b10 w S => ?_
  refine sBox (v := .agg #[iv p1.W, iv p1.H, .slice ad7 p1.Bits.length cp8]) S (wN rfl) rfl rfl [iv p1.W, iv p1.H, .slice ad7 p1.Bits.length cp8] rfl rfl (lb rfl) fun a b11 w S => ?_
  refine sMove (.bool false) S (wN rfl) (.inr rfl) rfl rfl (lb rfl) fun a S => ?_
  refine leafL (leafT (hK9 _ _ ?_))
  obtain ⟨t13, h, g14⟩ := bindSome h
  refine sCut (fun a w => ∃ o12, o12 = t13 ∧ St [] E [] w0 24 a w [(4, .bool o12)] [] []) ?_ (fun a w hI => ?_)
  rotate_left
  · obtain ⟨o12, rfl, S⟩ := hI
    have h := g14
    clear g14
    try dsimp only at h
    obtain rfl := Option.some.inj h
    exact wp_ret (sRet (.bool o12) S (rsl1 rfl (rvT (t := 4) (v := .bool o12) S rfl)) ⟨(), rfl, S.mem.sel [] [] (by decide) rfl rfl⟩)
  refine sRegion ?_
  refine sField (b := b10) (off := 0) 0 0 S (wN rfl) rfl rfl rfl rfl rfl (lb rfl) fun a S => ?_
  refine sLoad1 (p := b10) (off := 0) (T := 24) (vs := [iv p0.W, iv p0.H, .slice ad3 p0.Bits.length cp4]) 1 (iv p0.W) S (wN rfl) rfl rfl rfl rfl rfl rfl (lb rfl) fun a S => ?_
  refine sField (b := b11) (off := 0) 0 0 S (wN rfl) rfl rfl rfl rfl rfl (lb rfl) fun a S => ?_
  refine sLoad1 (p := b11) (off := 0) (T := 24) (vs := [iv p1.W, iv p1.H, .slice ad7 p1.Bits.length cp8]) 0 (iv p1.W) S (wN rfl) rfl rfl rfl rfl rfl rfl (lb rfl) fun a S => ?_
  refine sBin (.bool (p0.W == p1.W)) S (wN rfl) rfl rfl rfl (bEq _ _ _ _ .i64 p0.W p1.W) rfl (lb rfl) fun a S => ?_
  refine sMove (.bool (p0.W == p1.W)) S (wN rfl) (.inl rfl) rfl rfl (lb rfl) fun a S => ?_
  rcases iteSome h with ⟨hc15, h⟩ | ⟨hc15, h⟩
  rotate_left
  · refine sSkip 5 true 10 11 S rfl rfl rfl hc15 rfl (lb rfl) fun a S => ?_
    refine sSkip 5 true 10 12 S rfl rfl rfl hc15 rfl (lb rfl) fun a S => ?_
    refine sSkip 5 true 10 13 S rfl rfl rfl hc15 rfl (lb rfl) fun a S => ?_
    refine sSkip 5 true 10 14 S rfl rfl rfl hc15 rfl (lb rfl) fun a S => ?_
    refine sSkip 5 true 10 15 S rfl rfl rfl hc15 rfl (lb rfl) fun a S => ?_
    refine sPickF (.bool false) S (wN rfl) rfl rfl hc15 rfl rfl (lb rfl) fun a S => ?_
    refine sMove (.bool false) S (wN rfl) (.inl rfl) rfl rfl (lb rfl) fun a S => ?_
    refine sSkip 12 true 17 18 S rfl rfl rfl rfl rfl (lb rfl) fun a S => ?_
    refine sSkip 12 true 17 19 S rfl rfl rfl rfl rfl (lb rfl) fun a S => ?_
    refine sSkip 12 true 17 20 S rfl rfl rfl rfl rfl (lb rfl) fun a S => ?_
    refine sSkip 12 true 17 21 S rfl rfl rfl rfl rfl (lb rfl) fun a S => ?_
    refine sSkip 12 true 17 22 S rfl rfl rfl rfl rfl (lb rfl) fun a S => ?_
    refine sPickF (.bool false) S (wN rfl) rfl rfl rfl rfl rfl (lb rfl) fun a S => ?_
    refine sMove (.bool false) S (wN rfl) (.inr rfl) rfl rfl (lb rfl) fun a S => ?_
    exact leafL (leafT (⟨false, Option.some.inj h, S.fix [] [] (by decide) rfl rfl rfl⟩))
  refine sField (b := b10) (off := 0) 1 1 S (wG 5 true 10 rfl rfl rfl hc15) rfl rfl rfl rfl rfl (lb rfl) fun a S => ?_
  refine sLoad1 (p := b10) (off := 1) (T := 24) (vs := [iv p0.W, iv p0.H, .slice ad3 p0.Bits.length cp4]) 1 (iv p0.H) S (wG 5 true 10 rfl rfl rfl hc15) rfl rfl rfl rfl rfl rfl (lb rfl) fun a S => ?_
  refine sField (b := b11) (off := 0) 1 1 S (wG 5 true 10 rfl rfl rfl hc15) rfl rfl rfl rfl rfl (lb rfl) fun a S => ?_
  refine sLoad1 (p := b11) (off := 1) (T := 24) (vs := [iv p1.W, iv p1.H, .slice ad7 p1.Bits.length cp8]) 0 (iv p1.H) S (wG 5 true 10 rfl rfl rfl hc15) rfl rfl rfl rfl rfl rfl (lb rfl) fun a S => ?_
  refine sBin (.bool (p0.H == p1.H)) S (wG 5 true 10 rfl rfl rfl hc15) rfl rfl rfl (bEq _ _ _ _ .i64 p0.H p1.H) rfl (lb rfl) fun a S => ?_
  refine sPickT (.bool (p0.H == p1.H)) S (wN rfl) rfl rfl hc15 rfl rfl (lb rfl) fun a S => ?_
  refine sMove (.bool (p0.H == p1.H)) S (wN rfl) (.inl rfl) rfl rfl (lb rfl) fun a S => ?_
  rcases iteSome h with ⟨hc16, h⟩ | ⟨hc16, h⟩
  rotate_left
  · refine sSkip 12 true 17 18 S rfl rfl rfl hc16 rfl (lb rfl) fun a S => ?_
    refine sSkip 12 true 17 19 S rfl rfl rfl hc16 rfl (lb rfl) fun a S => ?_
    refine sSkip 12 true 17 20 S rfl rfl rfl hc16 rfl (lb rfl) fun a S => ?_
    refine sSkip 12 true 17 21 S rfl rfl rfl hc16 rfl (lb rfl) fun a S => ?_
    refine sSkip 12 true 17 22 S rfl rfl rfl hc16 rfl (lb rfl) fun a S => ?_
    refine sPickF (.bool false) S (wN rfl) rfl rfl hc16 rfl rfl (lb rfl) fun a S => ?_
    refine sMove (.bool false) S (wN rfl) (.inr rfl) rfl rfl (lb rfl) fun a S => ?_
    exact leafL (leafT (⟨false, Option.some.inj h, S.fix [] [] (by decide) rfl rfl rfl⟩))
  refine sField (b := b10) (off := 0) 2 2 S (wG 12 true 17 rfl rfl rfl hc16) rfl rfl rfl rfl rfl (lb rfl) fun a S => ?_
  refine sLoad1 (p := b10) (off := 2) (T := 24) (vs := [iv p0.W, iv p0.H, .slice ad3 p0.Bits.length cp4]) 1 (.slice ad3 p0.Bits.length cp4) S (wG 12 true 17 rfl rfl rfl hc16) rfl rfl rfl rfl rfl rfl (lb rfl) fun a S => ?_
  refine sField (b := b11) (off := 0) 2 2 S (wG 12 true 17 rfl rfl rfl hc16) rfl rfl rfl rfl rfl (lb rfl) fun a S => ?_
  refine sLoad1 (p := b11) (off := 2) (T := 24) (vs := [iv p1.W, iv p1.H, .slice ad7 p1.Bits.length cp8]) 0 (.slice ad7 p1.Bits.length cp8) S (wG 12 true 17 rfl rfl rfl hc16) rfl rfl rfl rfl rfl rfl (lb rfl) fun a S => ?_
  obtain ⟨r17, hx18, h⟩ := bindSome h
  have S1 := S.mem
  refine sCallQ (X := Unit) (f := 70) (vs := [.slice ad3 p0.Bits.length cp4, .slice ad7 p1.Bits.length cp8]) (val := fun _ => .bool r17) S (wG 12 true 17 rfl rfl rfl hc16) rfl callee70 rfl (S1.quiet [1, 0] rfl) (fun E1 w1 S1 => c_slices_Equal___bool_bool_ E1 w1 p0.Bits (.slice ad3 p0.Bits.length cp4) p1.Bits (.slice ad7 p1.Bits.length cp8) r17 hx18 S1) rfl (lb rfl) fun _ a w S => ?_
  refine sPickT (.bool r17) S (wN rfl) rfl rfl hc16 rfl rfl (lb rfl) fun a S => ?_
  refine sMove (.bool r17) S (wN rfl) (.inr rfl) rfl rfl (lb rfl) fun a S => ?_
  exact leafL (leafT (⟨r17, Option.some.inj h, S.fix [] [] (by decide) rfl rfl rfl⟩))

end Go.Proofs.Ythfifeabomdlpaa
namespace Go.Proofs.Ythfifeabomdlpaa
open Go.RowKit
set_option linter.unusedVariables false

noncomputable def F_block_Units_1_s0 (p0 : api_Grid) (p1 : api_Grid) : Option Bool :=
  Option.bind (F_grid_Same p0 p1) fun r13 =>
  some r13
set_option maxHeartbeats 4000000 in
set_option maxRecDepth 100000 in
theorem c_block_Units_1_s0 (E : Nat → Prop) (w0 : World) (p0 : api_Grid) (v0 : Value) (p1 : api_Grid) (v1 : Value) (r : Bool) (h : F_block_Units_1_s0 p0 p1 = some r) (S : St0 E [] w0 w0 [] [fRep r_api_Grid (v0) p0, fPtr r_api_Grid (v1) p1]) :
    Calls Try.prog 52 #[v0, v1] w0 (Ret (X := Unit) E [] w0 (fun _ => .bool r) (fun _ => []) (fun _ => [])) := by
  unfold F_block_Units_1_s0 at h
  obtain ⟨u1, rfl, hu2⟩ := S.know (i := 0) (e := fRep r_api_Grid (v0) p0) rfl
  have S := S.learn (fRep (rL rB) u1 p0.Bits) hu2
  obtain ⟨ad3, cp4, _, rfl, _⟩ := hu2
  refine sEnter (args := [.agg #[iv p0.W, iv p0.H, .slice ad3 p0.Bits.length cp4], v1]) 7 Try.func52 rfl rfl (by simp) S (fun a S => ?_)
  refine sSeq (fun K5 hK5 => ?_)
  refine sRegion ?_
  refine sBox (v := .agg #[iv p0.W, iv p0.H, .slice ad3 p0.Bits.length cp4]) S (wN rfl) rfl rfl [iv p0.W, iv p0.H, .slice ad3 p0.Bits.length cp4] rfl rfl (lb rfl) fun a b6 w S => ?_
  refine sMove (.bool false) S (wN rfl) (.inr rfl) rfl rfl (lb rfl) fun a S => ?_
  refine leafL (leafT (hK5 _ _ ?_))
  refine sSeq (fun K7 hK7 => ?_)
  refine sRegion ?_
  refine sLoadN (p := b6) (off := 0) (T := 24) (vs := [iv p0.W, iv p0.H, .slice ad3 p0.Bits.length cp4]) 0 [iv p0.W, iv p0.H, .slice ad3 p0.Bits.length cp4] S (wN rfl) rfl rfl rfl rfl rfl rfl rfl (lb rfl) fun a S => ?_
  obtain ⟨u8, S⟩ := pLoad (r := r_api_Grid) (q := v1) (x := p1) 2 S rfl
  obtain ⟨u9, rfl, hu10⟩ := S.mem.know (i := 1) (e := fRep r_api_Grid (u8) p1) rfl
  have S := S.learn (fRep (rL rB) u9 p1.Bits) hu10
  obtain ⟨ad11, cp12, _, rfl, _⟩ := hu10
  refine sLoadVN (vq := v1) 1 [iv p1.W, iv p1.H, .slice ad11 p1.Bits.length cp12] S (wN rfl) rfl rfl rfl rfl rfl rfl (lb rfl) fun a S => ?_
  obtain ⟨r13, hx14, h⟩ := bindSome h
  have S1 := S.mem
  refine sCallQ (X := Unit) (f := 48) (vs := [.agg #[iv p0.W, iv p0.H, .slice ad3 p0.Bits.length cp4], .agg #[iv p1.W, iv p1.H, .slice ad11 p1.Bits.length cp12]]) (val := fun _ => .bool r13) S (wN rfl) rfl callee48 rfl (S1.quiet [4, 2] rfl) (fun E1 w1 S1 => c_grid_Same E1 w1 p0 (.agg #[iv p0.W, iv p0.H, .slice ad3 p0.Bits.length cp4]) p1 (.agg #[iv p1.W, iv p1.H, .slice ad11 p1.Bits.length cp12]) r13 hx14 S1) rfl (lb rfl) fun _ a w S => ?_
  refine sMove (.bool r13) S (wN rfl) (.inr rfl) rfl rfl (lb rfl) fun a S => ?_
  refine leafL (leafT (hK7 _ _ ?_))
  obtain rfl := Option.some.inj h
  exact wp_ret (sRet (.bool r13) S (rsl1 rfl (rvT (t := 3) (v := .bool r13) S rfl)) ⟨(), rfl, S.mem.sel [] [] (by decide) rfl rfl⟩)

end Go.Proofs.Ythfifeabomdlpaa
namespace Go.Proofs.Ythfifeabomdlpaa
open Go.RowKit
set_option linter.unusedVariables false

noncomputable def slices_IndexFunc___api_Grid_api_Grid__s0_l1 (p0 : (List api_Grid)) (p1 : api_Grid) : Int → Option (Int ⊕ (Int ⊕ Unit)) := fun s0 => match s0 with
  | s7 =>
    if decide (s7 < (p0.length : Int)) then
      Option.bind (idxO p0 s7) fun x17 =>
      Option.bind (F_block_Units_1_s0 x17 p1) fun r26 =>
      if r26 then
        some (.inr (.inl s7))
      else
        some (.inl (w64 (s7 + 1)))
    else
      some (.inr (.inr ()))
noncomputable def F_slices_IndexFunc___api_Grid_api_Grid__s0 (p0 : (List api_Grid)) (p1 : api_Grid) : Option Int :=
  Option.bind (α := Unit ⊕ Int) (
    Option.bind (whileO (slices_IndexFunc___api_Grid_api_Grid__s0_l1 p0 p1) 0) fun z0 => match z0 with
      | .inl z =>
        some (.inr z)
      | .inr _ =>
        some (.inl ())) fun z0 => match z0 with
    | .inl _ =>
      some (-1)
    | .inr z =>
      some z
set_option maxHeartbeats 4000000 in
set_option maxRecDepth 100000 in
theorem c_slices_IndexFunc___api_Grid_api_Grid__s0 (E : Nat → Prop) (w0 : World) (p0 : (List api_Grid)) (v0 : Value) (p1 : api_Grid) (v1 : Value) (r : Int) (h : F_slices_IndexFunc___api_Grid_api_Grid__s0 p0 p1 = some r) (S : St0 E [] w0 w0 [] [fRep (rL r_api_Grid) (v0) p0, fPtr r_api_Grid (v1) p1]) :
    Calls Try.prog 51 #[v0, .func (.func 52) #[] #[v1]] w0 (Ret (X := Unit) E [] w0 (fun _ => .int .i64 r) (fun _ => []) (fun _ => [])) := by
  unfold F_slices_IndexFunc___api_Grid_api_Grid__s0 at h
  obtain ⟨ad1, cp2, _, rfl, _⟩ := S.know (i := 0) (e := fRep (rL r_api_Grid) (v0) p0) rfl
  refine sEnter (args := [.slice ad1 p0.length cp2, .func (.func 52) #[] #[v1]]) 19 Try.func51 rfl rfl (by simp) S (fun a S => ?_)
  refine sSeq (fun K3 hK3 => ?_)
  refine sRegion ?_
  refine sMove (iv 0) S (wN rfl) (.inr rfl) rfl rfl (lb rfl) fun a S => ?_
  refine leafL (leafT (hK3 _ _ ?_))
  obtain ⟨t4, h, g5⟩ := bindSome h
  refine sCut (fun a w => .inl () = t4 ∧ St [] E [] w0 19 a w [] [] []) ?_ (fun a w hI => ?_)
  rotate_left
  · obtain ⟨rfl, S⟩ := hI
    have h := g5
    clear g5
    try dsimp only at h
    refine sSeq (fun K30 hK30 => ?_)
    refine sRegion ?_
    refine sMove (iv (-1)) S (wN rfl) (.inr rfl) rfl rfl (lb rfl) fun a S => ?_
    refine leafL (leafT (hK30 _ _ ?_))
    obtain rfl := Option.some.inj h
    exact wp_ret (sRet (iv (-1)) S (rsl1 rfl (rvT (t := 4) (v := iv (-1)) S rfl)) ⟨(), rfl, S.mem.sel [] [] (by decide) rfl rfl⟩)
  refine sSeq (fun K6 hK6 => ?_)
  refine sRegion ?_
  refine sMove (.slice ad1 p0.length cp2) S (wN rfl) (.inl rfl) rfl rfl (lb rfl) fun a S => ?_
  refine sLen (ad := ad1) (m := p0.length) (c := cp2) S (wN rfl) rfl Try.underlying34 rfl rfl (lb rfl) fun a S => ?_
  refine sMove (iv 0) S (wN rfl) (.inl rfl) rfl rfl (lb rfl) fun a S => ?_
  refine leafL (leafT (hK6 _ _ ?_))
  refine wp_block ?_
  obtain ⟨t10, hl, g9⟩ := bindSome h
  refine sLoop hl (fun s0 a w => match s0 with | s7 => St [] E [] w0 19 a w [(0, .slice ad1 p0.length cp2), (1, .func (.func 52) #[] #[v1]), (7, iv (p0.length : Int)), (8, iv s7)] [] [fPtr r_api_Grid (v1) p1, fRep (rL r_api_Grid) (.slice ad1 p0.length cp2) p0]) (S.fix [] [1, 0] (by decide) rfl rfl rfl) ?_
  clear hl h
  intro s7 a w c0 hI h hu8
  unfold slices_IndexFunc___api_Grid_api_Grid__s0_l1 at h
  dsimp only at h hI
  have S := hI
  refine sSeq (fun K11 hK11 => ?_)
  refine sRegion ?_
  refine sBin (.bool (decide (s7 < (p0.length : Int)))) S (wN rfl) rfl rfl rfl (bLt _ _ _ _ .i64 s7 (p0.length : Int)) rfl (lb rfl) fun a S => ?_
  refine leafL (leafT (hK11 _ _ ?_))
  refine sSeq (fun K12 hK12 => ?_)
  rcases iteSome h with ⟨hc13, h⟩ | ⟨hc13, h⟩
  rotate_left
  · refine sCondF S rfl hc13 ?_
    obtain rfl := Option.some.inj h
    obtain rfl := hu8 _ rfl
    have h := g9
    clear g9
    try dsimp only at h
    exact wp_exit (xThen (xThen (xHit (leafT (⟨Option.some.inj h, S.fix [] [] (by decide) rfl rfl rfl⟩)))))
  refine sCondT S rfl hc13 ?_
  refine wp_skip (leafT (hK12 _ _ ?_))
  refine sSeq (fun K14 hK14 => ?_)
  refine wp_block ?_
  refine sSeq (fun K15 hK15 => ?_)
  refine sRegion ?_
  refine sMove (iv s7) S (wN rfl) (.inl rfl) rfl rfl (lb rfl) fun a S => ?_
  refine sMove (iv s7) S (wN rfl) (.inr rfl) rfl rfl (lb rfl) fun a S => ?_
  refine leafL (leafT (hK15 _ _ ?_))
  refine sSeq (fun K16 hK16 => ?_)
  refine sRegion ?_
  refine sMove (.func (.func 52) #[] #[v1]) S (wN rfl) (.inl rfl) rfl rfl (lb rfl) fun a S => ?_
  refine sMove (.slice ad1 p0.length cp2) S (wN rfl) (.inl rfl) rfl rfl (lb rfl) fun a S => ?_
  refine sMove (iv s7) S (wN rfl) (.inl rfl) rfl rfl (lb rfl) fun a S => ?_
  obtain ⟨x17, hx18, h⟩ := bindSome h
  obtain ⟨q19, hq20, S⟩ := pIdx (P := Try.prog) (r := r_api_Grid) (v := .slice ad1 p0.length cp2) (xs := p0) (j := s7) 34 24 1 S Try.underlying34 rfl rfl hx18
  refine sIdxV (v := .slice ad1 p0.length cp2) (k := .i64) (j := s7) S (wN rfl) rfl rfl rfl hq20 rfl (lb rfl) fun a S => ?_
  obtain ⟨u21, S⟩ := pLoad (r := r_api_Grid) (q := q19) (x := x17) 0 S rfl
  obtain ⟨u22, rfl, hu23⟩ := S.mem.know (i := 1) (e := fRep r_api_Grid (u21) x17) rfl
  have S := S.learn (fRep (rL rB) u22 x17.Bits) hu23
  obtain ⟨ad24, cp25, _, rfl, _⟩ := hu23
  refine sLoadVN (vq := q19) 1 [iv x17.W, iv x17.H, .slice ad24 x17.Bits.length cp25] S (wN rfl) rfl rfl rfl rfl rfl rfl (lb rfl) fun a S => ?_
  obtain ⟨r26, hx27, h⟩ := bindSome h
  have S1 := S.mem
  refine sCallVQ (X := Unit) (g := 52) (vs := [.agg #[iv x17.W, iv x17.H, .slice ad24 x17.Bits.length cp25]]) (caps := [v1]) (val := fun _ => .bool r26) S (wN rfl) rfl rfl callee52 rfl (S1.quiet [2, 4] rfl) (fun E1 w1 S1 => c_block_Units_1_s0 E1 w1 x17 (.agg #[iv x17.W, iv x17.H, .slice ad24 x17.Bits.length cp25]) p1 v1 r26 hx27 S1) rfl (lb rfl) fun _ a w S => ?_
  refine leafL (leafT (hK16 _ _ ?_))
  rcases iteSome h with ⟨hc28, h⟩ | ⟨hc28, h⟩
  rotate_left
  · refine sCondF S rfl hc28 ?_
    refine wp_skip (leafB (leafT (hK14 _ _ ?_)))
    refine sRegion ?_
    refine sBin (iv (w64 (s7 + 1))) S (wN rfl) rfl rfl rfl (bAdd _ _ _ _ s7 1) rfl (lb rfl) fun a S => ?_
    refine sMove (iv (w64 (s7 + 1))) S (wN rfl) (.inl rfl) rfl rfl (lb rfl) fun a S => ?_
    exact leafL (leafT (⟨w64 (s7 + 1), (Option.some.inj h).symm, (S.fix [] [4, 5] (by decide) rfl rfl rfl)⟩))
  refine sCondT S rfl hc28 ?_
  refine sSeq (fun K29 hK29 => ?_)
  refine sRegion ?_
  refine sMove (iv s7) S (wN rfl) (.inl rfl) rfl rfl (lb rfl) fun a S => ?_
  refine sMove (iv s7) S (wN rfl) (.inr rfl) rfl rfl (lb rfl) fun a S => ?_
  refine leafL (leafT (hK29 _ _ ?_))
  obtain rfl := Option.some.inj h
  obtain rfl := hu8 _ rfl
  have h := g9
  clear g9
  try dsimp only at h
  obtain rfl := Option.some.inj h
  have h := g5
  clear g5
  try dsimp only at h
  obtain rfl := Option.some.inj h
  exact wp_ret (rBlock (rThen (rThen (rBlock (rThen (sRet (iv s7) S (rsl1 rfl (rvT (t := 4) (v := iv s7) S rfl)) ⟨(), rfl, S.mem.sel [] [] (by decide) rfl rfl⟩))))))

end Go.Proofs.Ythfifeabomdlpaa
namespace Go.Proofs.Ythfifeabomdlpaa
open Go.RowKit
set_option linter.unusedVariables false

noncomputable def block_Units_l1 (z69 : Int) (p0 : api_Grid) (p1 : Int) (p2 : Int) (s46 : Int) : (List api_Grid × List Int × Int) → Option ((List api_Grid × List Int × Int) ⊕ (List api_Grid × List Int)) := fun s0 => match s0 with
  | (s71, s74, s77) =>
    if decide (s77 < z69) then
      Option.bind (F_block_part p0 p1 p2 s77 s46) fun r93 =>
      Option.bind (F_slices_IndexFunc___api_Grid_api_Grid__s0 s71 r93) fun r102 =>
      Option.bind (α := (List api_Grid × Int)) (
        if decide (r102 < 0) then
          Option.bind (appO s71 [r93]) fun l115 =>
          some (l115, (s71.length : Int))
        else
          some (s71, r102)) fun (o104, o107) =>
      Option.bind (appO s74 ([o107] : List Int)) fun l121 =>
      some (.inl (o104, l121, w64 (s77 + 1)))
    else
      some (.inr (s71, s74))
noncomputable def block_Units_l2 (z38 : Int) (p0 : api_Grid) (p1 : Int) (p2 : Int) : (List api_Grid × List Int × Int) → Option ((List api_Grid × List Int × Int) ⊕ (List api_Grid × List Int)) := fun s0 => match s0 with
  | (s40, s43, s46) =>
    if decide (s46 < z38) then
      Option.bind (α := (List api_Grid × List Int)) (
        Option.bind (quoI p0.W p1) fun z69 =>
        Option.bind (whileO (block_Units_l1 z69 p0 p1 p2 s46) (s40, s43, 0)) fun (e81, e84) =>
          some (e81, e84)) fun (o59, o62) =>
      some (.inl (o59, o62, w64 (s46 + 1)))
    else
      some (.inr (s40, s43))
noncomputable def F_block_Units (p0 : api_Grid) (p1 : Int) (p2 : Int) : Option ((List api_Grid) × (List Int) × Int) :=
  Option.bind (F_block_checked [p0]) fun r11 =>
  if r11 != 0 then
    some (([] : (List api_Grid)), ([] : (List Int)), r11)
  else
    Option.bind (α := Bool) (
      if decide (p1 < 1) then
        some true
      else
        if decide (p2 < 1) then
          some true
        else
          Option.bind (remI p0.W p1) fun z22 =>
          if z22 != 0 then
            some true
          else
            Option.bind (remI p0.H p2) fun z25 =>
            some (z25 != 0)) fun o17 =>
    if o17 then
      some (([] : (List api_Grid)), ([] : (List Int)), 26)
    else
      Option.bind (α := (List api_Grid × List Int)) (
        Option.bind (quoI p0.H p2) fun z38 =>
        Option.bind (whileO (block_Units_l2 z38 p0 p1 p2) (([] : List api_Grid), ([] : List Int), 0)) fun (e50, e53) =>
          some (e50, e53)) fun (o29, o32) =>
      some (o29, o32, 0)
def c_block_Units_val (r : ((List api_Grid) × (List Int) × Int)) (x : Value × Value) : Value := .tuple #[x.1, x.2, .int .i64 r.2.2]
def c_block_Units_D (r : ((List api_Grid) × (List Int) × Int)) (x : Value × Value) : List Fact := [fRep (rL r_api_Grid) x.1 r.1, fRep (rL (rI .i64)) x.2 r.2.1]
set_option maxHeartbeats 4000000 in
set_option maxRecDepth 100000 in
theorem c_block_Units (E : Nat → Prop) (w0 : World) (p0 : api_Grid) (v0 : Value) (p1 : Int) (p2 : Int) (r : ((List api_Grid) × (List Int) × Int)) (h : F_block_Units p0 p1 p2 = some r) (S : St0 E [] w0 w0 [] [fRep r_api_Grid (v0) p0]) :
    Calls Try.prog 19 #[v0, iv p1, iv p2] w0 (Ret (X := Value × Value) E [] w0 (c_block_Units_val r) (fun _ => []) (c_block_Units_D r)) := by
  unfold F_block_Units at h
  obtain ⟨u1, rfl, hu2⟩ := S.know (i := 0) (e := fRep r_api_Grid (v0) p0) rfl
  have S := S.learn (fRep (rL rB) u1 p0.Bits) hu2
  obtain ⟨ad3, cp4, _, rfl, _⟩ := hu2
  refine sEnter (args := [.agg #[iv p0.W, iv p0.H, .slice ad3 p0.Bits.length cp4], iv p1, iv p2]) 79 Try.func19 rfl rfl (by simp) S (fun a S => ?_)
  refine sSeq (fun K5 hK5 => ?_)
  refine sRegion ?_
  refine sBox (v := .agg #[iv p0.W, iv p0.H, .slice ad3 p0.Bits.length cp4]) S (wN rfl) rfl rfl [iv p0.W, iv p0.H, .slice ad3 p0.Bits.length cp4] rfl rfl (lb rfl) fun a b6 w S => ?_
  refine sMove (.slice none 0 0) S (wN rfl) (.inr rfl) rfl rfl (lb rfl) fun a S => ?_
  refine sMove (.slice none 0 0) S (wN rfl) (.inr rfl) rfl rfl (lb rfl) fun a S => ?_
  refine sMove (iv 0) S (wN rfl) (.inr rfl) rfl rfl (lb rfl) fun a S => ?_
  refine leafL (leafT (hK5 _ _ ?_))
  refine sSeq (fun K7 hK7 => ?_)
  refine sSeq (fun K8 hK8 => ?_)
  refine sRegion ?_
  refine sLoadN (p := b6) (off := 0) (T := 24) (vs := [iv p0.W, iv p0.H, .slice ad3 p0.Bits.length cp4]) 0 [iv p0.W, iv p0.H, .slice ad3 p0.Bits.length cp4] S (wN rfl) rfl rfl rfl rfl rfl rfl rfl (lb rfl) fun a S => ?_
  refine sLit (r := r_api_Grid) (T := 24) (xs := [p0]) [(0, .agg #[iv p0.W, iv p0.H, .slice ad3 p0.Bits.length cp4])] 1 [.agg #[iv p0.W, iv p0.H, .slice ad3 p0.Bits.length cp4]] [iv p0.W, iv p0.H, .slice ad3 p0.Bits.length cp4] (.agg #[iv 0, iv 0, .slice none 0 0]) 40 S (wN rfl) rfl rfl Try.underlying34 rfl (by decide) (by decide) (by kernel_rfl) rfl (fun E1 w1 hE => All.cons (r_api_Grid.mono hE (S.mem.know (i := 1) (e := fRep r_api_Grid (.agg #[iv p0.W, iv p0.H, .slice ad3 p0.Bits.length cp4]) p0) rfl)) (All.nil _ _ _)) rfl rfl (lb rfl) fun a w ad9 cp10 S => ?_
  obtain ⟨r11, hx12, h⟩ := bindSome h
  have S1 := S.mem
  have S1 := S1.shutR (r := r_api_Grid) (T := 24) (v := .slice ad9 [p0].length cp10) (xs := [p0]) 0 rfl
  refine sCallQ (X := Unit) (f := 41) (vs := [.slice ad9 [p0].length cp10]) (val := fun _ => iv r11) S (wN rfl) rfl callee41 rfl (S1.quiet [0] rfl) (fun E1 w1 S1 => c_block_checked E1 w1 [p0] (.slice ad9 [p0].length cp10) r11 hx12 S1) rfl (lb rfl) fun _ a w S => ?_
  refine sMove (iv r11) S (wN rfl) (.inr rfl) rfl rfl (lb rfl) fun a S => ?_
  refine leafL (leafT (hK8 _ _ ?_))
  refine sSeq (fun K13 hK13 => ?_)
  refine sRegion ?_
  refine sMove (iv r11) S (wN rfl) (.inl rfl) rfl rfl (lb rfl) fun a S => ?_
  refine sBin (.bool (r11 != 0)) S (wN rfl) rfl rfl rfl (bNe _ _ _ _ .i64 r11 0) rfl (lb rfl) fun a S => ?_
  refine leafL (leafT (hK13 _ _ ?_))
  rcases iteSome h with ⟨hc14, h⟩ | ⟨hc14, h⟩
  · refine sCondT S rfl hc14 ?_
    refine sSeq (fun K15 hK15 => ?_)
    refine sRegion ?_
    refine sMove (iv r11) S (wN rfl) (.inl rfl) rfl rfl (lb rfl) fun a S => ?_
    refine sMove (.slice none 0 0) S (wN rfl) (.inr rfl) rfl rfl (lb rfl) fun a S => ?_
    refine sMove (.slice none 0 0) S (wN rfl) (.inr rfl) rfl rfl (lb rfl) fun a S => ?_
    refine sMove (iv r11) S (wN rfl) (.inr rfl) rfl rfl (lb rfl) fun a S => ?_
    refine leafL (leafT (hK15 _ _ ?_))
    obtain rfl := Option.some.inj h
    have S := S.learn (fRep (rL r_api_Grid) (.slice none 0 0) ([] : (List api_Grid))) (rL_nil _ _ _)
    have S := S.learn (fRep (rL (rI .i64)) (.slice none 0 0) ([] : (List Int))) (rL_nil _ _ _)
    exact wp_ret (rThen (sRet (.tuple #[.slice none 0 0, .slice none 0 0, iv r11]) S (rsl3 rfl (rvT (t := 6) (v := .slice none 0 0) S rfl) (rvT (t := 7) (v := .slice none 0 0) S rfl) (rvT (t := 8) (v := iv r11) S rfl)) ⟨((.slice none 0 0), (.slice none 0 0)), rfl, S.mem.sel [] [1, 0] (by decide) rfl rfl⟩))
  refine sCondF S rfl hc14 ?_
  refine wp_skip (leafT (hK7 _ _ ?_))
  refine sSeq (fun K16 hK16 => ?_)
  obtain ⟨t18, h, g19⟩ := bindSome h
  refine sCut (fun a w => ∃ o17, o17 = t18 ∧ St [] E [] w0 79 a w [(1, iv p1), (2, iv p2), (3, .pointer (some ⟨b6, 0, none⟩)), (6, .slice none 0 0), (7, .slice none 0 0), (39, .bool o17)] [eBox b6 24 [iv p0.W, iv p0.H, .slice ad3 p0.Bits.length cp4]] [fRep (rL rB) (.slice ad3 p0.Bits.length cp4) p0.Bits]) ?_ (fun a w hI => ?_)
  · refine sRegion ?_
    refine sMove (iv p1) S (wN rfl) (.inl rfl) rfl rfl (lb rfl) fun a S => ?_
    refine sBin (.bool (decide (p1 < 1))) S (wN rfl) rfl rfl rfl (bLt _ _ _ _ .i64 p1 1) rfl (lb rfl) fun a S => ?_
    refine sMove (.bool (decide (p1 < 1))) S (wN rfl) (.inl rfl) rfl rfl (lb rfl) fun a S => ?_
    rcases iteSome h with ⟨hc20, h⟩ | ⟨hc20, h⟩
    · refine sSkip 2 false 22 23 S rfl rfl rfl hc20 rfl (lb rfl) fun a S => ?_
      refine sSkip 2 false 22 24 S rfl rfl rfl hc20 rfl (lb rfl) fun a S => ?_
      refine sPickT (.bool true) S (wN rfl) rfl rfl hc20 rfl rfl (lb rfl) fun a S => ?_
      refine sMove (.bool true) S (wN rfl) (.inl rfl) rfl rfl (lb rfl) fun a S => ?_
      refine sSkip 6 false 26 27 S rfl rfl rfl rfl rfl (lb rfl) fun a S => ?_
      refine sSkip 6 false 26 28 S rfl rfl rfl rfl rfl (lb rfl) fun a S => ?_
      refine sSkip 6 false 26 29 S rfl rfl rfl rfl rfl (lb rfl) fun a S => ?_
      refine sSkip 6 false 26 30 S rfl rfl rfl rfl rfl (lb rfl) fun a S => ?_
      refine sSkip 6 false 26 31 S rfl rfl rfl rfl rfl (lb rfl) fun a S => ?_
      refine sPickT (.bool true) S (wN rfl) rfl rfl rfl rfl rfl (lb rfl) fun a S => ?_
      refine sMove (.bool true) S (wN rfl) (.inl rfl) rfl rfl (lb rfl) fun a S => ?_
      refine sSkip 13 false 33 34 S rfl rfl rfl rfl rfl (lb rfl) fun a S => ?_
      refine sSkip 13 false 33 35 S rfl rfl rfl rfl rfl (lb rfl) fun a S => ?_
      refine sSkip 13 false 33 36 S rfl rfl rfl rfl rfl (lb rfl) fun a S => ?_
      refine sSkip 13 false 33 37 S rfl rfl rfl rfl rfl (lb rfl) fun a S => ?_
      refine sSkip 13 false 33 38 S rfl rfl rfl rfl rfl (lb rfl) fun a S => ?_
      refine sPickT (.bool true) S (wN rfl) rfl rfl rfl rfl rfl (lb rfl) fun a S => ?_
      exact leafL (leafT (⟨true, Option.some.inj h, S.fix [1] [0] (by decide) rfl rfl rfl⟩))
    refine sMove (iv p2) S (wG 2 false 22 rfl rfl rfl hc20) (.inl rfl) rfl rfl (lb rfl) fun a S => ?_
    refine sBin (.bool (decide (p2 < 1))) S (wG 2 false 22 rfl rfl rfl hc20) rfl rfl rfl (bLt _ _ _ _ .i64 p2 1) rfl (lb rfl) fun a S => ?_
    refine sPickF (.bool (decide (p2 < 1))) S (wN rfl) rfl rfl hc20 rfl rfl (lb rfl) fun a S => ?_
    refine sMove (.bool (decide (p2 < 1))) S (wN rfl) (.inl rfl) rfl rfl (lb rfl) fun a S => ?_
    rcases iteSome h with ⟨hc21, h⟩ | ⟨hc21, h⟩
    · refine sSkip 6 false 26 27 S rfl rfl rfl hc21 rfl (lb rfl) fun a S => ?_
      refine sSkip 6 false 26 28 S rfl rfl rfl hc21 rfl (lb rfl) fun a S => ?_
      refine sSkip 6 false 26 29 S rfl rfl rfl hc21 rfl (lb rfl) fun a S => ?_
      refine sSkip 6 false 26 30 S rfl rfl rfl hc21 rfl (lb rfl) fun a S => ?_
      refine sSkip 6 false 26 31 S rfl rfl rfl hc21 rfl (lb rfl) fun a S => ?_
      refine sPickT (.bool true) S (wN rfl) rfl rfl hc21 rfl rfl (lb rfl) fun a S => ?_
      refine sMove (.bool true) S (wN rfl) (.inl rfl) rfl rfl (lb rfl) fun a S => ?_
      refine sSkip 13 false 33 34 S rfl rfl rfl rfl rfl (lb rfl) fun a S => ?_
      refine sSkip 13 false 33 35 S rfl rfl rfl rfl rfl (lb rfl) fun a S => ?_
      refine sSkip 13 false 33 36 S rfl rfl rfl rfl rfl (lb rfl) fun a S => ?_
      refine sSkip 13 false 33 37 S rfl rfl rfl rfl rfl (lb rfl) fun a S => ?_
      refine sSkip 13 false 33 38 S rfl rfl rfl rfl rfl (lb rfl) fun a S => ?_
      refine sPickT (.bool true) S (wN rfl) rfl rfl rfl rfl rfl (lb rfl) fun a S => ?_
      exact leafL (leafT (⟨true, Option.some.inj h, S.fix [1] [0] (by decide) rfl rfl rfl⟩))
    refine sField (b := b6) (off := 0) 0 0 S (wG 6 false 26 rfl rfl rfl hc21) rfl rfl rfl rfl rfl (lb rfl) fun a S => ?_
    refine sLoad1 (p := b6) (off := 0) (T := 24) (vs := [iv p0.W, iv p0.H, .slice ad3 p0.Bits.length cp4]) 1 (iv p0.W) S (wG 6 false 26 rfl rfl rfl hc21) rfl rfl rfl rfl rfl rfl (lb rfl) fun a S => ?_
    refine sMove (iv p1) S (wG 6 false 26 rfl rfl rfl hc21) (.inl rfl) rfl rfl (lb rfl) fun a S => ?_
    obtain ⟨z22, hx23, h⟩ := bindSome h
    refine sBin (iv z22) S (wG 6 false 26 rfl rfl rfl hc21) rfl rfl rfl (bRem _ _ _ _ (x := p0.W) (y := p1) hx23) rfl (lb rfl) fun a S => ?_
    refine sBin (.bool (z22 != 0)) S (wG 6 false 26 rfl rfl rfl hc21) rfl rfl rfl (bNe _ _ _ _ .i64 z22 0) rfl (lb rfl) fun a S => ?_
    refine sPickF (.bool (z22 != 0)) S (wN rfl) rfl rfl hc21 rfl rfl (lb rfl) fun a S => ?_
    refine sMove (.bool (z22 != 0)) S (wN rfl) (.inl rfl) rfl rfl (lb rfl) fun a S => ?_
    rcases iteSome h with ⟨hc24, h⟩ | ⟨hc24, h⟩
    · refine sSkip 13 false 33 34 S rfl rfl rfl hc24 rfl (lb rfl) fun a S => ?_
      refine sSkip 13 false 33 35 S rfl rfl rfl hc24 rfl (lb rfl) fun a S => ?_
      refine sSkip 13 false 33 36 S rfl rfl rfl hc24 rfl (lb rfl) fun a S => ?_
      refine sSkip 13 false 33 37 S rfl rfl rfl hc24 rfl (lb rfl) fun a S => ?_
      refine sSkip 13 false 33 38 S rfl rfl rfl hc24 rfl (lb rfl) fun a S => ?_
      refine sPickT (.bool true) S (wN rfl) rfl rfl hc24 rfl rfl (lb rfl) fun a S => ?_
      exact leafL (leafT (⟨true, Option.some.inj h, S.fix [1] [0] (by decide) rfl rfl rfl⟩))
    refine sField (b := b6) (off := 0) 1 1 S (wG 13 false 33 rfl rfl rfl hc24) rfl rfl rfl rfl rfl (lb rfl) fun a S => ?_
    refine sLoad1 (p := b6) (off := 1) (T := 24) (vs := [iv p0.W, iv p0.H, .slice ad3 p0.Bits.length cp4]) 1 (iv p0.H) S (wG 13 false 33 rfl rfl rfl hc24) rfl rfl rfl rfl rfl rfl (lb rfl) fun a S => ?_
    refine sMove (iv p2) S (wG 13 false 33 rfl rfl rfl hc24) (.inl rfl) rfl rfl (lb rfl) fun a S => ?_
    obtain ⟨z25, hx26, h⟩ := bindSome h
    refine sBin (iv z25) S (wG 13 false 33 rfl rfl rfl hc24) rfl rfl rfl (bRem _ _ _ _ (x := p0.H) (y := p2) hx26) rfl (lb rfl) fun a S => ?_
    refine sBin (.bool (z25 != 0)) S (wG 13 false 33 rfl rfl rfl hc24) rfl rfl rfl (bNe _ _ _ _ .i64 z25 0) rfl (lb rfl) fun a S => ?_
    refine sPickF (.bool (z25 != 0)) S (wN rfl) rfl rfl hc24 rfl rfl (lb rfl) fun a S => ?_
    exact leafL (leafT (⟨z25 != 0, Option.some.inj h, S.fix [1] [0] (by decide) rfl rfl rfl⟩))
  obtain ⟨o17, rfl, S⟩ := hI
  have h := g19
  clear g19
  try dsimp only at h
  rcases iteSome h with ⟨hc27, h⟩ | ⟨hc27, h⟩
  · refine sCondT S rfl hc27 ?_
    refine sSeq (fun K28 hK28 => ?_)
    refine sRegion ?_
    refine sMove (.slice none 0 0) S (wN rfl) (.inr rfl) rfl rfl (lb rfl) fun a S => ?_
    refine sMove (.slice none 0 0) S (wN rfl) (.inr rfl) rfl rfl (lb rfl) fun a S => ?_
    refine sMove (iv 26) S (wN rfl) (.inr rfl) rfl rfl (lb rfl) fun a S => ?_
    refine leafL (leafT (hK28 _ _ ?_))
    obtain rfl := Option.some.inj h
    have S := S.learn (fRep (rL r_api_Grid) (.slice none 0 0) ([] : (List api_Grid))) (rL_nil _ _ _)
    have S := S.learn (fRep (rL (rI .i64)) (.slice none 0 0) ([] : (List Int))) (rL_nil _ _ _)
    exact wp_ret (rThen (sRet (.tuple #[.slice none 0 0, .slice none 0 0, iv 26]) S (rsl3 rfl (rvT (t := 6) (v := .slice none 0 0) S rfl) (rvT (t := 7) (v := .slice none 0 0) S rfl) (rvT (t := 8) (v := iv 26) S rfl)) ⟨((.slice none 0 0), (.slice none 0 0)), rfl, S.mem.sel [] [1, 0] (by decide) rfl rfl⟩))
  refine sCondF S rfl hc27 ?_
  refine wp_skip (leafT (hK16 _ _ ?_))
  obtain ⟨t35, h, g36⟩ := bindSome h
  refine sCut (fun a w => ∃ o29, ∃ o32, (o29, o32) = t35 ∧ ∃ ad30, ∃ cp31, ∃ ad33, ∃ cp34, St [] E [] w0 79 a w [(6, .slice ad30 o29.length cp31), (7, .slice ad33 o32.length cp34)] [eRow r_api_Grid 24 (.slice ad30 o29.length cp31) o29, eRow (rI .i64) 3 (.slice ad33 o32.length cp34) o32] []) ?_ (fun a w hI => ?_)
  rotate_left
  · obtain ⟨o29, o32, rfl, ad30, cp31, ad33, cp34, S⟩ := hI
    have h := g36
    clear g36
    try dsimp only at h
    refine sSeq (fun K125 hK125 => ?_)
    refine sRegion ?_
    refine sMove (.slice ad30 o29.length cp31) S (wN rfl) (.inl rfl) rfl rfl (lb rfl) fun a S => ?_
    refine sMove (.slice ad33 o32.length cp34) S (wN rfl) (.inl rfl) rfl rfl (lb rfl) fun a S => ?_
    refine sMove (.slice ad30 o29.length cp31) S (wN rfl) (.inr rfl) rfl rfl (lb rfl) fun a S => ?_
    refine sMove (.slice ad33 o32.length cp34) S (wN rfl) (.inr rfl) rfl rfl (lb rfl) fun a S => ?_
    refine sMove (iv 0) S (wN rfl) (.inr rfl) rfl rfl (lb rfl) fun a S => ?_
    refine leafL (leafT (hK125 _ _ ?_))
    obtain rfl := Option.some.inj h
    have S := S.shutR (r := r_api_Grid) (T := 24) (v := .slice ad30 o29.length cp31) (xs := o29) 0 rfl
    have S := S.shutR (r := (rI .i64)) (T := 3) (v := .slice ad33 o32.length cp34) (xs := o32) 0 rfl
    exact wp_ret (sRet (.tuple #[.slice ad30 o29.length cp31, .slice ad33 o32.length cp34, iv 0]) S (rsl3 rfl (rvT (t := 6) (v := .slice ad30 o29.length cp31) S rfl) (rvT (t := 7) (v := .slice ad33 o32.length cp34) S rfl) (rvT (t := 8) (v := iv 0) S rfl)) ⟨((.slice ad30 o29.length cp31), (.slice ad33 o32.length cp34)), rfl, S.mem.sel [] [1, 0] (by decide) rfl rfl⟩)
  refine sSeq (fun K37 hK37 => ?_)
  refine sRegion ?_
  refine sField (b := b6) (off := 0) 1 1 S (wN rfl) rfl rfl rfl rfl rfl (lb rfl) fun a S => ?_
  refine sLoad1 (p := b6) (off := 1) (T := 24) (vs := [iv p0.W, iv p0.H, .slice ad3 p0.Bits.length cp4]) 0 (iv p0.H) S (wN rfl) rfl rfl rfl rfl rfl rfl (lb rfl) fun a S => ?_
  refine sMove (iv p2) S (wN rfl) (.inl rfl) rfl rfl (lb rfl) fun a S => ?_
  obtain ⟨z38, hx39, h⟩ := bindSome h
  refine sBin (iv z38) S (wN rfl) rfl rfl rfl (bQuo _ _ _ _ (x := p0.H) (y := p2) hx39) rfl (lb rfl) fun a S => ?_
  refine sMove (iv 0) S (wN rfl) (.inl rfl) rfl rfl (lb rfl) fun a S => ?_
  refine leafL (leafT (hK37 _ _ ?_))
  refine wp_block ?_
  have S := S.nilRow r_api_Grid 24 (α := api_Grid)
  have S := S.nilRow (rI .i64) 3 (α := Int)
  obtain ⟨t49, hl, g48⟩ := bindSome h
  refine sLoop hl (fun s0 a w => match s0 with | (s40, s43, s46) => ∃ ad41, ∃ cp42, ∃ ad44, ∃ cp45, St [] E [] w0 79 a w [(1, iv p1), (2, iv p2), (3, .pointer (some ⟨b6, 0, none⟩)), (6, .slice ad41 s40.length cp42), (7, .slice ad44 s43.length cp45), (43, iv z38), (44, iv s46)] [eBox b6 24 [iv p0.W, iv p0.H, .slice ad3 p0.Bits.length cp4], eRow r_api_Grid 24 (.slice ad41 s40.length cp42) s40, eRow (rI .i64) 3 (.slice ad44 s43.length cp45) s43] [fRep (rL rB) (.slice ad3 p0.Bits.length cp4) p0.Bits]) ⟨none, 0, none, 0, S.fix [2, 1, 0] [0] (by decide) rfl rfl rfl⟩ ?_
  clear hl h
  intro s0 a w c0 hI h hu47
  obtain ⟨s40, s43, s46⟩ := s0
  unfold block_Units_l2 at h
  dsimp only at h hI
  obtain ⟨ad41, cp42, ad44, cp45, S⟩ := hI
  refine sSeq (fun K56 hK56 => ?_)
  refine sRegion ?_
  refine sBin (.bool (decide (s46 < z38))) S (wN rfl) rfl rfl rfl (bLt _ _ _ _ .i64 s46 z38) rfl (lb rfl) fun a S => ?_
  refine leafL (leafT (hK56 _ _ ?_))
  refine sSeq (fun K57 hK57 => ?_)
  rcases iteSome h with ⟨hc58, h⟩ | ⟨hc58, h⟩
  rotate_left
  · refine sCondF S rfl hc58 ?_
    obtain rfl := Option.some.inj h
    obtain rfl := hu47 _ rfl
    have h := g48
    clear g48
    try dsimp only at h
    exact wp_exit (xThen (xThen (xHit (leafT (⟨s40, s43, Option.some.inj h, ad41, cp42, ad44, cp45, S.fix [1, 2] [] (by decide) rfl rfl rfl⟩)))))
  refine sCondT S rfl hc58 ?_
  refine wp_skip (leafT (hK57 _ _ ?_))
  obtain ⟨t65, h, g66⟩ := bindSome h
  refine sCut (fun a w => ∃ o59, ∃ o62, (o59, o62) = t65 ∧ ∃ ad60, ∃ cp61, ∃ ad63, ∃ cp64, St [] E [] w0 79 a w [(1, iv p1), (2, iv p2), (3, .pointer (some ⟨b6, 0, none⟩)), (6, .slice ad60 o59.length cp61), (7, .slice ad63 o62.length cp64), (43, iv z38), (44, iv s46)] [eBox b6 24 [iv p0.W, iv p0.H, .slice ad3 p0.Bits.length cp4], eRow r_api_Grid 24 (.slice ad60 o59.length cp61) o59, eRow (rI .i64) 3 (.slice ad63 o62.length cp64) o62] [fRep (rL rB) (.slice ad3 p0.Bits.length cp4) p0.Bits]) ?_ (fun a w hI => ?_)
  rotate_left
  · obtain ⟨o59, o62, rfl, ad60, cp61, ad63, cp64, S⟩ := hI
    have h := g66
    clear g66
    try dsimp only at h
    refine sRegion ?_
    refine sBin (iv (w64 (s46 + 1))) S (wN rfl) rfl rfl rfl (bAdd _ _ _ _ s46 1) rfl (lb rfl) fun a S => ?_
    refine sMove (iv (w64 (s46 + 1))) S (wN rfl) (.inl rfl) rfl rfl (lb rfl) fun a S => ?_
    exact leafL (leafT (⟨(o59, o62, w64 (s46 + 1)), (Option.some.inj h).symm, ⟨ad60, cp61, ad63, cp64, S.fix [0, 1, 2] [0] (by decide) rfl rfl rfl⟩⟩))
  refine wp_block ?_
  refine sSeq (fun K67 hK67 => ?_)
  refine sRegion ?_
  refine sMove (iv s46) S (wN rfl) (.inl rfl) rfl rfl (lb rfl) fun a S => ?_
  refine sMove (iv s46) S (wN rfl) (.inr rfl) rfl rfl (lb rfl) fun a S => ?_
  refine leafL (leafT (hK67 _ _ ?_))
  refine sSeq (fun K68 hK68 => ?_)
  refine sRegion ?_
  refine sField (b := b6) (off := 0) 0 0 S (wN rfl) rfl rfl rfl rfl rfl (lb rfl) fun a S => ?_
  refine sLoad1 (p := b6) (off := 0) (T := 24) (vs := [iv p0.W, iv p0.H, .slice ad3 p0.Bits.length cp4]) 0 (iv p0.W) S (wN rfl) rfl rfl rfl rfl rfl rfl (lb rfl) fun a S => ?_
  refine sMove (iv p1) S (wN rfl) (.inl rfl) rfl rfl (lb rfl) fun a S => ?_
  obtain ⟨z69, hx70, h⟩ := bindSome h
  refine sBin (iv z69) S (wN rfl) rfl rfl rfl (bQuo _ _ _ _ (x := p0.W) (y := p1) hx70) rfl (lb rfl) fun a S => ?_
  refine sMove (iv 0) S (wN rfl) (.inl rfl) rfl rfl (lb rfl) fun a S => ?_
  refine leafL (leafT (hK68 _ _ ?_))
  refine wp_block ?_
  obtain ⟨t80, hl, g79⟩ := bindSome h
  refine sLoop hl (fun s0 a w => match s0 with | (s71, s74, s77) => ∃ ad72, ∃ cp73, ∃ ad75, ∃ cp76, St [] E [] w0 79 a w [(1, iv p1), (2, iv p2), (3, .pointer (some ⟨b6, 0, none⟩)), (6, .slice ad72 s71.length cp73), (7, .slice ad75 s74.length cp76), (10, iv s46), (43, iv z38), (44, iv s46), (50, iv z69), (51, iv s77)] [eBox b6 24 [iv p0.W, iv p0.H, .slice ad3 p0.Bits.length cp4], eRow r_api_Grid 24 (.slice ad72 s71.length cp73) s71, eRow (rI .i64) 3 (.slice ad75 s74.length cp76) s74] [fRep (rL rB) (.slice ad3 p0.Bits.length cp4) p0.Bits]) ⟨ad41, cp42, ad44, cp45, S.fix [0, 1, 2] [0] (by decide) rfl rfl rfl⟩ ?_
  clear hl h
  intro s0 a w c0 hI h hu78
  obtain ⟨s71, s74, s77⟩ := s0
  unfold block_Units_l1 at h
  dsimp only at h hI
  obtain ⟨ad72, cp73, ad75, cp76, S⟩ := hI
  refine sSeq (fun K87 hK87 => ?_)
  refine sRegion ?_
  refine sBin (.bool (decide (s77 < z69))) S (wN rfl) rfl rfl rfl (bLt _ _ _ _ .i64 s77 z69) rfl (lb rfl) fun a S => ?_
  refine leafL (leafT (hK87 _ _ ?_))
  refine sSeq (fun K88 hK88 => ?_)
  rcases iteSome h with ⟨hc89, h⟩ | ⟨hc89, h⟩
  rotate_left
  · refine sCondF S rfl hc89 ?_
    obtain rfl := Option.some.inj h
    obtain rfl := hu78 _ rfl
    have h := g79
    clear g79
    try dsimp only at h
    exact wp_exit (xThen (xThen (xHit (leafB (leafT (⟨s71, s74, Option.some.inj h, ad72, cp73, ad75, cp76, S.fix [0, 1, 2] [0] (by decide) rfl rfl rfl⟩))))))
  refine sCondT S rfl hc89 ?_
  refine wp_skip (leafT (hK88 _ _ ?_))
  refine sSeq (fun K90 hK90 => ?_)
  refine wp_block ?_
  refine sSeq (fun K91 hK91 => ?_)
  refine sRegion ?_
  refine sMove (iv s77) S (wN rfl) (.inl rfl) rfl rfl (lb rfl) fun a S => ?_
  refine sMove (iv s77) S (wN rfl) (.inr rfl) rfl rfl (lb rfl) fun a S => ?_
  refine leafL (leafT (hK91 _ _ ?_))
  refine sSeq (fun K92 hK92 => ?_)
  refine sRegion ?_
  refine sLoadN (p := b6) (off := 0) (T := 24) (vs := [iv p0.W, iv p0.H, .slice ad3 p0.Bits.length cp4]) 0 [iv p0.W, iv p0.H, .slice ad3 p0.Bits.length cp4] S (wN rfl) rfl rfl rfl rfl rfl rfl rfl (lb rfl) fun a S => ?_
  refine sMove (iv p1) S (wN rfl) (.inl rfl) rfl rfl (lb rfl) fun a S => ?_
  refine sMove (iv p2) S (wN rfl) (.inl rfl) rfl rfl (lb rfl) fun a S => ?_
  refine sMove (iv s77) S (wN rfl) (.inl rfl) rfl rfl (lb rfl) fun a S => ?_
  refine sMove (iv s46) S (wN rfl) (.inl rfl) rfl rfl (lb rfl) fun a S => ?_
  obtain ⟨r93, hx94, h⟩ := bindSome h
  have S := S.learn (fRep r_api_Grid (.agg #[iv p0.W, iv p0.H, .slice ad3 p0.Bits.length cp4]) p0) ⟨_, rfl, S.mem.know (i := 0) (e := fRep (rL rB) (.slice ad3 p0.Bits.length cp4) p0.Bits) rfl⟩
  refine sCall (X := Value) (f := 49) (vs := [.agg #[iv p0.W, iv p0.H, .slice ad3 p0.Bits.length cp4], iv p1, iv p2, iv s77, iv s46]) (val := c_block_part_val r93) (B' := fun _ => []) (D' := c_block_part_D r93) [] [eBox b6 24 [iv p0.W, iv p0.H, .slice ad3 p0.Bits.length cp4], eRow r_api_Grid 24 (.slice ad72 s71.length cp73) s71, eRow (rI .i64) 3 (.slice ad75 s74.length cp76) s74] [fRep r_api_Grid (.agg #[iv p0.W, iv p0.H, .slice ad3 p0.Bits.length cp4]) p0] [0, 1, 2] [0] S (wN rfl) rfl callee49 rfl (by decide) rfl rfl (fun E1 w1 S1 => c_block_part E1 w1 p0 (.agg #[iv p0.W, iv p0.H, .slice ad3 p0.Bits.length cp4]) p1 p2 s77 s46 r93 hx94 S1) rfl (lb rfl) fun u95 a w S => ?_
  obtain ⟨u96, rfl, hu97⟩ := S.mem.know (i := 0) (e := fRep r_api_Grid (u95) r93) rfl
  have S := S.learn (fRep (rL rB) u96 r93.Bits) hu97
  obtain ⟨ad98, cp99, _, rfl, _⟩ := hu97
  refine sAlloc (.agg #[iv 0, iv 0, .slice none 0 0]) S (wN rfl) rfl rfl [iv 0, iv 0, .slice none 0 0] rfl rfl (lb rfl) fun a b100 w S => ?_
  refine sStore (p := b100) (off := 0) (T := 24) (vs := [iv 0, iv 0, .slice none 0 0]) (v := .agg #[iv r93.W, iv r93.H, .slice ad98 r93.Bits.length cp99]) 0 [iv r93.W, iv r93.H, .slice ad98 r93.Bits.length cp99] S (wN rfl) rfl rfl rfl rfl rfl rfl rfl (by simp) rfl fun a w S => ?_
  refine leafL (leafT (hK92 _ _ ?_))
  refine sSeq (fun K101 hK101 => ?_)
  refine sRegion ?_
  refine sMove (.slice ad72 s71.length cp73) S (wN rfl) (.inl rfl) rfl rfl (lb rfl) fun a S => ?_
  refine sFunc (g := 52) (vs := [.pointer (some ⟨b100, 0, none⟩)]) S (wN rfl) rfl rfl rfl (lb rfl) fun a S => ?_
  obtain ⟨r102, hx103, h⟩ := bindSome h
  have S1 := S.mem
  have S1 := S1.shutR (r := r_api_Grid) (T := 24) (v := .slice ad72 s71.length cp73) (xs := s71) 2 rfl
  have S1 := S1.shutB (r := r_api_Grid) (T := 24) (b := b100) (cs := [iv r93.W, iv r93.H, .slice ad98 r93.Bits.length cp99]) 0 (.agg #[iv r93.W, iv r93.H, .slice ad98 r93.Bits.length cp99]) r93 rfl rfl (S1.know (i := 2) (e := fRep r_api_Grid (.agg #[iv r93.W, iv r93.H, .slice ad98 r93.Bits.length cp99]) r93) rfl)
  refine sCallQ (X := Unit) (f := 51) (vs := [.slice ad72 s71.length cp73, .func (.func 52) #[] #[.pointer (some ⟨b100, 0, none⟩)]]) (val := fun _ => iv r102) S (wN rfl) rfl callee51 rfl (S1.quiet [1, 0] rfl) (fun E1 w1 S1 => c_slices_IndexFunc___api_Grid_api_Grid__s0 E1 w1 s71 (.slice ad72 s71.length cp73) r93 (.pointer (some ⟨b100, 0, none⟩)) r102 hx103 S1) rfl (lb rfl) fun _ a w S => ?_
  refine sMove (iv r102) S (wN rfl) (.inr rfl) rfl rfl (lb rfl) fun a S => ?_
  refine leafL (leafT (hK101 _ _ ?_))
  obtain ⟨t108, h, g109⟩ := bindSome h
  refine sCut (fun a w => ∃ o104, ∃ o107, (o104, o107) = t108 ∧ ∃ ad105, ∃ cp106, St [] E [] w0 79 a w [(1, iv p1), (2, iv p2), (3, .pointer (some ⟨b6, 0, none⟩)), (6, .slice ad105 o104.length cp106), (7, .slice ad75 s74.length cp76), (10, iv s46), (13, iv o107), (43, iv z38), (44, iv s46), (50, iv z69), (51, iv s77)] [eBox b6 24 [iv p0.W, iv p0.H, .slice ad3 p0.Bits.length cp4], eRow r_api_Grid 24 (.slice ad105 o104.length cp106) o104, eRow (rI .i64) 3 (.slice ad75 s74.length cp76) s74] [fRep (rL rB) (.slice ad3 p0.Bits.length cp4) p0.Bits]) ?_ (fun a w hI => ?_)
  rotate_left
  · obtain ⟨o104, o107, rfl, ad105, cp106, S⟩ := hI
    have h := g109
    clear g109
    try dsimp only at h
    refine sRegion ?_
    refine sMove (.slice ad75 s74.length cp76) S (wN rfl) (.inl rfl) rfl rfl (lb rfl) fun a S => ?_
    refine sMove (iv o107) S (wN rfl) (.inl rfl) rfl rfl (lb rfl) fun a S => ?_
    refine sLit (r := (rI .i64)) (T := 3) (xs := ([o107] : List Int)) [(0, iv o107)] 1 [iv o107] [iv o107] (iv 0) 8 S (wN rfl) rfl rfl Try.underlying35 rfl (by decide) (by decide) (by kernel_rfl) rfl (fun E1 w1 hE => All.cons rfl (All.nil _ _ _)) rfl rfl (lb rfl) fun a w ad119 cp120 S => ?_
    obtain ⟨l121, hx122, h⟩ := bindSome h
    refine sApp (r := (rI .i64)) (T := 3) (xs := s74) (ys := ([o107] : List Int)) (v := .slice ad75 s74.length cp76) (u := .slice ad119 ([o107] : List Int).length cp120) 3 (iv 0) 8 S (wN rfl) rfl Try.underlying35 rfl rfl (by decide) rfl rfl rfl (src_R (T := 3) 0 S.mem rfl) hx122 rfl (lb rfl) fun a w ad123 cp124 S => ?_
    refine sMove (.slice ad123 l121.length cp124) S (wN rfl) (.inr rfl) rfl rfl (lb rfl) fun a S => ?_
    refine leafL (leafB (leafT (hK90 _ _ ?_)))
    refine sRegion ?_
    refine sBin (iv (w64 (s77 + 1))) S (wN rfl) rfl rfl rfl (bAdd _ _ _ _ s77 1) rfl (lb rfl) fun a S => ?_
    refine sMove (iv (w64 (s77 + 1))) S (wN rfl) (.inl rfl) rfl rfl (lb rfl) fun a S => ?_
    exact leafL (leafT (⟨(o104, l121, w64 (s77 + 1)), (Option.some.inj h).symm, ⟨ad105, cp106, ad123, cp124, S.fix [2, 3, 0] [0] (by decide) rfl rfl rfl⟩⟩))
  refine sSeq (fun K110 hK110 => ?_)
  refine sRegion ?_
  refine sMove (iv r102) S (wN rfl) (.inl rfl) rfl rfl (lb rfl) fun a S => ?_
  refine sBin (.bool (decide (r102 < 0))) S (wN rfl) rfl rfl rfl (bLt _ _ _ _ .i64 r102 0) rfl (lb rfl) fun a S => ?_
  refine leafL (leafT (hK110 _ _ ?_))
  rcases iteSome h with ⟨hc111, h⟩ | ⟨hc111, h⟩
  rotate_left
  · refine sCondF S rfl hc111 ?_
    exact wp_skip (leafT (⟨s71, r102, Option.some.inj h, ad72, cp73, S.fix [1, 2, 3] [3] (by decide) rfl rfl rfl⟩))
  refine sCondT S rfl hc111 ?_
  refine sSeq (fun K112 hK112 => ?_)
  refine sRegion ?_
  refine sMove (.slice ad72 s71.length cp73) S (wN rfl) (.inl rfl) rfl rfl (lb rfl) fun a S => ?_
  refine sLen (ad := ad72) (m := s71.length) (c := cp73) S (wN rfl) rfl Try.underlying34 rfl rfl (lb rfl) fun a S => ?_
  refine sMove (iv (s71.length : Int)) S (wN rfl) (.inr rfl) rfl rfl (lb rfl) fun a S => ?_
  refine leafL (leafT (hK112 _ _ ?_))
  refine sRegion ?_
  refine sMove (.slice ad72 s71.length cp73) S (wN rfl) (.inl rfl) rfl rfl (lb rfl) fun a S => ?_
  refine sLoadN (p := b100) (off := 0) (T := 24) (vs := [iv r93.W, iv r93.H, .slice ad98 r93.Bits.length cp99]) 0 [iv r93.W, iv r93.H, .slice ad98 r93.Bits.length cp99] S (wN rfl) rfl rfl rfl rfl rfl rfl rfl (lb rfl) fun a S => ?_
  refine sLit (r := r_api_Grid) (T := 24) (xs := [r93]) [(0, .agg #[iv r93.W, iv r93.H, .slice ad98 r93.Bits.length cp99])] 1 [.agg #[iv r93.W, iv r93.H, .slice ad98 r93.Bits.length cp99]] [iv r93.W, iv r93.H, .slice ad98 r93.Bits.length cp99] (.agg #[iv 0, iv 0, .slice none 0 0]) 40 S (wN rfl) rfl rfl Try.underlying34 rfl (by decide) (by decide) (by kernel_rfl) rfl (fun E1 w1 hE => All.cons (r_api_Grid.mono hE (S.mem.know (i := 1) (e := fRep r_api_Grid (.agg #[iv r93.W, iv r93.H, .slice ad98 r93.Bits.length cp99]) r93) rfl)) (All.nil _ _ _)) rfl rfl (lb rfl) fun a w ad113 cp114 S => ?_
  obtain ⟨l115, hx116, h⟩ := bindSome h
  refine sApp (r := r_api_Grid) (T := 24) (xs := s71) (ys := [r93]) (v := .slice ad72 s71.length cp73) (u := .slice ad113 [r93].length cp114) 3 (.agg #[iv 0, iv 0, .slice none 0 0]) 40 S (wN rfl) rfl Try.underlying34 rfl rfl (by decide) rfl rfl rfl (src_R (T := 24) 0 S.mem rfl) hx116 rfl (lb rfl) fun a w ad117 cp118 S => ?_
  refine sMove (.slice ad117 l115.length cp118) S (wN rfl) (.inr rfl) rfl rfl (lb rfl) fun a S => ?_
  exact leafL (leafT (⟨l115, (s71.length : Int), Option.some.inj h, ad117, cp118, S.fix [3, 0, 4] [3] (by decide) rfl rfl rfl⟩))

end Go.Proofs.Ythfifeabomdlpaa
namespace Go.Proofs.Ythfifeabomdlpaa
open Go.RowKit
set_option linter.unusedVariables false

def anc_raddleref02_Same_0 : List (List Nat) := [[], [], [0, 1], [0, 1, 2], [], [], [4, 5], [4, 5, 6], [0, 1, 2, 3, 4, 5, 6, 7]]
noncomputable def raddleref02_Same_l1 (p0 : (List Int)) (p1 : (List Int)) : Int → Option (Int ⊕ (Bool ⊕ Unit)) := fun s0 => match s0 with
  | s13 =>
    if decide (s13 < (p0.length : Int)) then
      Option.bind (idxO p0 s13) fun x22 =>
      Option.bind (idxO p1 s13) fun x27 =>
      if x22 != x27 then
        some (.inr (.inl false))
      else
        some (.inl (w64 (s13 + 1)))
    else
      some (.inr (.inr ()))
noncomputable def F_raddleref02_Same (p0 : (List Int)) (p1 : (List Int)) : Option Bool :=
  if (p0.length : Int) != (p1.length : Int) then
    some false
  else
    Option.bind (α := Unit ⊕ Bool) (
      Option.bind (whileO (raddleref02_Same_l1 p0 p1) 0) fun z0 => match z0 with
        | .inl z =>
          some (.inr z)
        | .inr _ =>
          some (.inl ())) fun z0 => match z0 with
      | .inl _ =>
        some true
      | .inr z =>
        some z
set_option maxHeartbeats 4000000 in
set_option maxRecDepth 100000 in
theorem c_raddleref02_Same (E : Nat → Prop) (w0 : World) (p0 : (List Int)) (v0 : Value) (p1 : (List Int)) (v1 : Value) (r : Bool) (h : F_raddleref02_Same p0 p1 = some r) (S : St0 E [] w0 w0 [] [fRep (rL (rI .i64)) (v0) p0, fRep (rL (rI .i64)) (v1) p1]) :
    Calls Try.prog 24 #[v0, v1] w0 (Ret (X := Unit) E [] w0 (fun _ => .bool r) (fun _ => []) (fun _ => [])) := by
  unfold F_raddleref02_Same at h
  obtain ⟨ad1, cp2, _, rfl, _⟩ := S.know (i := 0) (e := fRep (rL (rI .i64)) (v0) p0) rfl
  obtain ⟨ad3, cp4, _, rfl, _⟩ := S.know (i := 1) (e := fRep (rL (rI .i64)) (v1) p1) rfl
  refine sEnter (args := [.slice ad1 p0.length cp2, .slice ad3 p1.length cp4]) 26 Try.func24 rfl rfl (by simp) S (fun a S => ?_)
  refine sSeq (fun K5 hK5 => ?_)
  refine sRegion ?_
  refine sMove (.bool false) S (wN rfl) (.inr rfl) rfl rfl (lb rfl) fun a S => ?_
  refine leafL (leafT (hK5 _ _ ?_))
  refine sSeq (fun K6 hK6 => ?_)
  refine sSeq (fun K7 hK7 => ?_)
  refine sRegion ?_
  refine sMove (.slice ad1 p0.length cp2) S (wN rfl) (.inl rfl) rfl rfl (lb rfl) fun a S => ?_
  refine sLen (ad := ad1) (m := p0.length) (c := cp2) S (wN rfl) rfl Try.underlying35 rfl rfl (lb rfl) fun a S => ?_
  refine sMove (.slice ad3 p1.length cp4) S (wN rfl) (.inl rfl) rfl rfl (lb rfl) fun a S => ?_
  refine sLen (ad := ad3) (m := p1.length) (c := cp4) S (wN rfl) rfl Try.underlying35 rfl rfl (lb rfl) fun a S => ?_
  refine sBin (.bool ((p0.length : Int) != (p1.length : Int))) S (wN rfl) rfl rfl rfl (bNe _ _ _ _ .i64 (p0.length : Int) (p1.length : Int)) rfl (lb rfl) fun a S => ?_
  refine leafL (leafT (hK7 _ _ ?_))
  rcases iteSome h with ⟨hc8, h⟩ | ⟨hc8, h⟩
  · refine sCondT S rfl hc8 ?_
    refine sSeq (fun K9 hK9 => ?_)
    refine sRegion ?_
    refine sMove (.bool false) S (wN rfl) (.inr rfl) rfl rfl (lb rfl) fun a S => ?_
    refine leafL (leafT (hK9 _ _ ?_))
    obtain rfl := Option.some.inj h
    exact wp_ret (rThen (sRet (.bool false) S (rsl1 rfl (rvT (t := 4) (v := .bool false) S rfl)) ⟨(), rfl, S.mem.sel [] [] (by decide) rfl rfl⟩))
  refine sCondF S rfl hc8 ?_
  refine wp_skip (leafT (hK6 _ _ ?_))
  obtain ⟨t10, h, g11⟩ := bindSome h
  refine sCut (fun a w => .inl () = t10 ∧ St [] E [] w0 26 a w [] [] []) ?_ (fun a w hI => ?_)
  rotate_left
  · obtain ⟨rfl, S⟩ := hI
    have h := g11
    clear g11
    try dsimp only at h
    refine sSeq (fun K40 hK40 => ?_)
    refine sRegion ?_
    refine sMove (.bool true) S (wN rfl) (.inr rfl) rfl rfl (lb rfl) fun a S => ?_
    refine leafL (leafT (hK40 _ _ ?_))
    obtain rfl := Option.some.inj h
    exact wp_ret (sRet (.bool true) S (rsl1 rfl (rvT (t := 4) (v := .bool true) S rfl)) ⟨(), rfl, S.mem.sel [] [] (by decide) rfl rfl⟩)
  refine sSeq (fun K12 hK12 => ?_)
  refine sRegion ?_
  refine sMove (iv 0) S (wN rfl) (.inr rfl) rfl rfl (lb rfl) fun a S => ?_
  refine leafL (leafT (hK12 _ _ ?_))
  refine wp_block ?_
  obtain ⟨t16, hl, g15⟩ := bindSome h
  refine sLoop hl (fun s0 a w => match s0 with | s13 => St [] E [] w0 26 a w [(0, .slice ad1 p0.length cp2), (1, .slice ad3 p1.length cp4), (5, iv s13)] [] [fRep (rL (rI .i64)) (.slice ad1 p0.length cp2) p0, fRep (rL (rI .i64)) (.slice ad3 p1.length cp4) p1]) (S.fix [] [0, 1] (by decide) rfl rfl rfl) ?_
  clear hl h
  intro s13 a w c0 hI h hu14
  unfold raddleref02_Same_l1 at h
  dsimp only at h hI
  have S := hI
  refine sSeq (fun K17 hK17 => ?_)
  refine sSeq (fun K18 hK18 => ?_)
  refine sRegion ?_
  refine sMove (iv s13) S (wN rfl) (.inl rfl) rfl rfl (lb rfl) fun a S => ?_
  refine sMove (.slice ad1 p0.length cp2) S (wN rfl) (.inl rfl) rfl rfl (lb rfl) fun a S => ?_
  refine sLen (ad := ad1) (m := p0.length) (c := cp2) S (wN rfl) rfl Try.underlying35 rfl rfl (lb rfl) fun a S => ?_
  refine sBin (.bool (decide (s13 < (p0.length : Int)))) S (wN rfl) rfl rfl rfl (bLt _ _ _ _ .i64 s13 (p0.length : Int)) rfl (lb rfl) fun a S => ?_
  refine leafL (leafT (hK18 _ _ ?_))
  rcases iteSome h with ⟨hc19, h⟩ | ⟨hc19, h⟩
  rotate_left
  · refine sCondF S rfl hc19 ?_
    obtain rfl := Option.some.inj h
    obtain rfl := hu14 _ rfl
    have h := g15
    clear g15
    try dsimp only at h
    exact wp_exit (xThen (xThen (xHit (leafT (⟨Option.some.inj h, S.fix [] [] (by decide) rfl rfl rfl⟩)))))
  refine sCondT S rfl hc19 ?_
  refine wp_skip (leafT (hK17 _ _ ?_))
  refine sSeq (fun K20 hK20 => ?_)
  refine wp_block ?_
  refine sSeq (fun K21 hK21 => ?_)
  obtain ⟨x22, hx23, h⟩ := bindSome h
  obtain ⟨x27, hx28, h⟩ := bindSome h
  obtain ⟨q32, hq33, S⟩ := pIdx (P := Try.prog) (r := (rI .i64)) (v := .slice ad1 p0.length cp2) (xs := p0) (j := s13) 35 3 0 S Try.underlying35 rfl rfl hx23
  obtain ⟨u34, S⟩ := pLoad (r := (rI .i64)) (q := q32) (x := x22) 0 S rfl
  obtain rfl : u34 = iv x22 := S.mem.know (i := 1) (e := fRep (rI .i64) (u34) x22) rfl
  obtain ⟨q35, hq36, S⟩ := pIdx (P := Try.prog) (r := (rI .i64)) (v := .slice ad3 p1.length cp4) (xs := p1) (j := s13) 35 3 4 S Try.underlying35 rfl rfl hx28
  obtain ⟨u37, S⟩ := pLoad (r := (rI .i64)) (q := q35) (x := x27) 0 S rfl
  obtain rfl : u37 = iv x27 := S.mem.know (i := 1) (e := fRep (rI .i64) (u37) x27) rfl
  refine sDraw (nf := []) (W := [(0, 17, .slice ad1 p0.length cp2), (1, 18, iv s13), (2, 19, q32), (3, 20, iv x22), (4, 21, .slice ad3 p1.length cp4), (5, 22, iv s13), (6, 23, q35), (7, 24, iv x27), (8, 25, .bool (x22 != x27))]) rfl S ?_
  refine node_by (A := anc_raddleref02_Same_0) (nf := []) (Y := []) (W := [(0, 17, .slice ad1 p0.length cp2), (1, 18, iv s13), (2, 19, q32), (3, 20, iv x22), (4, 21, .slice ad3 p1.length cp4), (5, 22, iv s13), (6, 23, q35), (7, 24, iv x27), (8, 25, .bool (x22 != x27))]) 9 (by kernel_rfl) (by kernel_rfl) (by kernel_rfl) (by kernel_rfl) (by kernel_rfl) [0, 1, 2, 3, 4, 5, 6, 7, 8] (by kernel_rfl) (by decide) (by decide) (aF 0 8 (by decide) ?_ (aF 1 7 (by decide) ?_ (aF 2 6 (by decide) ?_ (aF 3 5 (by decide) ?_ (aF 4 4 (by decide) ?_ (aF 5 3 (by decide) ?_ (aF 6 2 (by decide) ?_ (aF 7 1 (by decide) ?_ (aF 8 0 (by decide) ?_ (trivial)))))))))) [(0, .slice ad1 p0.length cp2), (1, .slice ad3 p1.length cp4), (5, iv s13), (25, .bool (x22 != x27))] (fin_of [none, none, none, some 8] rfl (by kernel_rfl) (by kernel_rfl)) (fun _ a w S => ?_)
  · refine fI 17 (.slice ad1 p0.length cp2) [(0, .slice ad1 p0.length cp2)] 0 [none] rfl rfl rfl rfl rfl rfl fun G a w S => ?_
    refine sMove (.slice ad1 p0.length cp2) S (wN rfl) (.inl rfl) rfl rfl (lb rfl) fun a S => ?_
    exact leafL ⟨rfl, S⟩
  · refine fI 18 (iv s13) [(5, iv s13)] 1 [none] rfl rfl rfl rfl rfl rfl fun G a w S => ?_
    refine sMove (iv s13) S (wN rfl) (.inl rfl) rfl rfl (lb rfl) fun a S => ?_
    exact leafL ⟨rfl, S⟩
  · refine fI 19 q32 [(17, .slice ad1 p0.length cp2), (18, iv s13)] 2 [some 0, some 1] rfl rfl rfl rfl rfl rfl fun G a w S => ?_
    refine sIdxV (v := .slice ad1 p0.length cp2) (k := .i64) (j := s13) S (wN rfl) rfl rfl rfl hq33 rfl (lb rfl) fun a S => ?_
    exact leafL ⟨rfl, S⟩
  · refine fI 20 (iv x22) [(19, q32)] 3 [some 2] rfl rfl rfl rfl rfl rfl fun G a w S => ?_
    refine sLoadV1 (vq := q32) 3 (iv x22) S (wN rfl) rfl rfl rfl rfl rfl (lb rfl) fun a S => ?_
    exact leafL ⟨rfl, S⟩
  · refine fI 21 (.slice ad3 p1.length cp4) [(1, .slice ad3 p1.length cp4)] 4 [none] rfl rfl rfl rfl rfl rfl fun G a w S => ?_
    refine sMove (.slice ad3 p1.length cp4) S (wN rfl) (.inl rfl) rfl rfl (lb rfl) fun a S => ?_
    exact leafL ⟨rfl, S⟩
  · refine fI 22 (iv s13) [(5, iv s13)] 5 [none] rfl rfl rfl rfl rfl rfl fun G a w S => ?_
    refine sMove (iv s13) S (wN rfl) (.inl rfl) rfl rfl (lb rfl) fun a S => ?_
    exact leafL ⟨rfl, S⟩
  · refine fI 23 q35 [(21, .slice ad3 p1.length cp4), (22, iv s13)] 6 [some 4, some 5] rfl rfl rfl rfl rfl rfl fun G a w S => ?_
    refine sIdxV (v := .slice ad3 p1.length cp4) (k := .i64) (j := s13) S (wN rfl) rfl rfl rfl hq36 rfl (lb rfl) fun a S => ?_
    exact leafL ⟨rfl, S⟩
  · refine fI 24 (iv x27) [(23, q35)] 7 [some 6] rfl rfl rfl rfl rfl rfl fun G a w S => ?_
    refine sLoadV1 (vq := q35) 0 (iv x27) S (wN rfl) rfl rfl rfl rfl rfl (lb rfl) fun a S => ?_
    exact leafL ⟨rfl, S⟩
  · refine fI 25 (.bool (x22 != x27)) [(20, iv x22), (24, iv x27)] 8 [some 3, some 7] rfl rfl rfl rfl rfl rfl fun G a w S => ?_
    refine sBin (.bool (x22 != x27)) S (wN rfl) rfl rfl rfl (bNe _ _ _ _ .i64 x22 x27) rfl (lb rfl) fun a S => ?_
    exact leafL ⟨rfl, S⟩
  refine leafT (hK21 _ _ ?_)
  rcases iteSome h with ⟨hc38, h⟩ | ⟨hc38, h⟩
  rotate_left
  · refine sCondF S rfl hc38 ?_
    refine wp_skip (leafB (leafT (hK20 _ _ ?_)))
    refine sRegion ?_
    refine sMove (iv s13) S (wN rfl) (.inl rfl) rfl rfl (lb rfl) fun a S => ?_
    refine sBin (iv (w64 (s13 + 1))) S (wN rfl) rfl rfl rfl (bAdd _ _ _ _ s13 1) rfl (lb rfl) fun a S => ?_
    refine sMove (iv (w64 (s13 + 1))) S (wN rfl) (.inr rfl) rfl rfl (lb rfl) fun a S => ?_
    exact leafL (leafT (⟨w64 (s13 + 1), (Option.some.inj h).symm, (S.fix [] [6, 7] (by decide) rfl rfl rfl)⟩))
  refine sCondT S rfl hc38 ?_
  refine sSeq (fun K39 hK39 => ?_)
  refine sRegion ?_
  refine sMove (.bool false) S (wN rfl) (.inr rfl) rfl rfl (lb rfl) fun a S => ?_
  refine leafL (leafT (hK39 _ _ ?_))
  obtain rfl := Option.some.inj h
  obtain rfl := hu14 _ rfl
  have h := g15
  clear g15
  try dsimp only at h
  obtain rfl := Option.some.inj h
  have h := g11
  clear g11
  try dsimp only at h
  obtain rfl := Option.some.inj h
  exact wp_ret (rBlock (rThen (rThen (rBlock (rThen (sRet (.bool false) S (rsl1 rfl (rvT (t := 4) (v := .bool false) S rfl)) ⟨(), rfl, S.mem.sel [] [] (by decide) rfl rfl⟩))))))

end Go.Proofs.Ythfifeabomdlpaa
namespace Go.Proofs.Ythfifeabomdlpaa
open Go.RowKit
set_option linter.unusedVariables false

noncomputable def F_block_index_1_s0 (p0 : Int) (p1 : Int) : Option Bool :=
  Option.bind (α := Bool) (
    if decide (p0 < 0) then
      some true
    else
      some (decide (p1 ≤ p0))) fun o2 =>
  some o2
set_option maxHeartbeats 4000000 in
set_option maxRecDepth 100000 in
theorem c_block_index_1_s0 (E : Nat → Prop) (w0 : World) (p0 : Int) (p1 : Int) (v1 : Value) (r : Bool) (h : F_block_index_1_s0 p0 p1 = some r) (S : St0 E [] w0 w0 [] [fPtr (rI .i64) (v1) p1]) :
    Calls Try.prog 72 #[iv p0, v1] w0 (Ret (X := Unit) E [] w0 (fun _ => .bool r) (fun _ => []) (fun _ => [])) := by
  unfold F_block_index_1_s0 at h
  refine sEnter (args := [iv p0, v1]) 11 Try.func72 rfl rfl (by simp) S (fun a S => ?_)
  refine sSeq (fun K1 hK1 => ?_)
  refine sRegion ?_
  refine sMove (.bool false) S (wN rfl) (.inr rfl) rfl rfl (lb rfl) fun a S => ?_
  refine leafL (leafT (hK1 _ _ ?_))
  obtain ⟨t3, h, g4⟩ := bindSome h
  refine sCut (fun a w => ∃ o2, o2 = t3 ∧ St [] E [] w0 11 a w [(3, .bool o2)] [] []) ?_ (fun a w hI => ?_)
  rotate_left
  · obtain ⟨o2, rfl, S⟩ := hI
    have h := g4
    clear g4
    try dsimp only at h
    obtain rfl := Option.some.inj h
    exact wp_ret (sRet (.bool o2) S (rsl1 rfl (rvT (t := 3) (v := .bool o2) S rfl)) ⟨(), rfl, S.mem.sel [] [] (by decide) rfl rfl⟩)
  refine sRegion ?_
  refine sMove (iv p0) S (wN rfl) (.inl rfl) rfl rfl (lb rfl) fun a S => ?_
  refine sBin (.bool (decide (p0 < 0))) S (wN rfl) rfl rfl rfl (bLt _ _ _ _ .i64 p0 0) rfl (lb rfl) fun a S => ?_
  refine sMove (.bool (decide (p0 < 0))) S (wN rfl) (.inl rfl) rfl rfl (lb rfl) fun a S => ?_
  rcases iteSome h with ⟨hc5, h⟩ | ⟨hc5, h⟩
  · refine sSkip 2 false 6 7 S rfl rfl rfl hc5 rfl (lb rfl) fun a S => ?_
    refine sSkip 2 false 6 8 S rfl rfl rfl hc5 rfl (lb rfl) fun a S => ?_
    refine sSkip 2 false 6 9 S rfl rfl rfl hc5 rfl (lb rfl) fun a S => ?_
    refine sPickT (.bool true) S (wN rfl) rfl rfl hc5 rfl rfl (lb rfl) fun a S => ?_
    refine sMove (.bool true) S (wN rfl) (.inr rfl) rfl rfl (lb rfl) fun a S => ?_
    exact leafL (leafT (⟨true, Option.some.inj h, S.fix [] [] (by decide) rfl rfl rfl⟩))
  refine sMove (iv p0) S (wG 2 false 6 rfl rfl rfl hc5) (.inl rfl) rfl rfl (lb rfl) fun a S => ?_
  obtain ⟨u6, S⟩ := pLoad (r := (rI .i64)) (q := v1) (x := p1) 0 S rfl
  obtain rfl : u6 = iv p1 := S.mem.know (i := 1) (e := fRep (rI .i64) (u6) p1) rfl
  refine sLoadV1 (vq := v1) 0 (iv p1) S (wG 2 false 6 rfl rfl rfl hc5) rfl rfl rfl rfl rfl (lb rfl) fun a S => ?_
  refine sBin (.bool (decide (p1 ≤ p0))) S (wG 2 false 6 rfl rfl rfl hc5) rfl rfl rfl (bGe _ _ _ _ .i64 p0 p1) rfl (lb rfl) fun a S => ?_
  refine sPickF (.bool (decide (p1 ≤ p0))) S (wN rfl) rfl rfl hc5 rfl rfl (lb rfl) fun a S => ?_
  refine sMove (.bool (decide (p1 ≤ p0))) S (wN rfl) (.inr rfl) rfl rfl (lb rfl) fun a S => ?_
  exact leafL (leafT (⟨decide (p1 ≤ p0), Option.some.inj h, S.fix [] [] (by decide) rfl rfl rfl⟩))

end Go.Proofs.Ythfifeabomdlpaa
namespace Go.Proofs.Ythfifeabomdlpaa
open Go.RowKit
set_option linter.unusedVariables false

noncomputable def slices_IndexFunc___int_int__s0_l1 (p0 : (List Int)) (p1 : Int) : Int → Option (Int ⊕ (Int ⊕ Unit)) := fun s0 => match s0 with
  | s7 =>
    if decide (s7 < (p0.length : Int)) then
      Option.bind (idxO p0 s7) fun x17 =>
      Option.bind (F_block_index_1_s0 x17 p1) fun r22 =>
      if r22 then
        some (.inr (.inl s7))
      else
        some (.inl (w64 (s7 + 1)))
    else
      some (.inr (.inr ()))
noncomputable def F_slices_IndexFunc___int_int__s0 (p0 : (List Int)) (p1 : Int) : Option Int :=
  Option.bind (α := Unit ⊕ Int) (
    Option.bind (whileO (slices_IndexFunc___int_int__s0_l1 p0 p1) 0) fun z0 => match z0 with
      | .inl z =>
        some (.inr z)
      | .inr _ =>
        some (.inl ())) fun z0 => match z0 with
    | .inl _ =>
      some (-1)
    | .inr z =>
      some z
set_option maxHeartbeats 4000000 in
set_option maxRecDepth 100000 in
theorem c_slices_IndexFunc___int_int__s0 (E : Nat → Prop) (w0 : World) (p0 : (List Int)) (v0 : Value) (p1 : Int) (v1 : Value) (r : Int) (h : F_slices_IndexFunc___int_int__s0 p0 p1 = some r) (S : St0 E [] w0 w0 [] [fRep (rL (rI .i64)) (v0) p0, fPtr (rI .i64) (v1) p1]) :
    Calls Try.prog 77 #[v0, .func (.func 72) #[] #[v1]] w0 (Ret (X := Unit) E [] w0 (fun _ => .int .i64 r) (fun _ => []) (fun _ => [])) := by
  unfold F_slices_IndexFunc___int_int__s0 at h
  obtain ⟨ad1, cp2, _, rfl, _⟩ := S.know (i := 0) (e := fRep (rL (rI .i64)) (v0) p0) rfl
  refine sEnter (args := [.slice ad1 p0.length cp2, .func (.func 72) #[] #[v1]]) 19 Try.func77 rfl rfl (by simp) S (fun a S => ?_)
  refine sSeq (fun K3 hK3 => ?_)
  refine sRegion ?_
  refine sMove (iv 0) S (wN rfl) (.inr rfl) rfl rfl (lb rfl) fun a S => ?_
  refine leafL (leafT (hK3 _ _ ?_))
  obtain ⟨t4, h, g5⟩ := bindSome h
  refine sCut (fun a w => .inl () = t4 ∧ St [] E [] w0 19 a w [] [] []) ?_ (fun a w hI => ?_)
  rotate_left
  · obtain ⟨rfl, S⟩ := hI
    have h := g5
    clear g5
    try dsimp only at h
    refine sSeq (fun K26 hK26 => ?_)
    refine sRegion ?_
    refine sMove (iv (-1)) S (wN rfl) (.inr rfl) rfl rfl (lb rfl) fun a S => ?_
    refine leafL (leafT (hK26 _ _ ?_))
    obtain rfl := Option.some.inj h
    exact wp_ret (sRet (iv (-1)) S (rsl1 rfl (rvT (t := 4) (v := iv (-1)) S rfl)) ⟨(), rfl, S.mem.sel [] [] (by decide) rfl rfl⟩)
  refine sSeq (fun K6 hK6 => ?_)
  refine sRegion ?_
  refine sMove (.slice ad1 p0.length cp2) S (wN rfl) (.inl rfl) rfl rfl (lb rfl) fun a S => ?_
  refine sLen (ad := ad1) (m := p0.length) (c := cp2) S (wN rfl) rfl Try.underlying35 rfl rfl (lb rfl) fun a S => ?_
  refine sMove (iv 0) S (wN rfl) (.inl rfl) rfl rfl (lb rfl) fun a S => ?_
  refine leafL (leafT (hK6 _ _ ?_))
  refine wp_block ?_
  obtain ⟨t10, hl, g9⟩ := bindSome h
  refine sLoop hl (fun s0 a w => match s0 with | s7 => St [] E [] w0 19 a w [(0, .slice ad1 p0.length cp2), (1, .func (.func 72) #[] #[v1]), (7, iv (p0.length : Int)), (8, iv s7)] [] [fPtr (rI .i64) (v1) p1, fRep (rL (rI .i64)) (.slice ad1 p0.length cp2) p0]) (S.fix [] [1, 0] (by decide) rfl rfl rfl) ?_
  clear hl h
  intro s7 a w c0 hI h hu8
  unfold slices_IndexFunc___int_int__s0_l1 at h
  dsimp only at h hI
  have S := hI
  refine sSeq (fun K11 hK11 => ?_)
  refine sRegion ?_
  refine sBin (.bool (decide (s7 < (p0.length : Int)))) S (wN rfl) rfl rfl rfl (bLt _ _ _ _ .i64 s7 (p0.length : Int)) rfl (lb rfl) fun a S => ?_
  refine leafL (leafT (hK11 _ _ ?_))
  refine sSeq (fun K12 hK12 => ?_)
  rcases iteSome h with ⟨hc13, h⟩ | ⟨hc13, h⟩
  rotate_left
  · refine sCondF S rfl hc13 ?_
    obtain rfl := Option.some.inj h
    obtain rfl := hu8 _ rfl
    have h := g9
    clear g9
    try dsimp only at h
    exact wp_exit (xThen (xThen (xHit (leafT (⟨Option.some.inj h, S.fix [] [] (by decide) rfl rfl rfl⟩)))))
  refine sCondT S rfl hc13 ?_
  refine wp_skip (leafT (hK12 _ _ ?_))
  refine sSeq (fun K14 hK14 => ?_)
  refine wp_block ?_
  refine sSeq (fun K15 hK15 => ?_)
  refine sRegion ?_
  refine sMove (iv s7) S (wN rfl) (.inl rfl) rfl rfl (lb rfl) fun a S => ?_
  refine sMove (iv s7) S (wN rfl) (.inr rfl) rfl rfl (lb rfl) fun a S => ?_
  refine leafL (leafT (hK15 _ _ ?_))
  refine sSeq (fun K16 hK16 => ?_)
  refine sRegion ?_
  refine sMove (.func (.func 72) #[] #[v1]) S (wN rfl) (.inl rfl) rfl rfl (lb rfl) fun a S => ?_
  refine sMove (.slice ad1 p0.length cp2) S (wN rfl) (.inl rfl) rfl rfl (lb rfl) fun a S => ?_
  refine sMove (iv s7) S (wN rfl) (.inl rfl) rfl rfl (lb rfl) fun a S => ?_
  obtain ⟨x17, hx18, h⟩ := bindSome h
  obtain ⟨q19, hq20, S⟩ := pIdx (P := Try.prog) (r := (rI .i64)) (v := .slice ad1 p0.length cp2) (xs := p0) (j := s7) 35 3 1 S Try.underlying35 rfl rfl hx18
  refine sIdxV (v := .slice ad1 p0.length cp2) (k := .i64) (j := s7) S (wN rfl) rfl rfl rfl hq20 rfl (lb rfl) fun a S => ?_
  obtain ⟨u21, S⟩ := pLoad (r := (rI .i64)) (q := q19) (x := x17) 0 S rfl
  obtain rfl : u21 = iv x17 := S.mem.know (i := 1) (e := fRep (rI .i64) (u21) x17) rfl
  refine sLoadV1 (vq := q19) 0 (iv x17) S (wN rfl) rfl rfl rfl rfl rfl (lb rfl) fun a S => ?_
  obtain ⟨r22, hx23, h⟩ := bindSome h
  have S1 := S.mem
  refine sCallVQ (X := Unit) (g := 72) (vs := [iv x17]) (caps := [v1]) (val := fun _ => .bool r22) S (wN rfl) rfl rfl callee72 rfl (S1.quiet [3] rfl) (fun E1 w1 S1 => c_block_index_1_s0 E1 w1 x17 p1 v1 r22 hx23 S1) rfl (lb rfl) fun _ a w S => ?_
  refine leafL (leafT (hK16 _ _ ?_))
  rcases iteSome h with ⟨hc24, h⟩ | ⟨hc24, h⟩
  rotate_left
  · refine sCondF S rfl hc24 ?_
    refine wp_skip (leafB (leafT (hK14 _ _ ?_)))
    refine sRegion ?_
    refine sBin (iv (w64 (s7 + 1))) S (wN rfl) rfl rfl rfl (bAdd _ _ _ _ s7 1) rfl (lb rfl) fun a S => ?_
    refine sMove (iv (w64 (s7 + 1))) S (wN rfl) (.inl rfl) rfl rfl (lb rfl) fun a S => ?_
    exact leafL (leafT (⟨w64 (s7 + 1), (Option.some.inj h).symm, (S.fix [] [3, 4] (by decide) rfl rfl rfl)⟩))
  refine sCondT S rfl hc24 ?_
  refine sSeq (fun K25 hK25 => ?_)
  refine sRegion ?_
  refine sMove (iv s7) S (wN rfl) (.inl rfl) rfl rfl (lb rfl) fun a S => ?_
  refine sMove (iv s7) S (wN rfl) (.inr rfl) rfl rfl (lb rfl) fun a S => ?_
  refine leafL (leafT (hK25 _ _ ?_))
  obtain rfl := Option.some.inj h
  obtain rfl := hu8 _ rfl
  have h := g9
  clear g9
  try dsimp only at h
  obtain rfl := Option.some.inj h
  have h := g5
  clear g5
  try dsimp only at h
  obtain rfl := Option.some.inj h
  exact wp_ret (rBlock (rThen (rThen (rBlock (rThen (sRet (iv s7) S (rsl1 rfl (rvT (t := 4) (v := iv s7) S rfl)) ⟨(), rfl, S.mem.sel [] [] (by decide) rfl rfl⟩))))))

end Go.Proofs.Ythfifeabomdlpaa
namespace Go.Proofs.Ythfifeabomdlpaa
open Go.RowKit
set_option linter.unusedVariables false

noncomputable def F_slices_ContainsFunc___int_int__s0 (p0 : (List Int)) (p1 : Int) : Option Bool :=
  Option.bind (F_slices_IndexFunc___int_int__s0 p0 p1) fun r5 =>
  some (decide (0 ≤ r5))
set_option maxHeartbeats 4000000 in
set_option maxRecDepth 100000 in
theorem c_slices_ContainsFunc___int_int__s0 (E : Nat → Prop) (w0 : World) (p0 : (List Int)) (v0 : Value) (p1 : Int) (v1 : Value) (r : Bool) (h : F_slices_ContainsFunc___int_int__s0 p0 p1 = some r) (S : St0 E [] w0 w0 [] [fRep (rL (rI .i64)) (v0) p0, fPtr (rI .i64) (v1) p1]) :
    Calls Try.prog 71 #[v0, .func (.func 72) #[] #[v1]] w0 (Ret (X := Unit) E [] w0 (fun _ => .bool r) (fun _ => []) (fun _ => [])) := by
  unfold F_slices_ContainsFunc___int_int__s0 at h
  obtain ⟨ad1, cp2, _, rfl, _⟩ := S.know (i := 0) (e := fRep (rL (rI .i64)) (v0) p0) rfl
  refine sEnter (args := [.slice ad1 p0.length cp2, .func (.func 72) #[] #[v1]]) 9 Try.func71 rfl rfl (by simp) S (fun a S => ?_)
  refine sSeq (fun K3 hK3 => ?_)
  refine sRegion ?_
  refine sMove (.bool false) S (wN rfl) (.inr rfl) rfl rfl (lb rfl) fun a S => ?_
  refine leafL (leafT (hK3 _ _ ?_))
  refine sSeq (fun K4 hK4 => ?_)
  refine sRegion ?_
  refine sMove (.slice ad1 p0.length cp2) S (wN rfl) (.inl rfl) rfl rfl (lb rfl) fun a S => ?_
  refine sMove (.func (.func 72) #[] #[v1]) S (wN rfl) (.inl rfl) rfl rfl (lb rfl) fun a S => ?_
  obtain ⟨r5, hx6, h⟩ := bindSome h
  have S1 := S.mem
  refine sCallQ (X := Unit) (f := 77) (vs := [.slice ad1 p0.length cp2, .func (.func 72) #[] #[v1]]) (val := fun _ => iv r5) S (wN rfl) rfl callee77 rfl (S1.quiet [0, 1] rfl) (fun E1 w1 S1 => c_slices_IndexFunc___int_int__s0 E1 w1 p0 (.slice ad1 p0.length cp2) p1 v1 r5 hx6 S1) rfl (lb rfl) fun _ a w S => ?_
  refine sBin (.bool (decide (0 ≤ r5))) S (wN rfl) rfl rfl rfl (bGe _ _ _ _ .i64 r5 0) rfl (lb rfl) fun a S => ?_
  refine sMove (.bool (decide (0 ≤ r5))) S (wN rfl) (.inr rfl) rfl rfl (lb rfl) fun a S => ?_
  refine leafL (leafT (hK4 _ _ ?_))
  obtain rfl := Option.some.inj h
  exact wp_ret (sRet (.bool (decide (0 ≤ r5))) S (rsl1 rfl (rvT (t := 4) (v := .bool (decide (0 ≤ r5))) S rfl)) ⟨(), rfl, S.mem.sel [] [] (by decide) rfl rfl⟩)

end Go.Proofs.Ythfifeabomdlpaa
namespace Go.Proofs.Ythfifeabomdlpaa
open Go.RowKit
set_option linter.unusedVariables false

noncomputable def F_block_index (p0 : (List Int)) (p1 : Int) : Option Bool :=
  Option.bind (F_slices_ContainsFunc___int_int__s0 p0 p1) fun r6 =>
  some (!r6)
set_option maxHeartbeats 4000000 in
set_option maxRecDepth 100000 in
theorem c_block_index (E : Nat → Prop) (w0 : World) (p0 : (List Int)) (v0 : Value) (p1 : Int) (r : Bool) (h : F_block_index p0 p1 = some r) (S : St0 E [] w0 w0 [] [fRep (rL (rI .i64)) (v0) p0]) :
    Calls Try.prog 56 #[v0, iv p1] w0 (Ret (X := Unit) E [] w0 (fun _ => .bool r) (fun _ => []) (fun _ => [])) := by
  unfold F_block_index at h
  obtain ⟨ad1, cp2, _, rfl, _⟩ := S.know (i := 0) (e := fRep (rL (rI .i64)) (v0) p0) rfl
  refine sEnter (args := [.slice ad1 p0.length cp2, iv p1]) 9 Try.func56 rfl rfl (by simp) S (fun a S => ?_)
  refine sSeq (fun K3 hK3 => ?_)
  refine sRegion ?_
  refine sBox (v := iv p1) S (wN rfl) rfl rfl [iv p1] rfl rfl (lb rfl) fun a b4 w S => ?_
  refine sMove (.bool false) S (wN rfl) (.inr rfl) rfl rfl (lb rfl) fun a S => ?_
  refine leafL (leafT (hK3 _ _ ?_))
  refine sSeq (fun K5 hK5 => ?_)
  refine sRegion ?_
  refine sMove (.slice ad1 p0.length cp2) S (wN rfl) (.inl rfl) rfl rfl (lb rfl) fun a S => ?_
  refine sFunc (g := 72) (vs := [.pointer (some ⟨b4, 0, none⟩)]) S (wN rfl) rfl rfl rfl (lb rfl) fun a S => ?_
  obtain ⟨r6, hx7, h⟩ := bindSome h
  have S1 := S.mem
  have S1 := S1.shutB (r := (rI .i64)) (T := 3) (b := b4) (cs := [iv p1]) 0 (iv p1) p1 rfl rfl (rfl)
  refine sCallQ (X := Unit) (f := 71) (vs := [.slice ad1 p0.length cp2, .func (.func 72) #[] #[.pointer (some ⟨b4, 0, none⟩)]]) (val := fun _ => .bool r6) S (wN rfl) rfl callee71 rfl (S1.quiet [1, 0] rfl) (fun E1 w1 S1 => c_slices_ContainsFunc___int_int__s0 E1 w1 p0 (.slice ad1 p0.length cp2) p1 (.pointer (some ⟨b4, 0, none⟩)) r6 hx7 S1) rfl (lb rfl) fun _ a w S => ?_
  refine sNot (b := r6) S (wN rfl) rfl rfl rfl (lb rfl) fun a S => ?_
  refine sMove (.bool (!r6)) S (wN rfl) (.inr rfl) rfl rfl (lb rfl) fun a S => ?_
  refine leafL (leafT (hK5 _ _ ?_))
  obtain rfl := Option.some.inj h
  exact wp_ret (sRet (.bool (!r6)) S (rsl1 rfl (rvT (t := 4) (v := .bool (!r6)) S rfl)) ⟨(), rfl, S.mem.sel [] [] (by decide) rfl rfl⟩)

end Go.Proofs.Ythfifeabomdlpaa
