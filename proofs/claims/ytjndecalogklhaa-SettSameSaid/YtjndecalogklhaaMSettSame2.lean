/- Several texts in one: KeA G32 G33s0 G34s0 G35s0 G34s1 G11 G43 G44 G39 G40 G13 G15 G19 G46 G47 -/
import Derived.WalkKit
import Derived.Maps.AppendAt
import Derived.Deep.AppendLies
import Derived.KernelRfl
import Derived.Laws.OwnMore
import Derived.Great.BuildSlice
import Derived.Orders
import Derived.Laws.StructEq
import Derived.ChangeKeysEq
import Derived.Test.YtjndecalogklhaaProg
import Derived.ProofKit
import Derived.OpenShut
import Derived.ChangeOld
import Derived.Deep.Slices
import Derived.Lib.SmallJoins
import Derived.JoinedOf
import Derived.JoinedAt
import Derived.Below
import Derived.Test.YtjndecalogklhaaRows
import Derived.Test.YtjndecalogklhaaMSettSame1
namespace Go.Proofs.Ytjndecalogklhaa
open Go.RowKit
set_option linter.unusedVariables false

def Le {α : Type} (a b : Option α) : Prop := ∀ r, a = some r → b = some r
theorem Le.rfl {α : Type} (a : Option α) : Le a a := fun _ h => h
theorem Le.bind {α β : Type} {a b : Option α} {f g : α → Option β} (h : Le a b) (hf : ∀ x, Le (f x) (g x)) : Le (Option.bind a f) (Option.bind b g) := by
  intro r hr
  cases ha : a with
  | none => rw [ha] at hr; cases hr
  | some x =>
    rw [ha] at hr
    rw [h x ha]
    exact hf x r hr
theorem Le.ite {α : Type} {c : Prop} [Decidable c] {a b a' b' : Option α} (h : Le a b) (h' : Le a' b') : Le (if c then a else a') (if c then b else b') := by
  by_cases hc : c
  · rw [if_pos hc, if_pos hc]; exact h
  · rw [if_neg hc, if_neg hc]; exact h'
theorem Le.sum {α β γ : Type} {f g : α ⊕ β → Option γ} (h : ∀ a, Le (f (.inl a)) (g (.inl a))) (h' : ∀ b, Le (f (.inr b)) (g (.inr b))) : ∀ z, Le (f z) (g z)
  | .inl a => h a
  | .inr b => h' b
theorem Le.prod {α β γ : Type} {f g : α × β → Option γ} (h : ∀ a b, Le (f (a, b)) (g (a, b))) : ∀ z, Le (f z) (g z)
  | (a, b) => h a b
theorem iterO_Le {σ τ : Type} {B B' : σ → Option (σ ⊕ τ)} (h : ∀ s, Le (B s) (B' s)) : ∀ (n : Nat) (s : σ), Le (iterO B n s) (iterO B' n s) := by
  intro n
  induction n with
  | zero => intro s r hr; cases hr
  | succ n ih =>
    intro s r hr
    unfold iterO at hr ⊢
    cases hB : B s with
    | none => rw [hB] at hr; cases hr
    | some x =>
      rw [hB] at hr
      rw [h s x hB]
      cases x with
      | inl s' => exact ih s' r hr
      | inr t => exact hr
def whileK {σ τ : Type} (B : σ → Option (σ ⊕ τ)) (s : σ) : Option τ := iterO B 1000000 s
theorem Le.loop {σ τ : Type} {B B' : σ → Option (σ ⊕ τ)} (s : σ) (h : ∀ s, Le (B s) (B' s)) : Le (whileK B s) (whileO B' s) :=
  fun r hr => whileO_of (iterO_Le h 1000000 s r hr)

end Go.Proofs.Ytjndecalogklhaa
namespace Go.Proofs.Ytjndecalogklhaa
open Go.RowKit
set_option linter.unusedVariables false

noncomputable def F_grid_Check (p0 : api_Grid) : Option Int :=
  if decide (64 < (if p0.W < p0.H then p0.H else p0.W)) then
    some 4
  else
    Option.bind (α := Bool) (
      if decide ((if p0.H < p0.W then p0.H else p0.W) < 1) then
        some true
      else
        some ((p0.Bits.length : Int) != (w64 (p0.W * p0.H)))) fun o11 =>
    if o11 then
      some 8
    else
      some 0
set_option maxHeartbeats 4000000 in
set_option maxRecDepth 100000 in
theorem c_grid_Check (E : Nat → Prop) (w0 : World) (p0 : api_Grid) (v0 : Value) (r : Int) (h : F_grid_Check p0 = some r) (S : St0 E [] w0 w0 [] [fRep r_api_Grid (v0) p0]) :
    Calls Try.prog 32 #[v0] w0 (Ret (X := Unit) E [] w0 (fun _ => .int .i64 r) (fun _ => []) (fun _ => [])) := by
  unfold F_grid_Check at h
  obtain ⟨u1, rfl, hu2⟩ := S.know (i := 0) (e := fRep r_api_Grid (v0) p0) (by kernel_rfl)
  have S := S.learn (fRep (rL rB) u1 p0.Bits) hu2
  obtain ⟨ad3, cp4, _, rfl, _⟩ := hu2
  refine sEnter (args := [.agg #[.int .i64 p0.W, .int .i64 p0.H, .slice ad3 p0.Bits.length cp4]]) 28 Try.func32 rfl rfl (by simp) S (fun a S => ?_)
  refine sSeq (fun K5 hK5 => ?_)
  refine sRegion ?_
  refine sBox (v := .agg #[.int .i64 p0.W, .int .i64 p0.H, .slice ad3 p0.Bits.length cp4]) S (wN rfl) rfl (by kernel_rfl) [.int .i64 p0.W, .int .i64 p0.H, .slice ad3 p0.Bits.length cp4] rfl rfl (by decide) (fun a b6 w S => ?_)
  refine sMove (.int .i64 0) S (wN rfl) (.inr rfl) (by kernel_rfl) rfl (by decide) (fun a S => ?_)
  refine leafL (leafT (hK5 _ _ ?_))
  refine sSeq (fun K7 hK7 => ?_)
  refine wp_block ?_
  refine sSeq (fun K8 hK8 => ?_)
  refine sRegion ?_
  refine sField (b := b6) (off := 0) 0 0 S (wN rfl) rfl (by kernel_rfl) (by kernel_rfl) rfl rfl (by decide) (fun a S => ?_)
  refine sLoad1 (p := b6) (off := 0) (T := 24) (vs := [.int .i64 p0.W, .int .i64 p0.H, .slice ad3 p0.Bits.length cp4]) 0 (.int .i64 p0.W) S (wN rfl) rfl (by kernel_rfl) (by kernel_rfl) (by kernel_rfl) rfl rfl (by decide) (fun a S => ?_)
  refine sField (b := b6) (off := 0) 1 1 S (wN rfl) rfl (by kernel_rfl) (by kernel_rfl) rfl rfl (by decide) (fun a S => ?_)
  refine sLoad1 (p := b6) (off := 1) (T := 24) (vs := [.int .i64 p0.W, .int .i64 p0.H, .slice ad3 p0.Bits.length cp4]) 0 (.int .i64 p0.H) S (wN rfl) rfl (by kernel_rfl) (by kernel_rfl) (by kernel_rfl) rfl rfl (by decide) (fun a S => ?_)
  refine sMax2 (p := p0.W) (q := p0.H) S (wN rfl) rfl (by kernel_rfl) (by kernel_rfl) rfl (by decide) (fun a S => ?_)
  refine sBin (.bool (decide (64 < (if p0.W < p0.H then p0.H else p0.W)))) S (wN rfl) rfl (by kernel_rfl) (by kernel_rfl) (bGt _ _ _ _ .i64 (if p0.W < p0.H then p0.H else p0.W) 64) rfl (by decide) (fun a S => ?_)
  refine sMove (.bool (decide (64 < (if p0.W < p0.H then p0.H else p0.W)))) S (wN rfl) (.inr rfl) (by kernel_rfl) rfl (by decide) (fun a S => ?_)
  refine leafL (leafT (hK8 _ _ ?_))
  rcases iteSome h with ⟨hc9, h⟩ | ⟨hc9, h⟩
  · refine sCondT (b := decide (64 < (if p0.W < p0.H then p0.H else p0.W))) S (by kernel_rfl) hc9 ?_
    refine sSeq (fun K10 hK10 => ?_)
    refine sRegion ?_
    refine sMove (.int .i64 4) S (wN rfl) (.inr rfl) (by kernel_rfl) rfl (by decide) (fun a S => ?_)
    refine leafL (leafT (hK10 _ _ ?_))
    obtain rfl := Option.some.inj h
    exact wp_ret (rBlock (rThen (sRet (.int .i64 4) S (rsl1 rfl (rvT (t := 2) (v := .int .i64 4) S (by kernel_rfl))) ⟨(), rfl, S.mem.sel [] [] (by decide) (by kernel_rfl) (by kernel_rfl)⟩)))
  · refine sCondF (b := decide (64 < (if p0.W < p0.H then p0.H else p0.W))) S (by kernel_rfl) hc9 ?_
    obtain ⟨t12, h, g13⟩ := bindSome h
    refine sCut (fun a w => ∃ o11, o11 = t12 ∧ St E [] w0 28 a w [(10, .bool o11)] [] []) ?_ (fun a w hI => ?_)
    · refine sRegion ?_
      refine sField (b := b6) (off := 0) 0 0 S (wN rfl) rfl (by kernel_rfl) (by kernel_rfl) rfl rfl (by decide) (fun a S => ?_)
      refine sLoad1 (p := b6) (off := 0) (T := 24) (vs := [.int .i64 p0.W, .int .i64 p0.H, .slice ad3 p0.Bits.length cp4]) 0 (.int .i64 p0.W) S (wN rfl) rfl (by kernel_rfl) (by kernel_rfl) (by kernel_rfl) rfl rfl (by decide) (fun a S => ?_)
      refine sField (b := b6) (off := 0) 1 1 S (wN rfl) rfl (by kernel_rfl) (by kernel_rfl) rfl rfl (by decide) (fun a S => ?_)
      refine sLoad1 (p := b6) (off := 1) (T := 24) (vs := [.int .i64 p0.W, .int .i64 p0.H, .slice ad3 p0.Bits.length cp4]) 0 (.int .i64 p0.H) S (wN rfl) rfl (by kernel_rfl) (by kernel_rfl) (by kernel_rfl) rfl rfl (by decide) (fun a S => ?_)
      refine sMin2 (p := p0.W) (q := p0.H) S (wN rfl) rfl (by kernel_rfl) (by kernel_rfl) rfl (by decide) (fun a S => ?_)
      refine sBin (.bool (decide ((if p0.H < p0.W then p0.H else p0.W) < 1))) S (wN rfl) rfl (by kernel_rfl) (by kernel_rfl) (bLt _ _ _ _ .i64 (if p0.H < p0.W then p0.H else p0.W) 1) rfl (by decide) (fun a S => ?_)
      refine sMove (.bool (decide ((if p0.H < p0.W then p0.H else p0.W) < 1))) S (wN rfl) (.inl rfl) (by kernel_rfl) rfl (by decide) (fun a S => ?_)
      rcases iteSome h with ⟨hc14, h⟩ | ⟨hc14, h⟩
      · refine sSkip (c := decide ((if p0.H < p0.W then p0.H else p0.W) < 1)) 6 false 17 18 S rfl rfl (by kernel_rfl) hc14 rfl (by decide) (fun a S => ?_)
        refine sSkip (c := decide ((if p0.H < p0.W then p0.H else p0.W) < 1)) 6 false 17 19 S rfl rfl (by kernel_rfl) hc14 rfl (by decide) (fun a S => ?_)
        refine sSkip (c := decide ((if p0.H < p0.W then p0.H else p0.W) < 1)) 6 false 17 20 S rfl rfl (by kernel_rfl) hc14 rfl (by decide) (fun a S => ?_)
        refine sSkip (c := decide ((if p0.H < p0.W then p0.H else p0.W) < 1)) 6 false 17 21 S rfl rfl (by kernel_rfl) hc14 rfl (by decide) (fun a S => ?_)
        refine sSkip (c := decide ((if p0.H < p0.W then p0.H else p0.W) < 1)) 6 false 17 22 S rfl rfl (by kernel_rfl) hc14 rfl (by decide) (fun a S => ?_)
        refine sSkip (c := decide ((if p0.H < p0.W then p0.H else p0.W) < 1)) 6 false 17 23 S rfl rfl (by kernel_rfl) hc14 rfl (by decide) (fun a S => ?_)
        refine sSkip (c := decide ((if p0.H < p0.W then p0.H else p0.W) < 1)) 6 false 17 24 S rfl rfl (by kernel_rfl) hc14 rfl (by decide) (fun a S => ?_)
        refine sSkip (c := decide ((if p0.H < p0.W then p0.H else p0.W) < 1)) 6 false 17 25 S rfl rfl (by kernel_rfl) hc14 rfl (by decide) (fun a S => ?_)
        refine sSkip (c := decide ((if p0.H < p0.W then p0.H else p0.W) < 1)) 6 false 17 26 S rfl rfl (by kernel_rfl) hc14 rfl (by decide) (fun a S => ?_)
        refine sPickT (b := decide ((if p0.H < p0.W then p0.H else p0.W) < 1)) (.bool true) S (wN rfl) rfl (by kernel_rfl) hc14 (by kernel_rfl) rfl (by decide) (fun a S => ?_)
        refine sMove (.bool true) S (wN rfl) (.inr rfl) (by kernel_rfl) rfl (by decide) (fun a S => ?_)
        exact leafL (leafT (⟨true, Option.some.inj h, S.fix [] [] (by decide) (by kernel_rfl) (by kernel_rfl) (by kernel_rfl)⟩))
      · refine sField (b := b6) (off := 0) 2 2 S (wG (c := decide ((if p0.H < p0.W then p0.H else p0.W) < 1)) 6 false 17 rfl rfl (by kernel_rfl) hc14) rfl (by kernel_rfl) (by kernel_rfl) rfl rfl (by decide) (fun a S => ?_)
        refine sLoad1 (p := b6) (off := 2) (T := 24) (vs := [.int .i64 p0.W, .int .i64 p0.H, .slice ad3 p0.Bits.length cp4]) 0 (.slice ad3 p0.Bits.length cp4) S (wG (c := decide ((if p0.H < p0.W then p0.H else p0.W) < 1)) 6 false 17 rfl rfl (by kernel_rfl) hc14) rfl (by kernel_rfl) (by kernel_rfl) (by kernel_rfl) rfl rfl (by decide) (fun a S => ?_)
        refine sLen (ad := ad3) (m := p0.Bits.length) (c := cp4) S (wG (c := decide ((if p0.H < p0.W then p0.H else p0.W) < 1)) 6 false 17 rfl rfl (by kernel_rfl) hc14) rfl Try.underlying22 (by kernel_rfl) rfl (by decide) (fun a S => ?_)
        refine sField (b := b6) (off := 0) 0 0 S (wG (c := decide ((if p0.H < p0.W then p0.H else p0.W) < 1)) 6 false 17 rfl rfl (by kernel_rfl) hc14) rfl (by kernel_rfl) (by kernel_rfl) rfl rfl (by decide) (fun a S => ?_)
        refine sLoad1 (p := b6) (off := 0) (T := 24) (vs := [.int .i64 p0.W, .int .i64 p0.H, .slice ad3 p0.Bits.length cp4]) 0 (.int .i64 p0.W) S (wG (c := decide ((if p0.H < p0.W then p0.H else p0.W) < 1)) 6 false 17 rfl rfl (by kernel_rfl) hc14) rfl (by kernel_rfl) (by kernel_rfl) (by kernel_rfl) rfl rfl (by decide) (fun a S => ?_)
        refine sField (b := b6) (off := 0) 1 1 S (wG (c := decide ((if p0.H < p0.W then p0.H else p0.W) < 1)) 6 false 17 rfl rfl (by kernel_rfl) hc14) rfl (by kernel_rfl) (by kernel_rfl) rfl rfl (by decide) (fun a S => ?_)
        refine sLoad1 (p := b6) (off := 1) (T := 24) (vs := [.int .i64 p0.W, .int .i64 p0.H, .slice ad3 p0.Bits.length cp4]) 0 (.int .i64 p0.H) S (wG (c := decide ((if p0.H < p0.W then p0.H else p0.W) < 1)) 6 false 17 rfl rfl (by kernel_rfl) hc14) rfl (by kernel_rfl) (by kernel_rfl) (by kernel_rfl) rfl rfl (by decide) (fun a S => ?_)
        refine sBin (.int .i64 (w64 (p0.W * p0.H))) S (wG (c := decide ((if p0.H < p0.W then p0.H else p0.W) < 1)) 6 false 17 rfl rfl (by kernel_rfl) hc14) rfl (by kernel_rfl) (by kernel_rfl) (bMul _ _ _ _ p0.W p0.H) rfl (by decide) (fun a S => ?_)
        refine sBin (.bool ((p0.Bits.length : Int) != (w64 (p0.W * p0.H)))) S (wG (c := decide ((if p0.H < p0.W then p0.H else p0.W) < 1)) 6 false 17 rfl rfl (by kernel_rfl) hc14) rfl (by kernel_rfl) (by kernel_rfl) (bNe _ _ _ _ .i64 (p0.Bits.length : Int) (w64 (p0.W * p0.H))) rfl (by decide) (fun a S => ?_)
        refine sPickF (b := decide ((if p0.H < p0.W then p0.H else p0.W) < 1)) (.bool ((p0.Bits.length : Int) != (w64 (p0.W * p0.H)))) S (wN rfl) rfl (by kernel_rfl) hc14 (by kernel_rfl) rfl (by decide) (fun a S => ?_)
        refine sMove (.bool ((p0.Bits.length : Int) != (w64 (p0.W * p0.H)))) S (wN rfl) (.inr rfl) (by kernel_rfl) rfl (by decide) (fun a S => ?_)
        exact leafL (leafT (⟨(p0.Bits.length : Int) != (w64 (p0.W * p0.H)), Option.some.inj h, S.fix [] [] (by decide) (by kernel_rfl) (by kernel_rfl) (by kernel_rfl)⟩))
    · obtain ⟨o11, rfl, S⟩ := hI
      have h := g13
      clear g13
      try dsimp only at h
      rcases iteSome h with ⟨hc15, h⟩ | ⟨hc15, h⟩
      · refine sCondT (b := o11) S (by kernel_rfl) hc15 ?_
        refine sSeq (fun K16 hK16 => ?_)
        refine sRegion ?_
        refine sMove (.int .i64 8) S (wN rfl) (.inr rfl) (by kernel_rfl) rfl (by decide) (fun a S => ?_)
        refine leafL (leafT (hK16 _ _ ?_))
        obtain rfl := Option.some.inj h
        exact wp_ret (rBlock (rThen (sRet (.int .i64 8) S (rsl1 rfl (rvT (t := 2) (v := .int .i64 8) S (by kernel_rfl))) ⟨(), rfl, S.mem.sel [] [] (by decide) (by kernel_rfl) (by kernel_rfl)⟩)))
      · refine sCondF (b := o11) S (by kernel_rfl) hc15 ?_
        refine wp_skip (leafB (leafT (hK7 _ _ ?_)))
        refine sSeq (fun K17 hK17 => ?_)
        refine sRegion ?_
        refine sMove (.int .i64 0) S (wN rfl) (.inr rfl) (by kernel_rfl) rfl (by decide) (fun a S => ?_)
        refine leafL (leafT (hK17 _ _ ?_))
        obtain rfl := Option.some.inj h
        exact wp_ret (sRet (.int .i64 0) S (rsl1 rfl (rvT (t := 2) (v := .int .i64 0) S (by kernel_rfl))) ⟨(), rfl, S.mem.sel [] [] (by decide) (by kernel_rfl) (by kernel_rfl)⟩)

end Go.Proofs.Ytjndecalogklhaa
namespace Go.Proofs.Ytjndecalogklhaa
open Go.RowKit
set_option linter.unusedVariables false

noncomputable def F_sett_Turns_1_s0 (p0 : Int) (p1 : api_Grid) (p2 : Int) : Option Bool :=
  Option.bind (idxO p1.Bits (w64 ((w64 (p2 * p1.W)) + p0))) fun x12 =>
  some x12
set_option maxHeartbeats 4000000 in
set_option maxRecDepth 100000 in
theorem c_sett_Turns_1_s0 (E : Nat → Prop) (w0 : World) (p0 : Int) (p1 : api_Grid) (v1 : Value) (p2 : Int) (v2 : Value) (r : Bool) (h : F_sett_Turns_1_s0 p0 p1 p2 = some r) (S : St0 E [] w0 w0 [] [fPtr r_api_Grid (v1) p1, fPtr (rI .i64) (v2) p2]) :
    Calls Try.prog 33 #[.int .i64 p0, v1, v2] w0 (Ret (X := Unit) E [] w0 (fun _ => .bool r) (fun _ => []) (fun _ => [])) := by
  unfold F_sett_Turns_1_s0 at h
  refine sEnter (args := [.int .i64 p0, v1, v2]) 15 Try.func33 rfl rfl (by simp) S (fun a S => ?_)
  refine sSeq (fun K1 hK1 => ?_)
  refine sRegion ?_
  refine sMove (.bool false) S (wN rfl) (.inr rfl) (by kernel_rfl) rfl (by decide) (fun a S => ?_)
  refine leafL (leafT (hK1 _ _ ?_))
  refine sSeq (fun K2 hK2 => ?_)
  refine sRegion ?_
  obtain ⟨q3, hq4, S⟩ := pFld (P := Try.prog) (r := r_api_Grid) (s2 := (rL rB)) (g := (·.Bits)) (q := v1) (z := p1) 24 2 0 2 S (by kernel_rfl) (by kernel_rfl) comp_api_Grid_Bits
  refine sFldV (q := v1) S (wN rfl) rfl (by kernel_rfl) hq4 rfl (by decide) (fun a S => ?_)
  obtain ⟨u5, S⟩ := pLoad (r := (rL rB)) (q := q3) (x := p1.Bits) 0 S (by kernel_rfl)
  obtain ⟨ad6, cp7, _, rfl, _⟩ := S.mem.know (i := 1) (e := fRep (rL rB) (u5) p1.Bits) (by kernel_rfl)
  refine sLoadV1 (vq := q3) 0 (.slice ad6 p1.Bits.length cp7) S (wN rfl) rfl (by kernel_rfl) (by kernel_rfl) (by kernel_rfl) rfl (by decide) (fun a S => ?_)
  obtain ⟨u8, S⟩ := pLoad (r := (rI .i64)) (q := v2) (x := p2) 4 S (by kernel_rfl)
  obtain rfl : u8 = .int .i64 p2 := S.mem.know (i := 1) (e := fRep (rI .i64) (u8) p2) (by kernel_rfl)
  refine sLoadV1 (vq := v2) 0 (.int .i64 p2) S (wN rfl) rfl (by kernel_rfl) (by kernel_rfl) (by kernel_rfl) rfl (by decide) (fun a S => ?_)
  obtain ⟨q9, hq10, S⟩ := pFld (P := Try.prog) (r := r_api_Grid) (s2 := (rI .i64)) (g := (·.W)) (q := v1) (z := p1) 24 0 5 0 S (by kernel_rfl) (by kernel_rfl) comp_api_Grid_W
  refine sFldV (q := v1) S (wN rfl) rfl (by kernel_rfl) hq10 rfl (by decide) (fun a S => ?_)
  obtain ⟨u11, S⟩ := pLoad (r := (rI .i64)) (q := q9) (x := p1.W) 0 S (by kernel_rfl)
  obtain rfl : u11 = .int .i64 p1.W := S.mem.know (i := 1) (e := fRep (rI .i64) (u11) p1.W) (by kernel_rfl)
  refine sLoadV1 (vq := q9) 0 (.int .i64 p1.W) S (wN rfl) rfl (by kernel_rfl) (by kernel_rfl) (by kernel_rfl) rfl (by decide) (fun a S => ?_)
  refine sBin (.int .i64 (w64 (p2 * p1.W))) S (wN rfl) rfl (by kernel_rfl) (by kernel_rfl) (bMul _ _ _ _ p2 p1.W) rfl (by decide) (fun a S => ?_)
  refine sMove (.int .i64 p0) S (wN rfl) (.inl rfl) (by kernel_rfl) rfl (by decide) (fun a S => ?_)
  refine sBin (.int .i64 (w64 ((w64 (p2 * p1.W)) + p0))) S (wN rfl) rfl (by kernel_rfl) (by kernel_rfl) (bAdd _ _ _ _ (w64 (p2 * p1.W)) p0) rfl (by decide) (fun a S => ?_)
  obtain ⟨x12, hx13, h⟩ := bindSome h
  obtain ⟨q14, hq15, S⟩ := pIdx (P := Try.prog) (r := rB) (v := .slice ad6 p1.Bits.length cp7) (xs := p1.Bits) (j := w64 ((w64 (p2 * p1.W)) + p0)) 22 4 6 S Try.underlying22 (by kernel_rfl) (by kernel_rfl) hx13
  refine sIdxV (v := .slice ad6 p1.Bits.length cp7) (k := .i64) (j := w64 ((w64 (p2 * p1.W)) + p0)) S (wN rfl) rfl (by kernel_rfl) (by kernel_rfl) hq15 rfl (by decide) (fun a S => ?_)
  obtain ⟨u16, S⟩ := pLoad (r := rB) (q := q14) (x := x12) 0 S (by kernel_rfl)
  obtain rfl : u16 = .bool x12 := S.mem.know (i := 1) (e := fRep rB (u16) x12) (by kernel_rfl)
  refine sLoadV1 (vq := q14) 0 (.bool x12) S (wN rfl) rfl (by kernel_rfl) (by kernel_rfl) (by kernel_rfl) rfl (by decide) (fun a S => ?_)
  refine sMove (.bool x12) S (wN rfl) (.inr rfl) (by kernel_rfl) rfl (by decide) (fun a S => ?_)
  refine leafL (leafT (hK2 _ _ ?_))
  obtain rfl := Option.some.inj h
  exact wp_ret (sRet (.bool x12) S (rsl1 rfl (rvT (t := 4) (v := .bool x12) S (by kernel_rfl))) ⟨(), rfl, S.mem.sel [] [] (by decide) (by kernel_rfl) (by kernel_rfl)⟩)

end Go.Proofs.Ytjndecalogklhaa
namespace Go.Proofs.Ytjndecalogklhaa
open Go.RowKit
set_option linter.unusedVariables false

def anc_sett_line_turns_s0_0 : List (List Nat) := [[], [0], [], [0, 1, 2], [], [4], [], [6], [], [8], [6, 7, 8, 9], [0, 1, 2, 3, 4, 5, 6, 7, 8, 9, 10], [0, 1, 2, 3, 4, 5, 6, 7, 8, 9, 10, 11]]
noncomputable def sett_line_turns_s0_l1 (p0 : Int) (p1 : api_Grid) (p2 : Int) : (Int × Int) → Option ((Int × Int) ⊕ Int) := fun s0 => match s0 with
  | (s8, s9) =>
    if decide (s9 < p0) then
      Option.bind (α := Int) (
        Option.bind (F_sett_Turns_1_s0 s9 p1 p2) fun r22 =>
        Option.bind (remI (w64 (s9 + 1)) p0) fun z24 =>
        Option.bind (F_sett_Turns_1_s0 z24 p1 p2) fun r26 =>
        if r22 != r26 then
          some (w64 (s8 + 1))
        else
          some s8) fun o17 =>
      some (.inl (o17, w64 (s9 + 1)))
    else
      some (.inr s8)
noncomputable def F_sett_line_turns_s0 (p0 : Int) (p1 : api_Grid) (p2 : Int) : Option Int :=
  Option.bind (α := Int) (
    Option.bind (whileO (sett_line_turns_s0_l1 p0 p1 p2) (0, 0)) fun e13 =>
      some e13) fun o4 =>
  some o4
set_option maxHeartbeats 4000000 in
set_option maxRecDepth 100000 in
theorem c_sett_line_turns_s0 (E : Nat → Prop) (w0 : World) (p0 : Int) (p1 : api_Grid) (v1 : Value) (p2 : Int) (v2 : Value) (r : Int) (h : F_sett_line_turns_s0 p0 p1 p2 = some r) (S : St0 E [] w0 w0 [] [fPtr r_api_Grid (v1) p1, fPtr (rI .i64) (v2) p2]) :
    Calls Try.prog 34 #[.agg #[.int .i64 p0, .func (.func 33) #[] #[v1, v2]]] w0 (Ret (X := Unit) E [] w0 (fun _ => .int .i64 r) (fun _ => []) (fun _ => [])) := by
  unfold F_sett_line_turns_s0 at h
  refine sEnter (args := [.agg #[.int .i64 p0, .func (.func 33) #[] #[v1, v2]]]) 27 Try.func34 rfl rfl (by simp) S (fun a S => ?_)
  refine sSeq (fun K1 hK1 => ?_)
  refine sRegion ?_
  refine sBox (v := .agg #[.int .i64 p0, .func (.func 33) #[] #[v1, v2]]) S (wN rfl) rfl (by kernel_rfl) [.int .i64 p0, .func (.func 33) #[] #[v1, v2]] rfl rfl (by decide) (fun a b2 w S => ?_)
  refine sMove (.int .i64 0) S (wN rfl) (.inr rfl) (by kernel_rfl) rfl (by decide) (fun a S => ?_)
  refine leafL (leafT (hK1 _ _ ?_))
  refine sSeq (fun K3 hK3 => ?_)
  refine sRegion ?_
  refine sMove (.int .i64 0) S (wN rfl) (.inr rfl) (by kernel_rfl) rfl (by decide) (fun a S => ?_)
  refine leafL (leafT (hK3 _ _ ?_))
  obtain ⟨t5, h, g6⟩ := bindSome h
  refine sCut (fun a w => ∃ o4, o4 = t5 ∧ St E [] w0 27 a w [(3, .int .i64 o4)] [] []) ?_ (fun a w hI => ?_)
  · refine sSeq (fun K7 hK7 => ?_)
    refine sRegion ?_
    refine sField (b := b2) (off := 0) 0 0 S (wN rfl) rfl (by kernel_rfl) (by kernel_rfl) rfl rfl (by decide) (fun a S => ?_)
    refine sLoad1 (p := b2) (off := 0) (T := 58) (vs := [.int .i64 p0, .func (.func 33) #[] #[v1, v2]]) 0 (.int .i64 p0) S (wN rfl) rfl (by kernel_rfl) (by kernel_rfl) (by kernel_rfl) rfl rfl (by decide) (fun a S => ?_)
    refine sMove (.int .i64 0) S (wN rfl) (.inl rfl) (by kernel_rfl) rfl (by decide) (fun a S => ?_)
    refine leafL (leafT (hK7 _ _ ?_))
    refine wp_block ?_
    obtain ⟨t12, hl, g11⟩ := bindSome h
    refine sLoop hl (fun s0 a w => match s0 with | (s8, s9) => St E [] w0 27 a w [(1, .pointer (some ⟨b2, 0, none⟩)), (3, .int .i64 s8), (6, .int .i64 p0), (7, .int .i64 s9)] [eBox b2 58 [.int .i64 p0, .func (.func 33) #[] #[v1, v2]]] [fPtr r_api_Grid (v1) p1, fPtr (rI .i64) (v2) p2]) (S.fix [0] [0, 1] (by decide) (by kernel_rfl) (by kernel_rfl) (by kernel_rfl)) ?_
    clear hl h
    intro s0 a w c0 hI h hu10
    obtain ⟨s8, s9⟩ := s0
    unfold sett_line_turns_s0_l1 at h
    dsimp only at h hI
    have S := hI
    refine sSeq (fun K14 hK14 => ?_)
    refine sRegion ?_
    refine sBin (.bool (decide (s9 < p0))) S (wN rfl) rfl (by kernel_rfl) (by kernel_rfl) (bLt _ _ _ _ .i64 s9 p0) rfl (by decide) (fun a S => ?_)
    refine leafL (leafT (hK14 _ _ ?_))
    refine sSeq (fun K15 hK15 => ?_)
    rcases iteSome h with ⟨hc16, h⟩ | ⟨hc16, h⟩
    · refine sCondT (b := decide (s9 < p0)) S (by kernel_rfl) hc16 ?_
      refine wp_skip (leafT (hK15 _ _ ?_))
      obtain ⟨t18, h, g19⟩ := bindSome h
      refine sCut (fun a w => ∃ o17, o17 = t18 ∧ St E [] w0 27 a w [(1, .pointer (some ⟨b2, 0, none⟩)), (3, .int .i64 o17), (6, .int .i64 p0), (7, .int .i64 s9)] [eBox b2 58 [.int .i64 p0, .func (.func 33) #[] #[v1, v2]]] [fPtr r_api_Grid (v1) p1, fPtr (rI .i64) (v2) p2]) ?_ (fun a w hI => ?_)
      · refine wp_block ?_
        refine sSeq (fun K20 hK20 => ?_)
        refine sRegion ?_
        refine sMove (.int .i64 s9) S (wN rfl) (.inl rfl) (by kernel_rfl) rfl (by decide) (fun a S => ?_)
        refine sMove (.int .i64 s9) S (wN rfl) (.inr rfl) (by kernel_rfl) rfl (by decide) (fun a S => ?_)
        refine leafL (leafT (hK20 _ _ ?_))
        refine sSeq (fun K21 hK21 => ?_)
        obtain ⟨r22, hx23, h⟩ := bindSome h
        obtain ⟨z24, hx25, h⟩ := bindSome h
        obtain ⟨r26, hx27, h⟩ := bindSome h
        refine sDraw (nf := []) (W := [(0, 10, .pointer (some ⟨b2, 1, none⟩)), (1, 11, .func (.func 33) #[] #[v1, v2]), (2, 12, .int .i64 s9), (3, 13, .bool r22), (4, 14, .pointer (some ⟨b2, 1, none⟩)), (5, 15, .func (.func 33) #[] #[v1, v2]), (6, 16, .int .i64 s9), (7, 17, .int .i64 (w64 (s9 + 1))), (8, 18, .pointer (some ⟨b2, 0, none⟩)), (9, 19, .int .i64 p0), (10, 20, .int .i64 z24), (11, 21, .bool r26), (12, 22, .bool (r22 != r26))]) (by kernel_rfl) S ?_
        refine node_by (A := anc_sett_line_turns_s0_0) (nf := []) (Y := []) (W := [(0, 10, .pointer (some ⟨b2, 1, none⟩)), (1, 11, .func (.func 33) #[] #[v1, v2]), (2, 12, .int .i64 s9), (3, 13, .bool r22), (4, 14, .pointer (some ⟨b2, 1, none⟩)), (5, 15, .func (.func 33) #[] #[v1, v2]), (6, 16, .int .i64 s9), (7, 17, .int .i64 (w64 (s9 + 1))), (8, 18, .pointer (some ⟨b2, 0, none⟩)), (9, 19, .int .i64 p0), (10, 20, .int .i64 z24), (11, 21, .bool r26), (12, 22, .bool (r22 != r26))]) 13 (by kernel_rfl) (by kernel_rfl) (by kernel_rfl) (by kernel_rfl) (by kernel_rfl) [0, 1, 2, 3, 4, 5, 6, 7, 8, 9, 10, 11, 12] (by kernel_rfl) (by decide) (by decide) (aF 0 12 (by decide) ?_ (aF 1 11 (by decide) ?_ (aF 2 10 (by decide) ?_ (aF 3 9 (by decide) ?_ (aF 4 8 (by decide) ?_ (aF 5 7 (by decide) ?_ (aF 6 6 (by decide) ?_ (aF 7 5 (by decide) ?_ (aF 8 4 (by decide) ?_ (aF 9 3 (by decide) ?_ (aF 10 2 (by decide) ?_ (aF 11 1 (by decide) ?_ (aF 12 0 (by decide) ?_ (trivial)))))))))))))) [(1, .pointer (some ⟨b2, 0, none⟩)), (3, .int .i64 s8), (6, .int .i64 p0), (7, .int .i64 s9), (22, .bool (r22 != r26))] (fin_of [none, none, none, none, some 12] rfl (by kernel_rfl) (by kernel_rfl)) (fun _ a w S => ?_)
        · refine fI 10 (.pointer (some ⟨b2, 1, none⟩)) [(1, .pointer (some ⟨b2, 0, none⟩))] 0 [none] rfl rfl (by kernel_rfl) rfl (by kernel_rfl) (by kernel_rfl) fun G a w S => ?_
          refine sField (b := b2) (off := 0) 1 1 S (wN rfl) rfl (by kernel_rfl) (by kernel_rfl) rfl rfl (by decide) (fun a S => ?_)
          exact leafL ⟨rfl, S⟩
        · refine fI 11 (.func (.func 33) #[] #[v1, v2]) [(10, .pointer (some ⟨b2, 1, none⟩))] 1 [some 0] rfl rfl (by kernel_rfl) rfl (by kernel_rfl) (by kernel_rfl) fun G a w S => ?_
          refine sLoad1 (p := b2) (off := 1) (T := 58) (vs := [.int .i64 p0, .func (.func 33) #[] #[v1, v2]]) 0 (.func (.func 33) #[] #[v1, v2]) S (wN rfl) rfl (by kernel_rfl) (by kernel_rfl) (by kernel_rfl) rfl rfl (by decide) (fun a S => ?_)
          exact leafL ⟨rfl, S⟩
        · refine fI 12 (.int .i64 s9) [(4, .int .i64 s9)] 2 [none] rfl rfl (by kernel_rfl) rfl (by kernel_rfl) (by kernel_rfl) fun G a w S => ?_
          refine sMove (.int .i64 s9) S (wN rfl) (.inl rfl) (by kernel_rfl) rfl (by decide) (fun a S => ?_)
          exact leafL ⟨rfl, S⟩
        · refine fI 13 (.bool r22) [(11, .func (.func 33) #[] #[v1, v2]), (12, .int .i64 s9)] 3 [some 1, some 2] rfl rfl (by kernel_rfl) rfl (by kernel_rfl) (by kernel_rfl) fun G a w S => ?_
          have S1 := S.mem
          refine sCallVQ (X := Unit) (g := 33) (vs := [.int .i64 s9]) (caps := [v1, v2]) (val := fun _ => .bool r22) S (wN rfl) rfl (by kernel_rfl) callee33 (by kernel_rfl) (S1.quiet [0, 1] (by kernel_rfl)) (fun E1 w1 S1 => c_sett_Turns_1_s0 E1 w1 s9 p1 v1 p2 v2 r22 hx23 S1) rfl (by decide) (fun _ a w S => ?_)
          exact leafL ⟨rfl, S⟩
        · refine fI 14 (.pointer (some ⟨b2, 1, none⟩)) [(1, .pointer (some ⟨b2, 0, none⟩))] 4 [none] rfl rfl (by kernel_rfl) rfl (by kernel_rfl) (by kernel_rfl) fun G a w S => ?_
          refine sField (b := b2) (off := 0) 1 1 S (wN rfl) rfl (by kernel_rfl) (by kernel_rfl) rfl rfl (by decide) (fun a S => ?_)
          exact leafL ⟨rfl, S⟩
        · refine fI 15 (.func (.func 33) #[] #[v1, v2]) [(14, .pointer (some ⟨b2, 1, none⟩))] 5 [some 4] rfl rfl (by kernel_rfl) rfl (by kernel_rfl) (by kernel_rfl) fun G a w S => ?_
          refine sLoad1 (p := b2) (off := 1) (T := 58) (vs := [.int .i64 p0, .func (.func 33) #[] #[v1, v2]]) 0 (.func (.func 33) #[] #[v1, v2]) S (wN rfl) rfl (by kernel_rfl) (by kernel_rfl) (by kernel_rfl) rfl rfl (by decide) (fun a S => ?_)
          exact leafL ⟨rfl, S⟩
        · refine fI 16 (.int .i64 s9) [(4, .int .i64 s9)] 6 [none] rfl rfl (by kernel_rfl) rfl (by kernel_rfl) (by kernel_rfl) fun G a w S => ?_
          refine sMove (.int .i64 s9) S (wN rfl) (.inl rfl) (by kernel_rfl) rfl (by decide) (fun a S => ?_)
          exact leafL ⟨rfl, S⟩
        · refine fI 17 (.int .i64 (w64 (s9 + 1))) [(16, .int .i64 s9)] 7 [some 6] rfl rfl (by kernel_rfl) rfl (by kernel_rfl) (by kernel_rfl) fun G a w S => ?_
          refine sBin (.int .i64 (w64 (s9 + 1))) S (wN rfl) rfl (by kernel_rfl) (by kernel_rfl) (bAdd _ _ _ _ s9 1) rfl (by decide) (fun a S => ?_)
          exact leafL ⟨rfl, S⟩
        · refine fI 18 (.pointer (some ⟨b2, 0, none⟩)) [(1, .pointer (some ⟨b2, 0, none⟩))] 8 [none] rfl rfl (by kernel_rfl) rfl (by kernel_rfl) (by kernel_rfl) fun G a w S => ?_
          refine sField (b := b2) (off := 0) 0 0 S (wN rfl) rfl (by kernel_rfl) (by kernel_rfl) rfl rfl (by decide) (fun a S => ?_)
          exact leafL ⟨rfl, S⟩
        · refine fI 19 (.int .i64 p0) [(18, .pointer (some ⟨b2, 0, none⟩))] 9 [some 8] rfl rfl (by kernel_rfl) rfl (by kernel_rfl) (by kernel_rfl) fun G a w S => ?_
          refine sLoad1 (p := b2) (off := 0) (T := 58) (vs := [.int .i64 p0, .func (.func 33) #[] #[v1, v2]]) 0 (.int .i64 p0) S (wN rfl) rfl (by kernel_rfl) (by kernel_rfl) (by kernel_rfl) rfl rfl (by decide) (fun a S => ?_)
          exact leafL ⟨rfl, S⟩
        · refine fI 20 (.int .i64 z24) [(17, .int .i64 (w64 (s9 + 1))), (19, .int .i64 p0)] 10 [some 7, some 9] rfl rfl (by kernel_rfl) rfl (by kernel_rfl) (by kernel_rfl) fun G a w S => ?_
          refine sBin (.int .i64 z24) S (wN rfl) rfl (by kernel_rfl) (by kernel_rfl) (bRem _ _ _ _ (x := w64 (s9 + 1)) (y := p0) hx25) rfl (by decide) (fun a S => ?_)
          exact leafL ⟨rfl, S⟩
        · refine fI 21 (.bool r26) [(15, .func (.func 33) #[] #[v1, v2]), (20, .int .i64 z24)] 11 [some 5, some 10] rfl rfl (by kernel_rfl) rfl (by kernel_rfl) (by kernel_rfl) fun G a w S => ?_
          have S1 := S.mem
          refine sCallVQ (X := Unit) (g := 33) (vs := [.int .i64 z24]) (caps := [v1, v2]) (val := fun _ => .bool r26) S (wN rfl) rfl (by kernel_rfl) callee33 (by kernel_rfl) (S1.quiet [0, 1] (by kernel_rfl)) (fun E1 w1 S1 => c_sett_Turns_1_s0 E1 w1 z24 p1 v1 p2 v2 r26 hx27 S1) rfl (by decide) (fun _ a w S => ?_)
          exact leafL ⟨rfl, S⟩
        · refine fI 22 (.bool (r22 != r26)) [(13, .bool r22), (21, .bool r26)] 12 [some 3, some 11] rfl rfl (by kernel_rfl) rfl (by kernel_rfl) (by kernel_rfl) fun G a w S => ?_
          refine sBin (.bool (r22 != r26)) S (wN rfl) rfl (by kernel_rfl) (by kernel_rfl) (bNeB _ _ _ _ Try.underlying4 r22 r26) rfl (by decide) (fun a S => ?_)
          exact leafL ⟨rfl, S⟩
        · refine leafT (hK21 _ _ ?_)
          rcases iteSome h with ⟨hc28, h⟩ | ⟨hc28, h⟩
          · refine sCondT (b := r22 != r26) S (by kernel_rfl) hc28 ?_
            refine sRegion ?_
            refine sMove (.int .i64 s8) S (wN rfl) (.inl rfl) (by kernel_rfl) rfl (by decide) (fun a S => ?_)
            refine sBin (.int .i64 (w64 (s8 + 1))) S (wN rfl) rfl (by kernel_rfl) (by kernel_rfl) (bAdd _ _ _ _ s8 1) rfl (by decide) (fun a S => ?_)
            refine sMove (.int .i64 (w64 (s8 + 1))) S (wN rfl) (.inr rfl) (by kernel_rfl) rfl (by decide) (fun a S => ?_)
            exact leafL (leafB (leafT (⟨w64 (s8 + 1), Option.some.inj h, S.fix [0] [0, 1] (by decide) (by kernel_rfl) (by kernel_rfl) (by kernel_rfl)⟩)))
          · refine sCondF (b := r22 != r26) S (by kernel_rfl) hc28 ?_
            exact wp_skip (leafB (leafT (⟨s8, Option.some.inj h, S.fix [0] [0, 1] (by decide) (by kernel_rfl) (by kernel_rfl) (by kernel_rfl)⟩)))
      · obtain ⟨o17, rfl, S⟩ := hI
        have h := g19
        clear g19
        try dsimp only at h
        refine sRegion ?_
        refine sBin (.int .i64 (w64 (s9 + 1))) S (wN rfl) rfl (by kernel_rfl) (by kernel_rfl) (bAdd _ _ _ _ s9 1) rfl (by decide) (fun a S => ?_)
        refine sMove (.int .i64 (w64 (s9 + 1))) S (wN rfl) (.inl rfl) (by kernel_rfl) rfl (by decide) (fun a S => ?_)
        exact leafL (leafT (⟨(o17, w64 (s9 + 1)), (Option.some.inj h).symm, (S.fix [0] [0, 1] (by decide) (by kernel_rfl) (by kernel_rfl) (by kernel_rfl))⟩))
    · refine sCondF (b := decide (s9 < p0)) S (by kernel_rfl) hc16 ?_
      obtain rfl := Option.some.inj h
      obtain rfl := hu10 _ rfl
      have h := g11
      clear g11
      try dsimp only at h
      exact wp_exit (xThen (xThen (xHit (leafT (⟨s8, Option.some.inj h, S.fix [] [] (by decide) (by kernel_rfl) (by kernel_rfl) (by kernel_rfl)⟩)))))
  · obtain ⟨o4, rfl, S⟩ := hI
    have h := g6
    clear g6
    try dsimp only at h
    refine sSeq (fun K29 hK29 => ?_)
    refine sRegion ?_
    refine sMove (.int .i64 o4) S (wN rfl) (.inl rfl) (by kernel_rfl) rfl (by decide) (fun a S => ?_)
    refine sMove (.int .i64 o4) S (wN rfl) (.inr rfl) (by kernel_rfl) rfl (by decide) (fun a S => ?_)
    refine leafL (leafT (hK29 _ _ ?_))
    obtain rfl := Option.some.inj h
    exact wp_ret (sRet (.int .i64 o4) S (rsl1 rfl (rvT (t := 2) (v := .int .i64 o4) S (by kernel_rfl))) ⟨(), rfl, S.mem.sel [] [] (by decide) (by kernel_rfl) (by kernel_rfl)⟩)

end Go.Proofs.Ytjndecalogklhaa
namespace Go.Proofs.Ytjndecalogklhaa
open Go.RowKit
set_option linter.unusedVariables false

noncomputable def F_sett_Turns_2_s0 (p0 : Int) (p1 : api_Grid) (p2 : Int) : Option Bool :=
  Option.bind (idxO p1.Bits (w64 ((w64 (p0 * p1.W)) + p2))) fun x12 =>
  some x12
set_option maxHeartbeats 4000000 in
set_option maxRecDepth 100000 in
theorem c_sett_Turns_2_s0 (E : Nat → Prop) (w0 : World) (p0 : Int) (p1 : api_Grid) (v1 : Value) (p2 : Int) (v2 : Value) (r : Bool) (h : F_sett_Turns_2_s0 p0 p1 p2 = some r) (S : St0 E [] w0 w0 [] [fPtr r_api_Grid (v1) p1, fPtr (rI .i64) (v2) p2]) :
    Calls Try.prog 35 #[.int .i64 p0, v1, v2] w0 (Ret (X := Unit) E [] w0 (fun _ => .bool r) (fun _ => []) (fun _ => [])) := by
  unfold F_sett_Turns_2_s0 at h
  refine sEnter (args := [.int .i64 p0, v1, v2]) 15 Try.func35 rfl rfl (by simp) S (fun a S => ?_)
  refine sSeq (fun K1 hK1 => ?_)
  refine sRegion ?_
  refine sMove (.bool false) S (wN rfl) (.inr rfl) (by kernel_rfl) rfl (by decide) (fun a S => ?_)
  refine leafL (leafT (hK1 _ _ ?_))
  refine sSeq (fun K2 hK2 => ?_)
  refine sRegion ?_
  obtain ⟨q3, hq4, S⟩ := pFld (P := Try.prog) (r := r_api_Grid) (s2 := (rL rB)) (g := (·.Bits)) (q := v1) (z := p1) 24 2 0 2 S (by kernel_rfl) (by kernel_rfl) comp_api_Grid_Bits
  refine sFldV (q := v1) S (wN rfl) rfl (by kernel_rfl) hq4 rfl (by decide) (fun a S => ?_)
  obtain ⟨u5, S⟩ := pLoad (r := (rL rB)) (q := q3) (x := p1.Bits) 0 S (by kernel_rfl)
  obtain ⟨ad6, cp7, _, rfl, _⟩ := S.mem.know (i := 1) (e := fRep (rL rB) (u5) p1.Bits) (by kernel_rfl)
  refine sLoadV1 (vq := q3) 0 (.slice ad6 p1.Bits.length cp7) S (wN rfl) rfl (by kernel_rfl) (by kernel_rfl) (by kernel_rfl) rfl (by decide) (fun a S => ?_)
  refine sMove (.int .i64 p0) S (wN rfl) (.inl rfl) (by kernel_rfl) rfl (by decide) (fun a S => ?_)
  obtain ⟨q8, hq9, S⟩ := pFld (P := Try.prog) (r := r_api_Grid) (s2 := (rI .i64)) (g := (·.W)) (q := v1) (z := p1) 24 0 3 0 S (by kernel_rfl) (by kernel_rfl) comp_api_Grid_W
  refine sFldV (q := v1) S (wN rfl) rfl (by kernel_rfl) hq9 rfl (by decide) (fun a S => ?_)
  obtain ⟨u10, S⟩ := pLoad (r := (rI .i64)) (q := q8) (x := p1.W) 0 S (by kernel_rfl)
  obtain rfl : u10 = .int .i64 p1.W := S.mem.know (i := 1) (e := fRep (rI .i64) (u10) p1.W) (by kernel_rfl)
  refine sLoadV1 (vq := q8) 0 (.int .i64 p1.W) S (wN rfl) rfl (by kernel_rfl) (by kernel_rfl) (by kernel_rfl) rfl (by decide) (fun a S => ?_)
  refine sBin (.int .i64 (w64 (p0 * p1.W))) S (wN rfl) rfl (by kernel_rfl) (by kernel_rfl) (bMul _ _ _ _ p0 p1.W) rfl (by decide) (fun a S => ?_)
  obtain ⟨u11, S⟩ := pLoad (r := (rI .i64)) (q := v2) (x := p2) 7 S (by kernel_rfl)
  obtain rfl : u11 = .int .i64 p2 := S.mem.know (i := 1) (e := fRep (rI .i64) (u11) p2) (by kernel_rfl)
  refine sLoadV1 (vq := v2) 0 (.int .i64 p2) S (wN rfl) rfl (by kernel_rfl) (by kernel_rfl) (by kernel_rfl) rfl (by decide) (fun a S => ?_)
  refine sBin (.int .i64 (w64 ((w64 (p0 * p1.W)) + p2))) S (wN rfl) rfl (by kernel_rfl) (by kernel_rfl) (bAdd _ _ _ _ (w64 (p0 * p1.W)) p2) rfl (by decide) (fun a S => ?_)
  obtain ⟨x12, hx13, h⟩ := bindSome h
  obtain ⟨q14, hq15, S⟩ := pIdx (P := Try.prog) (r := rB) (v := .slice ad6 p1.Bits.length cp7) (xs := p1.Bits) (j := w64 ((w64 (p0 * p1.W)) + p2)) 22 4 6 S Try.underlying22 (by kernel_rfl) (by kernel_rfl) hx13
  refine sIdxV (v := .slice ad6 p1.Bits.length cp7) (k := .i64) (j := w64 ((w64 (p0 * p1.W)) + p2)) S (wN rfl) rfl (by kernel_rfl) (by kernel_rfl) hq15 rfl (by decide) (fun a S => ?_)
  obtain ⟨u16, S⟩ := pLoad (r := rB) (q := q14) (x := x12) 0 S (by kernel_rfl)
  obtain rfl : u16 = .bool x12 := S.mem.know (i := 1) (e := fRep rB (u16) x12) (by kernel_rfl)
  refine sLoadV1 (vq := q14) 0 (.bool x12) S (wN rfl) rfl (by kernel_rfl) (by kernel_rfl) (by kernel_rfl) rfl (by decide) (fun a S => ?_)
  refine sMove (.bool x12) S (wN rfl) (.inr rfl) (by kernel_rfl) rfl (by decide) (fun a S => ?_)
  refine leafL (leafT (hK2 _ _ ?_))
  obtain rfl := Option.some.inj h
  exact wp_ret (sRet (.bool x12) S (rsl1 rfl (rvT (t := 4) (v := .bool x12) S (by kernel_rfl))) ⟨(), rfl, S.mem.sel [] [] (by decide) (by kernel_rfl) (by kernel_rfl)⟩)

end Go.Proofs.Ytjndecalogklhaa
namespace Go.Proofs.Ytjndecalogklhaa
open Go.RowKit
set_option linter.unusedVariables false

def anc_sett_line_turns_s1_0 : List (List Nat) := [[], [0], [], [0, 1, 2], [], [4], [], [6], [], [8], [6, 7, 8, 9], [0, 1, 2, 3, 4, 5, 6, 7, 8, 9, 10], [0, 1, 2, 3, 4, 5, 6, 7, 8, 9, 10, 11]]
noncomputable def sett_line_turns_s1_l1 (p0 : Int) (p1 : api_Grid) (p2 : Int) : (Int × Int) → Option ((Int × Int) ⊕ Int) := fun s0 => match s0 with
  | (s8, s9) =>
    if decide (s9 < p0) then
      Option.bind (α := Int) (
        Option.bind (F_sett_Turns_2_s0 s9 p1 p2) fun r22 =>
        Option.bind (remI (w64 (s9 + 1)) p0) fun z24 =>
        Option.bind (F_sett_Turns_2_s0 z24 p1 p2) fun r26 =>
        if r22 != r26 then
          some (w64 (s8 + 1))
        else
          some s8) fun o17 =>
      some (.inl (o17, w64 (s9 + 1)))
    else
      some (.inr s8)
noncomputable def F_sett_line_turns_s1 (p0 : Int) (p1 : api_Grid) (p2 : Int) : Option Int :=
  Option.bind (α := Int) (
    Option.bind (whileO (sett_line_turns_s1_l1 p0 p1 p2) (0, 0)) fun e13 =>
      some e13) fun o4 =>
  some o4
set_option maxHeartbeats 4000000 in
set_option maxRecDepth 100000 in
theorem c_sett_line_turns_s1 (E : Nat → Prop) (w0 : World) (p0 : Int) (p1 : api_Grid) (v1 : Value) (p2 : Int) (v2 : Value) (r : Int) (h : F_sett_line_turns_s1 p0 p1 p2 = some r) (S : St0 E [] w0 w0 [] [fPtr r_api_Grid (v1) p1, fPtr (rI .i64) (v2) p2]) :
    Calls Try.prog 34 #[.agg #[.int .i64 p0, .func (.func 35) #[] #[v1, v2]]] w0 (Ret (X := Unit) E [] w0 (fun _ => .int .i64 r) (fun _ => []) (fun _ => [])) := by
  unfold F_sett_line_turns_s1 at h
  refine sEnter (args := [.agg #[.int .i64 p0, .func (.func 35) #[] #[v1, v2]]]) 27 Try.func34 rfl rfl (by simp) S (fun a S => ?_)
  refine sSeq (fun K1 hK1 => ?_)
  refine sRegion ?_
  refine sBox (v := .agg #[.int .i64 p0, .func (.func 35) #[] #[v1, v2]]) S (wN rfl) rfl (by kernel_rfl) [.int .i64 p0, .func (.func 35) #[] #[v1, v2]] rfl rfl (by decide) (fun a b2 w S => ?_)
  refine sMove (.int .i64 0) S (wN rfl) (.inr rfl) (by kernel_rfl) rfl (by decide) (fun a S => ?_)
  refine leafL (leafT (hK1 _ _ ?_))
  refine sSeq (fun K3 hK3 => ?_)
  refine sRegion ?_
  refine sMove (.int .i64 0) S (wN rfl) (.inr rfl) (by kernel_rfl) rfl (by decide) (fun a S => ?_)
  refine leafL (leafT (hK3 _ _ ?_))
  obtain ⟨t5, h, g6⟩ := bindSome h
  refine sCut (fun a w => ∃ o4, o4 = t5 ∧ St E [] w0 27 a w [(3, .int .i64 o4)] [] []) ?_ (fun a w hI => ?_)
  · refine sSeq (fun K7 hK7 => ?_)
    refine sRegion ?_
    refine sField (b := b2) (off := 0) 0 0 S (wN rfl) rfl (by kernel_rfl) (by kernel_rfl) rfl rfl (by decide) (fun a S => ?_)
    refine sLoad1 (p := b2) (off := 0) (T := 58) (vs := [.int .i64 p0, .func (.func 35) #[] #[v1, v2]]) 0 (.int .i64 p0) S (wN rfl) rfl (by kernel_rfl) (by kernel_rfl) (by kernel_rfl) rfl rfl (by decide) (fun a S => ?_)
    refine sMove (.int .i64 0) S (wN rfl) (.inl rfl) (by kernel_rfl) rfl (by decide) (fun a S => ?_)
    refine leafL (leafT (hK7 _ _ ?_))
    refine wp_block ?_
    obtain ⟨t12, hl, g11⟩ := bindSome h
    refine sLoop hl (fun s0 a w => match s0 with | (s8, s9) => St E [] w0 27 a w [(1, .pointer (some ⟨b2, 0, none⟩)), (3, .int .i64 s8), (6, .int .i64 p0), (7, .int .i64 s9)] [eBox b2 58 [.int .i64 p0, .func (.func 35) #[] #[v1, v2]]] [fPtr r_api_Grid (v1) p1, fPtr (rI .i64) (v2) p2]) (S.fix [0] [0, 1] (by decide) (by kernel_rfl) (by kernel_rfl) (by kernel_rfl)) ?_
    clear hl h
    intro s0 a w c0 hI h hu10
    obtain ⟨s8, s9⟩ := s0
    unfold sett_line_turns_s1_l1 at h
    dsimp only at h hI
    have S := hI
    refine sSeq (fun K14 hK14 => ?_)
    refine sRegion ?_
    refine sBin (.bool (decide (s9 < p0))) S (wN rfl) rfl (by kernel_rfl) (by kernel_rfl) (bLt _ _ _ _ .i64 s9 p0) rfl (by decide) (fun a S => ?_)
    refine leafL (leafT (hK14 _ _ ?_))
    refine sSeq (fun K15 hK15 => ?_)
    rcases iteSome h with ⟨hc16, h⟩ | ⟨hc16, h⟩
    · refine sCondT (b := decide (s9 < p0)) S (by kernel_rfl) hc16 ?_
      refine wp_skip (leafT (hK15 _ _ ?_))
      obtain ⟨t18, h, g19⟩ := bindSome h
      refine sCut (fun a w => ∃ o17, o17 = t18 ∧ St E [] w0 27 a w [(1, .pointer (some ⟨b2, 0, none⟩)), (3, .int .i64 o17), (6, .int .i64 p0), (7, .int .i64 s9)] [eBox b2 58 [.int .i64 p0, .func (.func 35) #[] #[v1, v2]]] [fPtr r_api_Grid (v1) p1, fPtr (rI .i64) (v2) p2]) ?_ (fun a w hI => ?_)
      · refine wp_block ?_
        refine sSeq (fun K20 hK20 => ?_)
        refine sRegion ?_
        refine sMove (.int .i64 s9) S (wN rfl) (.inl rfl) (by kernel_rfl) rfl (by decide) (fun a S => ?_)
        refine sMove (.int .i64 s9) S (wN rfl) (.inr rfl) (by kernel_rfl) rfl (by decide) (fun a S => ?_)
        refine leafL (leafT (hK20 _ _ ?_))
        refine sSeq (fun K21 hK21 => ?_)
        obtain ⟨r22, hx23, h⟩ := bindSome h
        obtain ⟨z24, hx25, h⟩ := bindSome h
        obtain ⟨r26, hx27, h⟩ := bindSome h
        refine sDraw (nf := []) (W := [(0, 10, .pointer (some ⟨b2, 1, none⟩)), (1, 11, .func (.func 35) #[] #[v1, v2]), (2, 12, .int .i64 s9), (3, 13, .bool r22), (4, 14, .pointer (some ⟨b2, 1, none⟩)), (5, 15, .func (.func 35) #[] #[v1, v2]), (6, 16, .int .i64 s9), (7, 17, .int .i64 (w64 (s9 + 1))), (8, 18, .pointer (some ⟨b2, 0, none⟩)), (9, 19, .int .i64 p0), (10, 20, .int .i64 z24), (11, 21, .bool r26), (12, 22, .bool (r22 != r26))]) (by kernel_rfl) S ?_
        refine node_by (A := anc_sett_line_turns_s1_0) (nf := []) (Y := []) (W := [(0, 10, .pointer (some ⟨b2, 1, none⟩)), (1, 11, .func (.func 35) #[] #[v1, v2]), (2, 12, .int .i64 s9), (3, 13, .bool r22), (4, 14, .pointer (some ⟨b2, 1, none⟩)), (5, 15, .func (.func 35) #[] #[v1, v2]), (6, 16, .int .i64 s9), (7, 17, .int .i64 (w64 (s9 + 1))), (8, 18, .pointer (some ⟨b2, 0, none⟩)), (9, 19, .int .i64 p0), (10, 20, .int .i64 z24), (11, 21, .bool r26), (12, 22, .bool (r22 != r26))]) 13 (by kernel_rfl) (by kernel_rfl) (by kernel_rfl) (by kernel_rfl) (by kernel_rfl) [0, 1, 2, 3, 4, 5, 6, 7, 8, 9, 10, 11, 12] (by kernel_rfl) (by decide) (by decide) (aF 0 12 (by decide) ?_ (aF 1 11 (by decide) ?_ (aF 2 10 (by decide) ?_ (aF 3 9 (by decide) ?_ (aF 4 8 (by decide) ?_ (aF 5 7 (by decide) ?_ (aF 6 6 (by decide) ?_ (aF 7 5 (by decide) ?_ (aF 8 4 (by decide) ?_ (aF 9 3 (by decide) ?_ (aF 10 2 (by decide) ?_ (aF 11 1 (by decide) ?_ (aF 12 0 (by decide) ?_ (trivial)))))))))))))) [(1, .pointer (some ⟨b2, 0, none⟩)), (3, .int .i64 s8), (6, .int .i64 p0), (7, .int .i64 s9), (22, .bool (r22 != r26))] (fin_of [none, none, none, none, some 12] rfl (by kernel_rfl) (by kernel_rfl)) (fun _ a w S => ?_)
        · refine fI 10 (.pointer (some ⟨b2, 1, none⟩)) [(1, .pointer (some ⟨b2, 0, none⟩))] 0 [none] rfl rfl (by kernel_rfl) rfl (by kernel_rfl) (by kernel_rfl) fun G a w S => ?_
          refine sField (b := b2) (off := 0) 1 1 S (wN rfl) rfl (by kernel_rfl) (by kernel_rfl) rfl rfl (by decide) (fun a S => ?_)
          exact leafL ⟨rfl, S⟩
        · refine fI 11 (.func (.func 35) #[] #[v1, v2]) [(10, .pointer (some ⟨b2, 1, none⟩))] 1 [some 0] rfl rfl (by kernel_rfl) rfl (by kernel_rfl) (by kernel_rfl) fun G a w S => ?_
          refine sLoad1 (p := b2) (off := 1) (T := 58) (vs := [.int .i64 p0, .func (.func 35) #[] #[v1, v2]]) 0 (.func (.func 35) #[] #[v1, v2]) S (wN rfl) rfl (by kernel_rfl) (by kernel_rfl) (by kernel_rfl) rfl rfl (by decide) (fun a S => ?_)
          exact leafL ⟨rfl, S⟩
        · refine fI 12 (.int .i64 s9) [(4, .int .i64 s9)] 2 [none] rfl rfl (by kernel_rfl) rfl (by kernel_rfl) (by kernel_rfl) fun G a w S => ?_
          refine sMove (.int .i64 s9) S (wN rfl) (.inl rfl) (by kernel_rfl) rfl (by decide) (fun a S => ?_)
          exact leafL ⟨rfl, S⟩
        · refine fI 13 (.bool r22) [(11, .func (.func 35) #[] #[v1, v2]), (12, .int .i64 s9)] 3 [some 1, some 2] rfl rfl (by kernel_rfl) rfl (by kernel_rfl) (by kernel_rfl) fun G a w S => ?_
          have S1 := S.mem
          refine sCallVQ (X := Unit) (g := 35) (vs := [.int .i64 s9]) (caps := [v1, v2]) (val := fun _ => .bool r22) S (wN rfl) rfl (by kernel_rfl) callee35 (by kernel_rfl) (S1.quiet [0, 1] (by kernel_rfl)) (fun E1 w1 S1 => c_sett_Turns_2_s0 E1 w1 s9 p1 v1 p2 v2 r22 hx23 S1) rfl (by decide) (fun _ a w S => ?_)
          exact leafL ⟨rfl, S⟩
        · refine fI 14 (.pointer (some ⟨b2, 1, none⟩)) [(1, .pointer (some ⟨b2, 0, none⟩))] 4 [none] rfl rfl (by kernel_rfl) rfl (by kernel_rfl) (by kernel_rfl) fun G a w S => ?_
          refine sField (b := b2) (off := 0) 1 1 S (wN rfl) rfl (by kernel_rfl) (by kernel_rfl) rfl rfl (by decide) (fun a S => ?_)
          exact leafL ⟨rfl, S⟩
        · refine fI 15 (.func (.func 35) #[] #[v1, v2]) [(14, .pointer (some ⟨b2, 1, none⟩))] 5 [some 4] rfl rfl (by kernel_rfl) rfl (by kernel_rfl) (by kernel_rfl) fun G a w S => ?_
          refine sLoad1 (p := b2) (off := 1) (T := 58) (vs := [.int .i64 p0, .func (.func 35) #[] #[v1, v2]]) 0 (.func (.func 35) #[] #[v1, v2]) S (wN rfl) rfl (by kernel_rfl) (by kernel_rfl) (by kernel_rfl) rfl rfl (by decide) (fun a S => ?_)
          exact leafL ⟨rfl, S⟩
        · refine fI 16 (.int .i64 s9) [(4, .int .i64 s9)] 6 [none] rfl rfl (by kernel_rfl) rfl (by kernel_rfl) (by kernel_rfl) fun G a w S => ?_
          refine sMove (.int .i64 s9) S (wN rfl) (.inl rfl) (by kernel_rfl) rfl (by decide) (fun a S => ?_)
          exact leafL ⟨rfl, S⟩
        · refine fI 17 (.int .i64 (w64 (s9 + 1))) [(16, .int .i64 s9)] 7 [some 6] rfl rfl (by kernel_rfl) rfl (by kernel_rfl) (by kernel_rfl) fun G a w S => ?_
          refine sBin (.int .i64 (w64 (s9 + 1))) S (wN rfl) rfl (by kernel_rfl) (by kernel_rfl) (bAdd _ _ _ _ s9 1) rfl (by decide) (fun a S => ?_)
          exact leafL ⟨rfl, S⟩
        · refine fI 18 (.pointer (some ⟨b2, 0, none⟩)) [(1, .pointer (some ⟨b2, 0, none⟩))] 8 [none] rfl rfl (by kernel_rfl) rfl (by kernel_rfl) (by kernel_rfl) fun G a w S => ?_
          refine sField (b := b2) (off := 0) 0 0 S (wN rfl) rfl (by kernel_rfl) (by kernel_rfl) rfl rfl (by decide) (fun a S => ?_)
          exact leafL ⟨rfl, S⟩
        · refine fI 19 (.int .i64 p0) [(18, .pointer (some ⟨b2, 0, none⟩))] 9 [some 8] rfl rfl (by kernel_rfl) rfl (by kernel_rfl) (by kernel_rfl) fun G a w S => ?_
          refine sLoad1 (p := b2) (off := 0) (T := 58) (vs := [.int .i64 p0, .func (.func 35) #[] #[v1, v2]]) 0 (.int .i64 p0) S (wN rfl) rfl (by kernel_rfl) (by kernel_rfl) (by kernel_rfl) rfl rfl (by decide) (fun a S => ?_)
          exact leafL ⟨rfl, S⟩
        · refine fI 20 (.int .i64 z24) [(17, .int .i64 (w64 (s9 + 1))), (19, .int .i64 p0)] 10 [some 7, some 9] rfl rfl (by kernel_rfl) rfl (by kernel_rfl) (by kernel_rfl) fun G a w S => ?_
          refine sBin (.int .i64 z24) S (wN rfl) rfl (by kernel_rfl) (by kernel_rfl) (bRem _ _ _ _ (x := w64 (s9 + 1)) (y := p0) hx25) rfl (by decide) (fun a S => ?_)
          exact leafL ⟨rfl, S⟩
        · refine fI 21 (.bool r26) [(15, .func (.func 35) #[] #[v1, v2]), (20, .int .i64 z24)] 11 [some 5, some 10] rfl rfl (by kernel_rfl) rfl (by kernel_rfl) (by kernel_rfl) fun G a w S => ?_
          have S1 := S.mem
          refine sCallVQ (X := Unit) (g := 35) (vs := [.int .i64 z24]) (caps := [v1, v2]) (val := fun _ => .bool r26) S (wN rfl) rfl (by kernel_rfl) callee35 (by kernel_rfl) (S1.quiet [0, 1] (by kernel_rfl)) (fun E1 w1 S1 => c_sett_Turns_2_s0 E1 w1 z24 p1 v1 p2 v2 r26 hx27 S1) rfl (by decide) (fun _ a w S => ?_)
          exact leafL ⟨rfl, S⟩
        · refine fI 22 (.bool (r22 != r26)) [(13, .bool r22), (21, .bool r26)] 12 [some 3, some 11] rfl rfl (by kernel_rfl) rfl (by kernel_rfl) (by kernel_rfl) fun G a w S => ?_
          refine sBin (.bool (r22 != r26)) S (wN rfl) rfl (by kernel_rfl) (by kernel_rfl) (bNeB _ _ _ _ Try.underlying4 r22 r26) rfl (by decide) (fun a S => ?_)
          exact leafL ⟨rfl, S⟩
        · refine leafT (hK21 _ _ ?_)
          rcases iteSome h with ⟨hc28, h⟩ | ⟨hc28, h⟩
          · refine sCondT (b := r22 != r26) S (by kernel_rfl) hc28 ?_
            refine sRegion ?_
            refine sMove (.int .i64 s8) S (wN rfl) (.inl rfl) (by kernel_rfl) rfl (by decide) (fun a S => ?_)
            refine sBin (.int .i64 (w64 (s8 + 1))) S (wN rfl) rfl (by kernel_rfl) (by kernel_rfl) (bAdd _ _ _ _ s8 1) rfl (by decide) (fun a S => ?_)
            refine sMove (.int .i64 (w64 (s8 + 1))) S (wN rfl) (.inr rfl) (by kernel_rfl) rfl (by decide) (fun a S => ?_)
            exact leafL (leafB (leafT (⟨w64 (s8 + 1), Option.some.inj h, S.fix [0] [0, 1] (by decide) (by kernel_rfl) (by kernel_rfl) (by kernel_rfl)⟩)))
          · refine sCondF (b := r22 != r26) S (by kernel_rfl) hc28 ?_
            exact wp_skip (leafB (leafT (⟨s8, Option.some.inj h, S.fix [0] [0, 1] (by decide) (by kernel_rfl) (by kernel_rfl) (by kernel_rfl)⟩)))
      · obtain ⟨o17, rfl, S⟩ := hI
        have h := g19
        clear g19
        try dsimp only at h
        refine sRegion ?_
        refine sBin (.int .i64 (w64 (s9 + 1))) S (wN rfl) rfl (by kernel_rfl) (by kernel_rfl) (bAdd _ _ _ _ s9 1) rfl (by decide) (fun a S => ?_)
        refine sMove (.int .i64 (w64 (s9 + 1))) S (wN rfl) (.inl rfl) (by kernel_rfl) rfl (by decide) (fun a S => ?_)
        exact leafL (leafT (⟨(o17, w64 (s9 + 1)), (Option.some.inj h).symm, (S.fix [0] [0, 1] (by decide) (by kernel_rfl) (by kernel_rfl) (by kernel_rfl))⟩))
    · refine sCondF (b := decide (s9 < p0)) S (by kernel_rfl) hc16 ?_
      obtain rfl := Option.some.inj h
      obtain rfl := hu10 _ rfl
      have h := g11
      clear g11
      try dsimp only at h
      exact wp_exit (xThen (xThen (xHit (leafT (⟨s8, Option.some.inj h, S.fix [] [] (by decide) (by kernel_rfl) (by kernel_rfl) (by kernel_rfl)⟩)))))
  · obtain ⟨o4, rfl, S⟩ := hI
    have h := g6
    clear g6
    try dsimp only at h
    refine sSeq (fun K29 hK29 => ?_)
    refine sRegion ?_
    refine sMove (.int .i64 o4) S (wN rfl) (.inl rfl) (by kernel_rfl) rfl (by decide) (fun a S => ?_)
    refine sMove (.int .i64 o4) S (wN rfl) (.inr rfl) (by kernel_rfl) rfl (by decide) (fun a S => ?_)
    refine leafL (leafT (hK29 _ _ ?_))
    obtain rfl := Option.some.inj h
    exact wp_ret (sRet (.int .i64 o4) S (rsl1 rfl (rvT (t := 2) (v := .int .i64 o4) S (by kernel_rfl))) ⟨(), rfl, S.mem.sel [] [] (by decide) (by kernel_rfl) (by kernel_rfl)⟩)

end Go.Proofs.Ytjndecalogklhaa
namespace Go.Proofs.Ytjndecalogklhaa
open Go.RowKit
set_option linter.unusedVariables false

noncomputable def sett_Turns_l1 (p0 : api_Grid) : (List Int × Int) → Option ((List Int × Int) ⊕ List Int) := fun s0 => match s0 with
  | (s20, s23) =>
    if decide (s23 < p0.H) then
      Option.bind (F_sett_line_turns_s0 p0.W p0 s23) fun r36 =>
      Option.bind (appO s20 ([r36] : List Int)) fun l40 =>
      some (.inl (l40, w64 (s23 + 1)))
    else
      some (.inr s20)
noncomputable def sett_Turns_l2 (p0 : api_Grid) : (List Int × Int) → Option ((List Int × Int) ⊕ List Int) := fun s0 => match s0 with
  | (s50, s53) =>
    if decide (s53 < p0.W) then
      Option.bind (F_sett_line_turns_s1 p0.H p0 s53) fun r66 =>
      Option.bind (appO s50 ([r66] : List Int)) fun l70 =>
      some (.inl (l70, w64 (s53 + 1)))
    else
      some (.inr s50)
noncomputable def F_sett_Turns (p0 : api_Grid) : Option ((List Int) × (List Int) × Int) :=
  Option.bind (F_grid_Check p0) fun r9 =>
  if r9 != 0 then
    some (([] : (List Int)), ([] : (List Int)), r9)
  else
    Option.bind (α := List Int) (
      Option.bind (whileO (sett_Turns_l1 p0) (([] : List Int), 0)) fun e27 =>
        some e27) fun o14 =>
    Option.bind (α := List Int) (
      Option.bind (whileO (sett_Turns_l2 p0) (([] : List Int), 0)) fun e57 =>
        some e57) fun o44 =>
    some (o14, o44, 0)
def c_sett_Turns_val (r : ((List Int) × (List Int) × Int)) (x : Value × Value) : Value := .tuple #[x.1, x.2, .int .i64 r.2.2]
def c_sett_Turns_D (r : ((List Int) × (List Int) × Int)) (x : Value × Value) : List Fact := [fRep (rL (rI .i64)) x.1 r.1, fRep (rL (rI .i64)) x.2 r.2.1]
set_option maxHeartbeats 4000000 in
set_option maxRecDepth 100000 in
theorem c_sett_Turns (E : Nat → Prop) (w0 : World) (p0 : api_Grid) (v0 : Value) (r : ((List Int) × (List Int) × Int)) (h : F_sett_Turns p0 = some r) (S : St0 E [] w0 w0 [] [fRep r_api_Grid (v0) p0]) :
    Calls Try.prog 11 #[v0] w0 (Ret (X := Value × Value) E [] w0 (c_sett_Turns_val r) (fun _ => []) (c_sett_Turns_D r)) := by
  unfold F_sett_Turns at h
  obtain ⟨u1, rfl, hu2⟩ := S.know (i := 0) (e := fRep r_api_Grid (v0) p0) (by kernel_rfl)
  have S := S.learn (fRep (rL rB) u1 p0.Bits) hu2
  obtain ⟨ad3, cp4, _, rfl, _⟩ := hu2
  refine sEnter (args := [.agg #[.int .i64 p0.W, .int .i64 p0.H, .slice ad3 p0.Bits.length cp4]]) 43 Try.func11 rfl rfl (by simp) S (fun a S => ?_)
  refine sSeq (fun K5 hK5 => ?_)
  refine sRegion ?_
  refine sBox (v := .agg #[.int .i64 p0.W, .int .i64 p0.H, .slice ad3 p0.Bits.length cp4]) S (wN rfl) rfl (by kernel_rfl) [.int .i64 p0.W, .int .i64 p0.H, .slice ad3 p0.Bits.length cp4] rfl rfl (by decide) (fun a b6 w S => ?_)
  refine sMove (.slice none 0 0) S (wN rfl) (.inr rfl) (by kernel_rfl) rfl (by decide) (fun a S => ?_)
  refine sMove (.slice none 0 0) S (wN rfl) (.inr rfl) (by kernel_rfl) rfl (by decide) (fun a S => ?_)
  refine sMove (.int .i64 0) S (wN rfl) (.inr rfl) (by kernel_rfl) rfl (by decide) (fun a S => ?_)
  refine leafL (leafT (hK5 _ _ ?_))
  refine sSeq (fun K7 hK7 => ?_)
  refine sSeq (fun K8 hK8 => ?_)
  refine sRegion ?_
  refine sLoadN (p := b6) (off := 0) (T := 24) (vs := [.int .i64 p0.W, .int .i64 p0.H, .slice ad3 p0.Bits.length cp4]) 0 [.int .i64 p0.W, .int .i64 p0.H, .slice ad3 p0.Bits.length cp4] S (wN rfl) rfl (by kernel_rfl) (by kernel_rfl) (by kernel_rfl) (by kernel_rfl) rfl rfl (by decide) (fun a S => ?_)
  obtain ⟨r9, hx10, h⟩ := bindSome h
  have S1 := S.mem
  refine sCallQ (X := Unit) (f := 32) (vs := [.agg #[.int .i64 p0.W, .int .i64 p0.H, .slice ad3 p0.Bits.length cp4]]) (val := fun _ => .int .i64 r9) S (wN rfl) rfl callee32 (by kernel_rfl) (S1.quiet [1] (by kernel_rfl)) (fun E1 w1 S1 => c_grid_Check E1 w1 p0 (.agg #[.int .i64 p0.W, .int .i64 p0.H, .slice ad3 p0.Bits.length cp4]) r9 hx10 S1) rfl (by decide) (fun _ a w S => ?_)
  refine sMove (.int .i64 r9) S (wN rfl) (.inr rfl) (by kernel_rfl) rfl (by decide) (fun a S => ?_)
  refine leafL (leafT (hK8 _ _ ?_))
  refine sSeq (fun K11 hK11 => ?_)
  refine sRegion ?_
  refine sMove (.int .i64 r9) S (wN rfl) (.inl rfl) (by kernel_rfl) rfl (by decide) (fun a S => ?_)
  refine sBin (.bool (r9 != 0)) S (wN rfl) rfl (by kernel_rfl) (by kernel_rfl) (bNe _ _ _ _ .i64 r9 0) rfl (by decide) (fun a S => ?_)
  refine leafL (leafT (hK11 _ _ ?_))
  rcases iteSome h with ⟨hc12, h⟩ | ⟨hc12, h⟩
  · refine sCondT (b := r9 != 0) S (by kernel_rfl) hc12 ?_
    refine sSeq (fun K13 hK13 => ?_)
    refine sRegion ?_
    refine sMove (.int .i64 r9) S (wN rfl) (.inl rfl) (by kernel_rfl) rfl (by decide) (fun a S => ?_)
    refine sMove (.slice none 0 0) S (wN rfl) (.inr rfl) (by kernel_rfl) rfl (by decide) (fun a S => ?_)
    refine sMove (.slice none 0 0) S (wN rfl) (.inr rfl) (by kernel_rfl) rfl (by decide) (fun a S => ?_)
    refine sMove (.int .i64 r9) S (wN rfl) (.inr rfl) (by kernel_rfl) rfl (by decide) (fun a S => ?_)
    refine leafL (leafT (hK13 _ _ ?_))
    obtain rfl := Option.some.inj h
    have S := S.learn (fRep (rL (rI .i64)) (.slice none 0 0) ([] : (List Int))) (rL_nil _ _ _)
    exact wp_ret (rThen (sRet (.tuple #[.slice none 0 0, .slice none 0 0, .int .i64 r9]) S (rsl3 rfl (rvT (t := 2) (v := .slice none 0 0) S (by kernel_rfl)) (rvT (t := 3) (v := .slice none 0 0) S (by kernel_rfl)) (rvT (t := 4) (v := .int .i64 r9) S (by kernel_rfl))) ⟨((.slice none 0 0), (.slice none 0 0)), rfl, S.mem.sel [] [0, 0] (by decide) (by kernel_rfl) (by kernel_rfl)⟩))
  · refine sCondF (b := r9 != 0) S (by kernel_rfl) hc12 ?_
    refine wp_skip (leafT (hK7 _ _ ?_))
    obtain ⟨t17, h, g18⟩ := bindSome h
    refine sCut (fun a w => ∃ o14, o14 = t17 ∧ ∃ ad15, ∃ cp16, St E [] w0 43 a w [(1, .pointer (some ⟨b6, 0, none⟩)), (2, .slice ad15 o14.length cp16), (3, .slice none 0 0)] [eBox b6 24 [.int .i64 p0.W, .int .i64 p0.H, .slice ad3 p0.Bits.length cp4], eRow (rI .i64) 3 (.slice ad15 o14.length cp16) o14] [fRep (rL rB) (.slice ad3 p0.Bits.length cp4) p0.Bits]) ?_ (fun a w hI => ?_)
    · refine sSeq (fun K19 hK19 => ?_)
      refine sRegion ?_
      refine sField (b := b6) (off := 0) 1 1 S (wN rfl) rfl (by kernel_rfl) (by kernel_rfl) rfl rfl (by decide) (fun a S => ?_)
      refine sLoad1 (p := b6) (off := 1) (T := 24) (vs := [.int .i64 p0.W, .int .i64 p0.H, .slice ad3 p0.Bits.length cp4]) 0 (.int .i64 p0.H) S (wN rfl) rfl (by kernel_rfl) (by kernel_rfl) (by kernel_rfl) rfl rfl (by decide) (fun a S => ?_)
      refine sMove (.int .i64 0) S (wN rfl) (.inl rfl) (by kernel_rfl) rfl (by decide) (fun a S => ?_)
      refine leafL (leafT (hK19 _ _ ?_))
      refine wp_block ?_
      have S := S.nilRow (rI .i64) 3 (α := Int)
      obtain ⟨t26, hl, g25⟩ := bindSome h
      refine sLoop hl (fun s0 a w => match s0 with | (s20, s23) => ∃ ad21, ∃ cp22, St E [] w0 43 a w [(1, .pointer (some ⟨b6, 0, none⟩)), (2, .slice ad21 s20.length cp22), (3, .slice none 0 0), (14, .int .i64 p0.H), (15, .int .i64 s23)] [eBox b6 24 [.int .i64 p0.W, .int .i64 p0.H, .slice ad3 p0.Bits.length cp4], eRow (rI .i64) 3 (.slice ad21 s20.length cp22) s20] [fRep (rL rB) (.slice ad3 p0.Bits.length cp4) p0.Bits]) ⟨none, 0, S.fix [1, 0] [0] (by decide) (by kernel_rfl) (by kernel_rfl) (by kernel_rfl)⟩ ?_
      clear hl h
      intro s0 a w c0 hI h hu24
      obtain ⟨s20, s23⟩ := s0
      unfold sett_Turns_l1 at h
      dsimp only at h hI
      obtain ⟨ad21, cp22, S⟩ := hI
      refine sSeq (fun K30 hK30 => ?_)
      refine sRegion ?_
      refine sBin (.bool (decide (s23 < p0.H))) S (wN rfl) rfl (by kernel_rfl) (by kernel_rfl) (bLt _ _ _ _ .i64 s23 p0.H) rfl (by decide) (fun a S => ?_)
      refine leafL (leafT (hK30 _ _ ?_))
      refine sSeq (fun K31 hK31 => ?_)
      rcases iteSome h with ⟨hc32, h⟩ | ⟨hc32, h⟩
      · refine sCondT (b := decide (s23 < p0.H)) S (by kernel_rfl) hc32 ?_
        refine wp_skip (leafT (hK31 _ _ ?_))
        refine sSeq (fun K33 hK33 => ?_)
        refine wp_block ?_
        refine sSeq (fun K34 hK34 => ?_)
        refine sRegion ?_
        refine sMove (.int .i64 s23) S (wN rfl) (.inl rfl) (by kernel_rfl) rfl (by decide) (fun a S => ?_)
        refine sAlloc (.int .i64 0) S (wN rfl) rfl (by kernel_rfl) [.int .i64 0] rfl rfl (by decide) (fun a b35 w S => ?_)
        refine sStore (p := b35) (off := 0) (T := 3) (vs := [.int .i64 0]) (v := .int .i64 s23) 0 [.int .i64 s23] S (wN rfl) rfl (by kernel_rfl) (by kernel_rfl) rfl (by kernel_rfl) (by kernel_rfl) rfl (by simp) rfl (fun a w S => ?_)
        refine leafL (leafT (hK34 _ _ ?_))
        refine sRegion ?_
        refine sMove (.slice ad21 s20.length cp22) S (wN rfl) (.inl rfl) (by kernel_rfl) rfl (by decide) (fun a S => ?_)
        refine sField (b := b6) (off := 0) 0 0 S (wN rfl) rfl (by kernel_rfl) (by kernel_rfl) rfl rfl (by decide) (fun a S => ?_)
        refine sLoad1 (p := b6) (off := 0) (T := 24) (vs := [.int .i64 p0.W, .int .i64 p0.H, .slice ad3 p0.Bits.length cp4]) 1 (.int .i64 p0.W) S (wN rfl) rfl (by kernel_rfl) (by kernel_rfl) (by kernel_rfl) rfl rfl (by decide) (fun a S => ?_)
        refine sFunc (g := 33) (vs := [.pointer (some ⟨b6, 0, none⟩), .pointer (some ⟨b35, 0, none⟩)]) S (wN rfl) rfl (by kernel_rfl) rfl (by decide) (fun a S => ?_)
        refine sBuild [(0, .int .i64 p0.W), (1, .func (.func 33) #[] #[.pointer (some ⟨b6, 0, none⟩), .pointer (some ⟨b35, 0, none⟩)])] [.int .i64 p0.W, .func (.func 33) #[] #[.pointer (some ⟨b6, 0, none⟩), .pointer (some ⟨b35, 0, none⟩)]] S (wN rfl) rfl (by kernel_rfl) (by kernel_rfl) rfl (by decide) (fun a S => ?_)
        obtain ⟨r36, hx37, h⟩ := bindSome h
        have S1 := S.mem
        have S1 := S1.learn (fRep r_api_Grid (.agg #[.int .i64 p0.W, .int .i64 p0.H, .slice ad3 p0.Bits.length cp4]) p0) ⟨_, rfl, S1.know (i := 0) (e := fRep (rL rB) (.slice ad3 p0.Bits.length cp4) p0.Bits) (by kernel_rfl)⟩
        have S1 := S1.shutB (r := r_api_Grid) (T := 24) (b := b6) (cs := [.int .i64 p0.W, .int .i64 p0.H, .slice ad3 p0.Bits.length cp4]) 1 (.agg #[.int .i64 p0.W, .int .i64 p0.H, .slice ad3 p0.Bits.length cp4]) p0 (by kernel_rfl) rfl (S1.know (i := 0) (e := fRep r_api_Grid (.agg #[.int .i64 p0.W, .int .i64 p0.H, .slice ad3 p0.Bits.length cp4]) p0) (by kernel_rfl))
        have S1 := S1.shutB (r := (rI .i64)) (T := 3) (b := b35) (cs := [.int .i64 s23]) 0 (.int .i64 s23) s23 (by kernel_rfl) rfl (rfl)
        refine sCallQ (X := Unit) (f := 34) (vs := [.agg #[.int .i64 p0.W, .func (.func 33) #[] #[.pointer (some ⟨b6, 0, none⟩), .pointer (some ⟨b35, 0, none⟩)]]]) (val := fun _ => .int .i64 r36) S (wN rfl) rfl callee34 (by kernel_rfl) (S1.quiet [1, 0] (by kernel_rfl)) (fun E1 w1 S1 => c_sett_line_turns_s0 E1 w1 p0.W p0 (.pointer (some ⟨b6, 0, none⟩)) s23 (.pointer (some ⟨b35, 0, none⟩)) r36 hx37 S1) rfl (by decide) (fun _ a w S => ?_)
        refine sLit (r := (rI .i64)) (T := 3) (xs := ([r36] : List Int)) [(0, .int .i64 r36)] 1 [.int .i64 r36] [.int .i64 r36] (.int .i64 0) 8 S (wN rfl) rfl (by kernel_rfl) Try.underlying27 (by kernel_rfl) (by decide) (by decide) (by kernel_rfl) rfl (fun E1 w1 hE => All.cons rfl (All.nil _ _ _)) rfl rfl (by decide) (fun a w ad38 cp39 S => ?_)
        obtain ⟨l40, hx41, h⟩ := bindSome h
        refine sApp (r := (rI .i64)) (T := 3) (xs := s20) (ys := ([r36] : List Int)) (v := .slice ad21 s20.length cp22) (u := .slice ad38 ([r36] : List Int).length cp39) 3 (.int .i64 0) 8 S (wN rfl) rfl Try.underlying27 (by kernel_rfl) rfl (by decide) (by kernel_rfl) (by kernel_rfl) (by kernel_rfl) (src_R (T := 3) 0 S.mem (by kernel_rfl)) hx41 rfl (by decide) (fun a w ad42 cp43 S => ?_)
        refine sMove (.slice ad42 l40.length cp43) S (wN rfl) (.inr rfl) (by kernel_rfl) rfl (by decide) (fun a S => ?_)
        refine leafL (leafB (leafT (hK33 _ _ ?_)))
        refine sRegion ?_
        refine sBin (.int .i64 (w64 (s23 + 1))) S (wN rfl) rfl (by kernel_rfl) (by kernel_rfl) (bAdd _ _ _ _ s23 1) rfl (by decide) (fun a S => ?_)
        refine sMove (.int .i64 (w64 (s23 + 1))) S (wN rfl) (.inl rfl) (by kernel_rfl) rfl (by decide) (fun a S => ?_)
        exact leafL (leafT (⟨(l40, w64 (s23 + 1)), (Option.some.inj h).symm, ⟨ad42, cp43, S.fix [3, 0] [0] (by decide) (by kernel_rfl) (by kernel_rfl) (by kernel_rfl)⟩⟩))
      · refine sCondF (b := decide (s23 < p0.H)) S (by kernel_rfl) hc32 ?_
        obtain rfl := Option.some.inj h
        obtain rfl := hu24 _ rfl
        have h := g25
        clear g25
        try dsimp only at h
        exact wp_exit (xThen (xThen (xHit (leafT (⟨s20, Option.some.inj h, ad21, cp22, S.fix [0, 1] [0] (by decide) (by kernel_rfl) (by kernel_rfl) (by kernel_rfl)⟩)))))
    · obtain ⟨o14, rfl, ad15, cp16, S⟩ := hI
      have h := g18
      clear g18
      try dsimp only at h
      obtain ⟨t47, h, g48⟩ := bindSome h
      refine sCut (fun a w => ∃ o44, o44 = t47 ∧ ∃ ad45, ∃ cp46, St E [] w0 43 a w [(2, .slice ad15 o14.length cp16), (3, .slice ad45 o44.length cp46)] [eRow (rI .i64) 3 (.slice ad15 o14.length cp16) o14, eRow (rI .i64) 3 (.slice ad45 o44.length cp46) o44] []) ?_ (fun a w hI => ?_)
      · refine sSeq (fun K49 hK49 => ?_)
        refine sRegion ?_
        refine sField (b := b6) (off := 0) 0 0 S (wN rfl) rfl (by kernel_rfl) (by kernel_rfl) rfl rfl (by decide) (fun a S => ?_)
        refine sLoad1 (p := b6) (off := 0) (T := 24) (vs := [.int .i64 p0.W, .int .i64 p0.H, .slice ad3 p0.Bits.length cp4]) 0 (.int .i64 p0.W) S (wN rfl) rfl (by kernel_rfl) (by kernel_rfl) (by kernel_rfl) rfl rfl (by decide) (fun a S => ?_)
        refine sMove (.int .i64 0) S (wN rfl) (.inl rfl) (by kernel_rfl) rfl (by decide) (fun a S => ?_)
        refine leafL (leafT (hK49 _ _ ?_))
        refine wp_block ?_
        have S := S.nilRow (rI .i64) 3 (α := Int)
        obtain ⟨t56, hl, g55⟩ := bindSome h
        refine sLoop hl (fun s0 a w => match s0 with | (s50, s53) => ∃ ad51, ∃ cp52, St E [] w0 43 a w [(1, .pointer (some ⟨b6, 0, none⟩)), (2, .slice ad15 o14.length cp16), (3, .slice ad51 s50.length cp52), (28, .int .i64 p0.W), (29, .int .i64 s53)] [eBox b6 24 [.int .i64 p0.W, .int .i64 p0.H, .slice ad3 p0.Bits.length cp4], eRow (rI .i64) 3 (.slice ad15 o14.length cp16) o14, eRow (rI .i64) 3 (.slice ad51 s50.length cp52) s50] [fRep (rL rB) (.slice ad3 p0.Bits.length cp4) p0.Bits]) ⟨none, 0, S.fix [1, 2, 0] [0] (by decide) (by kernel_rfl) (by kernel_rfl) (by kernel_rfl)⟩ ?_
        clear hl h
        intro s0 a w c0 hI h hu54
        obtain ⟨s50, s53⟩ := s0
        unfold sett_Turns_l2 at h
        dsimp only at h hI
        obtain ⟨ad51, cp52, S⟩ := hI
        refine sSeq (fun K60 hK60 => ?_)
        refine sRegion ?_
        refine sBin (.bool (decide (s53 < p0.W))) S (wN rfl) rfl (by kernel_rfl) (by kernel_rfl) (bLt _ _ _ _ .i64 s53 p0.W) rfl (by decide) (fun a S => ?_)
        refine leafL (leafT (hK60 _ _ ?_))
        refine sSeq (fun K61 hK61 => ?_)
        rcases iteSome h with ⟨hc62, h⟩ | ⟨hc62, h⟩
        · refine sCondT (b := decide (s53 < p0.W)) S (by kernel_rfl) hc62 ?_
          refine wp_skip (leafT (hK61 _ _ ?_))
          refine sSeq (fun K63 hK63 => ?_)
          refine wp_block ?_
          refine sSeq (fun K64 hK64 => ?_)
          refine sRegion ?_
          refine sMove (.int .i64 s53) S (wN rfl) (.inl rfl) (by kernel_rfl) rfl (by decide) (fun a S => ?_)
          refine sAlloc (.int .i64 0) S (wN rfl) rfl (by kernel_rfl) [.int .i64 0] rfl rfl (by decide) (fun a b65 w S => ?_)
          refine sStore (p := b65) (off := 0) (T := 3) (vs := [.int .i64 0]) (v := .int .i64 s53) 0 [.int .i64 s53] S (wN rfl) rfl (by kernel_rfl) (by kernel_rfl) rfl (by kernel_rfl) (by kernel_rfl) rfl (by simp) rfl (fun a w S => ?_)
          refine leafL (leafT (hK64 _ _ ?_))
          refine sRegion ?_
          refine sMove (.slice ad51 s50.length cp52) S (wN rfl) (.inl rfl) (by kernel_rfl) rfl (by decide) (fun a S => ?_)
          refine sField (b := b6) (off := 0) 1 1 S (wN rfl) rfl (by kernel_rfl) (by kernel_rfl) rfl rfl (by decide) (fun a S => ?_)
          refine sLoad1 (p := b6) (off := 1) (T := 24) (vs := [.int .i64 p0.W, .int .i64 p0.H, .slice ad3 p0.Bits.length cp4]) 1 (.int .i64 p0.H) S (wN rfl) rfl (by kernel_rfl) (by kernel_rfl) (by kernel_rfl) rfl rfl (by decide) (fun a S => ?_)
          refine sFunc (g := 35) (vs := [.pointer (some ⟨b6, 0, none⟩), .pointer (some ⟨b65, 0, none⟩)]) S (wN rfl) rfl (by kernel_rfl) rfl (by decide) (fun a S => ?_)
          refine sBuild [(0, .int .i64 p0.H), (1, .func (.func 35) #[] #[.pointer (some ⟨b6, 0, none⟩), .pointer (some ⟨b65, 0, none⟩)])] [.int .i64 p0.H, .func (.func 35) #[] #[.pointer (some ⟨b6, 0, none⟩), .pointer (some ⟨b65, 0, none⟩)]] S (wN rfl) rfl (by kernel_rfl) (by kernel_rfl) rfl (by decide) (fun a S => ?_)
          obtain ⟨r66, hx67, h⟩ := bindSome h
          have S1 := S.mem
          have S1 := S1.learn (fRep r_api_Grid (.agg #[.int .i64 p0.W, .int .i64 p0.H, .slice ad3 p0.Bits.length cp4]) p0) ⟨_, rfl, S1.know (i := 0) (e := fRep (rL rB) (.slice ad3 p0.Bits.length cp4) p0.Bits) (by kernel_rfl)⟩
          have S1 := S1.shutB (r := r_api_Grid) (T := 24) (b := b6) (cs := [.int .i64 p0.W, .int .i64 p0.H, .slice ad3 p0.Bits.length cp4]) 1 (.agg #[.int .i64 p0.W, .int .i64 p0.H, .slice ad3 p0.Bits.length cp4]) p0 (by kernel_rfl) rfl (S1.know (i := 0) (e := fRep r_api_Grid (.agg #[.int .i64 p0.W, .int .i64 p0.H, .slice ad3 p0.Bits.length cp4]) p0) (by kernel_rfl))
          have S1 := S1.shutB (r := (rI .i64)) (T := 3) (b := b65) (cs := [.int .i64 s53]) 0 (.int .i64 s53) s53 (by kernel_rfl) rfl (rfl)
          refine sCallQ (X := Unit) (f := 34) (vs := [.agg #[.int .i64 p0.H, .func (.func 35) #[] #[.pointer (some ⟨b6, 0, none⟩), .pointer (some ⟨b65, 0, none⟩)]]]) (val := fun _ => .int .i64 r66) S (wN rfl) rfl callee34 (by kernel_rfl) (S1.quiet [1, 0] (by kernel_rfl)) (fun E1 w1 S1 => c_sett_line_turns_s1 E1 w1 p0.H p0 (.pointer (some ⟨b6, 0, none⟩)) s53 (.pointer (some ⟨b65, 0, none⟩)) r66 hx67 S1) rfl (by decide) (fun _ a w S => ?_)
          refine sLit (r := (rI .i64)) (T := 3) (xs := ([r66] : List Int)) [(0, .int .i64 r66)] 1 [.int .i64 r66] [.int .i64 r66] (.int .i64 0) 8 S (wN rfl) rfl (by kernel_rfl) Try.underlying27 (by kernel_rfl) (by decide) (by decide) (by kernel_rfl) rfl (fun E1 w1 hE => All.cons rfl (All.nil _ _ _)) rfl rfl (by decide) (fun a w ad68 cp69 S => ?_)
          obtain ⟨l70, hx71, h⟩ := bindSome h
          refine sApp (r := (rI .i64)) (T := 3) (xs := s50) (ys := ([r66] : List Int)) (v := .slice ad51 s50.length cp52) (u := .slice ad68 ([r66] : List Int).length cp69) 4 (.int .i64 0) 8 S (wN rfl) rfl Try.underlying27 (by kernel_rfl) rfl (by decide) (by kernel_rfl) (by kernel_rfl) (by kernel_rfl) (src_R (T := 3) 0 S.mem (by kernel_rfl)) hx71 rfl (by decide) (fun a w ad72 cp73 S => ?_)
          refine sMove (.slice ad72 l70.length cp73) S (wN rfl) (.inr rfl) (by kernel_rfl) rfl (by decide) (fun a S => ?_)
          refine leafL (leafB (leafT (hK63 _ _ ?_)))
          refine sRegion ?_
          refine sBin (.int .i64 (w64 (s53 + 1))) S (wN rfl) rfl (by kernel_rfl) (by kernel_rfl) (bAdd _ _ _ _ s53 1) rfl (by decide) (fun a S => ?_)
          refine sMove (.int .i64 (w64 (s53 + 1))) S (wN rfl) (.inl rfl) (by kernel_rfl) rfl (by decide) (fun a S => ?_)
          exact leafL (leafT (⟨(l70, w64 (s53 + 1)), (Option.some.inj h).symm, ⟨ad72, cp73, S.fix [3, 4, 0] [0] (by decide) (by kernel_rfl) (by kernel_rfl) (by kernel_rfl)⟩⟩))
        · refine sCondF (b := decide (s53 < p0.W)) S (by kernel_rfl) hc62 ?_
          obtain rfl := Option.some.inj h
          obtain rfl := hu54 _ rfl
          have h := g55
          clear g55
          try dsimp only at h
          exact wp_exit (xThen (xThen (xHit (leafT (⟨s50, Option.some.inj h, ad51, cp52, S.fix [1, 2] [] (by decide) (by kernel_rfl) (by kernel_rfl) (by kernel_rfl)⟩)))))
      · obtain ⟨o44, rfl, ad45, cp46, S⟩ := hI
        have h := g48
        clear g48
        try dsimp only at h
        refine sSeq (fun K74 hK74 => ?_)
        refine sRegion ?_
        refine sMove (.slice ad15 o14.length cp16) S (wN rfl) (.inl rfl) (by kernel_rfl) rfl (by decide) (fun a S => ?_)
        refine sMove (.slice ad45 o44.length cp46) S (wN rfl) (.inl rfl) (by kernel_rfl) rfl (by decide) (fun a S => ?_)
        refine sMove (.slice ad15 o14.length cp16) S (wN rfl) (.inr rfl) (by kernel_rfl) rfl (by decide) (fun a S => ?_)
        refine sMove (.slice ad45 o44.length cp46) S (wN rfl) (.inr rfl) (by kernel_rfl) rfl (by decide) (fun a S => ?_)
        refine sMove (.int .i64 0) S (wN rfl) (.inr rfl) (by kernel_rfl) rfl (by decide) (fun a S => ?_)
        refine leafL (leafT (hK74 _ _ ?_))
        obtain rfl := Option.some.inj h
        have S := S.shutR (r := (rI .i64)) (T := 3) (v := .slice ad15 o14.length cp16) (xs := o14) 0 (by kernel_rfl)
        have S := S.shutR (r := (rI .i64)) (T := 3) (v := .slice ad45 o44.length cp46) (xs := o44) 0 (by kernel_rfl)
        exact wp_ret (sRet (.tuple #[.slice ad15 o14.length cp16, .slice ad45 o44.length cp46, .int .i64 0]) S (rsl3 rfl (rvT (t := 2) (v := .slice ad15 o14.length cp16) S (by kernel_rfl)) (rvT (t := 3) (v := .slice ad45 o44.length cp46) S (by kernel_rfl)) (rvT (t := 4) (v := .int .i64 0) S (by kernel_rfl))) ⟨((.slice ad15 o14.length cp16), (.slice ad45 o44.length cp46)), rfl, S.mem.sel [] [1, 0] (by decide) (by kernel_rfl) (by kernel_rfl)⟩)

end Go.Proofs.Ytjndecalogklhaa
namespace Go.Proofs.Ytjndecalogklhaa
open Go.RowKit
set_option linter.unusedVariables false

noncomputable def F_yarn_size (p0 : Int) : Option Int :=
  if decide (p0 < 0) then
    some (IntKind.u64.wrap (0 - (IntKind.u64.wrap p0)))
  else
    some (IntKind.u64.wrap p0)
set_option maxHeartbeats 4000000 in
set_option maxRecDepth 100000 in
theorem c_yarn_size (E : Nat → Prop) (w0 : World) (p0 : Int) (r : Int) (h : F_yarn_size p0 = some r) (S : St0 E [] w0 w0 [] []) :
    Calls Try.prog 43 #[.int .i64 p0] w0 (Ret (X := Unit) E [] w0 (fun _ => .int .u64 r) (fun _ => []) (fun _ => [])) := by
  unfold F_yarn_size at h
  refine sEnter (args := [.int .i64 p0]) 10 Try.func43 rfl rfl (by simp) S (fun a S => ?_)
  refine sSeq (fun K1 hK1 => ?_)
  refine sRegion ?_
  refine sMove (.int .u64 0) S (wN rfl) (.inr rfl) (by kernel_rfl) rfl (by decide) (fun a S => ?_)
  refine leafL (leafT (hK1 _ _ ?_))
  refine sSeq (fun K2 hK2 => ?_)
  refine sSeq (fun K3 hK3 => ?_)
  refine sRegion ?_
  refine sMove (.int .i64 p0) S (wN rfl) (.inl rfl) (by kernel_rfl) rfl (by decide) (fun a S => ?_)
  refine sBin (.bool (decide (p0 < 0))) S (wN rfl) rfl (by kernel_rfl) (by kernel_rfl) (bLt _ _ _ _ .i64 p0 0) rfl (by decide) (fun a S => ?_)
  refine leafL (leafT (hK3 _ _ ?_))
  rcases iteSome h with ⟨hc4, h⟩ | ⟨hc4, h⟩
  · refine sCondT (b := decide (p0 < 0)) S (by kernel_rfl) hc4 ?_
    refine sSeq (fun K5 hK5 => ?_)
    refine sRegion ?_
    refine sMove (.int .i64 p0) S (wN rfl) (.inl rfl) (by kernel_rfl) rfl (by decide) (fun a S => ?_)
    refine sConv (k := .i64) (k2 := .u64) (b := p0) S (wN rfl) rfl Try.underlying2 Try.underlying69 (by kernel_rfl) rfl (by decide) (fun a S => ?_)
    refine sNegK (k := .u64) (b := IntKind.u64.wrap p0) S (wN rfl) rfl (by kernel_rfl) rfl (by decide) (fun a S => ?_)
    refine sMove (.int .u64 (IntKind.u64.wrap (0 - (IntKind.u64.wrap p0)))) S (wN rfl) (.inr rfl) (by kernel_rfl) rfl (by decide) (fun a S => ?_)
    refine leafL (leafT (hK5 _ _ ?_))
    obtain rfl := Option.some.inj h
    exact wp_ret (rThen (sRet (.int .u64 (IntKind.u64.wrap (0 - (IntKind.u64.wrap p0)))) S (rsl1 rfl (rvT (t := 2) (v := .int .u64 (IntKind.u64.wrap (0 - (IntKind.u64.wrap p0)))) S (by kernel_rfl))) ⟨(), rfl, S.mem.sel [] [] (by decide) (by kernel_rfl) (by kernel_rfl)⟩))
  · refine sCondF (b := decide (p0 < 0)) S (by kernel_rfl) hc4 ?_
    refine wp_skip (leafT (hK2 _ _ ?_))
    refine sSeq (fun K6 hK6 => ?_)
    refine sRegion ?_
    refine sMove (.int .i64 p0) S (wN rfl) (.inl rfl) (by kernel_rfl) rfl (by decide) (fun a S => ?_)
    refine sConv (k := .i64) (k2 := .u64) (b := p0) S (wN rfl) rfl Try.underlying2 Try.underlying69 (by kernel_rfl) rfl (by decide) (fun a S => ?_)
    refine sMove (.int .u64 (IntKind.u64.wrap p0)) S (wN rfl) (.inr rfl) (by kernel_rfl) rfl (by decide) (fun a S => ?_)
    refine leafL (leafT (hK6 _ _ ?_))
    obtain rfl := Option.some.inj h
    exact wp_ret (sRet (.int .u64 (IntKind.u64.wrap p0)) S (rsl1 rfl (rvT (t := 2) (v := .int .u64 (IntKind.u64.wrap p0)) S (by kernel_rfl))) ⟨(), rfl, S.mem.sel [] [] (by decide) (by kernel_rfl) (by kernel_rfl)⟩)

end Go.Proofs.Ytjndecalogklhaa
namespace Go.Proofs.Ytjndecalogklhaa
open Go.RowKit
set_option linter.unusedVariables false

noncomputable def yarn_gcd_l1  : (Int × Int) → Option ((Int × Int) ⊕ Int) := fun s0 => match s0 with
  | (s5, s6) =>
    if s6 != 0 then
      Option.bind (remI s5 s6) fun z14 =>
      some (.inl (s6, z14))
    else
      some (.inr s5)
noncomputable def F_yarn_gcd (p0 : Int) (p1 : Int) : Option Int :=
  Option.bind (α := Int) (
    Option.bind (whileO (yarn_gcd_l1) (p0, p1)) fun e10 =>
      some e10) fun o2 =>
  some o2
set_option maxHeartbeats 4000000 in
set_option maxRecDepth 100000 in
theorem c_yarn_gcd (E : Nat → Prop) (w0 : World) (p0 : Int) (p1 : Int) (r : Int) (h : F_yarn_gcd p0 p1 = some r) (S : St0 E [] w0 w0 [] []) :
    Calls Try.prog 44 #[.int .u64 p0, .int .u64 p1] w0 (Ret (X := Unit) E [] w0 (fun _ => .int .u64 r) (fun _ => []) (fun _ => [])) := by
  unfold F_yarn_gcd at h
  refine sEnter (args := [.int .u64 p0, .int .u64 p1]) 12 Try.func44 rfl rfl (by simp) S (fun a S => ?_)
  refine sSeq (fun K1 hK1 => ?_)
  refine sRegion ?_
  refine sMove (.int .u64 0) S (wN rfl) (.inr rfl) (by kernel_rfl) rfl (by decide) (fun a S => ?_)
  refine leafL (leafT (hK1 _ _ ?_))
  obtain ⟨t3, h, g4⟩ := bindSome h
  refine sCut (fun a w => ∃ o2, o2 = t3 ∧ St E [] w0 12 a w [(0, .int .u64 o2)] [] []) ?_ (fun a w hI => ?_)
  · refine wp_block ?_
    obtain ⟨t9, hl, g8⟩ := bindSome h
    refine sLoop hl (fun s0 a w => match s0 with | (s5, s6) => St E [] w0 12 a w [(0, .int .u64 s5), (1, .int .u64 s6)] [] []) (S.fix [] [] (by decide) (by kernel_rfl) (by kernel_rfl) (by kernel_rfl)) ?_
    clear hl h
    intro s0 a w c0 hI h hu7
    obtain ⟨s5, s6⟩ := s0
    unfold yarn_gcd_l1 at h
    dsimp only at h hI
    have S := hI
    refine sSeq (fun K11 hK11 => ?_)
    refine sSeq (fun K12 hK12 => ?_)
    refine sRegion ?_
    refine sMove (.int .u64 s6) S (wN rfl) (.inl rfl) (by kernel_rfl) rfl (by decide) (fun a S => ?_)
    refine sBin (.bool (s6 != 0)) S (wN rfl) rfl (by kernel_rfl) (by kernel_rfl) (bNe _ _ _ _ .u64 s6 0) rfl (by decide) (fun a S => ?_)
    refine leafL (leafT (hK12 _ _ ?_))
    rcases iteSome h with ⟨hc13, h⟩ | ⟨hc13, h⟩
    · refine sCondT (b := s6 != 0) S (by kernel_rfl) hc13 ?_
      refine wp_skip (leafT (hK11 _ _ ?_))
      refine wp_block ?_
      obtain ⟨z14, hx15, h⟩ := bindSome h
      refine sDraw (nf := []) (W := [(0, 7, .int .u64 s6), (1, 8, .int .u64 s5), (2, 9, .int .u64 s6), (3, 10, .int .u64 z14), (4, 0, .int .u64 s6), (5, 1, .int .u64 z14)]) (by kernel_rfl) S ?_
      refine node_by (A := [[], [], [], [1, 2], [0, 1], [0, 1, 2, 3, 4]]) (nf := []) (Y := []) (W := [(0, 7, .int .u64 s6), (1, 8, .int .u64 s5), (2, 9, .int .u64 s6), (3, 10, .int .u64 z14), (4, 0, .int .u64 s6), (5, 1, .int .u64 z14)]) 6 (by kernel_rfl) (by kernel_rfl) (by kernel_rfl) (by kernel_rfl) (by kernel_rfl) [0, 1, 2, 3, 4, 5] (by kernel_rfl) (by decide) (by decide) (aF 0 5 (by decide) ?_ (aF 1 4 (by decide) ?_ (aF 2 3 (by decide) ?_ (aF 3 2 (by decide) ?_ (aF 4 1 (by decide) ?_ (aF 5 0 (by decide) ?_ (trivial))))))) [(0, .int .u64 s6), (1, .int .u64 z14)] (fin_of [some 4, some 5] rfl (by kernel_rfl) (by kernel_rfl)) (fun _ a w S => ?_)
      · refine fI 7 (.int .u64 s6) [(1, .int .u64 s6)] 0 [none] rfl rfl (by kernel_rfl) rfl (by kernel_rfl) (by kernel_rfl) fun G a w S => ?_
        refine sMove (.int .u64 s6) S (wN rfl) (.inl rfl) (by kernel_rfl) rfl (by decide) (fun a S => ?_)
        exact leafL ⟨rfl, S⟩
      · refine fI 8 (.int .u64 s5) [(0, .int .u64 s5)] 1 [none] rfl rfl (by kernel_rfl) rfl (by kernel_rfl) (by kernel_rfl) fun G a w S => ?_
        refine sMove (.int .u64 s5) S (wN rfl) (.inl rfl) (by kernel_rfl) rfl (by decide) (fun a S => ?_)
        exact leafL ⟨rfl, S⟩
      · refine fI 9 (.int .u64 s6) [(1, .int .u64 s6)] 2 [none] rfl rfl (by kernel_rfl) rfl (by kernel_rfl) (by kernel_rfl) fun G a w S => ?_
        refine sMove (.int .u64 s6) S (wN rfl) (.inl rfl) (by kernel_rfl) rfl (by decide) (fun a S => ?_)
        exact leafL ⟨rfl, S⟩
      · refine fI 10 (.int .u64 z14) [(8, .int .u64 s5), (9, .int .u64 s6)] 3 [some 1, some 2] rfl rfl (by kernel_rfl) rfl (by kernel_rfl) (by kernel_rfl) fun G a w S => ?_
        refine sBin (.int .u64 z14) S (wN rfl) rfl (by kernel_rfl) (by kernel_rfl) (bRemK _ _ _ _ (k := .u64) (x := s5) (y := s6) hx15) rfl (by decide) (fun a S => ?_)
        exact leafL ⟨rfl, S⟩
      · refine fI 0 (.int .u64 s6) [(7, .int .u64 s6)] 4 [some 0] rfl rfl (by kernel_rfl) rfl (by kernel_rfl) (by kernel_rfl) fun G a w S => ?_
        refine sMove (.int .u64 s6) S (wN rfl) (.inr rfl) (by kernel_rfl) rfl (by decide) (fun a S => ?_)
        exact leafL ⟨rfl, S⟩
      · refine fI 1 (.int .u64 z14) [(10, .int .u64 z14)] 5 [some 3] rfl rfl (by kernel_rfl) rfl (by kernel_rfl) (by kernel_rfl) fun G a w S => ?_
        refine sMove (.int .u64 z14) S (wN rfl) (.inr rfl) (by kernel_rfl) rfl (by decide) (fun a S => ?_)
        exact leafL ⟨rfl, S⟩
      · exact leafB (leafT (⟨(s6, z14), (Option.some.inj h).symm, (S.fix [] [] (by decide) (by kernel_rfl) (by kernel_rfl) (by kernel_rfl))⟩))
    · refine sCondF (b := s6 != 0) S (by kernel_rfl) hc13 ?_
      obtain rfl := Option.some.inj h
      obtain rfl := hu7 _ rfl
      have h := g8
      clear g8
      try dsimp only at h
      exact wp_exit (xThen (xThen (xHit (leafT (⟨s5, Option.some.inj h, S.fix [] [] (by decide) (by kernel_rfl) (by kernel_rfl) (by kernel_rfl)⟩)))))
  · obtain ⟨o2, rfl, S⟩ := hI
    have h := g4
    clear g4
    try dsimp only at h
    refine sSeq (fun K16 hK16 => ?_)
    refine sRegion ?_
    refine sMove (.int .u64 o2) S (wN rfl) (.inl rfl) (by kernel_rfl) rfl (by decide) (fun a S => ?_)
    refine sMove (.int .u64 o2) S (wN rfl) (.inr rfl) (by kernel_rfl) rfl (by decide) (fun a S => ?_)
    refine leafL (leafT (hK16 _ _ ?_))
    obtain rfl := Option.some.inj h
    exact wp_ret (sRet (.int .u64 o2) S (rsl1 rfl (rvT (t := 4) (v := .int .u64 o2) S (by kernel_rfl))) ⟨(), rfl, S.mem.sel [] [] (by decide) (by kernel_rfl) (by kernel_rfl)⟩)

end Go.Proofs.Ytjndecalogklhaa
namespace Go.Proofs.Ytjndecalogklhaa
open Go.RowKit
set_option linter.unusedVariables false

def anc_yarn_Make_0 : List (List Nat) := [[], [], [0, 1], [], [], [3, 4], [0, 1, 2], [0, 1, 2, 3, 4, 5, 6]]
noncomputable def F_yarn_Make (p0 : Int) (p1 : Int) : Option (api_Ratio × Int) :=
  if p1 == 0 then
    some ((api_Ratio.mk 0 0), 18)
  else
    Option.bind (F_yarn_size p0) fun r8 =>
    Option.bind (F_yarn_size p1) fun r10 =>
    Option.bind (F_yarn_gcd r8 r10) fun r13 =>
    Option.bind (quoK .u64 r8 r13) fun z16 =>
    Option.bind (quoK .u64 r10 r13) fun z18 =>
    Option.bind (α := Bool) (
      if decide (1000000000 < z16) then
        some true
      else
        some (decide (1000000000 < z18))) fun o21 =>
    if o21 then
      some ((api_Ratio.mk 0 0), 16)
    else
      Option.bind (α := Int) (
        if (decide (p0 < 0)) != (decide (p1 < 0)) then
          some (w64 (0 - (IntKind.i64.wrap z16)))
        else
          some (IntKind.i64.wrap z16)) fun o29 =>
      some ((api_Ratio.mk o29 (IntKind.i64.wrap z18)), 0)
def c_yarn_Make_val (r : (api_Ratio × Int)) (x : Value) : Value := .tuple #[x, .int .i64 r.2]
def c_yarn_Make_D (r : (api_Ratio × Int)) (x : Value) : List Fact := [fRep r_api_Ratio x r.1]
set_option maxHeartbeats 4000000 in
set_option maxRecDepth 100000 in
theorem c_yarn_Make (E : Nat → Prop) (w0 : World) (p0 : Int) (p1 : Int) (r : (api_Ratio × Int)) (h : F_yarn_Make p0 p1 = some r) (S : St0 E [] w0 w0 [] []) :
    Calls Try.prog 39 #[.int .i64 p0, .int .i64 p1] w0 (Ret (X := Value) E [] w0 (c_yarn_Make_val r) (fun _ => []) (c_yarn_Make_D r)) := by
  unfold F_yarn_Make at h
  refine sEnter (args := [.int .i64 p0, .int .i64 p1]) 48 Try.func39 rfl rfl (by simp) S (fun a S => ?_)
  refine sSeq (fun K1 hK1 => ?_)
  refine sRegion ?_
  refine sAlloc (.agg #[.int .i64 0, .int .i64 0]) S (wN rfl) rfl (by kernel_rfl) [.int .i64 0, .int .i64 0] rfl rfl (by decide) (fun a b2 w S => ?_)
  refine sMove (.int .i64 0) S (wN rfl) (.inr rfl) (by kernel_rfl) rfl (by decide) (fun a S => ?_)
  refine leafL (leafT (hK1 _ _ ?_))
  refine sSeq (fun K3 hK3 => ?_)
  refine sSeq (fun K4 hK4 => ?_)
  refine sRegion ?_
  refine sMove (.int .i64 p1) S (wN rfl) (.inl rfl) (by kernel_rfl) rfl (by decide) (fun a S => ?_)
  refine sBin (.bool (p1 == 0)) S (wN rfl) rfl (by kernel_rfl) (by kernel_rfl) (bEq _ _ _ _ .i64 p1 0) rfl (by decide) (fun a S => ?_)
  refine leafL (leafT (hK4 _ _ ?_))
  rcases iteSome h with ⟨hc5, h⟩ | ⟨hc5, h⟩
  · refine sCondT (b := p1 == 0) S (by kernel_rfl) hc5 ?_
    refine sSeq (fun K6 hK6 => ?_)
    refine sRegion ?_
    refine sBuild [] [.int .i64 0, .int .i64 0] S (wN rfl) rfl (by kernel_rfl) (by kernel_rfl) rfl (by decide) (fun a S => ?_)
    refine sStore (p := b2) (off := 0) (T := 34) (vs := [.int .i64 0, .int .i64 0]) (v := .agg #[.int .i64 0, .int .i64 0]) 0 [.int .i64 0, .int .i64 0] S (wN rfl) rfl (by kernel_rfl) (by kernel_rfl) rfl (by kernel_rfl) (by kernel_rfl) rfl (by simp) rfl (fun a w S => ?_)
    refine sMove (.int .i64 18) S (wN rfl) (.inr rfl) (by kernel_rfl) rfl (by decide) (fun a S => ?_)
    refine leafL (leafT (hK6 _ _ ?_))
    obtain rfl := Option.some.inj h
    have S := S.learn (fRep r_api_Ratio (.agg #[.int .i64 0, .int .i64 0]) (api_Ratio.mk 0 0)) rfl
    exact wp_ret (rThen (sRet (.tuple #[.agg #[.int .i64 0, .int .i64 0], .int .i64 18]) S (rsl2 rfl (rvN (c := 4) (t := 34) (T := 34) (p := b2) 0 [.int .i64 0, .int .i64 0] S (by kernel_rfl) (by kernel_rfl) (by kernel_rfl) (by kernel_rfl)) (rvT (t := 5) (v := .int .i64 18) S (by kernel_rfl))) ⟨(.agg #[.int .i64 0, .int .i64 0]), rfl, S.mem.sel [] [0] (by decide) (by kernel_rfl) (by kernel_rfl)⟩))
  · refine sCondF (b := p1 == 0) S (by kernel_rfl) hc5 ?_
    refine wp_skip (leafT (hK3 _ _ ?_))
    refine sSeq (fun K7 hK7 => ?_)
    refine sRegion ?_
    refine sMove (.int .i64 p0) S (wN rfl) (.inl rfl) (by kernel_rfl) rfl (by decide) (fun a S => ?_)
    obtain ⟨r8, hx9, h⟩ := bindSome h
    have S1 := S.mem
    refine sCallQ (X := Unit) (f := 43) (vs := [.int .i64 p0]) (val := fun _ => .int .u64 r8) S (wN rfl) rfl callee43 (by kernel_rfl) (S1.quiet [] (by kernel_rfl)) (fun E1 w1 S1 => c_yarn_size E1 w1 p0 r8 hx9 S1) rfl (by decide) (fun _ a w S => ?_)
    refine sMove (.int .i64 p1) S (wN rfl) (.inl rfl) (by kernel_rfl) rfl (by decide) (fun a S => ?_)
    obtain ⟨r10, hx11, h⟩ := bindSome h
    have S1 := S.mem
    refine sCallQ (X := Unit) (f := 43) (vs := [.int .i64 p1]) (val := fun _ => .int .u64 r10) S (wN rfl) rfl callee43 (by kernel_rfl) (S1.quiet [] (by kernel_rfl)) (fun E1 w1 S1 => c_yarn_size E1 w1 p1 r10 hx11 S1) rfl (by decide) (fun _ a w S => ?_)
    refine sMove (.int .u64 r8) S (wN rfl) (.inr rfl) (by kernel_rfl) rfl (by decide) (fun a S => ?_)
    refine sMove (.int .u64 r10) S (wN rfl) (.inr rfl) (by kernel_rfl) rfl (by decide) (fun a S => ?_)
    refine leafL (leafT (hK7 _ _ ?_))
    refine sSeq (fun K12 hK12 => ?_)
    refine sRegion ?_
    refine sMove (.int .u64 r8) S (wN rfl) (.inl rfl) (by kernel_rfl) rfl (by decide) (fun a S => ?_)
    refine sMove (.int .u64 r10) S (wN rfl) (.inl rfl) (by kernel_rfl) rfl (by decide) (fun a S => ?_)
    obtain ⟨r13, hx14, h⟩ := bindSome h
    have S1 := S.mem
    refine sCallQ (X := Unit) (f := 44) (vs := [.int .u64 r8, .int .u64 r10]) (val := fun _ => .int .u64 r13) S (wN rfl) rfl callee44 (by kernel_rfl) (S1.quiet [] (by kernel_rfl)) (fun E1 w1 S1 => c_yarn_gcd E1 w1 r8 r10 r13 hx14 S1) rfl (by decide) (fun _ a w S => ?_)
    refine sMove (.int .u64 r13) S (wN rfl) (.inr rfl) (by kernel_rfl) rfl (by decide) (fun a S => ?_)
    refine leafL (leafT (hK12 _ _ ?_))
    refine sSeq (fun K15 hK15 => ?_)
    obtain ⟨z16, hx17, h⟩ := bindSome h
    obtain ⟨z18, hx19, h⟩ := bindSome h
    refine sDraw (nf := []) (W := [(0, 20, .int .u64 r8), (1, 21, .int .u64 r13), (2, 22, .int .u64 z16), (3, 23, .int .u64 r10), (4, 24, .int .u64 r13), (5, 25, .int .u64 z18), (6, 6, .int .u64 z16), (7, 7, .int .u64 z18)]) (by kernel_rfl) S ?_
    refine node_by (A := anc_yarn_Make_0) (nf := []) (Y := []) (W := [(0, 20, .int .u64 r8), (1, 21, .int .u64 r13), (2, 22, .int .u64 z16), (3, 23, .int .u64 r10), (4, 24, .int .u64 r13), (5, 25, .int .u64 z18), (6, 6, .int .u64 z16), (7, 7, .int .u64 z18)]) 8 (by kernel_rfl) (by kernel_rfl) (by kernel_rfl) (by kernel_rfl) (by kernel_rfl) [0, 1, 2, 3, 4, 5, 6, 7] (by kernel_rfl) (by decide) (by decide) (aF 0 7 (by decide) ?_ (aF 1 6 (by decide) ?_ (aF 2 5 (by decide) ?_ (aF 3 4 (by decide) ?_ (aF 4 3 (by decide) ?_ (aF 5 2 (by decide) ?_ (aF 6 1 (by decide) ?_ (aF 7 0 (by decide) ?_ (trivial))))))))) [(0, .int .i64 p0), (1, .int .i64 p1), (4, .pointer (some ⟨b2, 0, none⟩)), (6, .int .u64 z16), (7, .int .u64 z18)] (fin_of [none, none, none, some 6, some 7] rfl (by kernel_rfl) (by kernel_rfl)) (fun _ a w S => ?_)
    · refine fI 20 (.int .u64 r8) [(6, .int .u64 r8)] 0 [none] rfl rfl (by kernel_rfl) rfl (by kernel_rfl) (by kernel_rfl) fun G a w S => ?_
      refine sMove (.int .u64 r8) S (wN rfl) (.inl rfl) (by kernel_rfl) rfl (by decide) (fun a S => ?_)
      exact leafL ⟨rfl, S⟩
    · refine fI 21 (.int .u64 r13) [(8, .int .u64 r13)] 1 [none] rfl rfl (by kernel_rfl) rfl (by kernel_rfl) (by kernel_rfl) fun G a w S => ?_
      refine sMove (.int .u64 r13) S (wN rfl) (.inl rfl) (by kernel_rfl) rfl (by decide) (fun a S => ?_)
      exact leafL ⟨rfl, S⟩
    · refine fI 22 (.int .u64 z16) [(20, .int .u64 r8), (21, .int .u64 r13)] 2 [some 0, some 1] rfl rfl (by kernel_rfl) rfl (by kernel_rfl) (by kernel_rfl) fun G a w S => ?_
      refine sBin (.int .u64 z16) S (wN rfl) rfl (by kernel_rfl) (by kernel_rfl) (bQuoK _ _ _ _ (k := .u64) (x := r8) (y := r13) hx17) rfl (by decide) (fun a S => ?_)
      exact leafL ⟨rfl, S⟩
    · refine fI 23 (.int .u64 r10) [(7, .int .u64 r10)] 3 [none] rfl rfl (by kernel_rfl) rfl (by kernel_rfl) (by kernel_rfl) fun G a w S => ?_
      refine sMove (.int .u64 r10) S (wN rfl) (.inl rfl) (by kernel_rfl) rfl (by decide) (fun a S => ?_)
      exact leafL ⟨rfl, S⟩
    · refine fI 24 (.int .u64 r13) [(8, .int .u64 r13)] 4 [none] rfl rfl (by kernel_rfl) rfl (by kernel_rfl) (by kernel_rfl) fun G a w S => ?_
      refine sMove (.int .u64 r13) S (wN rfl) (.inl rfl) (by kernel_rfl) rfl (by decide) (fun a S => ?_)
      exact leafL ⟨rfl, S⟩
    · refine fI 25 (.int .u64 z18) [(23, .int .u64 r10), (24, .int .u64 r13)] 5 [some 3, some 4] rfl rfl (by kernel_rfl) rfl (by kernel_rfl) (by kernel_rfl) fun G a w S => ?_
      refine sBin (.int .u64 z18) S (wN rfl) rfl (by kernel_rfl) (by kernel_rfl) (bQuoK _ _ _ _ (k := .u64) (x := r10) (y := r13) hx19) rfl (by decide) (fun a S => ?_)
      exact leafL ⟨rfl, S⟩
    · refine fI 6 (.int .u64 z16) [(22, .int .u64 z16)] 6 [some 2] rfl rfl (by kernel_rfl) rfl (by kernel_rfl) (by kernel_rfl) fun G a w S => ?_
      refine sMove (.int .u64 z16) S (wN rfl) (.inr rfl) (by kernel_rfl) rfl (by decide) (fun a S => ?_)
      exact leafL ⟨rfl, S⟩
    · refine fI 7 (.int .u64 z18) [(25, .int .u64 z18)] 7 [some 5] rfl rfl (by kernel_rfl) rfl (by kernel_rfl) (by kernel_rfl) fun G a w S => ?_
      refine sMove (.int .u64 z18) S (wN rfl) (.inr rfl) (by kernel_rfl) rfl (by decide) (fun a S => ?_)
      exact leafL ⟨rfl, S⟩
    · refine leafT (hK15 _ _ ?_)
      refine sSeq (fun K20 hK20 => ?_)
      obtain ⟨t22, h, g23⟩ := bindSome h
      refine sCut (fun a w => ∃ o21, o21 = t22 ∧ St E [] w0 48 a w [(0, .int .i64 p0), (1, .int .i64 p1), (4, .pointer (some ⟨b2, 0, none⟩)), (6, .int .u64 z16), (7, .int .u64 z18), (31, .bool o21)] [eBox b2 34 [.int .i64 0, .int .i64 0]] []) ?_ (fun a w hI => ?_)
      · refine sRegion ?_
        refine sMove (.int .u64 z16) S (wN rfl) (.inl rfl) (by kernel_rfl) rfl (by decide) (fun a S => ?_)
        refine sBin (.bool (decide (1000000000 < z16))) S (wN rfl) rfl (by kernel_rfl) (by kernel_rfl) (bGt _ _ _ _ .u64 z16 1000000000) rfl (by decide) (fun a S => ?_)
        refine sMove (.bool (decide (1000000000 < z16))) S (wN rfl) (.inl rfl) (by kernel_rfl) rfl (by decide) (fun a S => ?_)
        rcases iteSome h with ⟨hc24, h⟩ | ⟨hc24, h⟩
        · refine sSkip (c := decide (1000000000 < z16)) 2 false 28 29 S rfl rfl (by kernel_rfl) hc24 rfl (by decide) (fun a S => ?_)
          refine sSkip (c := decide (1000000000 < z16)) 2 false 28 30 S rfl rfl (by kernel_rfl) hc24 rfl (by decide) (fun a S => ?_)
          refine sPickT (b := decide (1000000000 < z16)) (.bool true) S (wN rfl) rfl (by kernel_rfl) hc24 (by kernel_rfl) rfl (by decide) (fun a S => ?_)
          exact leafL (leafT (⟨true, Option.some.inj h, S.fix [0] [] (by decide) (by kernel_rfl) (by kernel_rfl) (by kernel_rfl)⟩))
        · refine sMove (.int .u64 z18) S (wG (c := decide (1000000000 < z16)) 2 false 28 rfl rfl (by kernel_rfl) hc24) (.inl rfl) (by kernel_rfl) rfl (by decide) (fun a S => ?_)
          refine sBin (.bool (decide (1000000000 < z18))) S (wG (c := decide (1000000000 < z16)) 2 false 28 rfl rfl (by kernel_rfl) hc24) rfl (by kernel_rfl) (by kernel_rfl) (bGt _ _ _ _ .u64 z18 1000000000) rfl (by decide) (fun a S => ?_)
          refine sPickF (b := decide (1000000000 < z16)) (.bool (decide (1000000000 < z18))) S (wN rfl) rfl (by kernel_rfl) hc24 (by kernel_rfl) rfl (by decide) (fun a S => ?_)
          exact leafL (leafT (⟨decide (1000000000 < z18), Option.some.inj h, S.fix [0] [] (by decide) (by kernel_rfl) (by kernel_rfl) (by kernel_rfl)⟩))
      · obtain ⟨o21, rfl, S⟩ := hI
        have h := g23
        clear g23
        try dsimp only at h
        rcases iteSome h with ⟨hc25, h⟩ | ⟨hc25, h⟩
        · refine sCondT (b := o21) S (by kernel_rfl) hc25 ?_
          refine sSeq (fun K26 hK26 => ?_)
          refine sRegion ?_
          refine sBuild [] [.int .i64 0, .int .i64 0] S (wN rfl) rfl (by kernel_rfl) (by kernel_rfl) rfl (by decide) (fun a S => ?_)
          refine sStore (p := b2) (off := 0) (T := 34) (vs := [.int .i64 0, .int .i64 0]) (v := .agg #[.int .i64 0, .int .i64 0]) 0 [.int .i64 0, .int .i64 0] S (wN rfl) rfl (by kernel_rfl) (by kernel_rfl) rfl (by kernel_rfl) (by kernel_rfl) rfl (by simp) rfl (fun a w S => ?_)
          refine sMove (.int .i64 16) S (wN rfl) (.inr rfl) (by kernel_rfl) rfl (by decide) (fun a S => ?_)
          refine leafL (leafT (hK26 _ _ ?_))
          obtain rfl := Option.some.inj h
          have S := S.learn (fRep r_api_Ratio (.agg #[.int .i64 0, .int .i64 0]) (api_Ratio.mk 0 0)) rfl
          exact wp_ret (rThen (sRet (.tuple #[.agg #[.int .i64 0, .int .i64 0], .int .i64 16]) S (rsl2 rfl (rvN (c := 4) (t := 34) (T := 34) (p := b2) 0 [.int .i64 0, .int .i64 0] S (by kernel_rfl) (by kernel_rfl) (by kernel_rfl) (by kernel_rfl)) (rvT (t := 5) (v := .int .i64 16) S (by kernel_rfl))) ⟨(.agg #[.int .i64 0, .int .i64 0]), rfl, S.mem.sel [] [0] (by decide) (by kernel_rfl) (by kernel_rfl)⟩))
        · refine sCondF (b := o21) S (by kernel_rfl) hc25 ?_
          refine wp_skip (leafT (hK20 _ _ ?_))
          refine sSeq (fun K27 hK27 => ?_)
          refine sRegion ?_
          refine sMove (.int .u64 z16) S (wN rfl) (.inl rfl) (by kernel_rfl) rfl (by decide) (fun a S => ?_)
          refine sConv (k := .u64) (k2 := .i64) (b := z16) S (wN rfl) rfl Try.underlying69 Try.underlying2 (by kernel_rfl) rfl (by decide) (fun a S => ?_)
          refine sMove (.int .u64 z18) S (wN rfl) (.inl rfl) (by kernel_rfl) rfl (by decide) (fun a S => ?_)
          refine sConv (k := .u64) (k2 := .i64) (b := z18) S (wN rfl) rfl Try.underlying69 Try.underlying2 (by kernel_rfl) rfl (by decide) (fun a S => ?_)
          refine sBuild [(0, .int .i64 (IntKind.i64.wrap z16)), (1, .int .i64 (IntKind.i64.wrap z18))] [.int .i64 (IntKind.i64.wrap z16), .int .i64 (IntKind.i64.wrap z18)] S (wN rfl) rfl (by kernel_rfl) (by kernel_rfl) rfl (by decide) (fun a S => ?_)
          refine sAlloc (.agg #[.int .i64 0, .int .i64 0]) S (wN rfl) rfl (by kernel_rfl) [.int .i64 0, .int .i64 0] rfl rfl (by decide) (fun a b28 w S => ?_)
          refine sStore (p := b28) (off := 0) (T := 34) (vs := [.int .i64 0, .int .i64 0]) (v := .agg #[.int .i64 (IntKind.i64.wrap z16), .int .i64 (IntKind.i64.wrap z18)]) 0 [.int .i64 (IntKind.i64.wrap z16), .int .i64 (IntKind.i64.wrap z18)] S (wN rfl) rfl (by kernel_rfl) (by kernel_rfl) rfl (by kernel_rfl) (by kernel_rfl) rfl (by simp) rfl (fun a w S => ?_)
          refine leafL (leafT (hK27 _ _ ?_))
          obtain ⟨t30, h, g31⟩ := bindSome h
          refine sCut (fun a w => ∃ o29, o29 = t30 ∧ St E [] w0 48 a w [(4, .pointer (some ⟨b2, 0, none⟩)), (9, .pointer (some ⟨b28, 0, none⟩))] [eBox b2 34 [.int .i64 0, .int .i64 0], eBox b28 34 [.int .i64 o29, .int .i64 (IntKind.i64.wrap z18)]] []) ?_ (fun a w hI => ?_)
          · refine sSeq (fun K32 hK32 => ?_)
            refine sRegion ?_
            refine sMove (.int .i64 p0) S (wN rfl) (.inl rfl) (by kernel_rfl) rfl (by decide) (fun a S => ?_)
            refine sBin (.bool (decide (p0 < 0))) S (wN rfl) rfl (by kernel_rfl) (by kernel_rfl) (bLt _ _ _ _ .i64 p0 0) rfl (by decide) (fun a S => ?_)
            refine sMove (.int .i64 p1) S (wN rfl) (.inl rfl) (by kernel_rfl) rfl (by decide) (fun a S => ?_)
            refine sBin (.bool (decide (p1 < 0))) S (wN rfl) rfl (by kernel_rfl) (by kernel_rfl) (bLt _ _ _ _ .i64 p1 0) rfl (by decide) (fun a S => ?_)
            refine sBin (.bool ((decide (p0 < 0)) != (decide (p1 < 0)))) S (wN rfl) rfl (by kernel_rfl) (by kernel_rfl) (bNeB _ _ _ _ Try.underlying4 (decide (p0 < 0)) (decide (p1 < 0))) rfl (by decide) (fun a S => ?_)
            refine leafL (leafT (hK32 _ _ ?_))
            rcases iteSome h with ⟨hc33, h⟩ | ⟨hc33, h⟩
            · refine sCondT (b := (decide (p0 < 0)) != (decide (p1 < 0))) S (by kernel_rfl) hc33 ?_
              refine sRegion ?_
              refine sField (b := b28) (off := 0) 0 0 S (wN rfl) rfl (by kernel_rfl) (by kernel_rfl) rfl rfl (by decide) (fun a S => ?_)
              refine sLoad1 (p := b28) (off := 0) (T := 34) (vs := [.int .i64 (IntKind.i64.wrap z16), .int .i64 (IntKind.i64.wrap z18)]) 0 (.int .i64 (IntKind.i64.wrap z16)) S (wN rfl) rfl (by kernel_rfl) (by kernel_rfl) (by kernel_rfl) rfl rfl (by decide) (fun a S => ?_)
              refine sNeg (b := IntKind.i64.wrap z16) S (wN rfl) rfl (by kernel_rfl) rfl (by decide) (fun a S => ?_)
              refine sField (b := b28) (off := 0) 0 0 S (wN rfl) rfl (by kernel_rfl) (by kernel_rfl) rfl rfl (by decide) (fun a S => ?_)
              refine sStore (p := b28) (off := 0) (T := 34) (vs := [.int .i64 (IntKind.i64.wrap z16), .int .i64 (IntKind.i64.wrap z18)]) (v := .int .i64 (w64 (0 - (IntKind.i64.wrap z16)))) 0 [.int .i64 (w64 (0 - (IntKind.i64.wrap z16)))] S (wN rfl) rfl (by kernel_rfl) (by kernel_rfl) rfl (by kernel_rfl) (by kernel_rfl) rfl (by simp) rfl (fun a w S => ?_)
              exact leafL (leafT (⟨w64 (0 - (IntKind.i64.wrap z16)), Option.some.inj h, S.fix [1, 0] [] (by decide) (by kernel_rfl) (by kernel_rfl) (by kernel_rfl)⟩))
            · refine sCondF (b := (decide (p0 < 0)) != (decide (p1 < 0))) S (by kernel_rfl) hc33 ?_
              exact wp_skip (leafT (⟨IntKind.i64.wrap z16, Option.some.inj h, S.fix [1, 0] [] (by decide) (by kernel_rfl) (by kernel_rfl) (by kernel_rfl)⟩))
          · obtain ⟨o29, rfl, S⟩ := hI
            have h := g31
            clear g31
            try dsimp only at h
            refine sSeq (fun K34 hK34 => ?_)
            refine sRegion ?_
            refine sLoadN (p := b28) (off := 0) (T := 34) (vs := [.int .i64 o29, .int .i64 (IntKind.i64.wrap z18)]) 1 [.int .i64 o29, .int .i64 (IntKind.i64.wrap z18)] S (wN rfl) rfl (by kernel_rfl) (by kernel_rfl) (by kernel_rfl) (by kernel_rfl) rfl rfl (by decide) (fun a S => ?_)
            refine sStore (p := b2) (off := 0) (T := 34) (vs := [.int .i64 0, .int .i64 0]) (v := .agg #[.int .i64 o29, .int .i64 (IntKind.i64.wrap z18)]) 0 [.int .i64 o29, .int .i64 (IntKind.i64.wrap z18)] S (wN rfl) rfl (by kernel_rfl) (by kernel_rfl) rfl (by kernel_rfl) (by kernel_rfl) rfl (by simp) rfl (fun a w S => ?_)
            refine sMove (.int .i64 0) S (wN rfl) (.inr rfl) (by kernel_rfl) rfl (by decide) (fun a S => ?_)
            refine leafL (leafT (hK34 _ _ ?_))
            obtain rfl := Option.some.inj h
            have S := S.learn (fRep r_api_Ratio (.agg #[.int .i64 o29, .int .i64 (IntKind.i64.wrap z18)]) (api_Ratio.mk o29 (IntKind.i64.wrap z18))) rfl
            exact wp_ret (sRet (.tuple #[.agg #[.int .i64 o29, .int .i64 (IntKind.i64.wrap z18)], .int .i64 0]) S (rsl2 rfl (rvN (c := 4) (t := 34) (T := 34) (p := b2) 0 [.int .i64 o29, .int .i64 (IntKind.i64.wrap z18)] S (by kernel_rfl) (by kernel_rfl) (by kernel_rfl) (by kernel_rfl)) (rvT (t := 5) (v := .int .i64 0) S (by kernel_rfl))) ⟨(.agg #[.int .i64 o29, .int .i64 (IntKind.i64.wrap z18)]), rfl, S.mem.sel [] [0] (by decide) (by kernel_rfl) (by kernel_rfl)⟩)

end Go.Proofs.Ytjndecalogklhaa
namespace Go.Proofs.Ytjndecalogklhaa
open Go.RowKit
set_option linter.unusedVariables false

noncomputable def sett_sum_l1 (p1 : (List Int)) : (Int × Int) → Option ((Int × Int) ⊕ Int) := fun s0 => match s0 with
  | (s8, s9) =>
    if decide (s9 < (p1.length : Int)) then
      Option.bind (idxO p1 s9) fun x19 =>
      some (.inl (w64 (s8 + x19), w64 (s9 + 1)))
    else
      some (.inr s8)
noncomputable def F_sett_sum (p0 : Int) (p1 : (List Int)) : Option Int :=
  Option.bind (α := Int) (
    Option.bind (whileO (sett_sum_l1 p1) (p0, 0)) fun e13 =>
      some e13) fun o4 =>
  some o4
set_option maxHeartbeats 4000000 in
set_option maxRecDepth 100000 in
theorem c_sett_sum (E : Nat → Prop) (w0 : World) (p0 : Int) (p1 : (List Int)) (v1 : Value) (r : Int) (h : F_sett_sum p0 p1 = some r) (S : St0 E [] w0 w0 [] [fRep (rL (rI .i64)) (v1) p1]) :
    Calls Try.prog 40 #[.int .i64 p0, v1] w0 (Ret (X := Unit) E [] w0 (fun _ => .int .i64 r) (fun _ => []) (fun _ => [])) := by
  unfold F_sett_sum at h
  obtain ⟨ad1, cp2, _, rfl, _⟩ := S.know (i := 0) (e := fRep (rL (rI .i64)) (v1) p1) (by kernel_rfl)
  refine sEnter (args := [.int .i64 p0, .slice ad1 p1.length cp2]) 18 Try.func40 rfl rfl (by simp) S (fun a S => ?_)
  refine sSeq (fun K3 hK3 => ?_)
  refine sRegion ?_
  refine sMove (.int .i64 0) S (wN rfl) (.inr rfl) (by kernel_rfl) rfl (by decide) (fun a S => ?_)
  refine leafL (leafT (hK3 _ _ ?_))
  obtain ⟨t5, h, g6⟩ := bindSome h
  refine sCut (fun a w => ∃ o4, o4 = t5 ∧ St E [] w0 18 a w [(0, .int .i64 o4)] [] []) ?_ (fun a w hI => ?_)
  · refine sSeq (fun K7 hK7 => ?_)
    refine sRegion ?_
    refine sMove (.slice ad1 p1.length cp2) S (wN rfl) (.inl rfl) (by kernel_rfl) rfl (by decide) (fun a S => ?_)
    refine sLen (ad := ad1) (m := p1.length) (c := cp2) S (wN rfl) rfl Try.underlying27 (by kernel_rfl) rfl (by decide) (fun a S => ?_)
    refine sMove (.int .i64 0) S (wN rfl) (.inl rfl) (by kernel_rfl) rfl (by decide) (fun a S => ?_)
    refine leafL (leafT (hK7 _ _ ?_))
    refine wp_block ?_
    obtain ⟨t12, hl, g11⟩ := bindSome h
    refine sLoop hl (fun s0 a w => match s0 with | (s8, s9) => St E [] w0 18 a w [(0, .int .i64 s8), (7, .slice ad1 p1.length cp2), (8, .int .i64 (p1.length : Int)), (9, .int .i64 s9)] [] [fRep (rL (rI .i64)) (.slice ad1 p1.length cp2) p1]) (S.fix [] [0] (by decide) (by kernel_rfl) (by kernel_rfl) (by kernel_rfl)) ?_
    clear hl h
    intro s0 a w c0 hI h hu10
    obtain ⟨s8, s9⟩ := s0
    unfold sett_sum_l1 at h
    dsimp only at h hI
    have S := hI
    refine sSeq (fun K14 hK14 => ?_)
    refine sRegion ?_
    refine sBin (.bool (decide (s9 < (p1.length : Int)))) S (wN rfl) rfl (by kernel_rfl) (by kernel_rfl) (bLt _ _ _ _ .i64 s9 (p1.length : Int)) rfl (by decide) (fun a S => ?_)
    refine leafL (leafT (hK14 _ _ ?_))
    refine sSeq (fun K15 hK15 => ?_)
    rcases iteSome h with ⟨hc16, h⟩ | ⟨hc16, h⟩
    · refine sCondT (b := decide (s9 < (p1.length : Int))) S (by kernel_rfl) hc16 ?_
      refine wp_skip (leafT (hK15 _ _ ?_))
      refine sSeq (fun K17 hK17 => ?_)
      refine wp_block ?_
      refine sSeq (fun K18 hK18 => ?_)
      refine sRegion ?_
      obtain ⟨x19, hx20, h⟩ := bindSome h
      obtain ⟨q21, hq22, S⟩ := pIdx (P := Try.prog) (r := (rI .i64)) (v := .slice ad1 p1.length cp2) (xs := p1) (j := s9) 27 3 0 S Try.underlying27 (by kernel_rfl) (by kernel_rfl) hx20
      refine sIdxV (v := .slice ad1 p1.length cp2) (k := .i64) (j := s9) S (wN rfl) rfl (by kernel_rfl) (by kernel_rfl) hq22 rfl (by decide) (fun a S => ?_)
      obtain ⟨u23, S⟩ := pLoad (r := (rI .i64)) (q := q21) (x := x19) 0 S (by kernel_rfl)
      obtain rfl : u23 = .int .i64 x19 := S.mem.know (i := 1) (e := fRep (rI .i64) (u23) x19) (by kernel_rfl)
      refine sLoadV1 (vq := q21) 0 (.int .i64 x19) S (wN rfl) rfl (by kernel_rfl) (by kernel_rfl) (by kernel_rfl) rfl (by decide) (fun a S => ?_)
      refine sMove (.int .i64 x19) S (wN rfl) (.inr rfl) (by kernel_rfl) rfl (by decide) (fun a S => ?_)
      refine leafL (leafT (hK18 _ _ ?_))
      refine sRegion ?_
      refine sMove (.int .i64 s8) S (wN rfl) (.inl rfl) (by kernel_rfl) rfl (by decide) (fun a S => ?_)
      refine sMove (.int .i64 x19) S (wN rfl) (.inl rfl) (by kernel_rfl) rfl (by decide) (fun a S => ?_)
      refine sBin (.int .i64 (w64 (s8 + x19))) S (wN rfl) rfl (by kernel_rfl) (by kernel_rfl) (bAdd _ _ _ _ s8 x19) rfl (by decide) (fun a S => ?_)
      refine sMove (.int .i64 (w64 (s8 + x19))) S (wN rfl) (.inr rfl) (by kernel_rfl) rfl (by decide) (fun a S => ?_)
      refine leafL (leafB (leafT (hK17 _ _ ?_)))
      refine sRegion ?_
      refine sBin (.int .i64 (w64 (s9 + 1))) S (wN rfl) rfl (by kernel_rfl) (by kernel_rfl) (bAdd _ _ _ _ s9 1) rfl (by decide) (fun a S => ?_)
      refine sMove (.int .i64 (w64 (s9 + 1))) S (wN rfl) (.inl rfl) (by kernel_rfl) rfl (by decide) (fun a S => ?_)
      exact leafL (leafT (⟨(w64 (s8 + x19), w64 (s9 + 1)), (Option.some.inj h).symm, (S.fix [] [3] (by decide) (by kernel_rfl) (by kernel_rfl) (by kernel_rfl))⟩))
    · refine sCondF (b := decide (s9 < (p1.length : Int))) S (by kernel_rfl) hc16 ?_
      obtain rfl := Option.some.inj h
      obtain rfl := hu10 _ rfl
      have h := g11
      clear g11
      try dsimp only at h
      exact wp_exit (xThen (xThen (xHit (leafT (⟨s8, Option.some.inj h, S.fix [] [] (by decide) (by kernel_rfl) (by kernel_rfl) (by kernel_rfl)⟩)))))
  · obtain ⟨o4, rfl, S⟩ := hI
    have h := g6
    clear g6
    try dsimp only at h
    refine sSeq (fun K24 hK24 => ?_)
    refine sRegion ?_
    refine sMove (.int .i64 o4) S (wN rfl) (.inl rfl) (by kernel_rfl) rfl (by decide) (fun a S => ?_)
    refine sMove (.int .i64 o4) S (wN rfl) (.inr rfl) (by kernel_rfl) rfl (by decide) (fun a S => ?_)
    refine leafL (leafT (hK24 _ _ ?_))
    obtain rfl := Option.some.inj h
    exact wp_ret (sRet (.int .i64 o4) S (rsl1 rfl (rvT (t := 4) (v := .int .i64 o4) S (by kernel_rfl))) ⟨(), rfl, S.mem.sel [] [] (by decide) (by kernel_rfl) (by kernel_rfl)⟩)

end Go.Proofs.Ytjndecalogklhaa
namespace Go.Proofs.Ytjndecalogklhaa
open Go.RowKit
set_option linter.unusedVariables false

noncomputable def F_sett_Setts (p0 : api_Grid) (p1 : Int) : Option (api_Ratio × api_Ratio × Int) :=
  Option.bind (F_sett_Turns p0) fun r10 =>
  if r10.2.2 != 0 then
    some ((api_Ratio.mk 0 0), (api_Ratio.mk 0 0), r10.2.2)
  else
    Option.bind (α := Bool) (
      if decide (p1 < 1) then
        some true
      else
        some (decide (1000 < p1))) fun o23 =>
    if o23 then
      some ((api_Ratio.mk 0 0), (api_Ratio.mk 0 0), 2)
    else
      Option.bind (F_sett_sum (w64 (p0.W * p0.H)) r10.1) fun r31 =>
      Option.bind (F_yarn_Make (w64 (p1 * (w64 (p0.W * p0.H)))) r31) fun r33 =>
      Option.bind (F_sett_sum (w64 (p0.W * p0.H)) r10.2.1) fun r37 =>
      Option.bind (F_yarn_Make (w64 (p1 * (w64 (p0.W * p0.H)))) r37) fun r39 =>
      some (r33.1, r39.1, 0)
def c_sett_Setts_val (r : (api_Ratio × api_Ratio × Int)) (x : Value × Value) : Value := .tuple #[x.1, x.2, .int .i64 r.2.2]
def c_sett_Setts_D (r : (api_Ratio × api_Ratio × Int)) (x : Value × Value) : List Fact := [fRep r_api_Ratio x.1 r.1, fRep r_api_Ratio x.2 r.2.1]
set_option maxHeartbeats 4000000 in
set_option maxRecDepth 100000 in
theorem c_sett_Setts (E : Nat → Prop) (w0 : World) (p0 : api_Grid) (v0 : Value) (p1 : Int) (r : (api_Ratio × api_Ratio × Int)) (h : F_sett_Setts p0 p1 = some r) (S : St0 E [] w0 w0 [] [fRep r_api_Grid (v0) p0]) :
    Calls Try.prog 13 #[v0, .int .i64 p1] w0 (Ret (X := Value × Value) E [] w0 (c_sett_Setts_val r) (fun _ => []) (c_sett_Setts_D r)) := by
  unfold F_sett_Setts at h
  obtain ⟨u1, rfl, hu2⟩ := S.know (i := 0) (e := fRep r_api_Grid (v0) p0) (by kernel_rfl)
  have S := S.learn (fRep (rL rB) u1 p0.Bits) hu2
  obtain ⟨ad3, cp4, _, rfl, _⟩ := hu2
  refine sEnter (args := [.agg #[.int .i64 p0.W, .int .i64 p0.H, .slice ad3 p0.Bits.length cp4], .int .i64 p1]) 56 Try.func13 rfl rfl (by simp) S (fun a S => ?_)
  refine sSeq (fun K5 hK5 => ?_)
  refine sRegion ?_
  refine sBox (v := .agg #[.int .i64 p0.W, .int .i64 p0.H, .slice ad3 p0.Bits.length cp4]) S (wN rfl) rfl (by kernel_rfl) [.int .i64 p0.W, .int .i64 p0.H, .slice ad3 p0.Bits.length cp4] rfl rfl (by decide) (fun a b6 w S => ?_)
  refine sAlloc (.agg #[.int .i64 0, .int .i64 0]) S (wN rfl) rfl (by kernel_rfl) [.int .i64 0, .int .i64 0] rfl rfl (by decide) (fun a b7 w S => ?_)
  refine sAlloc (.agg #[.int .i64 0, .int .i64 0]) S (wN rfl) rfl (by kernel_rfl) [.int .i64 0, .int .i64 0] rfl rfl (by decide) (fun a b8 w S => ?_)
  refine sMove (.int .i64 0) S (wN rfl) (.inr rfl) (by kernel_rfl) rfl (by decide) (fun a S => ?_)
  refine leafL (leafT (hK5 _ _ ?_))
  refine sSeq (fun K9 hK9 => ?_)
  refine sRegion ?_
  refine sLoadN (p := b6) (off := 0) (T := 24) (vs := [.int .i64 p0.W, .int .i64 p0.H, .slice ad3 p0.Bits.length cp4]) 2 [.int .i64 p0.W, .int .i64 p0.H, .slice ad3 p0.Bits.length cp4] S (wN rfl) rfl (by kernel_rfl) (by kernel_rfl) (by kernel_rfl) (by kernel_rfl) rfl rfl (by decide) (fun a S => ?_)
  obtain ⟨r10, hx11, h⟩ := bindSome h
  refine sCall (X := Value × Value) (f := 11) (vs := [.agg #[.int .i64 p0.W, .int .i64 p0.H, .slice ad3 p0.Bits.length cp4]]) (val := c_sett_Turns_val r10) (B' := fun _ => []) (D' := c_sett_Turns_D r10) [] [eBox b8 34 [.int .i64 0, .int .i64 0], eBox b7 34 [.int .i64 0, .int .i64 0], eBox b6 24 [.int .i64 p0.W, .int .i64 p0.H, .slice ad3 p0.Bits.length cp4]] [fRep r_api_Grid (.agg #[.int .i64 p0.W, .int .i64 p0.H, .slice ad3 p0.Bits.length cp4]) p0] [0, 1, 2] [1] S (wN rfl) rfl callee11 (by kernel_rfl) (by decide) (by kernel_rfl) (by kernel_rfl) (fun E1 w1 S1 => c_sett_Turns E1 w1 p0 (.agg #[.int .i64 p0.W, .int .i64 p0.H, .slice ad3 p0.Bits.length cp4]) r10 hx11 S1) rfl (by decide) (fun xx a w S => ?_)
  obtain ⟨u12, u13⟩ := xx
  obtain ⟨ad14, cp15, _, rfl, _⟩ := S.mem.know (i := 0) (e := fRep (rL (rI .i64)) (u12) r10.1) (by kernel_rfl)
  obtain ⟨ad16, cp17, _, rfl, _⟩ := S.mem.know (i := 1) (e := fRep (rL (rI .i64)) (u13) r10.2.1) (by kernel_rfl)
  refine sMove (.tuple #[.slice ad14 r10.1.length cp15, .slice ad16 r10.2.1.length cp17, .int .i64 r10.2.2]) S (wN rfl) (.inl rfl) (by kernel_rfl) rfl (by decide) (fun a S => ?_)
  refine sExtract (vs := [.slice ad14 r10.1.length cp15, .slice ad16 r10.2.1.length cp17, .int .i64 r10.2.2]) (.slice ad14 r10.1.length cp15) S (wN rfl) rfl (by kernel_rfl) rfl rfl (by decide) (fun a S => ?_)
  refine sExtract (vs := [.slice ad14 r10.1.length cp15, .slice ad16 r10.2.1.length cp17, .int .i64 r10.2.2]) (.slice ad16 r10.2.1.length cp17) S (wN rfl) rfl (by kernel_rfl) rfl rfl (by decide) (fun a S => ?_)
  refine sExtract (vs := [.slice ad14 r10.1.length cp15, .slice ad16 r10.2.1.length cp17, .int .i64 r10.2.2]) (.int .i64 r10.2.2) S (wN rfl) rfl (by kernel_rfl) rfl rfl (by decide) (fun a S => ?_)
  refine sMove (.slice ad14 r10.1.length cp15) S (wN rfl) (.inr rfl) (by kernel_rfl) rfl (by decide) (fun a S => ?_)
  refine sMove (.slice ad16 r10.2.1.length cp17) S (wN rfl) (.inr rfl) (by kernel_rfl) rfl (by decide) (fun a S => ?_)
  refine sMove (.int .i64 r10.2.2) S (wN rfl) (.inr rfl) (by kernel_rfl) rfl (by decide) (fun a S => ?_)
  refine leafL (leafT (hK9 _ _ ?_))
  refine sSeq (fun K18 hK18 => ?_)
  refine sSeq (fun K19 hK19 => ?_)
  refine sRegion ?_
  refine sMove (.int .i64 r10.2.2) S (wN rfl) (.inl rfl) (by kernel_rfl) rfl (by decide) (fun a S => ?_)
  refine sBin (.bool (r10.2.2 != 0)) S (wN rfl) rfl (by kernel_rfl) (by kernel_rfl) (bNe _ _ _ _ .i64 r10.2.2 0) rfl (by decide) (fun a S => ?_)
  refine leafL (leafT (hK19 _ _ ?_))
  rcases iteSome h with ⟨hc20, h⟩ | ⟨hc20, h⟩
  · refine sCondT (b := r10.2.2 != 0) S (by kernel_rfl) hc20 ?_
    refine sSeq (fun K21 hK21 => ?_)
    refine sRegion ?_
    refine sBuild [] [.int .i64 0, .int .i64 0] S (wN rfl) rfl (by kernel_rfl) (by kernel_rfl) rfl (by decide) (fun a S => ?_)
    refine sBuild [] [.int .i64 0, .int .i64 0] S (wN rfl) rfl (by kernel_rfl) (by kernel_rfl) rfl (by decide) (fun a S => ?_)
    refine sMove (.int .i64 r10.2.2) S (wN rfl) (.inl rfl) (by kernel_rfl) rfl (by decide) (fun a S => ?_)
    refine sStore (p := b7) (off := 0) (T := 34) (vs := [.int .i64 0, .int .i64 0]) (v := .agg #[.int .i64 0, .int .i64 0]) 1 [.int .i64 0, .int .i64 0] S (wN rfl) rfl (by kernel_rfl) (by kernel_rfl) rfl (by kernel_rfl) (by kernel_rfl) rfl (by simp) rfl (fun a w S => ?_)
    refine sStore (p := b8) (off := 0) (T := 34) (vs := [.int .i64 0, .int .i64 0]) (v := .agg #[.int .i64 0, .int .i64 0]) 1 [.int .i64 0, .int .i64 0] S (wN rfl) rfl (by kernel_rfl) (by kernel_rfl) rfl (by kernel_rfl) (by kernel_rfl) rfl (by simp) rfl (fun a w S => ?_)
    refine sMove (.int .i64 r10.2.2) S (wN rfl) (.inr rfl) (by kernel_rfl) rfl (by decide) (fun a S => ?_)
    refine leafL (leafT (hK21 _ _ ?_))
    obtain rfl := Option.some.inj h
    have S := S.learn (fRep r_api_Ratio (.agg #[.int .i64 0, .int .i64 0]) (api_Ratio.mk 0 0)) rfl
    exact wp_ret (rThen (sRet (.tuple #[.agg #[.int .i64 0, .int .i64 0], .agg #[.int .i64 0, .int .i64 0], .int .i64 r10.2.2]) S (rsl3 rfl (rvN (c := 4) (t := 34) (T := 34) (p := b7) 1 [.int .i64 0, .int .i64 0] S (by kernel_rfl) (by kernel_rfl) (by kernel_rfl) (by kernel_rfl)) (rvN (c := 5) (t := 34) (T := 34) (p := b8) 0 [.int .i64 0, .int .i64 0] S (by kernel_rfl) (by kernel_rfl) (by kernel_rfl) (by kernel_rfl)) (rvT (t := 6) (v := .int .i64 r10.2.2) S (by kernel_rfl))) ⟨((.agg #[.int .i64 0, .int .i64 0]), (.agg #[.int .i64 0, .int .i64 0])), rfl, S.mem.sel [] [0, 0] (by decide) (by kernel_rfl) (by kernel_rfl)⟩))
  · refine sCondF (b := r10.2.2 != 0) S (by kernel_rfl) hc20 ?_
    refine wp_skip (leafT (hK18 _ _ ?_))
    refine sSeq (fun K22 hK22 => ?_)
    obtain ⟨t24, h, g25⟩ := bindSome h
    refine sCut (fun a w => ∃ o23, o23 = t24 ∧ St E [] w0 56 a w [(1, .int .i64 p1), (2, .pointer (some ⟨b6, 0, none⟩)), (4, .pointer (some ⟨b7, 0, none⟩)), (5, .pointer (some ⟨b8, 0, none⟩)), (7, .slice ad14 r10.1.length cp15), (8, .slice ad16 r10.2.1.length cp17), (26, .bool o23)] [eBox b6 24 [.int .i64 p0.W, .int .i64 p0.H, .slice ad3 p0.Bits.length cp4], eBox b7 34 [.int .i64 0, .int .i64 0], eBox b8 34 [.int .i64 0, .int .i64 0]] [fRep (rL (rI .i64)) (.slice ad14 r10.1.length cp15) r10.1, fRep (rL (rI .i64)) (.slice ad16 r10.2.1.length cp17) r10.2.1, fRep (rL rB) (.slice ad3 p0.Bits.length cp4) p0.Bits]) ?_ (fun a w hI => ?_)
    · refine sRegion ?_
      refine sMove (.int .i64 p1) S (wN rfl) (.inl rfl) (by kernel_rfl) rfl (by decide) (fun a S => ?_)
      refine sBin (.bool (decide (p1 < 1))) S (wN rfl) rfl (by kernel_rfl) (by kernel_rfl) (bLt _ _ _ _ .i64 p1 1) rfl (by decide) (fun a S => ?_)
      refine sMove (.bool (decide (p1 < 1))) S (wN rfl) (.inl rfl) (by kernel_rfl) rfl (by decide) (fun a S => ?_)
      rcases iteSome h with ⟨hc26, h⟩ | ⟨hc26, h⟩
      · refine sSkip (c := decide (p1 < 1)) 2 false 23 24 S rfl rfl (by kernel_rfl) hc26 rfl (by decide) (fun a S => ?_)
        refine sSkip (c := decide (p1 < 1)) 2 false 23 25 S rfl rfl (by kernel_rfl) hc26 rfl (by decide) (fun a S => ?_)
        refine sPickT (b := decide (p1 < 1)) (.bool true) S (wN rfl) rfl (by kernel_rfl) hc26 (by kernel_rfl) rfl (by decide) (fun a S => ?_)
        exact leafL (leafT (⟨true, Option.some.inj h, S.fix [2, 1, 0] [0, 1, 2] (by decide) (by kernel_rfl) (by kernel_rfl) (by kernel_rfl)⟩))
      · refine sMove (.int .i64 p1) S (wG (c := decide (p1 < 1)) 2 false 23 rfl rfl (by kernel_rfl) hc26) (.inl rfl) (by kernel_rfl) rfl (by decide) (fun a S => ?_)
        refine sBin (.bool (decide (1000 < p1))) S (wG (c := decide (p1 < 1)) 2 false 23 rfl rfl (by kernel_rfl) hc26) rfl (by kernel_rfl) (by kernel_rfl) (bGt _ _ _ _ .i64 p1 1000) rfl (by decide) (fun a S => ?_)
        refine sPickF (b := decide (p1 < 1)) (.bool (decide (1000 < p1))) S (wN rfl) rfl (by kernel_rfl) hc26 (by kernel_rfl) rfl (by decide) (fun a S => ?_)
        exact leafL (leafT (⟨decide (1000 < p1), Option.some.inj h, S.fix [2, 1, 0] [0, 1, 2] (by decide) (by kernel_rfl) (by kernel_rfl) (by kernel_rfl)⟩))
    · obtain ⟨o23, rfl, S⟩ := hI
      have h := g25
      clear g25
      try dsimp only at h
      rcases iteSome h with ⟨hc27, h⟩ | ⟨hc27, h⟩
      · refine sCondT (b := o23) S (by kernel_rfl) hc27 ?_
        refine sSeq (fun K28 hK28 => ?_)
        refine sRegion ?_
        refine sBuild [] [.int .i64 0, .int .i64 0] S (wN rfl) rfl (by kernel_rfl) (by kernel_rfl) rfl (by decide) (fun a S => ?_)
        refine sBuild [] [.int .i64 0, .int .i64 0] S (wN rfl) rfl (by kernel_rfl) (by kernel_rfl) rfl (by decide) (fun a S => ?_)
        refine sStore (p := b7) (off := 0) (T := 34) (vs := [.int .i64 0, .int .i64 0]) (v := .agg #[.int .i64 0, .int .i64 0]) 1 [.int .i64 0, .int .i64 0] S (wN rfl) rfl (by kernel_rfl) (by kernel_rfl) rfl (by kernel_rfl) (by kernel_rfl) rfl (by simp) rfl (fun a w S => ?_)
        refine sStore (p := b8) (off := 0) (T := 34) (vs := [.int .i64 0, .int .i64 0]) (v := .agg #[.int .i64 0, .int .i64 0]) 2 [.int .i64 0, .int .i64 0] S (wN rfl) rfl (by kernel_rfl) (by kernel_rfl) rfl (by kernel_rfl) (by kernel_rfl) rfl (by simp) rfl (fun a w S => ?_)
        refine sMove (.int .i64 2) S (wN rfl) (.inr rfl) (by kernel_rfl) rfl (by decide) (fun a S => ?_)
        refine leafL (leafT (hK28 _ _ ?_))
        obtain rfl := Option.some.inj h
        have S := S.learn (fRep r_api_Ratio (.agg #[.int .i64 0, .int .i64 0]) (api_Ratio.mk 0 0)) rfl
        exact wp_ret (rThen (sRet (.tuple #[.agg #[.int .i64 0, .int .i64 0], .agg #[.int .i64 0, .int .i64 0], .int .i64 2]) S (rsl3 rfl (rvN (c := 4) (t := 34) (T := 34) (p := b7) 1 [.int .i64 0, .int .i64 0] S (by kernel_rfl) (by kernel_rfl) (by kernel_rfl) (by kernel_rfl)) (rvN (c := 5) (t := 34) (T := 34) (p := b8) 0 [.int .i64 0, .int .i64 0] S (by kernel_rfl) (by kernel_rfl) (by kernel_rfl) (by kernel_rfl)) (rvT (t := 6) (v := .int .i64 2) S (by kernel_rfl))) ⟨((.agg #[.int .i64 0, .int .i64 0]), (.agg #[.int .i64 0, .int .i64 0])), rfl, S.mem.sel [] [0, 0] (by decide) (by kernel_rfl) (by kernel_rfl)⟩))
      · refine sCondF (b := o23) S (by kernel_rfl) hc27 ?_
        refine wp_skip (leafT (hK22 _ _ ?_))
        refine sSeq (fun K29 hK29 => ?_)
        refine sRegion ?_
        refine sField (b := b6) (off := 0) 0 0 S (wN rfl) rfl (by kernel_rfl) (by kernel_rfl) rfl rfl (by decide) (fun a S => ?_)
        refine sLoad1 (p := b6) (off := 0) (T := 24) (vs := [.int .i64 p0.W, .int .i64 p0.H, .slice ad3 p0.Bits.length cp4]) 0 (.int .i64 p0.W) S (wN rfl) rfl (by kernel_rfl) (by kernel_rfl) (by kernel_rfl) rfl rfl (by decide) (fun a S => ?_)
        refine sField (b := b6) (off := 0) 1 1 S (wN rfl) rfl (by kernel_rfl) (by kernel_rfl) rfl rfl (by decide) (fun a S => ?_)
        refine sLoad1 (p := b6) (off := 1) (T := 24) (vs := [.int .i64 p0.W, .int .i64 p0.H, .slice ad3 p0.Bits.length cp4]) 0 (.int .i64 p0.H) S (wN rfl) rfl (by kernel_rfl) (by kernel_rfl) (by kernel_rfl) rfl rfl (by decide) (fun a S => ?_)
        refine sBin (.int .i64 (w64 (p0.W * p0.H))) S (wN rfl) rfl (by kernel_rfl) (by kernel_rfl) (bMul _ _ _ _ p0.W p0.H) rfl (by decide) (fun a S => ?_)
        refine sMove (.int .i64 (w64 (p0.W * p0.H))) S (wN rfl) (.inr rfl) (by kernel_rfl) rfl (by decide) (fun a S => ?_)
        refine leafL (leafT (hK29 _ _ ?_))
        refine sSeq (fun K30 hK30 => ?_)
        refine sRegion ?_
        refine sMove (.int .i64 p1) S (wN rfl) (.inl rfl) (by kernel_rfl) rfl (by decide) (fun a S => ?_)
        refine sMove (.int .i64 (w64 (p0.W * p0.H))) S (wN rfl) (.inl rfl) (by kernel_rfl) rfl (by decide) (fun a S => ?_)
        refine sBin (.int .i64 (w64 (p1 * (w64 (p0.W * p0.H))))) S (wN rfl) rfl (by kernel_rfl) (by kernel_rfl) (bMul _ _ _ _ p1 (w64 (p0.W * p0.H))) rfl (by decide) (fun a S => ?_)
        refine sMove (.int .i64 (w64 (p0.W * p0.H))) S (wN rfl) (.inl rfl) (by kernel_rfl) rfl (by decide) (fun a S => ?_)
        refine sMove (.slice ad14 r10.1.length cp15) S (wN rfl) (.inl rfl) (by kernel_rfl) rfl (by decide) (fun a S => ?_)
        obtain ⟨r31, hx32, h⟩ := bindSome h
        have S1 := S.mem
        refine sCallQ (X := Unit) (f := 40) (vs := [.int .i64 (w64 (p0.W * p0.H)), .slice ad14 r10.1.length cp15]) (val := fun _ => .int .i64 r31) S (wN rfl) rfl callee40 (by kernel_rfl) (S1.quiet [0] (by kernel_rfl)) (fun E1 w1 S1 => c_sett_sum E1 w1 (w64 (p0.W * p0.H)) r10.1 (.slice ad14 r10.1.length cp15) r31 hx32 S1) rfl (by decide) (fun _ a w S => ?_)
        obtain ⟨r33, hx34, h⟩ := bindSome h
        refine sCall (X := Value) (f := 39) (vs := [.int .i64 (w64 (p1 * (w64 (p0.W * p0.H)))), .int .i64 r31]) (val := c_yarn_Make_val r33) (B' := fun _ => []) (D' := c_yarn_Make_D r33) [] [eBox b6 24 [.int .i64 p0.W, .int .i64 p0.H, .slice ad3 p0.Bits.length cp4], eBox b7 34 [.int .i64 0, .int .i64 0], eBox b8 34 [.int .i64 0, .int .i64 0]] [] [0, 1, 2] [] S (wN rfl) rfl callee39 (by kernel_rfl) (by decide) (by kernel_rfl) (by kernel_rfl) (fun E1 w1 S1 => c_yarn_Make E1 w1 (w64 (p1 * (w64 (p0.W * p0.H)))) r31 r33 hx34 S1) rfl (by decide) (fun u35 a w S => ?_)
        obtain rfl : u35 = .agg #[.int .i64 r33.1.Num, .int .i64 r33.1.Den] := S.mem.know (i := 0) (e := fRep r_api_Ratio (u35) r33.1) (by kernel_rfl)
        refine sMove (.tuple #[.agg #[.int .i64 r33.1.Num, .int .i64 r33.1.Den], .int .i64 r33.2]) S (wN rfl) (.inl rfl) (by kernel_rfl) rfl (by decide) (fun a S => ?_)
        refine sExtract (vs := [.agg #[.int .i64 r33.1.Num, .int .i64 r33.1.Den], .int .i64 r33.2]) (.agg #[.int .i64 r33.1.Num, .int .i64 r33.1.Den]) S (wN rfl) rfl (by kernel_rfl) rfl rfl (by decide) (fun a S => ?_)
        refine sExtract (vs := [.agg #[.int .i64 r33.1.Num, .int .i64 r33.1.Den], .int .i64 r33.2]) (.int .i64 r33.2) S (wN rfl) rfl (by kernel_rfl) rfl rfl (by decide) (fun a S => ?_)
        refine sStore (p := b7) (off := 0) (T := 34) (vs := [.int .i64 0, .int .i64 0]) (v := .agg #[.int .i64 r33.1.Num, .int .i64 r33.1.Den]) 1 [.int .i64 r33.1.Num, .int .i64 r33.1.Den] S (wN rfl) rfl (by kernel_rfl) (by kernel_rfl) rfl (by kernel_rfl) (by kernel_rfl) rfl (by simp) rfl (fun a w S => ?_)
        refine leafL (leafT (hK30 _ _ ?_))
        refine sSeq (fun K36 hK36 => ?_)
        refine sRegion ?_
        refine sMove (.int .i64 p1) S (wN rfl) (.inl rfl) (by kernel_rfl) rfl (by decide) (fun a S => ?_)
        refine sMove (.int .i64 (w64 (p0.W * p0.H))) S (wN rfl) (.inl rfl) (by kernel_rfl) rfl (by decide) (fun a S => ?_)
        refine sBin (.int .i64 (w64 (p1 * (w64 (p0.W * p0.H))))) S (wN rfl) rfl (by kernel_rfl) (by kernel_rfl) (bMul _ _ _ _ p1 (w64 (p0.W * p0.H))) rfl (by decide) (fun a S => ?_)
        refine sMove (.int .i64 (w64 (p0.W * p0.H))) S (wN rfl) (.inl rfl) (by kernel_rfl) rfl (by decide) (fun a S => ?_)
        refine sMove (.slice ad16 r10.2.1.length cp17) S (wN rfl) (.inl rfl) (by kernel_rfl) rfl (by decide) (fun a S => ?_)
        obtain ⟨r37, hx38, h⟩ := bindSome h
        have S1 := S.mem
        refine sCallQ (X := Unit) (f := 40) (vs := [.int .i64 (w64 (p0.W * p0.H)), .slice ad16 r10.2.1.length cp17]) (val := fun _ => .int .i64 r37) S (wN rfl) rfl callee40 (by kernel_rfl) (S1.quiet [2] (by kernel_rfl)) (fun E1 w1 S1 => c_sett_sum E1 w1 (w64 (p0.W * p0.H)) r10.2.1 (.slice ad16 r10.2.1.length cp17) r37 hx38 S1) rfl (by decide) (fun _ a w S => ?_)
        obtain ⟨r39, hx40, h⟩ := bindSome h
        refine sCall (X := Value) (f := 39) (vs := [.int .i64 (w64 (p1 * (w64 (p0.W * p0.H)))), .int .i64 r37]) (val := c_yarn_Make_val r39) (B' := fun _ => []) (D' := c_yarn_Make_D r39) [] [eBox b7 34 [.int .i64 r33.1.Num, .int .i64 r33.1.Den], eBox b6 24 [.int .i64 p0.W, .int .i64 p0.H, .slice ad3 p0.Bits.length cp4], eBox b8 34 [.int .i64 0, .int .i64 0]] [] [0, 1, 2] [] S (wN rfl) rfl callee39 (by kernel_rfl) (by decide) (by kernel_rfl) (by kernel_rfl) (fun E1 w1 S1 => c_yarn_Make E1 w1 (w64 (p1 * (w64 (p0.W * p0.H)))) r37 r39 hx40 S1) rfl (by decide) (fun u41 a w S => ?_)
        obtain rfl : u41 = .agg #[.int .i64 r39.1.Num, .int .i64 r39.1.Den] := S.mem.know (i := 0) (e := fRep r_api_Ratio (u41) r39.1) (by kernel_rfl)
        refine sMove (.tuple #[.agg #[.int .i64 r39.1.Num, .int .i64 r39.1.Den], .int .i64 r39.2]) S (wN rfl) (.inl rfl) (by kernel_rfl) rfl (by decide) (fun a S => ?_)
        refine sExtract (vs := [.agg #[.int .i64 r39.1.Num, .int .i64 r39.1.Den], .int .i64 r39.2]) (.agg #[.int .i64 r39.1.Num, .int .i64 r39.1.Den]) S (wN rfl) rfl (by kernel_rfl) rfl rfl (by decide) (fun a S => ?_)
        refine sExtract (vs := [.agg #[.int .i64 r39.1.Num, .int .i64 r39.1.Den], .int .i64 r39.2]) (.int .i64 r39.2) S (wN rfl) rfl (by kernel_rfl) rfl rfl (by decide) (fun a S => ?_)
        refine sStore (p := b8) (off := 0) (T := 34) (vs := [.int .i64 0, .int .i64 0]) (v := .agg #[.int .i64 r39.1.Num, .int .i64 r39.1.Den]) 2 [.int .i64 r39.1.Num, .int .i64 r39.1.Den] S (wN rfl) rfl (by kernel_rfl) (by kernel_rfl) rfl (by kernel_rfl) (by kernel_rfl) rfl (by simp) rfl (fun a w S => ?_)
        refine leafL (leafT (hK36 _ _ ?_))
        refine sSeq (fun K42 hK42 => ?_)
        refine sDraw (nf := [2, 3]) (W := [(0, 54, .agg #[.int .i64 r33.1.Num, .int .i64 r33.1.Den]), (1, 55, .agg #[.int .i64 r39.1.Num, .int .i64 r39.1.Den])]) (by kernel_rfl) S ?_
        refine node_by (A := [[], [], [0], [0, 1, 2], [0, 1, 2, 3]]) (nf := [2, 3]) (Y := []) (W := [(0, 54, .agg #[.int .i64 r33.1.Num, .int .i64 r33.1.Den]), (1, 55, .agg #[.int .i64 r39.1.Num, .int .i64 r39.1.Den])]) 5 (by kernel_rfl) (by kernel_rfl) (by kernel_rfl) (by kernel_rfl) (by kernel_rfl) [0, 1] (by kernel_rfl) (by decide) (by decide) (aF 0 4 (by decide) ?_ (aF 1 3 (by decide) ?_ (aN 2 2 (by decide) ?_ (aB 3 1 2 (by decide) (aE 4 0 2 (by decide) (trivial)))))) [] (fun q hq => by cases hq) (fun hY => absurd (hY 2 (by decide)) (by decide))
        · refine fI 54 (.agg #[.int .i64 r33.1.Num, .int .i64 r33.1.Den]) [(4, .pointer (some ⟨b7, 0, none⟩))] 0 [none] rfl rfl (by kernel_rfl) rfl (by kernel_rfl) (by kernel_rfl) fun G a w S => ?_
          refine sLoadN (p := b7) (off := 0) (T := 34) (vs := [.int .i64 r33.1.Num, .int .i64 r33.1.Den]) 1 [.int .i64 r33.1.Num, .int .i64 r33.1.Den] S (wN rfl) rfl (by kernel_rfl) (by kernel_rfl) (by kernel_rfl) (by kernel_rfl) rfl rfl (by decide) (fun a S => ?_)
          exact leafL ⟨rfl, S⟩
        · refine fI 55 (.agg #[.int .i64 r39.1.Num, .int .i64 r39.1.Den]) [(5, .pointer (some ⟨b8, 0, none⟩))] 1 [none] rfl rfl (by kernel_rfl) rfl (by kernel_rfl) (by kernel_rfl) fun G a w S => ?_
          refine sLoadN (p := b8) (off := 0) (T := 34) (vs := [.int .i64 r39.1.Num, .int .i64 r39.1.Den]) 0 [.int .i64 r39.1.Num, .int .i64 r39.1.Den] S (wN rfl) rfl (by kernel_rfl) (by kernel_rfl) (by kernel_rfl) (by kernel_rfl) rfl rfl (by decide) (fun a S => ?_)
          exact leafL ⟨rfl, S⟩
        · refine ⟨_, [(4, .pointer (some ⟨b7, 0, none⟩)), (54, .agg #[.int .i64 r33.1.Num, .int .i64 r33.1.Den])], rfl, (srcs_of [none, some 0] rfl (by kernel_rfl) (by kernel_rfl)), fun G a w S => ?_⟩
          refine sStore (p := b7) (off := 0) (T := 34) (vs := [.int .i64 r33.1.Num, .int .i64 r33.1.Den]) (v := .agg #[.int .i64 r33.1.Num, .int .i64 r33.1.Den]) 1 [.int .i64 r33.1.Num, .int .i64 r33.1.Den] S (wN rfl) rfl (by kernel_rfl) (by kernel_rfl) rfl (by kernel_rfl) (by kernel_rfl) rfl (by simp) rfl (fun a w S => ?_)
          refine leafL ⟨rfl, _, _, .inr ⟨[], rfl, S, hz_of (by kernel_rfl), ?_⟩⟩
          refine node_by (A := [[], [], [0], [0, 1, 2], [0, 1, 2, 3]]) (nf := [2, 3]) (Y := [2]) 5 (by kernel_rfl) (by kernel_rfl) (by kernel_rfl) (by kernel_rfl) (by kernel_rfl) [0, 1] (by kernel_rfl) (by decide) (by decide) (aD 0 4 2 (by decide) (aF 1 3 (by decide) ?_ (aY 2 2 (by decide) (aN 3 1 (by decide) ?_ (aE 4 0 3 (by decide) (trivial)))))) [] (fun q hq => by cases hq) (fun hY => absurd (hY 3 (by decide)) (by decide))
          · refine fI 55 (.agg #[.int .i64 r39.1.Num, .int .i64 r39.1.Den]) [(5, .pointer (some ⟨b8, 0, none⟩))] 1 [none] rfl rfl (by kernel_rfl) rfl (by kernel_rfl) (by kernel_rfl) fun G a w S => ?_
            refine sLoadN (p := b8) (off := 0) (T := 34) (vs := [.int .i64 r39.1.Num, .int .i64 r39.1.Den]) 1 [.int .i64 r39.1.Num, .int .i64 r39.1.Den] S (wN rfl) rfl (by kernel_rfl) (by kernel_rfl) (by kernel_rfl) (by kernel_rfl) rfl rfl (by decide) (fun a S => ?_)
            exact leafL ⟨rfl, S⟩
          · refine ⟨_, [(5, .pointer (some ⟨b8, 0, none⟩)), (55, .agg #[.int .i64 r39.1.Num, .int .i64 r39.1.Den])], rfl, (srcs_of [none, some 1] rfl (by kernel_rfl) (by kernel_rfl)), fun G a w S => ?_⟩
            refine sStore (p := b8) (off := 0) (T := 34) (vs := [.int .i64 r39.1.Num, .int .i64 r39.1.Den]) (v := .agg #[.int .i64 r39.1.Num, .int .i64 r39.1.Den]) 1 [.int .i64 r39.1.Num, .int .i64 r39.1.Den] S (wN rfl) rfl (by kernel_rfl) (by kernel_rfl) rfl (by kernel_rfl) (by kernel_rfl) rfl (by simp) rfl (fun a w S => ?_)
            refine leafL ⟨rfl, _, _, .inr ⟨[(4, 6, .int .i64 0)], rfl, S, hz_of (by kernel_rfl), ?_⟩⟩
            refine node_by (A := [[], [], [0], [0, 1, 2], [0, 1, 2, 3]]) (nf := [2, 3]) (Y := [3, 2]) 5 (by kernel_rfl) (by kernel_rfl) (by kernel_rfl) (by kernel_rfl) (by kernel_rfl) [4, 0, 1] (by kernel_rfl) (by decide) (by decide) (aD 0 4 3 (by decide) (aD 1 3 3 (by decide) (aY 2 2 (by decide) (aY 3 1 (by decide) (aF 4 0 (by decide) ?_ (trivial)))))) [(4, .pointer (some ⟨b7, 0, none⟩)), (5, .pointer (some ⟨b8, 0, none⟩)), (6, .int .i64 0)] (fin_of [none, none, some 0] rfl (by kernel_rfl) (by kernel_rfl)) (fun _ a w S => ?_)
            · refine fI 6 (.int .i64 0) [] 0 [] rfl rfl (by kernel_rfl) rfl (by kernel_rfl) (by kernel_rfl) fun G a w S => ?_
              refine sMove (.int .i64 0) S (wN rfl) (.inr rfl) (by kernel_rfl) rfl (by decide) (fun a S => ?_)
              exact leafL ⟨rfl, S⟩
            · refine leafT (hK42 _ _ ?_)
              obtain rfl := Option.some.inj h
              exact wp_ret (sRet (.tuple #[.agg #[.int .i64 r33.1.Num, .int .i64 r33.1.Den], .agg #[.int .i64 r39.1.Num, .int .i64 r39.1.Den], .int .i64 0]) S (rsl3 rfl (rvN (c := 4) (t := 34) (T := 34) (p := b7) 1 [.int .i64 r33.1.Num, .int .i64 r33.1.Den] S (by kernel_rfl) (by kernel_rfl) (by kernel_rfl) (by kernel_rfl)) (rvN (c := 5) (t := 34) (T := 34) (p := b8) 0 [.int .i64 r39.1.Num, .int .i64 r39.1.Den] S (by kernel_rfl) (by kernel_rfl) (by kernel_rfl) (by kernel_rfl)) (rvT (t := 6) (v := .int .i64 0) S (by kernel_rfl))) ⟨((.agg #[.int .i64 r33.1.Num, .int .i64 r33.1.Den]), (.agg #[.int .i64 r39.1.Num, .int .i64 r39.1.Den])), rfl, S.mem.sel [] [1, 0] (by decide) (by kernel_rfl) (by kernel_rfl)⟩)

end Go.Proofs.Ytjndecalogklhaa
namespace Go.Proofs.Ytjndecalogklhaa
open Go.RowKit
set_option linter.unusedVariables false

def anc_raddleref24_Same_0 : List (List Nat) := [[], [], [0, 1], [0, 1, 2], [], [], [4, 5], [4, 5, 6], [0, 1, 2, 3, 4, 5, 6, 7]]
noncomputable def raddleref24_Same_l1 (p0 : (List Int)) (p1 : (List Int)) : Int → Option (Int ⊕ (Bool ⊕ Unit)) := fun s0 => match s0 with
  | s13 =>
    if decide (s13 < (p0.length : Int)) then
      Option.bind (idxO p0 s13) fun x22 =>
      Option.bind (idxO p1 s13) fun x27 =>
      if x22 != x27 then
        some (.inr (.inl false))
      else
        some (.inl (w64 (s13 + 1)))
    else
      some (.inr (.inr ()))
noncomputable def F_raddleref24_Same (p0 : (List Int)) (p1 : (List Int)) : Option Bool :=
  if (p0.length : Int) != (p1.length : Int) then
    some false
  else
    Option.bind (α := Unit ⊕ Bool) (
      Option.bind (whileO (raddleref24_Same_l1 p0 p1) 0) fun z0 => match z0 with
        | .inl z =>
          some (.inr z)
        | .inr _ =>
          some (.inl ())) fun z0 => match z0 with
      | .inl _ =>
        some true
      | .inr z =>
        some z
set_option maxHeartbeats 4000000 in
set_option maxRecDepth 100000 in
theorem c_raddleref24_Same (E : Nat → Prop) (w0 : World) (p0 : (List Int)) (v0 : Value) (p1 : (List Int)) (v1 : Value) (r : Bool) (h : F_raddleref24_Same p0 p1 = some r) (S : St0 E [] w0 w0 [] [fRep (rL (rI .i64)) (v0) p0, fRep (rL (rI .i64)) (v1) p1]) :
    Calls Try.prog 15 #[v0, v1] w0 (Ret (X := Unit) E [] w0 (fun _ => .bool r) (fun _ => []) (fun _ => [])) := by
  unfold F_raddleref24_Same at h
  obtain ⟨ad1, cp2, _, rfl, _⟩ := S.know (i := 0) (e := fRep (rL (rI .i64)) (v0) p0) (by kernel_rfl)
  obtain ⟨ad3, cp4, _, rfl, _⟩ := S.know (i := 1) (e := fRep (rL (rI .i64)) (v1) p1) (by kernel_rfl)
  refine sEnter (args := [.slice ad1 p0.length cp2, .slice ad3 p1.length cp4]) 26 Try.func15 rfl rfl (by simp) S (fun a S => ?_)
  refine sSeq (fun K5 hK5 => ?_)
  refine sRegion ?_
  refine sMove (.bool false) S (wN rfl) (.inr rfl) (by kernel_rfl) rfl (by decide) (fun a S => ?_)
  refine leafL (leafT (hK5 _ _ ?_))
  refine sSeq (fun K6 hK6 => ?_)
  refine sSeq (fun K7 hK7 => ?_)
  refine sRegion ?_
  refine sMove (.slice ad1 p0.length cp2) S (wN rfl) (.inl rfl) (by kernel_rfl) rfl (by decide) (fun a S => ?_)
  refine sLen (ad := ad1) (m := p0.length) (c := cp2) S (wN rfl) rfl Try.underlying27 (by kernel_rfl) rfl (by decide) (fun a S => ?_)
  refine sMove (.slice ad3 p1.length cp4) S (wN rfl) (.inl rfl) (by kernel_rfl) rfl (by decide) (fun a S => ?_)
  refine sLen (ad := ad3) (m := p1.length) (c := cp4) S (wN rfl) rfl Try.underlying27 (by kernel_rfl) rfl (by decide) (fun a S => ?_)
  refine sBin (.bool ((p0.length : Int) != (p1.length : Int))) S (wN rfl) rfl (by kernel_rfl) (by kernel_rfl) (bNe _ _ _ _ .i64 (p0.length : Int) (p1.length : Int)) rfl (by decide) (fun a S => ?_)
  refine leafL (leafT (hK7 _ _ ?_))
  rcases iteSome h with ⟨hc8, h⟩ | ⟨hc8, h⟩
  · refine sCondT (b := (p0.length : Int) != (p1.length : Int)) S (by kernel_rfl) hc8 ?_
    refine sSeq (fun K9 hK9 => ?_)
    refine sRegion ?_
    refine sMove (.bool false) S (wN rfl) (.inr rfl) (by kernel_rfl) rfl (by decide) (fun a S => ?_)
    refine leafL (leafT (hK9 _ _ ?_))
    obtain rfl := Option.some.inj h
    exact wp_ret (rThen (sRet (.bool false) S (rsl1 rfl (rvT (t := 4) (v := .bool false) S (by kernel_rfl))) ⟨(), rfl, S.mem.sel [] [] (by decide) (by kernel_rfl) (by kernel_rfl)⟩))
  · refine sCondF (b := (p0.length : Int) != (p1.length : Int)) S (by kernel_rfl) hc8 ?_
    refine wp_skip (leafT (hK6 _ _ ?_))
    obtain ⟨t10, h, g11⟩ := bindSome h
    refine sCut (fun a w => .inl () = t10 ∧ St E [] w0 26 a w [] [] []) ?_ (fun a w hI => ?_)
    · refine sSeq (fun K12 hK12 => ?_)
      refine sRegion ?_
      refine sMove (.int .i64 0) S (wN rfl) (.inr rfl) (by kernel_rfl) rfl (by decide) (fun a S => ?_)
      refine leafL (leafT (hK12 _ _ ?_))
      refine wp_block ?_
      obtain ⟨t16, hl, g15⟩ := bindSome h
      refine sLoop hl (fun s0 a w => match s0 with | s13 => St E [] w0 26 a w [(0, .slice ad1 p0.length cp2), (1, .slice ad3 p1.length cp4), (5, .int .i64 s13)] [] [fRep (rL (rI .i64)) (.slice ad1 p0.length cp2) p0, fRep (rL (rI .i64)) (.slice ad3 p1.length cp4) p1]) (S.fix [] [0, 1] (by decide) (by kernel_rfl) (by kernel_rfl) (by kernel_rfl)) ?_
      clear hl h
      intro s13 a w c0 hI h hu14
      unfold raddleref24_Same_l1 at h
      dsimp only at h hI
      have S := hI
      refine sSeq (fun K17 hK17 => ?_)
      refine sSeq (fun K18 hK18 => ?_)
      refine sRegion ?_
      refine sMove (.int .i64 s13) S (wN rfl) (.inl rfl) (by kernel_rfl) rfl (by decide) (fun a S => ?_)
      refine sMove (.slice ad1 p0.length cp2) S (wN rfl) (.inl rfl) (by kernel_rfl) rfl (by decide) (fun a S => ?_)
      refine sLen (ad := ad1) (m := p0.length) (c := cp2) S (wN rfl) rfl Try.underlying27 (by kernel_rfl) rfl (by decide) (fun a S => ?_)
      refine sBin (.bool (decide (s13 < (p0.length : Int)))) S (wN rfl) rfl (by kernel_rfl) (by kernel_rfl) (bLt _ _ _ _ .i64 s13 (p0.length : Int)) rfl (by decide) (fun a S => ?_)
      refine leafL (leafT (hK18 _ _ ?_))
      rcases iteSome h with ⟨hc19, h⟩ | ⟨hc19, h⟩
      · refine sCondT (b := decide (s13 < (p0.length : Int))) S (by kernel_rfl) hc19 ?_
        refine wp_skip (leafT (hK17 _ _ ?_))
        refine sSeq (fun K20 hK20 => ?_)
        refine wp_block ?_
        refine sSeq (fun K21 hK21 => ?_)
        obtain ⟨x22, hx23, h⟩ := bindSome h
        obtain ⟨x27, hx28, h⟩ := bindSome h
        obtain ⟨q32, hq33, S⟩ := pIdx (P := Try.prog) (r := (rI .i64)) (v := .slice ad1 p0.length cp2) (xs := p0) (j := s13) 27 3 0 S Try.underlying27 (by kernel_rfl) (by kernel_rfl) hx23
        obtain ⟨u34, S⟩ := pLoad (r := (rI .i64)) (q := q32) (x := x22) 0 S (by kernel_rfl)
        obtain rfl : u34 = .int .i64 x22 := S.mem.know (i := 1) (e := fRep (rI .i64) (u34) x22) (by kernel_rfl)
        obtain ⟨q35, hq36, S⟩ := pIdx (P := Try.prog) (r := (rI .i64)) (v := .slice ad3 p1.length cp4) (xs := p1) (j := s13) 27 3 4 S Try.underlying27 (by kernel_rfl) (by kernel_rfl) hx28
        obtain ⟨u37, S⟩ := pLoad (r := (rI .i64)) (q := q35) (x := x27) 0 S (by kernel_rfl)
        obtain rfl : u37 = .int .i64 x27 := S.mem.know (i := 1) (e := fRep (rI .i64) (u37) x27) (by kernel_rfl)
        refine sDraw (nf := []) (W := [(0, 17, .slice ad1 p0.length cp2), (1, 18, .int .i64 s13), (2, 19, q32), (3, 20, .int .i64 x22), (4, 21, .slice ad3 p1.length cp4), (5, 22, .int .i64 s13), (6, 23, q35), (7, 24, .int .i64 x27), (8, 25, .bool (x22 != x27))]) (by kernel_rfl) S ?_
        refine node_by (A := anc_raddleref24_Same_0) (nf := []) (Y := []) (W := [(0, 17, .slice ad1 p0.length cp2), (1, 18, .int .i64 s13), (2, 19, q32), (3, 20, .int .i64 x22), (4, 21, .slice ad3 p1.length cp4), (5, 22, .int .i64 s13), (6, 23, q35), (7, 24, .int .i64 x27), (8, 25, .bool (x22 != x27))]) 9 (by kernel_rfl) (by kernel_rfl) (by kernel_rfl) (by kernel_rfl) (by kernel_rfl) [0, 1, 2, 3, 4, 5, 6, 7, 8] (by kernel_rfl) (by decide) (by decide) (aF 0 8 (by decide) ?_ (aF 1 7 (by decide) ?_ (aF 2 6 (by decide) ?_ (aF 3 5 (by decide) ?_ (aF 4 4 (by decide) ?_ (aF 5 3 (by decide) ?_ (aF 6 2 (by decide) ?_ (aF 7 1 (by decide) ?_ (aF 8 0 (by decide) ?_ (trivial)))))))))) [(0, .slice ad1 p0.length cp2), (1, .slice ad3 p1.length cp4), (5, .int .i64 s13), (25, .bool (x22 != x27))] (fin_of [none, none, none, some 8] rfl (by kernel_rfl) (by kernel_rfl)) (fun _ a w S => ?_)
        · refine fI 17 (.slice ad1 p0.length cp2) [(0, .slice ad1 p0.length cp2)] 0 [none] rfl rfl (by kernel_rfl) rfl (by kernel_rfl) (by kernel_rfl) fun G a w S => ?_
          refine sMove (.slice ad1 p0.length cp2) S (wN rfl) (.inl rfl) (by kernel_rfl) rfl (by decide) (fun a S => ?_)
          exact leafL ⟨rfl, S⟩
        · refine fI 18 (.int .i64 s13) [(5, .int .i64 s13)] 1 [none] rfl rfl (by kernel_rfl) rfl (by kernel_rfl) (by kernel_rfl) fun G a w S => ?_
          refine sMove (.int .i64 s13) S (wN rfl) (.inl rfl) (by kernel_rfl) rfl (by decide) (fun a S => ?_)
          exact leafL ⟨rfl, S⟩
        · refine fI 19 q32 [(17, .slice ad1 p0.length cp2), (18, .int .i64 s13)] 2 [some 0, some 1] rfl rfl (by kernel_rfl) rfl (by kernel_rfl) (by kernel_rfl) fun G a w S => ?_
          refine sIdxV (v := .slice ad1 p0.length cp2) (k := .i64) (j := s13) S (wN rfl) rfl (by kernel_rfl) (by kernel_rfl) hq33 rfl (by decide) (fun a S => ?_)
          exact leafL ⟨rfl, S⟩
        · refine fI 20 (.int .i64 x22) [(19, q32)] 3 [some 2] rfl rfl (by kernel_rfl) rfl (by kernel_rfl) (by kernel_rfl) fun G a w S => ?_
          refine sLoadV1 (vq := q32) 3 (.int .i64 x22) S (wN rfl) rfl (by kernel_rfl) (by kernel_rfl) (by kernel_rfl) rfl (by decide) (fun a S => ?_)
          exact leafL ⟨rfl, S⟩
        · refine fI 21 (.slice ad3 p1.length cp4) [(1, .slice ad3 p1.length cp4)] 4 [none] rfl rfl (by kernel_rfl) rfl (by kernel_rfl) (by kernel_rfl) fun G a w S => ?_
          refine sMove (.slice ad3 p1.length cp4) S (wN rfl) (.inl rfl) (by kernel_rfl) rfl (by decide) (fun a S => ?_)
          exact leafL ⟨rfl, S⟩
        · refine fI 22 (.int .i64 s13) [(5, .int .i64 s13)] 5 [none] rfl rfl (by kernel_rfl) rfl (by kernel_rfl) (by kernel_rfl) fun G a w S => ?_
          refine sMove (.int .i64 s13) S (wN rfl) (.inl rfl) (by kernel_rfl) rfl (by decide) (fun a S => ?_)
          exact leafL ⟨rfl, S⟩
        · refine fI 23 q35 [(21, .slice ad3 p1.length cp4), (22, .int .i64 s13)] 6 [some 4, some 5] rfl rfl (by kernel_rfl) rfl (by kernel_rfl) (by kernel_rfl) fun G a w S => ?_
          refine sIdxV (v := .slice ad3 p1.length cp4) (k := .i64) (j := s13) S (wN rfl) rfl (by kernel_rfl) (by kernel_rfl) hq36 rfl (by decide) (fun a S => ?_)
          exact leafL ⟨rfl, S⟩
        · refine fI 24 (.int .i64 x27) [(23, q35)] 7 [some 6] rfl rfl (by kernel_rfl) rfl (by kernel_rfl) (by kernel_rfl) fun G a w S => ?_
          refine sLoadV1 (vq := q35) 0 (.int .i64 x27) S (wN rfl) rfl (by kernel_rfl) (by kernel_rfl) (by kernel_rfl) rfl (by decide) (fun a S => ?_)
          exact leafL ⟨rfl, S⟩
        · refine fI 25 (.bool (x22 != x27)) [(20, .int .i64 x22), (24, .int .i64 x27)] 8 [some 3, some 7] rfl rfl (by kernel_rfl) rfl (by kernel_rfl) (by kernel_rfl) fun G a w S => ?_
          refine sBin (.bool (x22 != x27)) S (wN rfl) rfl (by kernel_rfl) (by kernel_rfl) (bNe _ _ _ _ .i64 x22 x27) rfl (by decide) (fun a S => ?_)
          exact leafL ⟨rfl, S⟩
        · refine leafT (hK21 _ _ ?_)
          rcases iteSome h with ⟨hc38, h⟩ | ⟨hc38, h⟩
          · refine sCondT (b := x22 != x27) S (by kernel_rfl) hc38 ?_
            refine sSeq (fun K39 hK39 => ?_)
            refine sRegion ?_
            refine sMove (.bool false) S (wN rfl) (.inr rfl) (by kernel_rfl) rfl (by decide) (fun a S => ?_)
            refine leafL (leafT (hK39 _ _ ?_))
            obtain rfl := Option.some.inj h
            obtain rfl := hu14 _ rfl
            have h := g15
            clear g15
            try dsimp only at h
            obtain rfl := Option.some.inj h
            have h := g11
            clear g11
            try dsimp only at h
            obtain rfl := Option.some.inj h
            exact wp_ret (rBlock (rThen (rThen (rBlock (rThen (sRet (.bool false) S (rsl1 rfl (rvT (t := 4) (v := .bool false) S (by kernel_rfl))) ⟨(), rfl, S.mem.sel [] [] (by decide) (by kernel_rfl) (by kernel_rfl)⟩))))))
          · refine sCondF (b := x22 != x27) S (by kernel_rfl) hc38 ?_
            refine wp_skip (leafB (leafT (hK20 _ _ ?_)))
            refine sRegion ?_
            refine sMove (.int .i64 s13) S (wN rfl) (.inl rfl) (by kernel_rfl) rfl (by decide) (fun a S => ?_)
            refine sBin (.int .i64 (w64 (s13 + 1))) S (wN rfl) rfl (by kernel_rfl) (by kernel_rfl) (bAdd _ _ _ _ s13 1) rfl (by decide) (fun a S => ?_)
            refine sMove (.int .i64 (w64 (s13 + 1))) S (wN rfl) (.inr rfl) (by kernel_rfl) rfl (by decide) (fun a S => ?_)
            exact leafL (leafT (⟨w64 (s13 + 1), (Option.some.inj h).symm, (S.fix [] [6, 7] (by decide) (by kernel_rfl) (by kernel_rfl) (by kernel_rfl))⟩))
      · refine sCondF (b := decide (s13 < (p0.length : Int))) S (by kernel_rfl) hc19 ?_
        obtain rfl := Option.some.inj h
        obtain rfl := hu14 _ rfl
        have h := g15
        clear g15
        try dsimp only at h
        exact wp_exit (xThen (xThen (xHit (leafT (⟨Option.some.inj h, S.fix [] [] (by decide) (by kernel_rfl) (by kernel_rfl) (by kernel_rfl)⟩)))))
    · obtain ⟨rfl, S⟩ := hI
      have h := g11
      clear g11
      try dsimp only at h
      refine sSeq (fun K40 hK40 => ?_)
      refine sRegion ?_
      refine sMove (.bool true) S (wN rfl) (.inr rfl) (by kernel_rfl) rfl (by decide) (fun a S => ?_)
      refine leafL (leafT (hK40 _ _ ?_))
      obtain rfl := Option.some.inj h
      exact wp_ret (sRet (.bool true) S (rsl1 rfl (rvT (t := 4) (v := .bool true) S (by kernel_rfl))) ⟨(), rfl, S.mem.sel [] [] (by decide) (by kernel_rfl) (by kernel_rfl)⟩)

end Go.Proofs.Ytjndecalogklhaa
namespace Go.Proofs.Ytjndecalogklhaa
open Go.RowKit
set_option linter.unusedVariables false

def anc_yarn_Check_0 : List (List Nat) := [[], [0], [0, 1], [0, 1, 2], [0, 1, 2, 3], [0, 1, 2, 3, 4], [0, 1, 2, 3, 4, 5], [0, 1, 2, 3, 4, 5, 6], [0, 1, 2, 3, 4, 5, 6, 7], [0, 1, 2, 3, 4, 5, 6, 7, 8], [0, 1, 2, 3, 4, 5, 6, 7, 8, 9], [0, 1, 2, 3, 4, 5, 6, 7, 8, 9, 10], [0, 1, 2, 3, 4, 5, 6, 7, 8, 9, 10, 11], [0, 1, 2, 3, 4, 5, 6, 7, 8, 9, 10, 11, 12], [0, 1, 2, 3, 4, 5, 6, 7, 8, 9, 10, 11, 12, 13], [0, 1, 2, 3, 4, 5, 6, 7, 8, 9, 10, 11, 12, 13, 14], [0, 1, 2, 3, 4, 5, 6, 7, 8, 9, 10, 11, 12, 13, 14, 15], [0, 1, 2, 3, 4, 5, 6, 7, 8, 9, 10, 11, 12, 13, 14, 15, 16], [0, 1, 2, 3, 4, 5, 6, 7, 8, 9, 10, 11, 12, 13, 14], [0, 1, 2, 3, 4, 5, 6, 7, 8, 9, 10, 11, 12, 13, 14, 18], [0, 1, 2, 3, 4, 5, 6, 7, 8, 9, 10, 11, 12, 13, 14, 18, 19], [0, 1, 2, 3, 4, 5, 6, 7, 8, 9, 10, 11, 12, 13, 14, 15, 16, 17, 18, 19, 20], [0, 1, 2, 3, 4, 5, 6, 7, 8, 9, 10, 11, 12, 13, 14, 15, 16, 17, 18, 19, 20, 21], [0, 1, 2, 3, 4, 5, 6, 7, 8, 9, 10, 11, 12, 13, 14, 15, 16, 17, 18, 19, 20, 21, 22]]
noncomputable def F_yarn_Check (p0 : api_Ratio) : Option Int :=
  Option.bind (α := Bool) (
    if decide (p0.Den < 1) then
      some true
    else
      if decide (1000000000 < p0.Den) then
        some true
      else
        Option.bind (F_yarn_size p0.Num) fun r9 =>
        if decide (1000000000 < r9) then
          some true
        else
          Option.bind (F_yarn_gcd r9 (IntKind.u64.wrap p0.Den)) fun r12 =>
          some (r12 != 1)) fun o4 =>
  if o4 then
    some 8
  else
    some 0
set_option maxHeartbeats 4000000 in
set_option maxRecDepth 100000 in
theorem c_yarn_Check (E : Nat → Prop) (w0 : World) (p0 : api_Ratio) (v0 : Value) (r : Int) (h : F_yarn_Check p0 = some r) (S : St0 E [] w0 w0 [] [fRep r_api_Ratio (v0) p0]) :
    Calls Try.prog 19 #[v0] w0 (Ret (X := Unit) E [] w0 (fun _ => .int .i64 r) (fun _ => []) (fun _ => [])) := by
  unfold F_yarn_Check at h
  obtain rfl : v0 = .agg #[.int .i64 p0.Num, .int .i64 p0.Den] := S.know (i := 0) (e := fRep r_api_Ratio (v0) p0) (by kernel_rfl)
  refine sEnter (args := [.agg #[.int .i64 p0.Num, .int .i64 p0.Den]]) 27 Try.func19 rfl rfl (by simp) S (fun a S => ?_)
  refine sSeq (fun K1 hK1 => ?_)
  refine sRegion ?_
  refine sBox (v := .agg #[.int .i64 p0.Num, .int .i64 p0.Den]) S (wN rfl) rfl (by kernel_rfl) [.int .i64 p0.Num, .int .i64 p0.Den] rfl rfl (by decide) (fun a b2 w S => ?_)
  refine sMove (.int .i64 0) S (wN rfl) (.inr rfl) (by kernel_rfl) rfl (by decide) (fun a S => ?_)
  refine leafL (leafT (hK1 _ _ ?_))
  refine sSeq (fun K3 hK3 => ?_)
  obtain ⟨t5, h, g6⟩ := bindSome h
  refine sCut (fun a w => ∃ o4, o4 = t5 ∧ St E [] w0 27 a w [(26, .bool o4)] [] []) ?_ (fun a w hI => ?_)
  · rcases iteSome h with ⟨hc7, h⟩ | ⟨hc7, h⟩
    · refine sDraw (nf := []) (W := [(0, 3, .pointer (some ⟨b2, 1, none⟩)), (1, 4, .int .i64 p0.Den), (2, 5, .bool (decide (p0.Den < 1))), (3, 6, .bool (decide (p0.Den < 1))), (4, 7, undef), (5, 8, undef), (6, 9, undef), (7, 10, .bool true), (8, 11, .bool true), (9, 12, undef), (10, 13, undef), (11, 14, undef), (12, 15, undef), (13, 16, .bool true), (14, 17, .bool true), (15, 18, undef), (16, 19, undef), (17, 20, undef), (18, 21, undef), (19, 22, undef), (20, 23, undef), (21, 24, undef), (22, 25, undef), (23, 26, .bool true)]) (by kernel_rfl) S ?_
      refine node_by (A := anc_yarn_Check_0) (nf := []) (Y := []) (W := [(0, 3, .pointer (some ⟨b2, 1, none⟩)), (1, 4, .int .i64 p0.Den), (2, 5, .bool (decide (p0.Den < 1))), (3, 6, .bool (decide (p0.Den < 1))), (4, 7, undef), (5, 8, undef), (6, 9, undef), (7, 10, .bool true), (8, 11, .bool true), (9, 12, undef), (10, 13, undef), (11, 14, undef), (12, 15, undef), (13, 16, .bool true), (14, 17, .bool true), (15, 18, undef), (16, 19, undef), (17, 20, undef), (18, 21, undef), (19, 22, undef), (20, 23, undef), (21, 24, undef), (22, 25, undef), (23, 26, .bool true)]) 24 (by kernel_rfl) (by kernel_rfl) (by kernel_rfl) (by kernel_rfl) (by kernel_rfl) [0, 1, 2, 3, 4, 5, 6, 7, 8, 9, 10, 11, 12, 13, 14, 15, 16, 17, 18, 19, 20, 21, 22, 23] (by kernel_rfl) (by decide) (by decide) (aF 0 23 (by decide) ?_ (aF 1 22 (by decide) ?_ (aF 2 21 (by decide) ?_ (aF 3 20 (by decide) ?_ (aF 4 19 (by decide) ?_ (aF 5 18 (by decide) ?_ (aF 6 17 (by decide) ?_ (aF 7 16 (by decide) ?_ (aF 8 15 (by decide) ?_ (aF 9 14 (by decide) ?_ (aF 10 13 (by decide) ?_ (aF 11 12 (by decide) ?_ (aF 12 11 (by decide) ?_ (aF 13 10 (by decide) ?_ (aF 14 9 (by decide) ?_ (aF 15 8 (by decide) ?_ (aF 16 7 (by decide) ?_ (aF 17 6 (by decide) ?_ (aF 18 5 (by decide) ?_ (aF 19 4 (by decide) ?_ (aF 20 3 (by decide) ?_ (aF 21 2 (by decide) ?_ (aF 22 1 (by decide) ?_ (aF 23 0 (by decide) ?_ (trivial))))))))))))))))))))))))) [(26, .bool true)] (fin_of [some 23] rfl (by kernel_rfl) (by kernel_rfl)) (fun _ a w S => ?_)
      · refine fI 3 (.pointer (some ⟨b2, 1, none⟩)) [(1, .pointer (some ⟨b2, 0, none⟩))] 0 [none] rfl rfl (by kernel_rfl) rfl (by kernel_rfl) (by kernel_rfl) fun G a w S => ?_
        refine sField (b := b2) (off := 0) 1 1 S (wN rfl) rfl (by kernel_rfl) (by kernel_rfl) rfl rfl (by decide) (fun a S => ?_)
        exact leafL ⟨rfl, S⟩
      · refine fI 4 (.int .i64 p0.Den) [(3, .pointer (some ⟨b2, 1, none⟩))] 1 [some 0] rfl rfl (by kernel_rfl) rfl (by kernel_rfl) (by kernel_rfl) fun G a w S => ?_
        refine sLoad1 (p := b2) (off := 1) (T := 34) (vs := [.int .i64 p0.Num, .int .i64 p0.Den]) 0 (.int .i64 p0.Den) S (wN rfl) rfl (by kernel_rfl) (by kernel_rfl) (by kernel_rfl) rfl rfl (by decide) (fun a S => ?_)
        exact leafL ⟨rfl, S⟩
      · refine fI 5 (.bool (decide (p0.Den < 1))) [(4, .int .i64 p0.Den)] 2 [some 1] rfl rfl (by kernel_rfl) rfl (by kernel_rfl) (by kernel_rfl) fun G a w S => ?_
        refine sBin (.bool (decide (p0.Den < 1))) S (wN rfl) rfl (by kernel_rfl) (by kernel_rfl) (bLt _ _ _ _ .i64 p0.Den 1) rfl (by decide) (fun a S => ?_)
        exact leafL ⟨rfl, S⟩
      · refine fI 6 (.bool (decide (p0.Den < 1))) [(5, .bool (decide (p0.Den < 1)))] 3 [some 2] rfl rfl (by kernel_rfl) rfl (by kernel_rfl) (by kernel_rfl) fun G a w S => ?_
        refine sMove (.bool (decide (p0.Den < 1))) S (wN rfl) (.inl rfl) (by kernel_rfl) rfl (by decide) (fun a S => ?_)
        exact leafL ⟨rfl, S⟩
      · refine fI 7 undef [(1, .pointer (some ⟨b2, 0, none⟩)), (6, .bool (decide (p0.Den < 1)))] 4 [none, some 3] rfl rfl (by kernel_rfl) rfl (by kernel_rfl) (by kernel_rfl) fun G a w S => ?_
        refine sSkip (c := decide (p0.Den < 1)) 3 false 6 7 S rfl rfl (by kernel_rfl) hc7 rfl (by decide) (fun a S => ?_)
        exact leafL ⟨rfl, S⟩
      · refine fI 8 undef [(7, undef), (6, .bool (decide (p0.Den < 1)))] 5 [some 4, some 3] rfl rfl (by kernel_rfl) rfl (by kernel_rfl) (by kernel_rfl) fun G a w S => ?_
        refine sSkip (c := decide (p0.Den < 1)) 3 false 6 8 S rfl rfl (by kernel_rfl) hc7 rfl (by decide) (fun a S => ?_)
        exact leafL ⟨rfl, S⟩
      · refine fI 9 undef [(8, undef), (6, .bool (decide (p0.Den < 1)))] 6 [some 5, some 3] rfl rfl (by kernel_rfl) rfl (by kernel_rfl) (by kernel_rfl) fun G a w S => ?_
        refine sSkip (c := decide (p0.Den < 1)) 3 false 6 9 S rfl rfl (by kernel_rfl) hc7 rfl (by decide) (fun a S => ?_)
        exact leafL ⟨rfl, S⟩
      · refine fI 10 (.bool true) [(6, .bool (decide (p0.Den < 1))), (9, undef)] 7 [some 3, some 6] rfl rfl (by kernel_rfl) rfl (by kernel_rfl) (by kernel_rfl) fun G a w S => ?_
        refine sPickT (b := decide (p0.Den < 1)) (.bool true) S (wN rfl) rfl (by kernel_rfl) hc7 (by kernel_rfl) rfl (by decide) (fun a S => ?_)
        exact leafL ⟨rfl, S⟩
      · refine fI 11 (.bool true) [(10, .bool true)] 8 [some 7] rfl rfl (by kernel_rfl) rfl (by kernel_rfl) (by kernel_rfl) fun G a w S => ?_
        refine sMove (.bool true) S (wN rfl) (.inl rfl) (by kernel_rfl) rfl (by decide) (fun a S => ?_)
        exact leafL ⟨rfl, S⟩
      · refine fI 12 undef [(1, .pointer (some ⟨b2, 0, none⟩)), (11, .bool true)] 9 [none, some 8] rfl rfl (by kernel_rfl) rfl (by kernel_rfl) (by kernel_rfl) fun G a w S => ?_
        refine sSkip (c := true) 8 false 11 12 S rfl rfl (by kernel_rfl) rfl rfl (by decide) (fun a S => ?_)
        exact leafL ⟨rfl, S⟩
      · refine fI 13 undef [(12, undef), (11, .bool true)] 10 [some 9, some 8] rfl rfl (by kernel_rfl) rfl (by kernel_rfl) (by kernel_rfl) fun G a w S => ?_
        refine sSkip (c := true) 8 false 11 13 S rfl rfl (by kernel_rfl) rfl rfl (by decide) (fun a S => ?_)
        exact leafL ⟨rfl, S⟩
      · refine fI 14 undef [(13, undef), (11, .bool true)] 11 [some 10, some 8] rfl rfl (by kernel_rfl) rfl (by kernel_rfl) (by kernel_rfl) fun G a w S => ?_
        refine sSkip (c := true) 8 false 11 14 S rfl rfl (by kernel_rfl) rfl rfl (by decide) (fun a S => ?_)
        exact leafL ⟨rfl, S⟩
      · refine fI 15 undef [(14, undef), (11, .bool true)] 12 [some 11, some 8] rfl rfl (by kernel_rfl) rfl (by kernel_rfl) (by kernel_rfl) fun G a w S => ?_
        refine sSkip (c := true) 8 false 11 15 S rfl rfl (by kernel_rfl) rfl rfl (by decide) (fun a S => ?_)
        exact leafL ⟨rfl, S⟩
      · refine fI 16 (.bool true) [(11, .bool true), (15, undef)] 13 [some 8, some 12] rfl rfl (by kernel_rfl) rfl (by kernel_rfl) (by kernel_rfl) fun G a w S => ?_
        refine sPickT (b := true) (.bool true) S (wN rfl) rfl (by kernel_rfl) rfl (by kernel_rfl) rfl (by decide) (fun a S => ?_)
        exact leafL ⟨rfl, S⟩
      · refine fI 17 (.bool true) [(16, .bool true)] 14 [some 13] rfl rfl (by kernel_rfl) rfl (by kernel_rfl) (by kernel_rfl) fun G a w S => ?_
        refine sMove (.bool true) S (wN rfl) (.inl rfl) (by kernel_rfl) rfl (by decide) (fun a S => ?_)
        exact leafL ⟨rfl, S⟩
      · refine fI 18 undef [(1, .pointer (some ⟨b2, 0, none⟩)), (17, .bool true)] 15 [none, some 14] rfl rfl (by kernel_rfl) rfl (by kernel_rfl) (by kernel_rfl) fun G a w S => ?_
        refine sSkip (c := true) 14 false 17 18 S rfl rfl (by kernel_rfl) rfl rfl (by decide) (fun a S => ?_)
        exact leafL ⟨rfl, S⟩
      · refine fI 19 undef [(18, undef), (17, .bool true)] 16 [some 15, some 14] rfl rfl (by kernel_rfl) rfl (by kernel_rfl) (by kernel_rfl) fun G a w S => ?_
        refine sSkip (c := true) 14 false 17 19 S rfl rfl (by kernel_rfl) rfl rfl (by decide) (fun a S => ?_)
        exact leafL ⟨rfl, S⟩
      · refine fI 20 undef [(19, undef), (17, .bool true)] 17 [some 16, some 14] rfl rfl (by kernel_rfl) rfl (by kernel_rfl) (by kernel_rfl) fun G a w S => ?_
        refine sSkip (c := true) 14 false 17 20 S rfl rfl (by kernel_rfl) rfl rfl (by decide) (fun a S => ?_)
        exact leafL ⟨rfl, S⟩
      · refine fI 21 undef [(1, .pointer (some ⟨b2, 0, none⟩)), (17, .bool true)] 18 [none, some 14] rfl rfl (by kernel_rfl) rfl (by kernel_rfl) (by kernel_rfl) fun G a w S => ?_
        refine sSkip (c := true) 14 false 17 21 S rfl rfl (by kernel_rfl) rfl rfl (by decide) (fun a S => ?_)
        exact leafL ⟨rfl, S⟩
      · refine fI 22 undef [(21, undef), (17, .bool true)] 19 [some 18, some 14] rfl rfl (by kernel_rfl) rfl (by kernel_rfl) (by kernel_rfl) fun G a w S => ?_
        refine sSkip (c := true) 14 false 17 22 S rfl rfl (by kernel_rfl) rfl rfl (by decide) (fun a S => ?_)
        exact leafL ⟨rfl, S⟩
      · refine fI 23 undef [(22, undef), (17, .bool true)] 20 [some 19, some 14] rfl rfl (by kernel_rfl) rfl (by kernel_rfl) (by kernel_rfl) fun G a w S => ?_
        refine sSkip (c := true) 14 false 17 23 S rfl rfl (by kernel_rfl) rfl rfl (by decide) (fun a S => ?_)
        exact leafL ⟨rfl, S⟩
      · refine fI 24 undef [(20, undef), (23, undef), (17, .bool true)] 21 [some 17, some 20, some 14] rfl rfl (by kernel_rfl) rfl (by kernel_rfl) (by kernel_rfl) fun G a w S => ?_
        refine sSkip (c := true) 14 false 17 24 S rfl rfl (by kernel_rfl) rfl rfl (by decide) (fun a S => ?_)
        exact leafL ⟨rfl, S⟩
      · refine fI 25 undef [(24, undef), (17, .bool true)] 22 [some 21, some 14] rfl rfl (by kernel_rfl) rfl (by kernel_rfl) (by kernel_rfl) fun G a w S => ?_
        refine sSkip (c := true) 14 false 17 25 S rfl rfl (by kernel_rfl) rfl rfl (by decide) (fun a S => ?_)
        exact leafL ⟨rfl, S⟩
      · refine fI 26 (.bool true) [(17, .bool true), (25, undef)] 23 [some 14, some 22] rfl rfl (by kernel_rfl) rfl (by kernel_rfl) (by kernel_rfl) fun G a w S => ?_
        refine sPickT (b := true) (.bool true) S (wN rfl) rfl (by kernel_rfl) rfl (by kernel_rfl) rfl (by decide) (fun a S => ?_)
        exact leafL ⟨rfl, S⟩
      · exact leafT (⟨true, Option.some.inj h, S.fix [] [] (by decide) (by kernel_rfl) (by kernel_rfl) (by kernel_rfl)⟩)
    · rcases iteSome h with ⟨hc8, h⟩ | ⟨hc8, h⟩
      · refine sDraw (nf := []) (W := [(0, 3, .pointer (some ⟨b2, 1, none⟩)), (1, 4, .int .i64 p0.Den), (2, 5, .bool (decide (p0.Den < 1))), (3, 6, .bool (decide (p0.Den < 1))), (4, 7, .pointer (some ⟨b2, 1, none⟩)), (5, 8, .int .i64 p0.Den), (6, 9, .bool (decide (1000000000 < p0.Den))), (7, 10, .bool (decide (1000000000 < p0.Den))), (8, 11, .bool (decide (1000000000 < p0.Den))), (9, 12, undef), (10, 13, undef), (11, 14, undef), (12, 15, undef), (13, 16, .bool true), (14, 17, .bool true), (15, 18, undef), (16, 19, undef), (17, 20, undef), (18, 21, undef), (19, 22, undef), (20, 23, undef), (21, 24, undef), (22, 25, undef), (23, 26, .bool true)]) (by kernel_rfl) S ?_
        refine node_by (A := anc_yarn_Check_0) (nf := []) (Y := []) (W := [(0, 3, .pointer (some ⟨b2, 1, none⟩)), (1, 4, .int .i64 p0.Den), (2, 5, .bool (decide (p0.Den < 1))), (3, 6, .bool (decide (p0.Den < 1))), (4, 7, .pointer (some ⟨b2, 1, none⟩)), (5, 8, .int .i64 p0.Den), (6, 9, .bool (decide (1000000000 < p0.Den))), (7, 10, .bool (decide (1000000000 < p0.Den))), (8, 11, .bool (decide (1000000000 < p0.Den))), (9, 12, undef), (10, 13, undef), (11, 14, undef), (12, 15, undef), (13, 16, .bool true), (14, 17, .bool true), (15, 18, undef), (16, 19, undef), (17, 20, undef), (18, 21, undef), (19, 22, undef), (20, 23, undef), (21, 24, undef), (22, 25, undef), (23, 26, .bool true)]) 24 (by kernel_rfl) (by kernel_rfl) (by kernel_rfl) (by kernel_rfl) (by kernel_rfl) [0, 1, 2, 3, 4, 5, 6, 7, 8, 9, 10, 11, 12, 13, 14, 15, 16, 17, 18, 19, 20, 21, 22, 23] (by kernel_rfl) (by decide) (by decide) (aF 0 23 (by decide) ?_ (aF 1 22 (by decide) ?_ (aF 2 21 (by decide) ?_ (aF 3 20 (by decide) ?_ (aF 4 19 (by decide) ?_ (aF 5 18 (by decide) ?_ (aF 6 17 (by decide) ?_ (aF 7 16 (by decide) ?_ (aF 8 15 (by decide) ?_ (aF 9 14 (by decide) ?_ (aF 10 13 (by decide) ?_ (aF 11 12 (by decide) ?_ (aF 12 11 (by decide) ?_ (aF 13 10 (by decide) ?_ (aF 14 9 (by decide) ?_ (aF 15 8 (by decide) ?_ (aF 16 7 (by decide) ?_ (aF 17 6 (by decide) ?_ (aF 18 5 (by decide) ?_ (aF 19 4 (by decide) ?_ (aF 20 3 (by decide) ?_ (aF 21 2 (by decide) ?_ (aF 22 1 (by decide) ?_ (aF 23 0 (by decide) ?_ (trivial))))))))))))))))))))))))) [(26, .bool true)] (fin_of [some 23] rfl (by kernel_rfl) (by kernel_rfl)) (fun _ a w S => ?_)
        · refine fI 3 (.pointer (some ⟨b2, 1, none⟩)) [(1, .pointer (some ⟨b2, 0, none⟩))] 0 [none] rfl rfl (by kernel_rfl) rfl (by kernel_rfl) (by kernel_rfl) fun G a w S => ?_
          refine sField (b := b2) (off := 0) 1 1 S (wN rfl) rfl (by kernel_rfl) (by kernel_rfl) rfl rfl (by decide) (fun a S => ?_)
          exact leafL ⟨rfl, S⟩
        · refine fI 4 (.int .i64 p0.Den) [(3, .pointer (some ⟨b2, 1, none⟩))] 1 [some 0] rfl rfl (by kernel_rfl) rfl (by kernel_rfl) (by kernel_rfl) fun G a w S => ?_
          refine sLoad1 (p := b2) (off := 1) (T := 34) (vs := [.int .i64 p0.Num, .int .i64 p0.Den]) 0 (.int .i64 p0.Den) S (wN rfl) rfl (by kernel_rfl) (by kernel_rfl) (by kernel_rfl) rfl rfl (by decide) (fun a S => ?_)
          exact leafL ⟨rfl, S⟩
        · refine fI 5 (.bool (decide (p0.Den < 1))) [(4, .int .i64 p0.Den)] 2 [some 1] rfl rfl (by kernel_rfl) rfl (by kernel_rfl) (by kernel_rfl) fun G a w S => ?_
          refine sBin (.bool (decide (p0.Den < 1))) S (wN rfl) rfl (by kernel_rfl) (by kernel_rfl) (bLt _ _ _ _ .i64 p0.Den 1) rfl (by decide) (fun a S => ?_)
          exact leafL ⟨rfl, S⟩
        · refine fI 6 (.bool (decide (p0.Den < 1))) [(5, .bool (decide (p0.Den < 1)))] 3 [some 2] rfl rfl (by kernel_rfl) rfl (by kernel_rfl) (by kernel_rfl) fun G a w S => ?_
          refine sMove (.bool (decide (p0.Den < 1))) S (wN rfl) (.inl rfl) (by kernel_rfl) rfl (by decide) (fun a S => ?_)
          exact leafL ⟨rfl, S⟩
        · refine fI 7 (.pointer (some ⟨b2, 1, none⟩)) [(1, .pointer (some ⟨b2, 0, none⟩)), (6, .bool (decide (p0.Den < 1)))] 4 [none, some 3] rfl rfl (by kernel_rfl) rfl (by kernel_rfl) (by kernel_rfl) fun G a w S => ?_
          refine sField (b := b2) (off := 0) 1 1 S (wG (c := decide (p0.Den < 1)) 3 false 6 rfl rfl (by kernel_rfl) hc7) rfl (by kernel_rfl) (by kernel_rfl) rfl rfl (by decide) (fun a S => ?_)
          exact leafL ⟨rfl, S⟩
        · refine fI 8 (.int .i64 p0.Den) [(7, .pointer (some ⟨b2, 1, none⟩)), (6, .bool (decide (p0.Den < 1)))] 5 [some 4, some 3] rfl rfl (by kernel_rfl) rfl (by kernel_rfl) (by kernel_rfl) fun G a w S => ?_
          refine sLoad1 (p := b2) (off := 1) (T := 34) (vs := [.int .i64 p0.Num, .int .i64 p0.Den]) 0 (.int .i64 p0.Den) S (wG (c := decide (p0.Den < 1)) 3 false 6 rfl rfl (by kernel_rfl) hc7) rfl (by kernel_rfl) (by kernel_rfl) (by kernel_rfl) rfl rfl (by decide) (fun a S => ?_)
          exact leafL ⟨rfl, S⟩
        · refine fI 9 (.bool (decide (1000000000 < p0.Den))) [(8, .int .i64 p0.Den), (6, .bool (decide (p0.Den < 1)))] 6 [some 5, some 3] rfl rfl (by kernel_rfl) rfl (by kernel_rfl) (by kernel_rfl) fun G a w S => ?_
          refine sBin (.bool (decide (1000000000 < p0.Den))) S (wG (c := decide (p0.Den < 1)) 3 false 6 rfl rfl (by kernel_rfl) hc7) rfl (by kernel_rfl) (by kernel_rfl) (bGt _ _ _ _ .i64 p0.Den 1000000000) rfl (by decide) (fun a S => ?_)
          exact leafL ⟨rfl, S⟩
        · refine fI 10 (.bool (decide (1000000000 < p0.Den))) [(6, .bool (decide (p0.Den < 1))), (9, .bool (decide (1000000000 < p0.Den)))] 7 [some 3, some 6] rfl rfl (by kernel_rfl) rfl (by kernel_rfl) (by kernel_rfl) fun G a w S => ?_
          refine sPickF (b := decide (p0.Den < 1)) (.bool (decide (1000000000 < p0.Den))) S (wN rfl) rfl (by kernel_rfl) hc7 (by kernel_rfl) rfl (by decide) (fun a S => ?_)
          exact leafL ⟨rfl, S⟩
        · refine fI 11 (.bool (decide (1000000000 < p0.Den))) [(10, .bool (decide (1000000000 < p0.Den)))] 8 [some 7] rfl rfl (by kernel_rfl) rfl (by kernel_rfl) (by kernel_rfl) fun G a w S => ?_
          refine sMove (.bool (decide (1000000000 < p0.Den))) S (wN rfl) (.inl rfl) (by kernel_rfl) rfl (by decide) (fun a S => ?_)
          exact leafL ⟨rfl, S⟩
        · refine fI 12 undef [(1, .pointer (some ⟨b2, 0, none⟩)), (11, .bool (decide (1000000000 < p0.Den)))] 9 [none, some 8] rfl rfl (by kernel_rfl) rfl (by kernel_rfl) (by kernel_rfl) fun G a w S => ?_
          refine sSkip (c := decide (1000000000 < p0.Den)) 8 false 11 12 S rfl rfl (by kernel_rfl) hc8 rfl (by decide) (fun a S => ?_)
          exact leafL ⟨rfl, S⟩
        · refine fI 13 undef [(12, undef), (11, .bool (decide (1000000000 < p0.Den)))] 10 [some 9, some 8] rfl rfl (by kernel_rfl) rfl (by kernel_rfl) (by kernel_rfl) fun G a w S => ?_
          refine sSkip (c := decide (1000000000 < p0.Den)) 8 false 11 13 S rfl rfl (by kernel_rfl) hc8 rfl (by decide) (fun a S => ?_)
          exact leafL ⟨rfl, S⟩
        · refine fI 14 undef [(13, undef), (11, .bool (decide (1000000000 < p0.Den)))] 11 [some 10, some 8] rfl rfl (by kernel_rfl) rfl (by kernel_rfl) (by kernel_rfl) fun G a w S => ?_
          refine sSkip (c := decide (1000000000 < p0.Den)) 8 false 11 14 S rfl rfl (by kernel_rfl) hc8 rfl (by decide) (fun a S => ?_)
          exact leafL ⟨rfl, S⟩
        · refine fI 15 undef [(14, undef), (11, .bool (decide (1000000000 < p0.Den)))] 12 [some 11, some 8] rfl rfl (by kernel_rfl) rfl (by kernel_rfl) (by kernel_rfl) fun G a w S => ?_
          refine sSkip (c := decide (1000000000 < p0.Den)) 8 false 11 15 S rfl rfl (by kernel_rfl) hc8 rfl (by decide) (fun a S => ?_)
          exact leafL ⟨rfl, S⟩
        · refine fI 16 (.bool true) [(11, .bool (decide (1000000000 < p0.Den))), (15, undef)] 13 [some 8, some 12] rfl rfl (by kernel_rfl) rfl (by kernel_rfl) (by kernel_rfl) fun G a w S => ?_
          refine sPickT (b := decide (1000000000 < p0.Den)) (.bool true) S (wN rfl) rfl (by kernel_rfl) hc8 (by kernel_rfl) rfl (by decide) (fun a S => ?_)
          exact leafL ⟨rfl, S⟩
        · refine fI 17 (.bool true) [(16, .bool true)] 14 [some 13] rfl rfl (by kernel_rfl) rfl (by kernel_rfl) (by kernel_rfl) fun G a w S => ?_
          refine sMove (.bool true) S (wN rfl) (.inl rfl) (by kernel_rfl) rfl (by decide) (fun a S => ?_)
          exact leafL ⟨rfl, S⟩
        · refine fI 18 undef [(1, .pointer (some ⟨b2, 0, none⟩)), (17, .bool true)] 15 [none, some 14] rfl rfl (by kernel_rfl) rfl (by kernel_rfl) (by kernel_rfl) fun G a w S => ?_
          refine sSkip (c := true) 14 false 17 18 S rfl rfl (by kernel_rfl) rfl rfl (by decide) (fun a S => ?_)
          exact leafL ⟨rfl, S⟩
        · refine fI 19 undef [(18, undef), (17, .bool true)] 16 [some 15, some 14] rfl rfl (by kernel_rfl) rfl (by kernel_rfl) (by kernel_rfl) fun G a w S => ?_
          refine sSkip (c := true) 14 false 17 19 S rfl rfl (by kernel_rfl) rfl rfl (by decide) (fun a S => ?_)
          exact leafL ⟨rfl, S⟩
        · refine fI 20 undef [(19, undef), (17, .bool true)] 17 [some 16, some 14] rfl rfl (by kernel_rfl) rfl (by kernel_rfl) (by kernel_rfl) fun G a w S => ?_
          refine sSkip (c := true) 14 false 17 20 S rfl rfl (by kernel_rfl) rfl rfl (by decide) (fun a S => ?_)
          exact leafL ⟨rfl, S⟩
        · refine fI 21 undef [(1, .pointer (some ⟨b2, 0, none⟩)), (17, .bool true)] 18 [none, some 14] rfl rfl (by kernel_rfl) rfl (by kernel_rfl) (by kernel_rfl) fun G a w S => ?_
          refine sSkip (c := true) 14 false 17 21 S rfl rfl (by kernel_rfl) rfl rfl (by decide) (fun a S => ?_)
          exact leafL ⟨rfl, S⟩
        · refine fI 22 undef [(21, undef), (17, .bool true)] 19 [some 18, some 14] rfl rfl (by kernel_rfl) rfl (by kernel_rfl) (by kernel_rfl) fun G a w S => ?_
          refine sSkip (c := true) 14 false 17 22 S rfl rfl (by kernel_rfl) rfl rfl (by decide) (fun a S => ?_)
          exact leafL ⟨rfl, S⟩
        · refine fI 23 undef [(22, undef), (17, .bool true)] 20 [some 19, some 14] rfl rfl (by kernel_rfl) rfl (by kernel_rfl) (by kernel_rfl) fun G a w S => ?_
          refine sSkip (c := true) 14 false 17 23 S rfl rfl (by kernel_rfl) rfl rfl (by decide) (fun a S => ?_)
          exact leafL ⟨rfl, S⟩
        · refine fI 24 undef [(20, undef), (23, undef), (17, .bool true)] 21 [some 17, some 20, some 14] rfl rfl (by kernel_rfl) rfl (by kernel_rfl) (by kernel_rfl) fun G a w S => ?_
          refine sSkip (c := true) 14 false 17 24 S rfl rfl (by kernel_rfl) rfl rfl (by decide) (fun a S => ?_)
          exact leafL ⟨rfl, S⟩
        · refine fI 25 undef [(24, undef), (17, .bool true)] 22 [some 21, some 14] rfl rfl (by kernel_rfl) rfl (by kernel_rfl) (by kernel_rfl) fun G a w S => ?_
          refine sSkip (c := true) 14 false 17 25 S rfl rfl (by kernel_rfl) rfl rfl (by decide) (fun a S => ?_)
          exact leafL ⟨rfl, S⟩
        · refine fI 26 (.bool true) [(17, .bool true), (25, undef)] 23 [some 14, some 22] rfl rfl (by kernel_rfl) rfl (by kernel_rfl) (by kernel_rfl) fun G a w S => ?_
          refine sPickT (b := true) (.bool true) S (wN rfl) rfl (by kernel_rfl) rfl (by kernel_rfl) rfl (by decide) (fun a S => ?_)
          exact leafL ⟨rfl, S⟩
        · exact leafT (⟨true, Option.some.inj h, S.fix [] [] (by decide) (by kernel_rfl) (by kernel_rfl) (by kernel_rfl)⟩)
      · obtain ⟨r9, hx10, h⟩ := bindSome h
        rcases iteSome h with ⟨hc11, h⟩ | ⟨hc11, h⟩
        · refine sDraw (nf := []) (W := [(0, 3, .pointer (some ⟨b2, 1, none⟩)), (1, 4, .int .i64 p0.Den), (2, 5, .bool (decide (p0.Den < 1))), (3, 6, .bool (decide (p0.Den < 1))), (4, 7, .pointer (some ⟨b2, 1, none⟩)), (5, 8, .int .i64 p0.Den), (6, 9, .bool (decide (1000000000 < p0.Den))), (7, 10, .bool (decide (1000000000 < p0.Den))), (8, 11, .bool (decide (1000000000 < p0.Den))), (9, 12, .pointer (some ⟨b2, 0, none⟩)), (10, 13, .int .i64 p0.Num), (11, 14, .int .u64 r9), (12, 15, .bool (decide (1000000000 < r9))), (13, 16, .bool (decide (1000000000 < r9))), (14, 17, .bool (decide (1000000000 < r9))), (15, 18, undef), (16, 19, undef), (17, 20, undef), (18, 21, undef), (19, 22, undef), (20, 23, undef), (21, 24, undef), (22, 25, undef), (23, 26, .bool true)]) (by kernel_rfl) S ?_
          refine node_by (A := anc_yarn_Check_0) (nf := []) (Y := []) (W := [(0, 3, .pointer (some ⟨b2, 1, none⟩)), (1, 4, .int .i64 p0.Den), (2, 5, .bool (decide (p0.Den < 1))), (3, 6, .bool (decide (p0.Den < 1))), (4, 7, .pointer (some ⟨b2, 1, none⟩)), (5, 8, .int .i64 p0.Den), (6, 9, .bool (decide (1000000000 < p0.Den))), (7, 10, .bool (decide (1000000000 < p0.Den))), (8, 11, .bool (decide (1000000000 < p0.Den))), (9, 12, .pointer (some ⟨b2, 0, none⟩)), (10, 13, .int .i64 p0.Num), (11, 14, .int .u64 r9), (12, 15, .bool (decide (1000000000 < r9))), (13, 16, .bool (decide (1000000000 < r9))), (14, 17, .bool (decide (1000000000 < r9))), (15, 18, undef), (16, 19, undef), (17, 20, undef), (18, 21, undef), (19, 22, undef), (20, 23, undef), (21, 24, undef), (22, 25, undef), (23, 26, .bool true)]) 24 (by kernel_rfl) (by kernel_rfl) (by kernel_rfl) (by kernel_rfl) (by kernel_rfl) [0, 1, 2, 3, 4, 5, 6, 7, 8, 9, 10, 11, 12, 13, 14, 15, 16, 17, 18, 19, 20, 21, 22, 23] (by kernel_rfl) (by decide) (by decide) (aF 0 23 (by decide) ?_ (aF 1 22 (by decide) ?_ (aF 2 21 (by decide) ?_ (aF 3 20 (by decide) ?_ (aF 4 19 (by decide) ?_ (aF 5 18 (by decide) ?_ (aF 6 17 (by decide) ?_ (aF 7 16 (by decide) ?_ (aF 8 15 (by decide) ?_ (aF 9 14 (by decide) ?_ (aF 10 13 (by decide) ?_ (aF 11 12 (by decide) ?_ (aF 12 11 (by decide) ?_ (aF 13 10 (by decide) ?_ (aF 14 9 (by decide) ?_ (aF 15 8 (by decide) ?_ (aF 16 7 (by decide) ?_ (aF 17 6 (by decide) ?_ (aF 18 5 (by decide) ?_ (aF 19 4 (by decide) ?_ (aF 20 3 (by decide) ?_ (aF 21 2 (by decide) ?_ (aF 22 1 (by decide) ?_ (aF 23 0 (by decide) ?_ (trivial))))))))))))))))))))))))) [(26, .bool true)] (fin_of [some 23] rfl (by kernel_rfl) (by kernel_rfl)) (fun _ a w S => ?_)
          · refine fI 3 (.pointer (some ⟨b2, 1, none⟩)) [(1, .pointer (some ⟨b2, 0, none⟩))] 0 [none] rfl rfl (by kernel_rfl) rfl (by kernel_rfl) (by kernel_rfl) fun G a w S => ?_
            refine sField (b := b2) (off := 0) 1 1 S (wN rfl) rfl (by kernel_rfl) (by kernel_rfl) rfl rfl (by decide) (fun a S => ?_)
            exact leafL ⟨rfl, S⟩
          · refine fI 4 (.int .i64 p0.Den) [(3, .pointer (some ⟨b2, 1, none⟩))] 1 [some 0] rfl rfl (by kernel_rfl) rfl (by kernel_rfl) (by kernel_rfl) fun G a w S => ?_
            refine sLoad1 (p := b2) (off := 1) (T := 34) (vs := [.int .i64 p0.Num, .int .i64 p0.Den]) 0 (.int .i64 p0.Den) S (wN rfl) rfl (by kernel_rfl) (by kernel_rfl) (by kernel_rfl) rfl rfl (by decide) (fun a S => ?_)
            exact leafL ⟨rfl, S⟩
          · refine fI 5 (.bool (decide (p0.Den < 1))) [(4, .int .i64 p0.Den)] 2 [some 1] rfl rfl (by kernel_rfl) rfl (by kernel_rfl) (by kernel_rfl) fun G a w S => ?_
            refine sBin (.bool (decide (p0.Den < 1))) S (wN rfl) rfl (by kernel_rfl) (by kernel_rfl) (bLt _ _ _ _ .i64 p0.Den 1) rfl (by decide) (fun a S => ?_)
            exact leafL ⟨rfl, S⟩
          · refine fI 6 (.bool (decide (p0.Den < 1))) [(5, .bool (decide (p0.Den < 1)))] 3 [some 2] rfl rfl (by kernel_rfl) rfl (by kernel_rfl) (by kernel_rfl) fun G a w S => ?_
            refine sMove (.bool (decide (p0.Den < 1))) S (wN rfl) (.inl rfl) (by kernel_rfl) rfl (by decide) (fun a S => ?_)
            exact leafL ⟨rfl, S⟩
          · refine fI 7 (.pointer (some ⟨b2, 1, none⟩)) [(1, .pointer (some ⟨b2, 0, none⟩)), (6, .bool (decide (p0.Den < 1)))] 4 [none, some 3] rfl rfl (by kernel_rfl) rfl (by kernel_rfl) (by kernel_rfl) fun G a w S => ?_
            refine sField (b := b2) (off := 0) 1 1 S (wG (c := decide (p0.Den < 1)) 3 false 6 rfl rfl (by kernel_rfl) hc7) rfl (by kernel_rfl) (by kernel_rfl) rfl rfl (by decide) (fun a S => ?_)
            exact leafL ⟨rfl, S⟩
          · refine fI 8 (.int .i64 p0.Den) [(7, .pointer (some ⟨b2, 1, none⟩)), (6, .bool (decide (p0.Den < 1)))] 5 [some 4, some 3] rfl rfl (by kernel_rfl) rfl (by kernel_rfl) (by kernel_rfl) fun G a w S => ?_
            refine sLoad1 (p := b2) (off := 1) (T := 34) (vs := [.int .i64 p0.Num, .int .i64 p0.Den]) 0 (.int .i64 p0.Den) S (wG (c := decide (p0.Den < 1)) 3 false 6 rfl rfl (by kernel_rfl) hc7) rfl (by kernel_rfl) (by kernel_rfl) (by kernel_rfl) rfl rfl (by decide) (fun a S => ?_)
            exact leafL ⟨rfl, S⟩
          · refine fI 9 (.bool (decide (1000000000 < p0.Den))) [(8, .int .i64 p0.Den), (6, .bool (decide (p0.Den < 1)))] 6 [some 5, some 3] rfl rfl (by kernel_rfl) rfl (by kernel_rfl) (by kernel_rfl) fun G a w S => ?_
            refine sBin (.bool (decide (1000000000 < p0.Den))) S (wG (c := decide (p0.Den < 1)) 3 false 6 rfl rfl (by kernel_rfl) hc7) rfl (by kernel_rfl) (by kernel_rfl) (bGt _ _ _ _ .i64 p0.Den 1000000000) rfl (by decide) (fun a S => ?_)
            exact leafL ⟨rfl, S⟩
          · refine fI 10 (.bool (decide (1000000000 < p0.Den))) [(6, .bool (decide (p0.Den < 1))), (9, .bool (decide (1000000000 < p0.Den)))] 7 [some 3, some 6] rfl rfl (by kernel_rfl) rfl (by kernel_rfl) (by kernel_rfl) fun G a w S => ?_
            refine sPickF (b := decide (p0.Den < 1)) (.bool (decide (1000000000 < p0.Den))) S (wN rfl) rfl (by kernel_rfl) hc7 (by kernel_rfl) rfl (by decide) (fun a S => ?_)
            exact leafL ⟨rfl, S⟩
          · refine fI 11 (.bool (decide (1000000000 < p0.Den))) [(10, .bool (decide (1000000000 < p0.Den)))] 8 [some 7] rfl rfl (by kernel_rfl) rfl (by kernel_rfl) (by kernel_rfl) fun G a w S => ?_
            refine sMove (.bool (decide (1000000000 < p0.Den))) S (wN rfl) (.inl rfl) (by kernel_rfl) rfl (by decide) (fun a S => ?_)
            exact leafL ⟨rfl, S⟩
          · refine fI 12 (.pointer (some ⟨b2, 0, none⟩)) [(1, .pointer (some ⟨b2, 0, none⟩)), (11, .bool (decide (1000000000 < p0.Den)))] 9 [none, some 8] rfl rfl (by kernel_rfl) rfl (by kernel_rfl) (by kernel_rfl) fun G a w S => ?_
            refine sField (b := b2) (off := 0) 0 0 S (wG (c := decide (1000000000 < p0.Den)) 8 false 11 rfl rfl (by kernel_rfl) hc8) rfl (by kernel_rfl) (by kernel_rfl) rfl rfl (by decide) (fun a S => ?_)
            exact leafL ⟨rfl, S⟩
          · refine fI 13 (.int .i64 p0.Num) [(12, .pointer (some ⟨b2, 0, none⟩)), (11, .bool (decide (1000000000 < p0.Den)))] 10 [some 9, some 8] rfl rfl (by kernel_rfl) rfl (by kernel_rfl) (by kernel_rfl) fun G a w S => ?_
            refine sLoad1 (p := b2) (off := 0) (T := 34) (vs := [.int .i64 p0.Num, .int .i64 p0.Den]) 0 (.int .i64 p0.Num) S (wG (c := decide (1000000000 < p0.Den)) 8 false 11 rfl rfl (by kernel_rfl) hc8) rfl (by kernel_rfl) (by kernel_rfl) (by kernel_rfl) rfl rfl (by decide) (fun a S => ?_)
            exact leafL ⟨rfl, S⟩
          · refine fI 14 (.int .u64 r9) [(13, .int .i64 p0.Num), (11, .bool (decide (1000000000 < p0.Den)))] 11 [some 10, some 8] rfl rfl (by kernel_rfl) rfl (by kernel_rfl) (by kernel_rfl) fun G a w S => ?_
            have S1 := S.mem
            refine sCallQ (X := Unit) (f := 43) (vs := [.int .i64 p0.Num]) (val := fun _ => .int .u64 r9) S (wG (c := decide (1000000000 < p0.Den)) 8 false 11 rfl rfl (by kernel_rfl) hc8) rfl callee43 (by kernel_rfl) (S1.quiet [] (by kernel_rfl)) (fun E1 w1 S1 => c_yarn_size E1 w1 p0.Num r9 hx10 S1) rfl (by decide) (fun _ a w S => ?_)
            exact leafL ⟨rfl, S⟩
          · refine fI 15 (.bool (decide (1000000000 < r9))) [(14, .int .u64 r9), (11, .bool (decide (1000000000 < p0.Den)))] 12 [some 11, some 8] rfl rfl (by kernel_rfl) rfl (by kernel_rfl) (by kernel_rfl) fun G a w S => ?_
            refine sBin (.bool (decide (1000000000 < r9))) S (wG (c := decide (1000000000 < p0.Den)) 8 false 11 rfl rfl (by kernel_rfl) hc8) rfl (by kernel_rfl) (by kernel_rfl) (bGt _ _ _ _ .u64 r9 1000000000) rfl (by decide) (fun a S => ?_)
            exact leafL ⟨rfl, S⟩
          · refine fI 16 (.bool (decide (1000000000 < r9))) [(11, .bool (decide (1000000000 < p0.Den))), (15, .bool (decide (1000000000 < r9)))] 13 [some 8, some 12] rfl rfl (by kernel_rfl) rfl (by kernel_rfl) (by kernel_rfl) fun G a w S => ?_
            refine sPickF (b := decide (1000000000 < p0.Den)) (.bool (decide (1000000000 < r9))) S (wN rfl) rfl (by kernel_rfl) hc8 (by kernel_rfl) rfl (by decide) (fun a S => ?_)
            exact leafL ⟨rfl, S⟩
          · refine fI 17 (.bool (decide (1000000000 < r9))) [(16, .bool (decide (1000000000 < r9)))] 14 [some 13] rfl rfl (by kernel_rfl) rfl (by kernel_rfl) (by kernel_rfl) fun G a w S => ?_
            refine sMove (.bool (decide (1000000000 < r9))) S (wN rfl) (.inl rfl) (by kernel_rfl) rfl (by decide) (fun a S => ?_)
            exact leafL ⟨rfl, S⟩
          · refine fI 18 undef [(1, .pointer (some ⟨b2, 0, none⟩)), (17, .bool (decide (1000000000 < r9)))] 15 [none, some 14] rfl rfl (by kernel_rfl) rfl (by kernel_rfl) (by kernel_rfl) fun G a w S => ?_
            refine sSkip (c := decide (1000000000 < r9)) 14 false 17 18 S rfl rfl (by kernel_rfl) hc11 rfl (by decide) (fun a S => ?_)
            exact leafL ⟨rfl, S⟩
          · refine fI 19 undef [(18, undef), (17, .bool (decide (1000000000 < r9)))] 16 [some 15, some 14] rfl rfl (by kernel_rfl) rfl (by kernel_rfl) (by kernel_rfl) fun G a w S => ?_
            refine sSkip (c := decide (1000000000 < r9)) 14 false 17 19 S rfl rfl (by kernel_rfl) hc11 rfl (by decide) (fun a S => ?_)
            exact leafL ⟨rfl, S⟩
          · refine fI 20 undef [(19, undef), (17, .bool (decide (1000000000 < r9)))] 17 [some 16, some 14] rfl rfl (by kernel_rfl) rfl (by kernel_rfl) (by kernel_rfl) fun G a w S => ?_
            refine sSkip (c := decide (1000000000 < r9)) 14 false 17 20 S rfl rfl (by kernel_rfl) hc11 rfl (by decide) (fun a S => ?_)
            exact leafL ⟨rfl, S⟩
          · refine fI 21 undef [(1, .pointer (some ⟨b2, 0, none⟩)), (17, .bool (decide (1000000000 < r9)))] 18 [none, some 14] rfl rfl (by kernel_rfl) rfl (by kernel_rfl) (by kernel_rfl) fun G a w S => ?_
            refine sSkip (c := decide (1000000000 < r9)) 14 false 17 21 S rfl rfl (by kernel_rfl) hc11 rfl (by decide) (fun a S => ?_)
            exact leafL ⟨rfl, S⟩
          · refine fI 22 undef [(21, undef), (17, .bool (decide (1000000000 < r9)))] 19 [some 18, some 14] rfl rfl (by kernel_rfl) rfl (by kernel_rfl) (by kernel_rfl) fun G a w S => ?_
            refine sSkip (c := decide (1000000000 < r9)) 14 false 17 22 S rfl rfl (by kernel_rfl) hc11 rfl (by decide) (fun a S => ?_)
            exact leafL ⟨rfl, S⟩
          · refine fI 23 undef [(22, undef), (17, .bool (decide (1000000000 < r9)))] 20 [some 19, some 14] rfl rfl (by kernel_rfl) rfl (by kernel_rfl) (by kernel_rfl) fun G a w S => ?_
            refine sSkip (c := decide (1000000000 < r9)) 14 false 17 23 S rfl rfl (by kernel_rfl) hc11 rfl (by decide) (fun a S => ?_)
            exact leafL ⟨rfl, S⟩
          · refine fI 24 undef [(20, undef), (23, undef), (17, .bool (decide (1000000000 < r9)))] 21 [some 17, some 20, some 14] rfl rfl (by kernel_rfl) rfl (by kernel_rfl) (by kernel_rfl) fun G a w S => ?_
            refine sSkip (c := decide (1000000000 < r9)) 14 false 17 24 S rfl rfl (by kernel_rfl) hc11 rfl (by decide) (fun a S => ?_)
            exact leafL ⟨rfl, S⟩
          · refine fI 25 undef [(24, undef), (17, .bool (decide (1000000000 < r9)))] 22 [some 21, some 14] rfl rfl (by kernel_rfl) rfl (by kernel_rfl) (by kernel_rfl) fun G a w S => ?_
            refine sSkip (c := decide (1000000000 < r9)) 14 false 17 25 S rfl rfl (by kernel_rfl) hc11 rfl (by decide) (fun a S => ?_)
            exact leafL ⟨rfl, S⟩
          · refine fI 26 (.bool true) [(17, .bool (decide (1000000000 < r9))), (25, undef)] 23 [some 14, some 22] rfl rfl (by kernel_rfl) rfl (by kernel_rfl) (by kernel_rfl) fun G a w S => ?_
            refine sPickT (b := decide (1000000000 < r9)) (.bool true) S (wN rfl) rfl (by kernel_rfl) hc11 (by kernel_rfl) rfl (by decide) (fun a S => ?_)
            exact leafL ⟨rfl, S⟩
          · exact leafT (⟨true, Option.some.inj h, S.fix [] [] (by decide) (by kernel_rfl) (by kernel_rfl) (by kernel_rfl)⟩)
        · obtain ⟨r12, hx13, h⟩ := bindSome h
          refine sDraw (nf := []) (W := [(0, 3, .pointer (some ⟨b2, 1, none⟩)), (1, 4, .int .i64 p0.Den), (2, 5, .bool (decide (p0.Den < 1))), (3, 6, .bool (decide (p0.Den < 1))), (4, 7, .pointer (some ⟨b2, 1, none⟩)), (5, 8, .int .i64 p0.Den), (6, 9, .bool (decide (1000000000 < p0.Den))), (7, 10, .bool (decide (1000000000 < p0.Den))), (8, 11, .bool (decide (1000000000 < p0.Den))), (9, 12, .pointer (some ⟨b2, 0, none⟩)), (10, 13, .int .i64 p0.Num), (11, 14, .int .u64 r9), (12, 15, .bool (decide (1000000000 < r9))), (13, 16, .bool (decide (1000000000 < r9))), (14, 17, .bool (decide (1000000000 < r9))), (15, 18, .pointer (some ⟨b2, 0, none⟩)), (16, 19, .int .i64 p0.Num), (17, 20, .int .u64 r9), (18, 21, .pointer (some ⟨b2, 1, none⟩)), (19, 22, .int .i64 p0.Den), (20, 23, .int .u64 (IntKind.u64.wrap p0.Den)), (21, 24, .int .u64 r12), (22, 25, .bool (r12 != 1)), (23, 26, .bool (r12 != 1))]) (by kernel_rfl) S ?_
          refine node_by (A := anc_yarn_Check_0) (nf := []) (Y := []) (W := [(0, 3, .pointer (some ⟨b2, 1, none⟩)), (1, 4, .int .i64 p0.Den), (2, 5, .bool (decide (p0.Den < 1))), (3, 6, .bool (decide (p0.Den < 1))), (4, 7, .pointer (some ⟨b2, 1, none⟩)), (5, 8, .int .i64 p0.Den), (6, 9, .bool (decide (1000000000 < p0.Den))), (7, 10, .bool (decide (1000000000 < p0.Den))), (8, 11, .bool (decide (1000000000 < p0.Den))), (9, 12, .pointer (some ⟨b2, 0, none⟩)), (10, 13, .int .i64 p0.Num), (11, 14, .int .u64 r9), (12, 15, .bool (decide (1000000000 < r9))), (13, 16, .bool (decide (1000000000 < r9))), (14, 17, .bool (decide (1000000000 < r9))), (15, 18, .pointer (some ⟨b2, 0, none⟩)), (16, 19, .int .i64 p0.Num), (17, 20, .int .u64 r9), (18, 21, .pointer (some ⟨b2, 1, none⟩)), (19, 22, .int .i64 p0.Den), (20, 23, .int .u64 (IntKind.u64.wrap p0.Den)), (21, 24, .int .u64 r12), (22, 25, .bool (r12 != 1)), (23, 26, .bool (r12 != 1))]) 24 (by kernel_rfl) (by kernel_rfl) (by kernel_rfl) (by kernel_rfl) (by kernel_rfl) [0, 1, 2, 3, 4, 5, 6, 7, 8, 9, 10, 11, 12, 13, 14, 15, 16, 17, 18, 19, 20, 21, 22, 23] (by kernel_rfl) (by decide) (by decide) (aF 0 23 (by decide) ?_ (aF 1 22 (by decide) ?_ (aF 2 21 (by decide) ?_ (aF 3 20 (by decide) ?_ (aF 4 19 (by decide) ?_ (aF 5 18 (by decide) ?_ (aF 6 17 (by decide) ?_ (aF 7 16 (by decide) ?_ (aF 8 15 (by decide) ?_ (aF 9 14 (by decide) ?_ (aF 10 13 (by decide) ?_ (aF 11 12 (by decide) ?_ (aF 12 11 (by decide) ?_ (aF 13 10 (by decide) ?_ (aF 14 9 (by decide) ?_ (aF 15 8 (by decide) ?_ (aF 16 7 (by decide) ?_ (aF 17 6 (by decide) ?_ (aF 18 5 (by decide) ?_ (aF 19 4 (by decide) ?_ (aF 20 3 (by decide) ?_ (aF 21 2 (by decide) ?_ (aF 22 1 (by decide) ?_ (aF 23 0 (by decide) ?_ (trivial))))))))))))))))))))))))) [(26, .bool (r12 != 1))] (fin_of [some 23] rfl (by kernel_rfl) (by kernel_rfl)) (fun _ a w S => ?_)
          · refine fI 3 (.pointer (some ⟨b2, 1, none⟩)) [(1, .pointer (some ⟨b2, 0, none⟩))] 0 [none] rfl rfl (by kernel_rfl) rfl (by kernel_rfl) (by kernel_rfl) fun G a w S => ?_
            refine sField (b := b2) (off := 0) 1 1 S (wN rfl) rfl (by kernel_rfl) (by kernel_rfl) rfl rfl (by decide) (fun a S => ?_)
            exact leafL ⟨rfl, S⟩
          · refine fI 4 (.int .i64 p0.Den) [(3, .pointer (some ⟨b2, 1, none⟩))] 1 [some 0] rfl rfl (by kernel_rfl) rfl (by kernel_rfl) (by kernel_rfl) fun G a w S => ?_
            refine sLoad1 (p := b2) (off := 1) (T := 34) (vs := [.int .i64 p0.Num, .int .i64 p0.Den]) 0 (.int .i64 p0.Den) S (wN rfl) rfl (by kernel_rfl) (by kernel_rfl) (by kernel_rfl) rfl rfl (by decide) (fun a S => ?_)
            exact leafL ⟨rfl, S⟩
          · refine fI 5 (.bool (decide (p0.Den < 1))) [(4, .int .i64 p0.Den)] 2 [some 1] rfl rfl (by kernel_rfl) rfl (by kernel_rfl) (by kernel_rfl) fun G a w S => ?_
            refine sBin (.bool (decide (p0.Den < 1))) S (wN rfl) rfl (by kernel_rfl) (by kernel_rfl) (bLt _ _ _ _ .i64 p0.Den 1) rfl (by decide) (fun a S => ?_)
            exact leafL ⟨rfl, S⟩
          · refine fI 6 (.bool (decide (p0.Den < 1))) [(5, .bool (decide (p0.Den < 1)))] 3 [some 2] rfl rfl (by kernel_rfl) rfl (by kernel_rfl) (by kernel_rfl) fun G a w S => ?_
            refine sMove (.bool (decide (p0.Den < 1))) S (wN rfl) (.inl rfl) (by kernel_rfl) rfl (by decide) (fun a S => ?_)
            exact leafL ⟨rfl, S⟩
          · refine fI 7 (.pointer (some ⟨b2, 1, none⟩)) [(1, .pointer (some ⟨b2, 0, none⟩)), (6, .bool (decide (p0.Den < 1)))] 4 [none, some 3] rfl rfl (by kernel_rfl) rfl (by kernel_rfl) (by kernel_rfl) fun G a w S => ?_
            refine sField (b := b2) (off := 0) 1 1 S (wG (c := decide (p0.Den < 1)) 3 false 6 rfl rfl (by kernel_rfl) hc7) rfl (by kernel_rfl) (by kernel_rfl) rfl rfl (by decide) (fun a S => ?_)
            exact leafL ⟨rfl, S⟩
          · refine fI 8 (.int .i64 p0.Den) [(7, .pointer (some ⟨b2, 1, none⟩)), (6, .bool (decide (p0.Den < 1)))] 5 [some 4, some 3] rfl rfl (by kernel_rfl) rfl (by kernel_rfl) (by kernel_rfl) fun G a w S => ?_
            refine sLoad1 (p := b2) (off := 1) (T := 34) (vs := [.int .i64 p0.Num, .int .i64 p0.Den]) 0 (.int .i64 p0.Den) S (wG (c := decide (p0.Den < 1)) 3 false 6 rfl rfl (by kernel_rfl) hc7) rfl (by kernel_rfl) (by kernel_rfl) (by kernel_rfl) rfl rfl (by decide) (fun a S => ?_)
            exact leafL ⟨rfl, S⟩
          · refine fI 9 (.bool (decide (1000000000 < p0.Den))) [(8, .int .i64 p0.Den), (6, .bool (decide (p0.Den < 1)))] 6 [some 5, some 3] rfl rfl (by kernel_rfl) rfl (by kernel_rfl) (by kernel_rfl) fun G a w S => ?_
            refine sBin (.bool (decide (1000000000 < p0.Den))) S (wG (c := decide (p0.Den < 1)) 3 false 6 rfl rfl (by kernel_rfl) hc7) rfl (by kernel_rfl) (by kernel_rfl) (bGt _ _ _ _ .i64 p0.Den 1000000000) rfl (by decide) (fun a S => ?_)
            exact leafL ⟨rfl, S⟩
          · refine fI 10 (.bool (decide (1000000000 < p0.Den))) [(6, .bool (decide (p0.Den < 1))), (9, .bool (decide (1000000000 < p0.Den)))] 7 [some 3, some 6] rfl rfl (by kernel_rfl) rfl (by kernel_rfl) (by kernel_rfl) fun G a w S => ?_
            refine sPickF (b := decide (p0.Den < 1)) (.bool (decide (1000000000 < p0.Den))) S (wN rfl) rfl (by kernel_rfl) hc7 (by kernel_rfl) rfl (by decide) (fun a S => ?_)
            exact leafL ⟨rfl, S⟩
          · refine fI 11 (.bool (decide (1000000000 < p0.Den))) [(10, .bool (decide (1000000000 < p0.Den)))] 8 [some 7] rfl rfl (by kernel_rfl) rfl (by kernel_rfl) (by kernel_rfl) fun G a w S => ?_
            refine sMove (.bool (decide (1000000000 < p0.Den))) S (wN rfl) (.inl rfl) (by kernel_rfl) rfl (by decide) (fun a S => ?_)
            exact leafL ⟨rfl, S⟩
          · refine fI 12 (.pointer (some ⟨b2, 0, none⟩)) [(1, .pointer (some ⟨b2, 0, none⟩)), (11, .bool (decide (1000000000 < p0.Den)))] 9 [none, some 8] rfl rfl (by kernel_rfl) rfl (by kernel_rfl) (by kernel_rfl) fun G a w S => ?_
            refine sField (b := b2) (off := 0) 0 0 S (wG (c := decide (1000000000 < p0.Den)) 8 false 11 rfl rfl (by kernel_rfl) hc8) rfl (by kernel_rfl) (by kernel_rfl) rfl rfl (by decide) (fun a S => ?_)
            exact leafL ⟨rfl, S⟩
          · refine fI 13 (.int .i64 p0.Num) [(12, .pointer (some ⟨b2, 0, none⟩)), (11, .bool (decide (1000000000 < p0.Den)))] 10 [some 9, some 8] rfl rfl (by kernel_rfl) rfl (by kernel_rfl) (by kernel_rfl) fun G a w S => ?_
            refine sLoad1 (p := b2) (off := 0) (T := 34) (vs := [.int .i64 p0.Num, .int .i64 p0.Den]) 0 (.int .i64 p0.Num) S (wG (c := decide (1000000000 < p0.Den)) 8 false 11 rfl rfl (by kernel_rfl) hc8) rfl (by kernel_rfl) (by kernel_rfl) (by kernel_rfl) rfl rfl (by decide) (fun a S => ?_)
            exact leafL ⟨rfl, S⟩
          · refine fI 14 (.int .u64 r9) [(13, .int .i64 p0.Num), (11, .bool (decide (1000000000 < p0.Den)))] 11 [some 10, some 8] rfl rfl (by kernel_rfl) rfl (by kernel_rfl) (by kernel_rfl) fun G a w S => ?_
            have S1 := S.mem
            refine sCallQ (X := Unit) (f := 43) (vs := [.int .i64 p0.Num]) (val := fun _ => .int .u64 r9) S (wG (c := decide (1000000000 < p0.Den)) 8 false 11 rfl rfl (by kernel_rfl) hc8) rfl callee43 (by kernel_rfl) (S1.quiet [] (by kernel_rfl)) (fun E1 w1 S1 => c_yarn_size E1 w1 p0.Num r9 hx10 S1) rfl (by decide) (fun _ a w S => ?_)
            exact leafL ⟨rfl, S⟩
          · refine fI 15 (.bool (decide (1000000000 < r9))) [(14, .int .u64 r9), (11, .bool (decide (1000000000 < p0.Den)))] 12 [some 11, some 8] rfl rfl (by kernel_rfl) rfl (by kernel_rfl) (by kernel_rfl) fun G a w S => ?_
            refine sBin (.bool (decide (1000000000 < r9))) S (wG (c := decide (1000000000 < p0.Den)) 8 false 11 rfl rfl (by kernel_rfl) hc8) rfl (by kernel_rfl) (by kernel_rfl) (bGt _ _ _ _ .u64 r9 1000000000) rfl (by decide) (fun a S => ?_)
            exact leafL ⟨rfl, S⟩
          · refine fI 16 (.bool (decide (1000000000 < r9))) [(11, .bool (decide (1000000000 < p0.Den))), (15, .bool (decide (1000000000 < r9)))] 13 [some 8, some 12] rfl rfl (by kernel_rfl) rfl (by kernel_rfl) (by kernel_rfl) fun G a w S => ?_
            refine sPickF (b := decide (1000000000 < p0.Den)) (.bool (decide (1000000000 < r9))) S (wN rfl) rfl (by kernel_rfl) hc8 (by kernel_rfl) rfl (by decide) (fun a S => ?_)
            exact leafL ⟨rfl, S⟩
          · refine fI 17 (.bool (decide (1000000000 < r9))) [(16, .bool (decide (1000000000 < r9)))] 14 [some 13] rfl rfl (by kernel_rfl) rfl (by kernel_rfl) (by kernel_rfl) fun G a w S => ?_
            refine sMove (.bool (decide (1000000000 < r9))) S (wN rfl) (.inl rfl) (by kernel_rfl) rfl (by decide) (fun a S => ?_)
            exact leafL ⟨rfl, S⟩
          · refine fI 18 (.pointer (some ⟨b2, 0, none⟩)) [(1, .pointer (some ⟨b2, 0, none⟩)), (17, .bool (decide (1000000000 < r9)))] 15 [none, some 14] rfl rfl (by kernel_rfl) rfl (by kernel_rfl) (by kernel_rfl) fun G a w S => ?_
            refine sField (b := b2) (off := 0) 0 0 S (wG (c := decide (1000000000 < r9)) 14 false 17 rfl rfl (by kernel_rfl) hc11) rfl (by kernel_rfl) (by kernel_rfl) rfl rfl (by decide) (fun a S => ?_)
            exact leafL ⟨rfl, S⟩
          · refine fI 19 (.int .i64 p0.Num) [(18, .pointer (some ⟨b2, 0, none⟩)), (17, .bool (decide (1000000000 < r9)))] 16 [some 15, some 14] rfl rfl (by kernel_rfl) rfl (by kernel_rfl) (by kernel_rfl) fun G a w S => ?_
            refine sLoad1 (p := b2) (off := 0) (T := 34) (vs := [.int .i64 p0.Num, .int .i64 p0.Den]) 0 (.int .i64 p0.Num) S (wG (c := decide (1000000000 < r9)) 14 false 17 rfl rfl (by kernel_rfl) hc11) rfl (by kernel_rfl) (by kernel_rfl) (by kernel_rfl) rfl rfl (by decide) (fun a S => ?_)
            exact leafL ⟨rfl, S⟩
          · refine fI 20 (.int .u64 r9) [(19, .int .i64 p0.Num), (17, .bool (decide (1000000000 < r9)))] 17 [some 16, some 14] rfl rfl (by kernel_rfl) rfl (by kernel_rfl) (by kernel_rfl) fun G a w S => ?_
            have S1 := S.mem
            refine sCallQ (X := Unit) (f := 43) (vs := [.int .i64 p0.Num]) (val := fun _ => .int .u64 r9) S (wG (c := decide (1000000000 < r9)) 14 false 17 rfl rfl (by kernel_rfl) hc11) rfl callee43 (by kernel_rfl) (S1.quiet [] (by kernel_rfl)) (fun E1 w1 S1 => c_yarn_size E1 w1 p0.Num r9 hx10 S1) rfl (by decide) (fun _ a w S => ?_)
            exact leafL ⟨rfl, S⟩
          · refine fI 21 (.pointer (some ⟨b2, 1, none⟩)) [(1, .pointer (some ⟨b2, 0, none⟩)), (17, .bool (decide (1000000000 < r9)))] 18 [none, some 14] rfl rfl (by kernel_rfl) rfl (by kernel_rfl) (by kernel_rfl) fun G a w S => ?_
            refine sField (b := b2) (off := 0) 1 1 S (wG (c := decide (1000000000 < r9)) 14 false 17 rfl rfl (by kernel_rfl) hc11) rfl (by kernel_rfl) (by kernel_rfl) rfl rfl (by decide) (fun a S => ?_)
            exact leafL ⟨rfl, S⟩
          · refine fI 22 (.int .i64 p0.Den) [(21, .pointer (some ⟨b2, 1, none⟩)), (17, .bool (decide (1000000000 < r9)))] 19 [some 18, some 14] rfl rfl (by kernel_rfl) rfl (by kernel_rfl) (by kernel_rfl) fun G a w S => ?_
            refine sLoad1 (p := b2) (off := 1) (T := 34) (vs := [.int .i64 p0.Num, .int .i64 p0.Den]) 0 (.int .i64 p0.Den) S (wG (c := decide (1000000000 < r9)) 14 false 17 rfl rfl (by kernel_rfl) hc11) rfl (by kernel_rfl) (by kernel_rfl) (by kernel_rfl) rfl rfl (by decide) (fun a S => ?_)
            exact leafL ⟨rfl, S⟩
          · refine fI 23 (.int .u64 (IntKind.u64.wrap p0.Den)) [(22, .int .i64 p0.Den), (17, .bool (decide (1000000000 < r9)))] 20 [some 19, some 14] rfl rfl (by kernel_rfl) rfl (by kernel_rfl) (by kernel_rfl) fun G a w S => ?_
            refine sConv (k := .i64) (k2 := .u64) (b := p0.Den) S (wG (c := decide (1000000000 < r9)) 14 false 17 rfl rfl (by kernel_rfl) hc11) rfl Try.underlying2 Try.underlying69 (by kernel_rfl) rfl (by decide) (fun a S => ?_)
            exact leafL ⟨rfl, S⟩
          · refine fI 24 (.int .u64 r12) [(20, .int .u64 r9), (23, .int .u64 (IntKind.u64.wrap p0.Den)), (17, .bool (decide (1000000000 < r9)))] 21 [some 17, some 20, some 14] rfl rfl (by kernel_rfl) rfl (by kernel_rfl) (by kernel_rfl) fun G a w S => ?_
            have S1 := S.mem
            refine sCallQ (X := Unit) (f := 44) (vs := [.int .u64 r9, .int .u64 (IntKind.u64.wrap p0.Den)]) (val := fun _ => .int .u64 r12) S (wG (c := decide (1000000000 < r9)) 14 false 17 rfl rfl (by kernel_rfl) hc11) rfl callee44 (by kernel_rfl) (S1.quiet [] (by kernel_rfl)) (fun E1 w1 S1 => c_yarn_gcd E1 w1 r9 (IntKind.u64.wrap p0.Den) r12 hx13 S1) rfl (by decide) (fun _ a w S => ?_)
            exact leafL ⟨rfl, S⟩
          · refine fI 25 (.bool (r12 != 1)) [(24, .int .u64 r12), (17, .bool (decide (1000000000 < r9)))] 22 [some 21, some 14] rfl rfl (by kernel_rfl) rfl (by kernel_rfl) (by kernel_rfl) fun G a w S => ?_
            refine sBin (.bool (r12 != 1)) S (wG (c := decide (1000000000 < r9)) 14 false 17 rfl rfl (by kernel_rfl) hc11) rfl (by kernel_rfl) (by kernel_rfl) (bNe _ _ _ _ .u64 r12 1) rfl (by decide) (fun a S => ?_)
            exact leafL ⟨rfl, S⟩
          · refine fI 26 (.bool (r12 != 1)) [(17, .bool (decide (1000000000 < r9))), (25, .bool (r12 != 1))] 23 [some 14, some 22] rfl rfl (by kernel_rfl) rfl (by kernel_rfl) (by kernel_rfl) fun G a w S => ?_
            refine sPickF (b := decide (1000000000 < r9)) (.bool (r12 != 1)) S (wN rfl) rfl (by kernel_rfl) hc11 (by kernel_rfl) rfl (by decide) (fun a S => ?_)
            exact leafL ⟨rfl, S⟩
          · exact leafT (⟨r12 != 1, Option.some.inj h, S.fix [] [] (by decide) (by kernel_rfl) (by kernel_rfl) (by kernel_rfl)⟩)
  · obtain ⟨o4, rfl, S⟩ := hI
    have h := g6
    clear g6
    try dsimp only at h
    rcases iteSome h with ⟨hc14, h⟩ | ⟨hc14, h⟩
    · refine sCondT (b := o4) S (by kernel_rfl) hc14 ?_
      refine sSeq (fun K15 hK15 => ?_)
      refine sRegion ?_
      refine sMove (.int .i64 8) S (wN rfl) (.inr rfl) (by kernel_rfl) rfl (by decide) (fun a S => ?_)
      refine leafL (leafT (hK15 _ _ ?_))
      obtain rfl := Option.some.inj h
      exact wp_ret (rThen (sRet (.int .i64 8) S (rsl1 rfl (rvT (t := 2) (v := .int .i64 8) S (by kernel_rfl))) ⟨(), rfl, S.mem.sel [] [] (by decide) (by kernel_rfl) (by kernel_rfl)⟩))
    · refine sCondF (b := o4) S (by kernel_rfl) hc14 ?_
      refine wp_skip (leafT (hK3 _ _ ?_))
      refine sSeq (fun K16 hK16 => ?_)
      refine sRegion ?_
      refine sMove (.int .i64 0) S (wN rfl) (.inr rfl) (by kernel_rfl) rfl (by decide) (fun a S => ?_)
      refine leafL (leafT (hK16 _ _ ?_))
      obtain rfl := Option.some.inj h
      exact wp_ret (sRet (.int .i64 0) S (rsl1 rfl (rvT (t := 2) (v := .int .i64 0) S (by kernel_rfl))) ⟨(), rfl, S.mem.sel [] [] (by decide) (by kernel_rfl) (by kernel_rfl)⟩)

end Go.Proofs.Ytjndecalogklhaa
namespace Go.Proofs.Ytjndecalogklhaa
open Go.RowKit
set_option linter.unusedVariables false

noncomputable def F_sett_checked (p0 : api_Ratio) (p1 : Bool) (p2 : Int) : Option Int :=
  Option.bind (α := Bool) (
    Option.bind (F_yarn_Check p0) fun r7 =>
    if r7 != 0 then
      some true
    else
      if decide (p0.Num < 0) then
        some true
      else
        if p1 then
          some (p0.Num == 0)
        else
          some false) fun o4 =>
  if o4 then
    some 8
  else
    Option.bind (α := Bool) (
      if decide (p2 < 0) then
        some true
      else
        some (decide (1000000000 < p2))) fun o15 =>
    if o15 then
      some 2
    else
      some 0
set_option maxHeartbeats 4000000 in
set_option maxRecDepth 100000 in
theorem c_sett_checked (E : Nat → Prop) (w0 : World) (p0 : api_Ratio) (v0 : Value) (p1 : Bool) (p2 : Int) (r : Int) (h : F_sett_checked p0 p1 p2 = some r) (S : St0 E [] w0 w0 [] [fRep r_api_Ratio (v0) p0]) :
    Calls Try.prog 46 #[v0, .bool p1, .int .i64 p2] w0 (Ret (X := Unit) E [] w0 (fun _ => .int .i64 r) (fun _ => []) (fun _ => [])) := by
  unfold F_sett_checked at h
  obtain rfl : v0 = .agg #[.int .i64 p0.Num, .int .i64 p0.Den] := S.know (i := 0) (e := fRep r_api_Ratio (v0) p0) (by kernel_rfl)
  refine sEnter (args := [.agg #[.int .i64 p0.Num, .int .i64 p0.Den], .bool p1, .int .i64 p2]) 29 Try.func46 rfl rfl (by simp) S (fun a S => ?_)
  refine sSeq (fun K1 hK1 => ?_)
  refine sRegion ?_
  refine sBox (v := .agg #[.int .i64 p0.Num, .int .i64 p0.Den]) S (wN rfl) rfl (by kernel_rfl) [.int .i64 p0.Num, .int .i64 p0.Den] rfl rfl (by decide) (fun a b2 w S => ?_)
  refine sMove (.int .i64 0) S (wN rfl) (.inr rfl) (by kernel_rfl) rfl (by decide) (fun a S => ?_)
  refine leafL (leafT (hK1 _ _ ?_))
  refine sSeq (fun K3 hK3 => ?_)
  obtain ⟨t5, h, g6⟩ := bindSome h
  refine sCut (fun a w => ∃ o4, o4 = t5 ∧ St E [] w0 29 a w [(2, .int .i64 p2), (22, .bool o4)] [] []) ?_ (fun a w hI => ?_)
  · refine sRegion ?_
    refine sLoadN (p := b2) (off := 0) (T := 34) (vs := [.int .i64 p0.Num, .int .i64 p0.Den]) 0 [.int .i64 p0.Num, .int .i64 p0.Den] S (wN rfl) rfl (by kernel_rfl) (by kernel_rfl) (by kernel_rfl) (by kernel_rfl) rfl rfl (by decide) (fun a S => ?_)
    obtain ⟨r7, hx8, h⟩ := bindSome h
    have S1 := S.mem
    refine sCallQ (X := Unit) (f := 19) (vs := [.agg #[.int .i64 p0.Num, .int .i64 p0.Den]]) (val := fun _ => .int .i64 r7) S (wN rfl) rfl callee19 (by kernel_rfl) (S1.quiet [0] (by kernel_rfl)) (fun E1 w1 S1 => c_yarn_Check E1 w1 p0 (.agg #[.int .i64 p0.Num, .int .i64 p0.Den]) r7 hx8 S1) rfl (by decide) (fun _ a w S => ?_)
    refine sBin (.bool (r7 != 0)) S (wN rfl) rfl (by kernel_rfl) (by kernel_rfl) (bNe _ _ _ _ .i64 r7 0) rfl (by decide) (fun a S => ?_)
    refine sMove (.bool (r7 != 0)) S (wN rfl) (.inl rfl) (by kernel_rfl) rfl (by decide) (fun a S => ?_)
    rcases iteSome h with ⟨hc9, h⟩ | ⟨hc9, h⟩
    · refine sSkip (c := r7 != 0) 3 false 10 11 S rfl rfl (by kernel_rfl) hc9 rfl (by decide) (fun a S => ?_)
      refine sSkip (c := r7 != 0) 3 false 10 12 S rfl rfl (by kernel_rfl) hc9 rfl (by decide) (fun a S => ?_)
      refine sSkip (c := r7 != 0) 3 false 10 13 S rfl rfl (by kernel_rfl) hc9 rfl (by decide) (fun a S => ?_)
      refine sPickT (b := r7 != 0) (.bool true) S (wN rfl) rfl (by kernel_rfl) hc9 (by kernel_rfl) rfl (by decide) (fun a S => ?_)
      refine sMove (.bool true) S (wN rfl) (.inl rfl) (by kernel_rfl) rfl (by decide) (fun a S => ?_)
      refine sSkip (c := true) 8 false 15 16 S rfl rfl (by kernel_rfl) rfl rfl (by decide) (fun a S => ?_)
      refine sSkip (c := true) 8 false 15 17 S rfl rfl (by kernel_rfl) rfl rfl (by decide) (fun a S => ?_)
      refine sSkipU 10 true 17 18 S rfl rfl (by kernel_rfl) rfl (by decide) (fun a S => ?_)
      refine sSkipU 10 true 17 19 S rfl rfl (by kernel_rfl) rfl (by decide) (fun a S => ?_)
      refine sSkipU 10 true 17 20 S rfl rfl (by kernel_rfl) rfl (by decide) (fun a S => ?_)
      refine sSkip (c := true) 8 false 15 21 S rfl rfl (by kernel_rfl) rfl rfl (by decide) (fun a S => ?_)
      refine sPickT (b := true) (.bool true) S (wN rfl) rfl (by kernel_rfl) rfl (by kernel_rfl) rfl (by decide) (fun a S => ?_)
      exact leafL (leafT (⟨true, Option.some.inj h, S.fix [] [] (by decide) (by kernel_rfl) (by kernel_rfl) (by kernel_rfl)⟩))
    · refine sField (b := b2) (off := 0) 0 0 S (wG (c := r7 != 0) 3 false 10 rfl rfl (by kernel_rfl) hc9) rfl (by kernel_rfl) (by kernel_rfl) rfl rfl (by decide) (fun a S => ?_)
      refine sLoad1 (p := b2) (off := 0) (T := 34) (vs := [.int .i64 p0.Num, .int .i64 p0.Den]) 0 (.int .i64 p0.Num) S (wG (c := r7 != 0) 3 false 10 rfl rfl (by kernel_rfl) hc9) rfl (by kernel_rfl) (by kernel_rfl) (by kernel_rfl) rfl rfl (by decide) (fun a S => ?_)
      refine sBin (.bool (decide (p0.Num < 0))) S (wG (c := r7 != 0) 3 false 10 rfl rfl (by kernel_rfl) hc9) rfl (by kernel_rfl) (by kernel_rfl) (bLt _ _ _ _ .i64 p0.Num 0) rfl (by decide) (fun a S => ?_)
      refine sPickF (b := r7 != 0) (.bool (decide (p0.Num < 0))) S (wN rfl) rfl (by kernel_rfl) hc9 (by kernel_rfl) rfl (by decide) (fun a S => ?_)
      refine sMove (.bool (decide (p0.Num < 0))) S (wN rfl) (.inl rfl) (by kernel_rfl) rfl (by decide) (fun a S => ?_)
      rcases iteSome h with ⟨hc10, h⟩ | ⟨hc10, h⟩
      · refine sSkip (c := decide (p0.Num < 0)) 8 false 15 16 S rfl rfl (by kernel_rfl) hc10 rfl (by decide) (fun a S => ?_)
        refine sSkip (c := decide (p0.Num < 0)) 8 false 15 17 S rfl rfl (by kernel_rfl) hc10 rfl (by decide) (fun a S => ?_)
        refine sSkipU 10 true 17 18 S rfl rfl (by kernel_rfl) rfl (by decide) (fun a S => ?_)
        refine sSkipU 10 true 17 19 S rfl rfl (by kernel_rfl) rfl (by decide) (fun a S => ?_)
        refine sSkipU 10 true 17 20 S rfl rfl (by kernel_rfl) rfl (by decide) (fun a S => ?_)
        refine sSkip (c := decide (p0.Num < 0)) 8 false 15 21 S rfl rfl (by kernel_rfl) hc10 rfl (by decide) (fun a S => ?_)
        refine sPickT (b := decide (p0.Num < 0)) (.bool true) S (wN rfl) rfl (by kernel_rfl) hc10 (by kernel_rfl) rfl (by decide) (fun a S => ?_)
        exact leafL (leafT (⟨true, Option.some.inj h, S.fix [] [] (by decide) (by kernel_rfl) (by kernel_rfl) (by kernel_rfl)⟩))
      · refine sMove (.bool p1) S (wG (c := decide (p0.Num < 0)) 8 false 15 rfl rfl (by kernel_rfl) hc10) (.inl rfl) (by kernel_rfl) rfl (by decide) (fun a S => ?_)
        refine sMove (.bool p1) S (wG (c := decide (p0.Num < 0)) 8 false 15 rfl rfl (by kernel_rfl) hc10) (.inl rfl) (by kernel_rfl) rfl (by decide) (fun a S => ?_)
        rcases iteSome h with ⟨hc11, h⟩ | ⟨hc11, h⟩
        · refine sField (b := b2) (off := 0) 0 0 S (wG (c := p1) 10 true 17 rfl rfl (by kernel_rfl) hc11) rfl (by kernel_rfl) (by kernel_rfl) rfl rfl (by decide) (fun a S => ?_)
          refine sLoad1 (p := b2) (off := 0) (T := 34) (vs := [.int .i64 p0.Num, .int .i64 p0.Den]) 0 (.int .i64 p0.Num) S (wG (c := p1) 10 true 17 rfl rfl (by kernel_rfl) hc11) rfl (by kernel_rfl) (by kernel_rfl) (by kernel_rfl) rfl rfl (by decide) (fun a S => ?_)
          refine sBin (.bool (p0.Num == 0)) S (wG (c := p1) 10 true 17 rfl rfl (by kernel_rfl) hc11) rfl (by kernel_rfl) (by kernel_rfl) (bEq _ _ _ _ .i64 p0.Num 0) rfl (by decide) (fun a S => ?_)
          refine sPickT (b := p1) (.bool (p0.Num == 0)) S (wG (c := decide (p0.Num < 0)) 8 false 15 rfl rfl (by kernel_rfl) hc10) rfl (by kernel_rfl) hc11 (by kernel_rfl) rfl (by decide) (fun a S => ?_)
          refine sPickF (b := decide (p0.Num < 0)) (.bool (p0.Num == 0)) S (wN rfl) rfl (by kernel_rfl) hc10 (by kernel_rfl) rfl (by decide) (fun a S => ?_)
          exact leafL (leafT (⟨p0.Num == 0, Option.some.inj h, S.fix [] [] (by decide) (by kernel_rfl) (by kernel_rfl) (by kernel_rfl)⟩))
        · refine sSkip (c := p1) 10 true 17 18 S rfl rfl (by kernel_rfl) hc11 rfl (by decide) (fun a S => ?_)
          refine sSkip (c := p1) 10 true 17 19 S rfl rfl (by kernel_rfl) hc11 rfl (by decide) (fun a S => ?_)
          refine sSkip (c := p1) 10 true 17 20 S rfl rfl (by kernel_rfl) hc11 rfl (by decide) (fun a S => ?_)
          refine sPickF (b := p1) (.bool false) S (wG (c := decide (p0.Num < 0)) 8 false 15 rfl rfl (by kernel_rfl) hc10) rfl (by kernel_rfl) hc11 (by kernel_rfl) rfl (by decide) (fun a S => ?_)
          refine sPickF (b := decide (p0.Num < 0)) (.bool false) S (wN rfl) rfl (by kernel_rfl) hc10 (by kernel_rfl) rfl (by decide) (fun a S => ?_)
          exact leafL (leafT (⟨false, Option.some.inj h, S.fix [] [] (by decide) (by kernel_rfl) (by kernel_rfl) (by kernel_rfl)⟩))
  · obtain ⟨o4, rfl, S⟩ := hI
    have h := g6
    clear g6
    try dsimp only at h
    rcases iteSome h with ⟨hc12, h⟩ | ⟨hc12, h⟩
    · refine sCondT (b := o4) S (by kernel_rfl) hc12 ?_
      refine sSeq (fun K13 hK13 => ?_)
      refine sRegion ?_
      refine sMove (.int .i64 8) S (wN rfl) (.inr rfl) (by kernel_rfl) rfl (by decide) (fun a S => ?_)
      refine leafL (leafT (hK13 _ _ ?_))
      obtain rfl := Option.some.inj h
      exact wp_ret (rThen (sRet (.int .i64 8) S (rsl1 rfl (rvT (t := 6) (v := .int .i64 8) S (by kernel_rfl))) ⟨(), rfl, S.mem.sel [] [] (by decide) (by kernel_rfl) (by kernel_rfl)⟩))
    · refine sCondF (b := o4) S (by kernel_rfl) hc12 ?_
      refine wp_skip (leafT (hK3 _ _ ?_))
      refine sSeq (fun K14 hK14 => ?_)
      obtain ⟨t16, h, g17⟩ := bindSome h
      refine sCut (fun a w => ∃ o15, o15 = t16 ∧ St E [] w0 29 a w [(28, .bool o15)] [] []) ?_ (fun a w hI => ?_)
      · refine sRegion ?_
        refine sMove (.int .i64 p2) S (wN rfl) (.inl rfl) (by kernel_rfl) rfl (by decide) (fun a S => ?_)
        refine sBin (.bool (decide (p2 < 0))) S (wN rfl) rfl (by kernel_rfl) (by kernel_rfl) (bLt _ _ _ _ .i64 p2 0) rfl (by decide) (fun a S => ?_)
        refine sMove (.bool (decide (p2 < 0))) S (wN rfl) (.inl rfl) (by kernel_rfl) rfl (by decide) (fun a S => ?_)
        rcases iteSome h with ⟨hc18, h⟩ | ⟨hc18, h⟩
        · refine sSkip (c := decide (p2 < 0)) 2 false 25 26 S rfl rfl (by kernel_rfl) hc18 rfl (by decide) (fun a S => ?_)
          refine sSkip (c := decide (p2 < 0)) 2 false 25 27 S rfl rfl (by kernel_rfl) hc18 rfl (by decide) (fun a S => ?_)
          refine sPickT (b := decide (p2 < 0)) (.bool true) S (wN rfl) rfl (by kernel_rfl) hc18 (by kernel_rfl) rfl (by decide) (fun a S => ?_)
          exact leafL (leafT (⟨true, Option.some.inj h, S.fix [] [] (by decide) (by kernel_rfl) (by kernel_rfl) (by kernel_rfl)⟩))
        · refine sMove (.int .i64 p2) S (wG (c := decide (p2 < 0)) 2 false 25 rfl rfl (by kernel_rfl) hc18) (.inl rfl) (by kernel_rfl) rfl (by decide) (fun a S => ?_)
          refine sBin (.bool (decide (1000000000 < p2))) S (wG (c := decide (p2 < 0)) 2 false 25 rfl rfl (by kernel_rfl) hc18) rfl (by kernel_rfl) (by kernel_rfl) (bGt _ _ _ _ .i64 p2 1000000000) rfl (by decide) (fun a S => ?_)
          refine sPickF (b := decide (p2 < 0)) (.bool (decide (1000000000 < p2))) S (wN rfl) rfl (by kernel_rfl) hc18 (by kernel_rfl) rfl (by decide) (fun a S => ?_)
          exact leafL (leafT (⟨decide (1000000000 < p2), Option.some.inj h, S.fix [] [] (by decide) (by kernel_rfl) (by kernel_rfl) (by kernel_rfl)⟩))
      · obtain ⟨o15, rfl, S⟩ := hI
        have h := g17
        clear g17
        try dsimp only at h
        rcases iteSome h with ⟨hc19, h⟩ | ⟨hc19, h⟩
        · refine sCondT (b := o15) S (by kernel_rfl) hc19 ?_
          refine sSeq (fun K20 hK20 => ?_)
          refine sRegion ?_
          refine sMove (.int .i64 2) S (wN rfl) (.inr rfl) (by kernel_rfl) rfl (by decide) (fun a S => ?_)
          refine leafL (leafT (hK20 _ _ ?_))
          obtain rfl := Option.some.inj h
          exact wp_ret (rThen (sRet (.int .i64 2) S (rsl1 rfl (rvT (t := 6) (v := .int .i64 2) S (by kernel_rfl))) ⟨(), rfl, S.mem.sel [] [] (by decide) (by kernel_rfl) (by kernel_rfl)⟩))
        · refine sCondF (b := o15) S (by kernel_rfl) hc19 ?_
          refine wp_skip (leafT (hK14 _ _ ?_))
          refine sSeq (fun K21 hK21 => ?_)
          refine sRegion ?_
          refine sMove (.int .i64 0) S (wN rfl) (.inr rfl) (by kernel_rfl) rfl (by decide) (fun a S => ?_)
          refine leafL (leafT (hK21 _ _ ?_))
          obtain rfl := Option.some.inj h
          exact wp_ret (sRet (.int .i64 0) S (rsl1 rfl (rvT (t := 6) (v := .int .i64 0) S (by kernel_rfl))) ⟨(), rfl, S.mem.sel [] [] (by decide) (by kernel_rfl) (by kernel_rfl)⟩)

end Go.Proofs.Ytjndecalogklhaa
namespace Go.Proofs.Ytjndecalogklhaa
open Go.RowKit
set_option linter.unusedVariables false

noncomputable def F_math_bits_Mul64 (p0 : Int) (p1 : Int) : Option (Int × Int) :=
  Option.bind (shrI .u64 p0 32) fun z4 =>
  Option.bind (shrI .u64 p1 32) fun z8 =>
  Option.bind (shrI .u64 (IntKind.u64.wrap ((andI .u64 p0 4294967295) * (andI .u64 p1 4294967295))) 32) fun z12 =>
  Option.bind (shrI .u64 (IntKind.u64.wrap ((IntKind.u64.wrap (z4 * (andI .u64 p1 4294967295))) + z12)) 32) fun z16 =>
  Option.bind (shrI .u64 (IntKind.u64.wrap ((andI .u64 (IntKind.u64.wrap ((IntKind.u64.wrap (z4 * (andI .u64 p1 4294967295))) + z12)) 4294967295) + (IntKind.u64.wrap ((andI .u64 p0 4294967295) * z8)))) 32) fun z20 =>
  some (IntKind.u64.wrap ((IntKind.u64.wrap ((IntKind.u64.wrap (z4 * z8)) + z16)) + z20), IntKind.u64.wrap (p0 * p1))
set_option maxHeartbeats 4000000 in
set_option maxRecDepth 100000 in
theorem c_math_bits_Mul64 (E : Nat → Prop) (w0 : World) (p0 : Int) (p1 : Int) (r : (Int × Int)) (h : F_math_bits_Mul64 p0 p1 = some r) (S : St0 E [] w0 w0 [] []) :
    Calls Try.prog 47 #[.int .u64 p0, .int .u64 p1] w0 (Ret (X := Unit) E [] w0 (fun _ => .tuple #[.int .u64 r.1, .int .u64 r.2]) (fun _ => []) (fun _ => [])) := by
  unfold F_math_bits_Mul64 at h
  refine sEnter (args := [.int .u64 p0, .int .u64 p1]) 51 Try.func47 rfl rfl (by simp) S (fun a S => ?_)
  refine sSeq (fun K1 hK1 => ?_)
  refine sRegion ?_
  refine sMove (.int .u64 0) S (wN rfl) (.inr rfl) (by kernel_rfl) rfl (by decide) (fun a S => ?_)
  refine sMove (.int .u64 0) S (wN rfl) (.inr rfl) (by kernel_rfl) rfl (by decide) (fun a S => ?_)
  refine leafL (leafT (hK1 _ _ ?_))
  refine sSeq (fun K2 hK2 => ?_)
  refine sRegion ?_
  refine sMove (.int .u64 p0) S (wN rfl) (.inl rfl) (by kernel_rfl) rfl (by decide) (fun a S => ?_)
  refine sBin (.int .u64 (andI .u64 p0 4294967295)) S (wN rfl) rfl (by kernel_rfl) (by kernel_rfl) (bAndK _ _ _ _ .u64 p0 4294967295) rfl (by decide) (fun a S => ?_)
  refine sMove (.int .u64 (andI .u64 p0 4294967295)) S (wN rfl) (.inr rfl) (by kernel_rfl) rfl (by decide) (fun a S => ?_)
  refine leafL (leafT (hK2 _ _ ?_))
  refine sSeq (fun K3 hK3 => ?_)
  refine sRegion ?_
  refine sMove (.int .u64 p0) S (wN rfl) (.inl rfl) (by kernel_rfl) rfl (by decide) (fun a S => ?_)
  obtain ⟨z4, hx5, h⟩ := bindSome h
  refine sBin (.int .u64 z4) S (wN rfl) rfl (by kernel_rfl) (by kernel_rfl) (bShrK _ _ _ _ (k := .u64) (k' := .u64) (x := p0) (y := 32) hx5) rfl (by decide) (fun a S => ?_)
  refine sMove (.int .u64 z4) S (wN rfl) (.inr rfl) (by kernel_rfl) rfl (by decide) (fun a S => ?_)
  refine leafL (leafT (hK3 _ _ ?_))
  refine sSeq (fun K6 hK6 => ?_)
  refine sRegion ?_
  refine sMove (.int .u64 p1) S (wN rfl) (.inl rfl) (by kernel_rfl) rfl (by decide) (fun a S => ?_)
  refine sBin (.int .u64 (andI .u64 p1 4294967295)) S (wN rfl) rfl (by kernel_rfl) (by kernel_rfl) (bAndK _ _ _ _ .u64 p1 4294967295) rfl (by decide) (fun a S => ?_)
  refine sMove (.int .u64 (andI .u64 p1 4294967295)) S (wN rfl) (.inr rfl) (by kernel_rfl) rfl (by decide) (fun a S => ?_)
  refine leafL (leafT (hK6 _ _ ?_))
  refine sSeq (fun K7 hK7 => ?_)
  refine sRegion ?_
  refine sMove (.int .u64 p1) S (wN rfl) (.inl rfl) (by kernel_rfl) rfl (by decide) (fun a S => ?_)
  obtain ⟨z8, hx9, h⟩ := bindSome h
  refine sBin (.int .u64 z8) S (wN rfl) rfl (by kernel_rfl) (by kernel_rfl) (bShrK _ _ _ _ (k := .u64) (k' := .u64) (x := p1) (y := 32) hx9) rfl (by decide) (fun a S => ?_)
  refine sMove (.int .u64 z8) S (wN rfl) (.inr rfl) (by kernel_rfl) rfl (by decide) (fun a S => ?_)
  refine leafL (leafT (hK7 _ _ ?_))
  refine sSeq (fun K10 hK10 => ?_)
  refine sRegion ?_
  refine sMove (.int .u64 (andI .u64 p0 4294967295)) S (wN rfl) (.inl rfl) (by kernel_rfl) rfl (by decide) (fun a S => ?_)
  refine sMove (.int .u64 (andI .u64 p1 4294967295)) S (wN rfl) (.inl rfl) (by kernel_rfl) rfl (by decide) (fun a S => ?_)
  refine sBin (.int .u64 (IntKind.u64.wrap ((andI .u64 p0 4294967295) * (andI .u64 p1 4294967295)))) S (wN rfl) rfl (by kernel_rfl) (by kernel_rfl) (bMulK _ _ _ _ .u64 (andI .u64 p0 4294967295) (andI .u64 p1 4294967295)) rfl (by decide) (fun a S => ?_)
  refine sMove (.int .u64 (IntKind.u64.wrap ((andI .u64 p0 4294967295) * (andI .u64 p1 4294967295)))) S (wN rfl) (.inr rfl) (by kernel_rfl) rfl (by decide) (fun a S => ?_)
  refine leafL (leafT (hK10 _ _ ?_))
  refine sSeq (fun K11 hK11 => ?_)
  refine sRegion ?_
  refine sMove (.int .u64 z4) S (wN rfl) (.inl rfl) (by kernel_rfl) rfl (by decide) (fun a S => ?_)
  refine sMove (.int .u64 (andI .u64 p1 4294967295)) S (wN rfl) (.inl rfl) (by kernel_rfl) rfl (by decide) (fun a S => ?_)
  refine sBin (.int .u64 (IntKind.u64.wrap (z4 * (andI .u64 p1 4294967295)))) S (wN rfl) rfl (by kernel_rfl) (by kernel_rfl) (bMulK _ _ _ _ .u64 z4 (andI .u64 p1 4294967295)) rfl (by decide) (fun a S => ?_)
  refine sMove (.int .u64 (IntKind.u64.wrap ((andI .u64 p0 4294967295) * (andI .u64 p1 4294967295)))) S (wN rfl) (.inl rfl) (by kernel_rfl) rfl (by decide) (fun a S => ?_)
  obtain ⟨z12, hx13, h⟩ := bindSome h
  refine sBin (.int .u64 z12) S (wN rfl) rfl (by kernel_rfl) (by kernel_rfl) (bShrK _ _ _ _ (k := .u64) (k' := .u64) (x := IntKind.u64.wrap ((andI .u64 p0 4294967295) * (andI .u64 p1 4294967295))) (y := 32) hx13) rfl (by decide) (fun a S => ?_)
  refine sBin (.int .u64 (IntKind.u64.wrap ((IntKind.u64.wrap (z4 * (andI .u64 p1 4294967295))) + z12))) S (wN rfl) rfl (by kernel_rfl) (by kernel_rfl) (bAddK _ _ _ _ .u64 (IntKind.u64.wrap (z4 * (andI .u64 p1 4294967295))) z12) rfl (by decide) (fun a S => ?_)
  refine sMove (.int .u64 (IntKind.u64.wrap ((IntKind.u64.wrap (z4 * (andI .u64 p1 4294967295))) + z12))) S (wN rfl) (.inr rfl) (by kernel_rfl) rfl (by decide) (fun a S => ?_)
  refine leafL (leafT (hK11 _ _ ?_))
  refine sSeq (fun K14 hK14 => ?_)
  refine sRegion ?_
  refine sMove (.int .u64 (IntKind.u64.wrap ((IntKind.u64.wrap (z4 * (andI .u64 p1 4294967295))) + z12))) S (wN rfl) (.inl rfl) (by kernel_rfl) rfl (by decide) (fun a S => ?_)
  refine sBin (.int .u64 (andI .u64 (IntKind.u64.wrap ((IntKind.u64.wrap (z4 * (andI .u64 p1 4294967295))) + z12)) 4294967295)) S (wN rfl) rfl (by kernel_rfl) (by kernel_rfl) (bAndK _ _ _ _ .u64 (IntKind.u64.wrap ((IntKind.u64.wrap (z4 * (andI .u64 p1 4294967295))) + z12)) 4294967295) rfl (by decide) (fun a S => ?_)
  refine sMove (.int .u64 (andI .u64 (IntKind.u64.wrap ((IntKind.u64.wrap (z4 * (andI .u64 p1 4294967295))) + z12)) 4294967295)) S (wN rfl) (.inr rfl) (by kernel_rfl) rfl (by decide) (fun a S => ?_)
  refine leafL (leafT (hK14 _ _ ?_))
  refine sSeq (fun K15 hK15 => ?_)
  refine sRegion ?_
  refine sMove (.int .u64 (IntKind.u64.wrap ((IntKind.u64.wrap (z4 * (andI .u64 p1 4294967295))) + z12))) S (wN rfl) (.inl rfl) (by kernel_rfl) rfl (by decide) (fun a S => ?_)
  obtain ⟨z16, hx17, h⟩ := bindSome h
  refine sBin (.int .u64 z16) S (wN rfl) rfl (by kernel_rfl) (by kernel_rfl) (bShrK _ _ _ _ (k := .u64) (k' := .u64) (x := IntKind.u64.wrap ((IntKind.u64.wrap (z4 * (andI .u64 p1 4294967295))) + z12)) (y := 32) hx17) rfl (by decide) (fun a S => ?_)
  refine sMove (.int .u64 z16) S (wN rfl) (.inr rfl) (by kernel_rfl) rfl (by decide) (fun a S => ?_)
  refine leafL (leafT (hK15 _ _ ?_))
  refine sSeq (fun K18 hK18 => ?_)
  refine sRegion ?_
  refine sMove (.int .u64 (andI .u64 (IntKind.u64.wrap ((IntKind.u64.wrap (z4 * (andI .u64 p1 4294967295))) + z12)) 4294967295)) S (wN rfl) (.inl rfl) (by kernel_rfl) rfl (by decide) (fun a S => ?_)
  refine sMove (.int .u64 (andI .u64 p0 4294967295)) S (wN rfl) (.inl rfl) (by kernel_rfl) rfl (by decide) (fun a S => ?_)
  refine sMove (.int .u64 z8) S (wN rfl) (.inl rfl) (by kernel_rfl) rfl (by decide) (fun a S => ?_)
  refine sBin (.int .u64 (IntKind.u64.wrap ((andI .u64 p0 4294967295) * z8))) S (wN rfl) rfl (by kernel_rfl) (by kernel_rfl) (bMulK _ _ _ _ .u64 (andI .u64 p0 4294967295) z8) rfl (by decide) (fun a S => ?_)
  refine sBin (.int .u64 (IntKind.u64.wrap ((andI .u64 (IntKind.u64.wrap ((IntKind.u64.wrap (z4 * (andI .u64 p1 4294967295))) + z12)) 4294967295) + (IntKind.u64.wrap ((andI .u64 p0 4294967295) * z8))))) S (wN rfl) rfl (by kernel_rfl) (by kernel_rfl) (bAddK _ _ _ _ .u64 (andI .u64 (IntKind.u64.wrap ((IntKind.u64.wrap (z4 * (andI .u64 p1 4294967295))) + z12)) 4294967295) (IntKind.u64.wrap ((andI .u64 p0 4294967295) * z8))) rfl (by decide) (fun a S => ?_)
  refine sMove (.int .u64 (IntKind.u64.wrap ((andI .u64 (IntKind.u64.wrap ((IntKind.u64.wrap (z4 * (andI .u64 p1 4294967295))) + z12)) 4294967295) + (IntKind.u64.wrap ((andI .u64 p0 4294967295) * z8))))) S (wN rfl) (.inr rfl) (by kernel_rfl) rfl (by decide) (fun a S => ?_)
  refine leafL (leafT (hK18 _ _ ?_))
  refine sSeq (fun K19 hK19 => ?_)
  refine sRegion ?_
  refine sMove (.int .u64 z4) S (wN rfl) (.inl rfl) (by kernel_rfl) rfl (by decide) (fun a S => ?_)
  refine sMove (.int .u64 z8) S (wN rfl) (.inl rfl) (by kernel_rfl) rfl (by decide) (fun a S => ?_)
  refine sBin (.int .u64 (IntKind.u64.wrap (z4 * z8))) S (wN rfl) rfl (by kernel_rfl) (by kernel_rfl) (bMulK _ _ _ _ .u64 z4 z8) rfl (by decide) (fun a S => ?_)
  refine sMove (.int .u64 z16) S (wN rfl) (.inl rfl) (by kernel_rfl) rfl (by decide) (fun a S => ?_)
  refine sBin (.int .u64 (IntKind.u64.wrap ((IntKind.u64.wrap (z4 * z8)) + z16))) S (wN rfl) rfl (by kernel_rfl) (by kernel_rfl) (bAddK _ _ _ _ .u64 (IntKind.u64.wrap (z4 * z8)) z16) rfl (by decide) (fun a S => ?_)
  refine sMove (.int .u64 (IntKind.u64.wrap ((andI .u64 (IntKind.u64.wrap ((IntKind.u64.wrap (z4 * (andI .u64 p1 4294967295))) + z12)) 4294967295) + (IntKind.u64.wrap ((andI .u64 p0 4294967295) * z8))))) S (wN rfl) (.inl rfl) (by kernel_rfl) rfl (by decide) (fun a S => ?_)
  obtain ⟨z20, hx21, h⟩ := bindSome h
  refine sBin (.int .u64 z20) S (wN rfl) rfl (by kernel_rfl) (by kernel_rfl) (bShrK _ _ _ _ (k := .u64) (k' := .u64) (x := IntKind.u64.wrap ((andI .u64 (IntKind.u64.wrap ((IntKind.u64.wrap (z4 * (andI .u64 p1 4294967295))) + z12)) 4294967295) + (IntKind.u64.wrap ((andI .u64 p0 4294967295) * z8)))) (y := 32) hx21) rfl (by decide) (fun a S => ?_)
  refine sBin (.int .u64 (IntKind.u64.wrap ((IntKind.u64.wrap ((IntKind.u64.wrap (z4 * z8)) + z16)) + z20))) S (wN rfl) rfl (by kernel_rfl) (by kernel_rfl) (bAddK _ _ _ _ .u64 (IntKind.u64.wrap ((IntKind.u64.wrap (z4 * z8)) + z16)) z20) rfl (by decide) (fun a S => ?_)
  refine sMove (.int .u64 (IntKind.u64.wrap ((IntKind.u64.wrap ((IntKind.u64.wrap (z4 * z8)) + z16)) + z20))) S (wN rfl) (.inr rfl) (by kernel_rfl) rfl (by decide) (fun a S => ?_)
  refine leafL (leafT (hK19 _ _ ?_))
  refine sSeq (fun K22 hK22 => ?_)
  refine sRegion ?_
  refine sMove (.int .u64 p0) S (wN rfl) (.inl rfl) (by kernel_rfl) rfl (by decide) (fun a S => ?_)
  refine sMove (.int .u64 p1) S (wN rfl) (.inl rfl) (by kernel_rfl) rfl (by decide) (fun a S => ?_)
  refine sBin (.int .u64 (IntKind.u64.wrap (p0 * p1))) S (wN rfl) rfl (by kernel_rfl) (by kernel_rfl) (bMulK _ _ _ _ .u64 p0 p1) rfl (by decide) (fun a S => ?_)
  refine sMove (.int .u64 (IntKind.u64.wrap (p0 * p1))) S (wN rfl) (.inr rfl) (by kernel_rfl) rfl (by decide) (fun a S => ?_)
  refine leafL (leafT (hK22 _ _ ?_))
  obtain rfl := Option.some.inj h
  exact wp_ret (sRet (.tuple #[.int .u64 (IntKind.u64.wrap ((IntKind.u64.wrap ((IntKind.u64.wrap (z4 * z8)) + z16)) + z20)), .int .u64 (IntKind.u64.wrap (p0 * p1))]) S (rsl2 rfl (rvT (t := 4) (v := .int .u64 (IntKind.u64.wrap ((IntKind.u64.wrap ((IntKind.u64.wrap (z4 * z8)) + z16)) + z20))) S (by kernel_rfl)) (rvT (t := 5) (v := .int .u64 (IntKind.u64.wrap (p0 * p1))) S (by kernel_rfl))) ⟨(), rfl, S.mem.sel [] [] (by decide) (by kernel_rfl) (by kernel_rfl)⟩)

end Go.Proofs.Ytjndecalogklhaa
