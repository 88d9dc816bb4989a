/- Several texts in one: PlLp G24 G25 G26 G72s0 G77s0 G71s0 G56 G73 G57 G75s0 G61s0 G74s0 G58 G27 G37 G36 G28 G59 G60 G62s0 G61s1 G76i0 -/
import Derived.WalkKit
import Derived.Maps.AppendAt
import Derived.Deep.AppendLies
import Derived.KernelRfl
import Derived.Laws.OwnMore
import Derived.Great.BuildSlice
import Derived.Orders
import Derived.Laws.StructEq
import Derived.ChangeKeysEq
import Derived.Defers
import Derived.Laws.BytesString
import Derived.RangeFuncNested
import Derived.RangeFuncBound
import Derived.RangeFuncCalls
import Derived.RangeFuncLeaves
import Derived.OrdersIn
import Derived.LoopNIn
import Derived.ArgAppend
import Derived.Test.YthfifeabomdlpaaProg
import Derived.ProofKit
import Derived.OpenShut
import Derived.ChangeOld
import Derived.Deep.Slices
import Derived.Lib.SmallJoins
import Derived.JoinedOf
import Derived.JoinedAt
import Derived.Below
import Derived.Test.YthfifeabomdlpaaRows
import Derived.Test.YthfifeabomdlpaaMBlockSpells1
namespace Go.Proofs.Ythfifeabomdlpaa
open Go.RowKit
set_option linter.unusedVariables false

/-- a loop whose states are known -/
theorem loop_seq {S τ : Type} {B : S → Option (S ⊕ τ)} (c : Nat → S) (n : Nat) {t : τ} (h : ∀ k, k < n → B (c k) = some (.inl (c (k + 1)))) (hn : B (c n) = some (.inr t)) : whileO B (c 0) = some t := by
  have key : ∀ j k, j + k = n → whileO B (c k) = some t := by
    intro j
    induction j with
    | zero =>
      intro k hk
      obtain rfl : k = n := by omega
      exact whileO_done hn
    | succ j ih =>
      intro k hk
      rw [whileO_step (h k (by omega))]
      exact ih _ (by omega)
  exact key n 0 (by omega)
/-- a loop whose states are known, and that leaves where g fails -/
theorem loop_seqf {S τ : Type} {B : S → Option (S ⊕ τ)} (c : Nat → S) (n : Nat) (g : Nat → Bool) {bad t : τ} (h : ∀ k, k < n → (∀ j, j < k → g j = true) → B (c k) = some (if g k = true then .inl (c (k + 1)) else .inr bad)) (hn : (∀ j, j < n → g j = true) → B (c n) = some (.inr t)) :
    whileO B (c 0) = some (if (List.range n).all g = true then t else bad) := by
  have key : ∀ j k, j + k = n → (∀ i, i < k → g i = true) → whileO B (c k) = some (if (List.range n).all g = true then t else bad) := by
    intro j
    induction j with
    | zero =>
      intro k hk hI
      obtain rfl : k = n := by omega
      rw [whileO_done (hn hI), if_pos (List.all_eq_true.2 fun i hi => hI i (List.mem_range.1 hi))]
    | succ j ih =>
      intro k hk hI
      have hb := h k (by omega) hI
      cases hg : g k with
      | true =>
        rw [hg, if_pos rfl] at hb
        rw [whileO_step hb]
        refine ih _ (by omega) fun i hi => ?_
        by_cases e : i = k
        · rw [e]; exact hg
        · exact hI i (by omega)
      | false =>
        rw [hg, if_neg (by decide)] at hb
        rw [whileO_done hb, if_neg]
        intro ha
        have := List.all_eq_true.1 ha k (List.mem_range.2 (by omega))
        rw [hg] at this; cases this
  exact key n 0 (by omega) fun i hi => absurd hi (Nat.not_lt_zero i)
/-- a loop over a list that leaves at the first element where f answers -/
theorem loop_list {α τ : Type} {B : Int → Option (Int ⊕ τ)} (l : List α) (f : α → Option τ) (good : τ)
    (h : ∀ k (hk : k < l.length), B (k : Int) = some (match f l[k] with | none => .inl ((k + 1 : Nat) : Int) | some t => .inr t)) (hn : B (l.length : Int) = some (.inr good)) : whileO B 0 = some ((l.findSome? f).getD good) := by
  have key : ∀ j k, j + k = l.length → whileO B (k : Int) = some (((l.drop k).findSome? f).getD good) := by
    intro j
    induction j with
    | zero =>
      intro k hk
      obtain rfl : k = l.length := by omega
      rw [whileO_done hn, List.drop_length]
      rfl
    | succ j ih =>
      intro k hk
      have hk2 : k < l.length := by omega
      have hb := h k hk2
      rw [List.drop_eq_getElem_cons hk2, List.findSome?_cons]
      cases hf : f l[k] with
      | none =>
        rw [hf] at hb
        rw [whileO_step hb]
        exact ih _ (by omega)
      | some t =>
        rw [hf] at hb
        rw [whileO_done hb]
        rfl
  have := key l.length 0 (by omega)
  simpa using this
/-- a loop over a list that looks for the first element with p -/
theorem loop_idx {α τ : Type} {B : Int → Option (Int ⊕ τ)} (l : List α) (p : α → Bool) (hit : Nat → τ) (good : τ)
    (h : ∀ k (hk : k < l.length), B (k : Int) = some (if p l[k] = true then .inr (hit k) else .inl ((k + 1 : Nat) : Int))) (hn : B (l.length : Int) = some (.inr good)) : whileO B 0 = some (if l.findIdx p < l.length then hit (l.findIdx p) else good) := by
  have key : ∀ j k, j + k = l.length → k ≤ l.findIdx p → whileO B (k : Int) = some (if l.findIdx p < l.length then hit (l.findIdx p) else good) := by
    intro j
    induction j with
    | zero =>
      intro k hk hI
      obtain rfl : k = l.length := by omega
      rw [whileO_done hn, if_neg (by omega)]
    | succ j ih =>
      intro k hk hI
      have hk2 : k < l.length := by omega
      have hb := h k hk2
      cases hp : p l[k] with
      | true =>
        rw [hp, if_pos rfl] at hb
        have e : l.findIdx p = k := by
          rcases Nat.lt_or_ge k (l.findIdx p) with h1 | h1
          · have := List.not_of_lt_findIdx h1
            rw [hp] at this; cases this
          · omega
        rw [whileO_done hb, e, if_pos hk2]
      | false =>
        rw [hp, if_neg (by decide)] at hb
        rw [whileO_step hb]
        refine ih _ (by omega) ?_
        rcases Nat.eq_or_lt_of_le hI with h1 | h1
        · have h2 : l.findIdx p < l.length := by omega
          have h3 : p (l[l.findIdx p]'h2) = true := List.findIdx_getElem
          have h4 : l[l.findIdx p]'h2 = l[k] := by congr 1; exact h1.symm
          rw [h4, hp] at h3; cases h3
        · exact h1
  exact key l.length 0 (by omega) (Nat.zero_le _)
/-- two lists compared one by one -/
theorem loop_eql {α τ : Type} [DecidableEq α] {B : Int → Option (Int ⊕ τ)} (a b : List α) (hl : a.length = b.length) (good bad : τ)
    (h : ∀ k (hk : k < a.length), B (k : Int) = some (if a[k] = b[k]'(by omega) then .inl ((k + 1 : Nat) : Int) else .inr bad)) (hn : B (a.length : Int) = some (.inr good)) : whileO B 0 = some (if a = b then good else bad) := by
  have := loop_seqf (B := B) (fun k => (k : Int)) a.length (fun k => decide (a[k]? = b[k]?)) (bad := bad) (t := good) (fun k hk _ => by
    rw [h k hk]
    by_cases e : a[k] = b[k]'(by omega)
    · rw [if_pos e, if_pos]; exact decide_eq_true (by rw [List.getElem?_eq_getElem hk, List.getElem?_eq_getElem (by omega), e])
    · rw [if_neg e, if_neg]; intro hc; have := of_decide_eq_true hc; rw [List.getElem?_eq_getElem hk, List.getElem?_eq_getElem (by omega)] at this; exact e (Option.some.inj this)) (fun _ => hn)
  have h0 : (((0 : Nat) : Int)) = 0 := rfl
  rw [h0] at this
  rw [this]
  congr 1
  by_cases e : a = b
  · subst e; rw [if_pos rfl, if_pos]; simp
  · rw [if_neg e, if_neg]
    intro hc
    refine e (List.ext_getElem? fun j => ?_)
    by_cases hj : j < a.length
    · exact of_decide_eq_true (List.all_eq_true.1 hc j (List.mem_range.2 hj))
    · rw [List.getElem?_eq_none (by omega), List.getElem?_eq_none (by omega)]
theorem wmul {a b : Nat} (h : a * b ≤ 9223372036854775807) : w64 ((a : Int) * (b : Int)) = ((a * b : Nat) : Int) := by
  rw [← Int.natCast_mul]; exact w64_of (by omega) (by omega)
theorem wadd {a b : Nat} (h : a + b ≤ 9223372036854775807) : w64 ((a : Int) + (b : Int)) = ((a + b : Nat) : Int) := by
  rw [← Int.natCast_add]; exact w64_of (by omega) (by omega)
theorem rem_nat {a b : Nat} (h : 0 < b) : remI (a : Int) (b : Int) = some ((a % b : Nat) : Int) := by
  unfold remI; rw [if_neg (by omega)]; rfl
theorem quo_nat {a b : Nat} (h : 0 < b) (ha : a ≤ 9223372036854775807) : quoI (a : Int) (b : Int) = some ((a / b : Nat) : Int) := by
  have h1 : ((a : Int)).tdiv (b : Int) = ((a / b : Nat) : Int) := rfl
  have h2 : a / b ≤ a := Nat.div_le_self _ _
  unfold quoI
  rw [if_neg (by omega), h1]
  generalize a / b = q at h2
  rw [w64_of (by omega) (by omega)]
theorem pl_mod {w x y : Nat} (hx : x < w) : (y * w + x) % w = x := by rw [Nat.mul_comm, Nat.mul_add_mod, Nat.mod_eq_of_lt hx]
theorem pl_div {w x y : Nat} (hx : x < w) : (y * w + x) / w = y := by
  rw [Nat.mul_comm, Nat.mul_add_div (by omega), Nat.div_eq_of_lt hx, Nat.add_zero]
theorem pl_of (t w : Nat) : (t / w) * w + t % w = t := by rw [Nat.mul_comm]; exact Nat.div_add_mod t w
theorem pl_divlt {t w h : Nat} (ht : t < w * h) : t / w < h := Nat.div_lt_of_lt_mul ht
theorem pl_modlt {t w : Nat} (hw : 0 < w) : t % w < w := Nat.mod_lt _ hw
/-- n places, row by row -/
def glf {α : Type} (f : Nat → Nat → α) (w n : Nat) : List α := (List.range n).map fun t => f (t % w) (t / w)
def gl {α : Type} (f : Nat → Nat → α) (w h : Nat) : List α := glf f w (w * h)
theorem gl_len {α : Type} (f : Nat → Nat → α) (w h : Nat) : (gl f w h).length = w * h := by simp [gl, glf]
/-- n places laid, the others as they were -/
def gst {α : Type} (f : Nat → Nat → α) (z : α) (w h n : Nat) : List α := (List.range (w * h)).map fun t => if t < n then f (t % w) (t / w) else z
theorem gst_zero {α : Type} (f : Nat → Nat → α) (z : α) (w h : Nat) : gst f z w h 0 = List.replicate (w * h) z := by
  unfold gst
  rw [show (fun t => if t < 0 then f (t % w) (t / w) else z) = fun _ => z from funext fun t => if_neg (Nat.not_lt_zero t)]
  simp [List.map_const']
theorem gst_len {α : Type} (f : Nat → Nat → α) (z : α) (w h n : Nat) : (gst f z w h n).length = w * h := by simp [gst]
theorem gst_full {α : Type} (f : Nat → Nat → α) (z : α) (w h : Nat) : gst f z w h (h * w) = gl f w h := by
  unfold gst gl glf
  exact map_cong fun t ht => if_pos (by rw [Nat.mul_comm h w]; exact ht)
theorem gst_set {α : Type} (f : Nat → Nat → α) (z : α) (w h n : Nat) : (gst f z w h n).set n (f (n % w) (n / w)) = gst f z w h (n + 1) := by
  apply List.ext_getElem?
  intro t
  by_cases ht : t < w * h
  · rw [List.getElem?_set]
    simp only [gst, List.getElem?_map, List.getElem?_range ht, Option.map_some, List.length_map, List.length_range]
    by_cases e : n = t
    · subst e; rw [if_pos rfl, if_pos ht, if_pos (by omega)]
    · rw [if_neg e]
      by_cases e2 : t < n
      · rw [if_pos e2, if_pos (by omega)]
      · rw [if_neg e2, if_neg (by omega)]
  · rw [List.getElem?_eq_none (by simp [gst]; omega), List.getElem?_eq_none (by simp [gst]; omega)]
theorem loop_allL {α τ : Type} {B : Int → Option (Int ⊕ τ)} (l : List α) (p : α → Bool) (good bad : τ)
    (h : ∀ k (hk : k < l.length), B (k : Int) = some (if p l[k] = true then .inl ((k + 1 : Nat) : Int) else .inr bad)) (hn : B (l.length : Int) = some (.inr good)) : whileO B 0 = some (if l.all p = true then good else bad) := by
  have h1 := loop_list l (fun x => if p x = true then none else some bad) good (fun k hk => by
    rw [h k hk]
    by_cases hp : p l[k] = true
    · rw [if_pos hp, if_pos hp]
    · rw [if_neg hp, if_neg hp]) hn
  rw [h1]
  congr 1
  clear h h1 hn
  induction l with
  | nil => rfl
  | cons x l ih =>
    rw [List.findSome?_cons, List.all_cons]
    cases hp : p x with
    | true => rw [if_pos rfl, Bool.true_and]; exact ih
    | false => rw [if_neg (by decide), Bool.false_and, if_neg (by decide)]; rfl
/-- the index that a search hands back -/
def idxF {α : Type} (l : List α) (p : α → Bool) : Int := if l.findIdx p < l.length then (l.findIdx p : Int) else -1
theorem idxF_nn {α : Type} {l : List α} {p : α → Bool} : decide (0 ≤ idxF l p) = l.any p := by
  unfold idxF
  by_cases h : l.findIdx p < l.length
  · rw [if_pos h, List.any_eq_true.2 (List.findIdx_lt_length.1 h), decide_eq_true (by omega)]
  · rw [if_neg h, decide_eq_false (by omega)]
    cases ha : l.any p with
    | false => rfl
    | true => exact absurd (List.findIdx_lt_length.2 (List.any_eq_true.1 ha)) h
theorem findIdx_le {α : Type} (l : List α) (p : α → Bool) : l.findIdx p ≤ l.length := List.findIdx_le_length
theorem loop_idxW {α : Type} {B : Int → Option (Int ⊕ Int)} (l : List α) (p : α → Bool)
    (h : ∀ k (hk : k < l.length), B (k : Int) = some (if p l[k] = true then .inr (k : Int) else .inl ((k + 1 : Nat) : Int))) (hn : B (l.length : Int) = some (.inr (l.length : Int))) : whileO B 0 = some ((l.findIdx p : Nat) : Int) := by
  rw [loop_idx l p (fun k => (k : Int)) (l.length : Int) h hn]
  have := findIdx_le l p
  by_cases h2 : l.findIdx p < l.length
  · rw [if_pos h2]
  · rw [if_neg h2]; congr 1; omega
end Go.Proofs.Ythfifeabomdlpaa
namespace Go.Proofs.Ythfifeabomdlpaa
open Go.RowKit
set_option linter.unusedVariables false

def anc_raddleref02_Same_0 : List (List Nat) := [[], [], [0, 1], [0, 1, 2], [], [], [4, 5], [4, 5, 6], [0, 1, 2, 3, 4, 5, 6, 7]]
noncomputable def raddleref02_Same_l1 (p0 : (List Int)) (p1 : (List Int)) : Int → Option (Int ⊕ (Bool ⊕ Unit)) := fun s0 => match s0 with
  | s13 =>
    if decide (s13 < (p0.length : Int)) then
      Option.bind (idxO p0 s13) fun x22 =>
      Option.bind (idxO p1 s13) fun x27 =>
      if x22 != x27 then
        some (.inr (.inl false))
      else
        some (.inl (w64 (s13 + 1)))
    else
      some (.inr (.inr ()))
noncomputable def F_raddleref02_Same (p0 : (List Int)) (p1 : (List Int)) : Option Bool :=
  if (p0.length : Int) != (p1.length : Int) then
    some false
  else
    Option.bind (α := Unit ⊕ Bool) (
      Option.bind (whileO (raddleref02_Same_l1 p0 p1) 0) fun z0 => match z0 with
        | .inl z =>
          some (.inr z)
        | .inr _ =>
          some (.inl ())) fun z0 => match z0 with
      | .inl _ =>
        some true
      | .inr z =>
        some z
set_option maxHeartbeats 4000000 in
set_option maxRecDepth 100000 in
theorem c_raddleref02_Same (E : Nat → Prop) (w0 : World) (p0 : (List Int)) (v0 : Value) (p1 : (List Int)) (v1 : Value) (r : Bool) (h : F_raddleref02_Same p0 p1 = some r) (S : St0 E [] w0 w0 [] [fRep (rL (rI .i64)) (v0) p0, fRep (rL (rI .i64)) (v1) p1]) :
    Calls Try.prog 24 #[v0, v1] w0 (Ret (X := Unit) E [] w0 (fun _ => .bool r) (fun _ => []) (fun _ => [])) := by
  unfold F_raddleref02_Same at h
  obtain ⟨ad1, cp2, _, rfl, _⟩ := S.know (i := 0) (e := fRep (rL (rI .i64)) (v0) p0) rfl
  obtain ⟨ad3, cp4, _, rfl, _⟩ := S.know (i := 1) (e := fRep (rL (rI .i64)) (v1) p1) rfl
  refine sEnter (args := [.slice ad1 p0.length cp2, .slice ad3 p1.length cp4]) 26 Try.func24 rfl rfl (by simp) S (fun a S => ?_)
  refine sSeq (fun K5 hK5 => ?_)
  refine sRegion ?_
  refine sMove (.bool false) S (wN rfl) (.inr rfl) rfl rfl (lb rfl) fun a S => ?_
  refine leafL (leafT (hK5 _ _ ?_))
  refine sSeq (fun K6 hK6 => ?_)
  refine sSeq (fun K7 hK7 => ?_)
  refine sRegion ?_
  refine sMove (.slice ad1 p0.length cp2) S (wN rfl) (.inl rfl) rfl rfl (lb rfl) fun a S => ?_
  refine sLen (ad := ad1) (m := p0.length) (c := cp2) S (wN rfl) rfl Try.underlying35 rfl rfl (lb rfl) fun a S => ?_
  refine sMove (.slice ad3 p1.length cp4) S (wN rfl) (.inl rfl) rfl rfl (lb rfl) fun a S => ?_
  refine sLen (ad := ad3) (m := p1.length) (c := cp4) S (wN rfl) rfl Try.underlying35 rfl rfl (lb rfl) fun a S => ?_
  refine sBin (.bool ((p0.length : Int) != (p1.length : Int))) S (wN rfl) rfl rfl rfl (bNe _ _ _ _ .i64 (p0.length : Int) (p1.length : Int)) rfl (lb rfl) fun a S => ?_
  refine leafL (leafT (hK7 _ _ ?_))
  rcases iteSome h with ⟨hc8, h⟩ | ⟨hc8, h⟩
  · refine sCondT S rfl hc8 ?_
    refine sSeq (fun K9 hK9 => ?_)
    refine sRegion ?_
    refine sMove (.bool false) S (wN rfl) (.inr rfl) rfl rfl (lb rfl) fun a S => ?_
    refine leafL (leafT (hK9 _ _ ?_))
    obtain rfl := Option.some.inj h
    exact wp_ret (rThen (sRet (.bool false) S (rsl1 rfl (rvT (t := 4) (v := .bool false) S rfl)) ⟨(), rfl, S.mem.sel [] [] (by decide) rfl rfl⟩))
  refine sCondF S rfl hc8 ?_
  refine wp_skip (leafT (hK6 _ _ ?_))
  obtain ⟨t10, h, g11⟩ := bindSome h
  refine sCut (fun a w => .inl () = t10 ∧ St [] E [] w0 26 a w [] [] []) ?_ (fun a w hI => ?_)
  rotate_left
  · obtain ⟨rfl, S⟩ := hI
    have h := g11
    clear g11
    try dsimp only at h
    refine sSeq (fun K40 hK40 => ?_)
    refine sRegion ?_
    refine sMove (.bool true) S (wN rfl) (.inr rfl) rfl rfl (lb rfl) fun a S => ?_
    refine leafL (leafT (hK40 _ _ ?_))
    obtain rfl := Option.some.inj h
    exact wp_ret (sRet (.bool true) S (rsl1 rfl (rvT (t := 4) (v := .bool true) S rfl)) ⟨(), rfl, S.mem.sel [] [] (by decide) rfl rfl⟩)
  refine sSeq (fun K12 hK12 => ?_)
  refine sRegion ?_
  refine sMove (iv 0) S (wN rfl) (.inr rfl) rfl rfl (lb rfl) fun a S => ?_
  refine leafL (leafT (hK12 _ _ ?_))
  refine wp_block ?_
  obtain ⟨t16, hl, g15⟩ := bindSome h
  refine sLoop hl (fun s0 a w => match s0 with | s13 => St [] E [] w0 26 a w [(0, .slice ad1 p0.length cp2), (1, .slice ad3 p1.length cp4), (5, iv s13)] [] [fRep (rL (rI .i64)) (.slice ad1 p0.length cp2) p0, fRep (rL (rI .i64)) (.slice ad3 p1.length cp4) p1]) (S.fix [] [0, 1] (by decide) rfl rfl rfl) ?_
  clear hl h
  intro s13 a w c0 hI h hu14
  unfold raddleref02_Same_l1 at h
  dsimp only at h hI
  have S := hI
  refine sSeq (fun K17 hK17 => ?_)
  refine sSeq (fun K18 hK18 => ?_)
  refine sRegion ?_
  refine sMove (iv s13) S (wN rfl) (.inl rfl) rfl rfl (lb rfl) fun a S => ?_
  refine sMove (.slice ad1 p0.length cp2) S (wN rfl) (.inl rfl) rfl rfl (lb rfl) fun a S => ?_
  refine sLen (ad := ad1) (m := p0.length) (c := cp2) S (wN rfl) rfl Try.underlying35 rfl rfl (lb rfl) fun a S => ?_
  refine sBin (.bool (decide (s13 < (p0.length : Int)))) S (wN rfl) rfl rfl rfl (bLt _ _ _ _ .i64 s13 (p0.length : Int)) rfl (lb rfl) fun a S => ?_
  refine leafL (leafT (hK18 _ _ ?_))
  rcases iteSome h with ⟨hc19, h⟩ | ⟨hc19, h⟩
  rotate_left
  · refine sCondF S rfl hc19 ?_
    obtain rfl := Option.some.inj h
    obtain rfl := hu14 _ rfl
    have h := g15
    clear g15
    try dsimp only at h
    exact wp_exit (xThen (xThen (xHit (leafT (⟨Option.some.inj h, S.fix [] [] (by decide) rfl rfl rfl⟩)))))
  refine sCondT S rfl hc19 ?_
  refine wp_skip (leafT (hK17 _ _ ?_))
  refine sSeq (fun K20 hK20 => ?_)
  refine wp_block ?_
  refine sSeq (fun K21 hK21 => ?_)
  obtain ⟨x22, hx23, h⟩ := bindSome h
  obtain ⟨x27, hx28, h⟩ := bindSome h
  obtain ⟨q32, hq33, S⟩ := pIdx (P := Try.prog) (r := (rI .i64)) (v := .slice ad1 p0.length cp2) (xs := p0) (j := s13) 35 3 0 S Try.underlying35 rfl rfl hx23
  obtain ⟨u34, S⟩ := pLoad (r := (rI .i64)) (q := q32) (x := x22) 0 S rfl
  obtain rfl : u34 = iv x22 := S.mem.know (i := 1) (e := fRep (rI .i64) (u34) x22) rfl
  obtain ⟨q35, hq36, S⟩ := pIdx (P := Try.prog) (r := (rI .i64)) (v := .slice ad3 p1.length cp4) (xs := p1) (j := s13) 35 3 4 S Try.underlying35 rfl rfl hx28
  obtain ⟨u37, S⟩ := pLoad (r := (rI .i64)) (q := q35) (x := x27) 0 S rfl
  obtain rfl : u37 = iv x27 := S.mem.know (i := 1) (e := fRep (rI .i64) (u37) x27) rfl
  refine sDraw (nf := []) (W := [(0, 17, .slice ad1 p0.length cp2), (1, 18, iv s13), (2, 19, q32), (3, 20, iv x22), (4, 21, .slice ad3 p1.length cp4), (5, 22, iv s13), (6, 23, q35), (7, 24, iv x27), (8, 25, .bool (x22 != x27))]) rfl S ?_
  refine node_by (A := anc_raddleref02_Same_0) (nf := []) (Y := []) (W := [(0, 17, .slice ad1 p0.length cp2), (1, 18, iv s13), (2, 19, q32), (3, 20, iv x22), (4, 21, .slice ad3 p1.length cp4), (5, 22, iv s13), (6, 23, q35), (7, 24, iv x27), (8, 25, .bool (x22 != x27))]) 9 (by kernel_rfl) (by kernel_rfl) (by kernel_rfl) (by kernel_rfl) (by kernel_rfl) [0, 1, 2, 3, 4, 5, 6, 7, 8] (by kernel_rfl) (by decide) (by decide) (aF 0 8 (by decide) ?_ (aF 1 7 (by decide) ?_ (aF 2 6 (by decide) ?_ (aF 3 5 (by decide) ?_ (aF 4 4 (by decide) ?_ (aF 5 3 (by decide) ?_ (aF 6 2 (by decide) ?_ (aF 7 1 (by decide) ?_ (aF 8 0 (by decide) ?_ (trivial)))))))))) [(0, .slice ad1 p0.length cp2), (1, .slice ad3 p1.length cp4), (5, iv s13), (25, .bool (x22 != x27))] (fin_of [none, none, none, some 8] rfl (by kernel_rfl) (by kernel_rfl)) (fun _ a w S => ?_)
  · refine fI 17 (.slice ad1 p0.length cp2) [(0, .slice ad1 p0.length cp2)] 0 [none] rfl rfl rfl rfl rfl rfl fun G a w S => ?_
    refine sMove (.slice ad1 p0.length cp2) S (wN rfl) (.inl rfl) rfl rfl (lb rfl) fun a S => ?_
    exact leafL ⟨rfl, S⟩
  · refine fI 18 (iv s13) [(5, iv s13)] 1 [none] rfl rfl rfl rfl rfl rfl fun G a w S => ?_
    refine sMove (iv s13) S (wN rfl) (.inl rfl) rfl rfl (lb rfl) fun a S => ?_
    exact leafL ⟨rfl, S⟩
  · refine fI 19 q32 [(17, .slice ad1 p0.length cp2), (18, iv s13)] 2 [some 0, some 1] rfl rfl rfl rfl rfl rfl fun G a w S => ?_
    refine sIdxV (v := .slice ad1 p0.length cp2) (k := .i64) (j := s13) S (wN rfl) rfl rfl rfl hq33 rfl (lb rfl) fun a S => ?_
    exact leafL ⟨rfl, S⟩
  · refine fI 20 (iv x22) [(19, q32)] 3 [some 2] rfl rfl rfl rfl rfl rfl fun G a w S => ?_
    refine sLoadV1 (vq := q32) 3 (iv x22) S (wN rfl) rfl rfl rfl rfl rfl (lb rfl) fun a S => ?_
    exact leafL ⟨rfl, S⟩
  · refine fI 21 (.slice ad3 p1.length cp4) [(1, .slice ad3 p1.length cp4)] 4 [none] rfl rfl rfl rfl rfl rfl fun G a w S => ?_
    refine sMove (.slice ad3 p1.length cp4) S (wN rfl) (.inl rfl) rfl rfl (lb rfl) fun a S => ?_
    exact leafL ⟨rfl, S⟩
  · refine fI 22 (iv s13) [(5, iv s13)] 5 [none] rfl rfl rfl rfl rfl rfl fun G a w S => ?_
    refine sMove (iv s13) S (wN rfl) (.inl rfl) rfl rfl (lb rfl) fun a S => ?_
    exact leafL ⟨rfl, S⟩
  · refine fI 23 q35 [(21, .slice ad3 p1.length cp4), (22, iv s13)] 6 [some 4, some 5] rfl rfl rfl rfl rfl rfl fun G a w S => ?_
    refine sIdxV (v := .slice ad3 p1.length cp4) (k := .i64) (j := s13) S (wN rfl) rfl rfl rfl hq36 rfl (lb rfl) fun a S => ?_
    exact leafL ⟨rfl, S⟩
  · refine fI 24 (iv x27) [(23, q35)] 7 [some 6] rfl rfl rfl rfl rfl rfl fun G a w S => ?_
    refine sLoadV1 (vq := q35) 0 (iv x27) S (wN rfl) rfl rfl rfl rfl rfl (lb rfl) fun a S => ?_
    exact leafL ⟨rfl, S⟩
  · refine fI 25 (.bool (x22 != x27)) [(20, iv x22), (24, iv x27)] 8 [some 3, some 7] rfl rfl rfl rfl rfl rfl fun G a w S => ?_
    refine sBin (.bool (x22 != x27)) S (wN rfl) rfl rfl rfl (bNe _ _ _ _ .i64 x22 x27) rfl (lb rfl) fun a S => ?_
    exact leafL ⟨rfl, S⟩
  refine leafT (hK21 _ _ ?_)
  rcases iteSome h with ⟨hc38, h⟩ | ⟨hc38, h⟩
  rotate_left
  · refine sCondF S rfl hc38 ?_
    refine wp_skip (leafB (leafT (hK20 _ _ ?_)))
    refine sRegion ?_
    refine sMove (iv s13) S (wN rfl) (.inl rfl) rfl rfl (lb rfl) fun a S => ?_
    refine sBin (iv (w64 (s13 + 1))) S (wN rfl) rfl rfl rfl (bAdd _ _ _ _ s13 1) rfl (lb rfl) fun a S => ?_
    refine sMove (iv (w64 (s13 + 1))) S (wN rfl) (.inr rfl) rfl rfl (lb rfl) fun a S => ?_
    exact leafL (leafT (⟨w64 (s13 + 1), (Option.some.inj h).symm, (S.fix [] [6, 7] (by decide) rfl rfl rfl)⟩))
  refine sCondT S rfl hc38 ?_
  refine sSeq (fun K39 hK39 => ?_)
  refine sRegion ?_
  refine sMove (.bool false) S (wN rfl) (.inr rfl) rfl rfl (lb rfl) fun a S => ?_
  refine leafL (leafT (hK39 _ _ ?_))
  obtain rfl := Option.some.inj h
  obtain rfl := hu14 _ rfl
  have h := g15
  clear g15
  try dsimp only at h
  obtain rfl := Option.some.inj h
  have h := g11
  clear g11
  try dsimp only at h
  obtain rfl := Option.some.inj h
  exact wp_ret (rBlock (rThen (rThen (rBlock (rThen (sRet (.bool false) S (rsl1 rfl (rvT (t := 4) (v := .bool false) S rfl)) ⟨(), rfl, S.mem.sel [] [] (by decide) rfl rfl⟩))))))

end Go.Proofs.Ythfifeabomdlpaa
namespace Go.Proofs.Ythfifeabomdlpaa
open Go.RowKit
set_option linter.unusedVariables false

noncomputable def F_raddleref02_Great (p0 : (List Int)) : Option Bool :=
  Option.bind (α := Bool) (
    if decide (60 < (p0.length : Int)) then
      if decide ((p0.length : Int) ≤ 400) then
        some true
      else
        some (decide (420 < (p0.length : Int)))
    else
      some (decide (420 < (p0.length : Int)))) fun o4 =>
  some o4
set_option maxHeartbeats 4000000 in
set_option maxRecDepth 100000 in
theorem c_raddleref02_Great (E : Nat → Prop) (w0 : World) (p0 : (List Int)) (v0 : Value) (r : Bool) (h : F_raddleref02_Great p0 = some r) (S : St0 E [] w0 w0 [] [fRep (rL (rI .i64)) (v0) p0]) :
    Calls Try.prog 25 #[v0] w0 (Ret (X := Unit) E [] w0 (fun _ => .bool r) (fun _ => []) (fun _ => [])) := by
  unfold F_raddleref02_Great at h
  obtain ⟨ad1, cp2, _, rfl, _⟩ := S.know (i := 0) (e := fRep (rL (rI .i64)) (v0) p0) rfl
  refine sEnter (args := [.slice ad1 p0.length cp2]) 16 Try.func25 rfl rfl (by simp) S (fun a S => ?_)
  refine sSeq (fun K3 hK3 => ?_)
  refine sRegion ?_
  refine sMove (.bool false) S (wN rfl) (.inr rfl) rfl rfl (lb rfl) fun a S => ?_
  refine leafL (leafT (hK3 _ _ ?_))
  obtain ⟨t5, h, g6⟩ := bindSome h
  refine sCut (fun a w => ∃ o4, o4 = t5 ∧ St [] E [] w0 16 a w [(2, .bool o4)] [] []) ?_ (fun a w hI => ?_)
  rotate_left
  · obtain ⟨o4, rfl, S⟩ := hI
    have h := g6
    clear g6
    try dsimp only at h
    obtain rfl := Option.some.inj h
    exact wp_ret (sRet (.bool o4) S (rsl1 rfl (rvT (t := 2) (v := .bool o4) S rfl)) ⟨(), rfl, S.mem.sel [] [] (by decide) rfl rfl⟩)
  refine sRegion ?_
  refine sMove (.slice ad1 p0.length cp2) S (wN rfl) (.inl rfl) rfl rfl (lb rfl) fun a S => ?_
  refine sLen (ad := ad1) (m := p0.length) (c := cp2) S (wN rfl) rfl Try.underlying35 rfl rfl (lb rfl) fun a S => ?_
  refine sBin (.bool (decide (60 < (p0.length : Int)))) S (wN rfl) rfl rfl rfl (bGt _ _ _ _ .i64 (p0.length : Int) 60) rfl (lb rfl) fun a S => ?_
  refine sMove (.bool (decide (60 < (p0.length : Int)))) S (wN rfl) (.inl rfl) rfl rfl (lb rfl) fun a S => ?_
  rcases iteSome h with ⟨hc7, h⟩ | ⟨hc7, h⟩
  rotate_left
  · refine sSkip 3 true 6 7 S rfl rfl rfl hc7 rfl (lb rfl) fun a S => ?_
    refine sSkip 3 true 6 8 S rfl rfl rfl hc7 rfl (lb rfl) fun a S => ?_
    refine sSkip 3 true 6 9 S rfl rfl rfl hc7 rfl (lb rfl) fun a S => ?_
    refine sPickF (.bool false) S (wN rfl) rfl rfl hc7 rfl rfl (lb rfl) fun a S => ?_
    refine sMove (.bool false) S (wN rfl) (.inl rfl) rfl rfl (lb rfl) fun a S => ?_
    refine sMove (.slice ad1 p0.length cp2) S (wG 8 false 11 rfl rfl rfl rfl) (.inl rfl) rfl rfl (lb rfl) fun a S => ?_
    refine sLen (ad := ad1) (m := p0.length) (c := cp2) S (wG 8 false 11 rfl rfl rfl rfl) rfl Try.underlying35 rfl rfl (lb rfl) fun a S => ?_
    refine sBin (.bool (decide (420 < (p0.length : Int)))) S (wG 8 false 11 rfl rfl rfl rfl) rfl rfl rfl (bGt _ _ _ _ .i64 (p0.length : Int) 420) rfl (lb rfl) fun a S => ?_
    refine sPickF (.bool (decide (420 < (p0.length : Int)))) S (wN rfl) rfl rfl rfl rfl rfl (lb rfl) fun a S => ?_
    refine sMove (.bool (decide (420 < (p0.length : Int)))) S (wN rfl) (.inr rfl) rfl rfl (lb rfl) fun a S => ?_
    exact leafL (leafT (⟨decide (420 < (p0.length : Int)), Option.some.inj h, S.fix [] [] (by decide) rfl rfl rfl⟩))
  refine sMove (.slice ad1 p0.length cp2) S (wG 3 true 6 rfl rfl rfl hc7) (.inl rfl) rfl rfl (lb rfl) fun a S => ?_
  refine sLen (ad := ad1) (m := p0.length) (c := cp2) S (wG 3 true 6 rfl rfl rfl hc7) rfl Try.underlying35 rfl rfl (lb rfl) fun a S => ?_
  refine sBin (.bool (decide ((p0.length : Int) ≤ 400))) S (wG 3 true 6 rfl rfl rfl hc7) rfl rfl rfl (bLe _ _ _ _ .i64 (p0.length : Int) 400) rfl (lb rfl) fun a S => ?_
  refine sPickT (.bool (decide ((p0.length : Int) ≤ 400))) S (wN rfl) rfl rfl hc7 rfl rfl (lb rfl) fun a S => ?_
  refine sMove (.bool (decide ((p0.length : Int) ≤ 400))) S (wN rfl) (.inl rfl) rfl rfl (lb rfl) fun a S => ?_
  rcases iteSome h with ⟨hc8, h⟩ | ⟨hc8, h⟩
  · refine sSkip 8 false 11 12 S rfl rfl rfl hc8 rfl (lb rfl) fun a S => ?_
    refine sSkip 8 false 11 13 S rfl rfl rfl hc8 rfl (lb rfl) fun a S => ?_
    refine sSkip 8 false 11 14 S rfl rfl rfl hc8 rfl (lb rfl) fun a S => ?_
    refine sPickT (.bool true) S (wN rfl) rfl rfl hc8 rfl rfl (lb rfl) fun a S => ?_
    refine sMove (.bool true) S (wN rfl) (.inr rfl) rfl rfl (lb rfl) fun a S => ?_
    exact leafL (leafT (⟨true, Option.some.inj h, S.fix [] [] (by decide) rfl rfl rfl⟩))
  refine sMove (.slice ad1 p0.length cp2) S (wG 8 false 11 rfl rfl rfl hc8) (.inl rfl) rfl rfl (lb rfl) fun a S => ?_
  refine sLen (ad := ad1) (m := p0.length) (c := cp2) S (wG 8 false 11 rfl rfl rfl hc8) rfl Try.underlying35 rfl rfl (lb rfl) fun a S => ?_
  refine sBin (.bool (decide (420 < (p0.length : Int)))) S (wG 8 false 11 rfl rfl rfl hc8) rfl rfl rfl (bGt _ _ _ _ .i64 (p0.length : Int) 420) rfl (lb rfl) fun a S => ?_
  refine sPickF (.bool (decide (420 < (p0.length : Int)))) S (wN rfl) rfl rfl hc8 rfl rfl (lb rfl) fun a S => ?_
  refine sMove (.bool (decide (420 < (p0.length : Int)))) S (wN rfl) (.inr rfl) rfl rfl (lb rfl) fun a S => ?_
  exact leafL (leafT (⟨decide (420 < (p0.length : Int)), Option.some.inj h, S.fix [] [] (by decide) rfl rfl rfl⟩))

end Go.Proofs.Ythfifeabomdlpaa
namespace Go.Proofs.Ythfifeabomdlpaa
open Go.RowKit
set_option linter.unusedVariables false

noncomputable def raddleref13_Great_l1 (p0 : (List (List Int))) : Int → Option (Int ⊕ (Bool ⊕ Unit)) := fun s0 => match s0 with
  | s7 =>
    if decide (s7 < (p0.length : Int)) then
      Option.bind (idxO p0 s7) fun x16 =>
      Option.bind (F_raddleref02_Great x16) fun r23 =>
      if r23 then
        some (.inr (.inl true))
      else
        some (.inl (w64 (s7 + 1)))
    else
      some (.inr (.inr ()))
noncomputable def F_raddleref13_Great (p0 : (List (List Int))) : Option Bool :=
  Option.bind (α := Unit ⊕ Bool) (
    Option.bind (whileO (raddleref13_Great_l1 p0) 0) fun z0 => match z0 with
      | .inl z =>
        some (.inr z)
      | .inr _ =>
        some (.inl ())) fun z0 => match z0 with
    | .inl _ =>
      Option.bind (α := Bool) (
        if decide (20 < (p0.length : Int)) then
          if decide ((p0.length : Int) ≤ 400) then
            some true
          else
            some (decide (410 < (p0.length : Int)))
        else
          some (decide (410 < (p0.length : Int)))) fun o27 =>
      some o27
    | .inr z =>
      some z
set_option maxHeartbeats 4000000 in
set_option maxRecDepth 100000 in
theorem c_raddleref13_Great (E : Nat → Prop) (w0 : World) (p0 : (List (List Int))) (v0 : Value) (r : Bool) (h : F_raddleref13_Great p0 = some r) (S : St0 E [] w0 w0 [] [fRep (rL (rL (rI .i64))) (v0) p0]) :
    Calls Try.prog 26 #[v0] w0 (Ret (X := Unit) E [] w0 (fun _ => .bool r) (fun _ => []) (fun _ => [])) := by
  unfold F_raddleref13_Great at h
  obtain ⟨ad1, cp2, _, rfl, _⟩ := S.know (i := 0) (e := fRep (rL (rL (rI .i64))) (v0) p0) rfl
  refine sEnter (args := [.slice ad1 p0.length cp2]) 28 Try.func26 rfl rfl (by simp) S (fun a S => ?_)
  refine sSeq (fun K3 hK3 => ?_)
  refine sRegion ?_
  refine sMove (.bool false) S (wN rfl) (.inr rfl) rfl rfl (lb rfl) fun a S => ?_
  refine leafL (leafT (hK3 _ _ ?_))
  obtain ⟨t4, h, g5⟩ := bindSome h
  refine sCut (fun a w => .inl () = t4 ∧ St [] E [] w0 28 a w [(0, .slice ad1 p0.length cp2)] [] [fRep (rL (rL (rI .i64))) (.slice ad1 p0.length cp2) p0]) ?_ (fun a w hI => ?_)
  · refine sSeq (fun K6 hK6 => ?_)
    refine sRegion ?_
    refine sMove (iv 0) S (wN rfl) (.inr rfl) rfl rfl (lb rfl) fun a S => ?_
    refine leafL (leafT (hK6 _ _ ?_))
    refine wp_block ?_
    obtain ⟨t10, hl, g9⟩ := bindSome h
    refine sLoop hl (fun s0 a w => match s0 with | s7 => St [] E [] w0 28 a w [(0, .slice ad1 p0.length cp2), (3, iv s7)] [] [fRep (rL (rL (rI .i64))) (.slice ad1 p0.length cp2) p0]) (S.fix [] [0] (by decide) rfl rfl rfl) ?_
    clear hl h
    intro s7 a w c0 hI h hu8
    unfold raddleref13_Great_l1 at h
    dsimp only at h hI
    have S := hI
    refine sSeq (fun K11 hK11 => ?_)
    refine sSeq (fun K12 hK12 => ?_)
    refine sRegion ?_
    refine sMove (iv s7) S (wN rfl) (.inl rfl) rfl rfl (lb rfl) fun a S => ?_
    refine sMove (.slice ad1 p0.length cp2) S (wN rfl) (.inl rfl) rfl rfl (lb rfl) fun a S => ?_
    refine sLen (ad := ad1) (m := p0.length) (c := cp2) S (wN rfl) rfl Try.underlying46 rfl rfl (lb rfl) fun a S => ?_
    refine sBin (.bool (decide (s7 < (p0.length : Int)))) S (wN rfl) rfl rfl rfl (bLt _ _ _ _ .i64 s7 (p0.length : Int)) rfl (lb rfl) fun a S => ?_
    refine leafL (leafT (hK12 _ _ ?_))
    rcases iteSome h with ⟨hc13, h⟩ | ⟨hc13, h⟩
    rotate_left
    · refine sCondF S rfl hc13 ?_
      obtain rfl := Option.some.inj h
      obtain rfl := hu8 _ rfl
      have h := g9
      clear g9
      try dsimp only at h
      exact wp_exit (xThen (xThen (xHit (leafT (⟨Option.some.inj h, S.fix [] [0] (by decide) rfl rfl rfl⟩)))))
    refine sCondT S rfl hc13 ?_
    refine wp_skip (leafT (hK11 _ _ ?_))
    refine sSeq (fun K14 hK14 => ?_)
    refine wp_block ?_
    refine sSeq (fun K15 hK15 => ?_)
    refine sRegion ?_
    refine sMove (.slice ad1 p0.length cp2) S (wN rfl) (.inl rfl) rfl rfl (lb rfl) fun a S => ?_
    refine sMove (iv s7) S (wN rfl) (.inl rfl) rfl rfl (lb rfl) fun a S => ?_
    obtain ⟨x16, hx17, h⟩ := bindSome h
    obtain ⟨q18, hq19, S⟩ := pIdx (P := Try.prog) (r := (rL (rI .i64))) (v := .slice ad1 p0.length cp2) (xs := p0) (j := s7) 46 35 0 S Try.underlying46 rfl rfl hx17
    refine sIdxV (v := .slice ad1 p0.length cp2) (k := .i64) (j := s7) S (wN rfl) rfl rfl rfl hq19 rfl (lb rfl) fun a S => ?_
    obtain ⟨u20, S⟩ := pLoad (r := (rL (rI .i64))) (q := q18) (x := x16) 0 S rfl
    obtain ⟨ad21, cp22, _, rfl, _⟩ := S.mem.know (i := 1) (e := fRep (rL (rI .i64)) (u20) x16) rfl
    refine sLoadV1 (vq := q18) 0 (.slice ad21 x16.length cp22) S (wN rfl) rfl rfl rfl rfl rfl (lb rfl) fun a S => ?_
    obtain ⟨r23, hx24, h⟩ := bindSome h
    have S1 := S.mem
    refine sCallQ (X := Unit) (f := 25) (vs := [.slice ad21 x16.length cp22]) (val := fun _ => .bool r23) S (wN rfl) rfl callee25 rfl (S1.quiet [1] rfl) (fun E1 w1 S1 => c_raddleref02_Great E1 w1 x16 (.slice ad21 x16.length cp22) r23 hx24 S1) rfl (lb rfl) fun _ a w S => ?_
    refine leafL (leafT (hK15 _ _ ?_))
    rcases iteSome h with ⟨hc25, h⟩ | ⟨hc25, h⟩
    rotate_left
    · refine sCondF S rfl hc25 ?_
      refine wp_skip (leafB (leafT (hK14 _ _ ?_)))
      refine sRegion ?_
      refine sMove (iv s7) S (wN rfl) (.inl rfl) rfl rfl (lb rfl) fun a S => ?_
      refine sBin (iv (w64 (s7 + 1))) S (wN rfl) rfl rfl rfl (bAdd _ _ _ _ s7 1) rfl (lb rfl) fun a S => ?_
      refine sMove (iv (w64 (s7 + 1))) S (wN rfl) (.inr rfl) rfl rfl (lb rfl) fun a S => ?_
      exact leafL (leafT (⟨w64 (s7 + 1), (Option.some.inj h).symm, (S.fix [] [3] (by decide) rfl rfl rfl)⟩))
    refine sCondT S rfl hc25 ?_
    refine sSeq (fun K26 hK26 => ?_)
    refine sRegion ?_
    refine sMove (.bool true) S (wN rfl) (.inr rfl) rfl rfl (lb rfl) fun a S => ?_
    refine leafL (leafT (hK26 _ _ ?_))
    obtain rfl := Option.some.inj h
    obtain rfl := hu8 _ rfl
    have h := g9
    clear g9
    try dsimp only at h
    obtain rfl := Option.some.inj h
    have h := g5
    clear g5
    try dsimp only at h
    obtain rfl := Option.some.inj h
    exact wp_ret (rBlock (rThen (rThen (rBlock (rThen (sRet (.bool true) S (rsl1 rfl (rvT (t := 2) (v := .bool true) S rfl)) ⟨(), rfl, S.mem.sel [] [] (by decide) rfl rfl⟩))))))
  obtain ⟨rfl, S⟩ := hI
  have h := g5
  clear g5
  try dsimp only at h
  obtain ⟨t28, h, g29⟩ := bindSome h
  refine sCut (fun a w => ∃ o27, o27 = t28 ∧ St [] E [] w0 28 a w [(2, .bool o27)] [] []) ?_ (fun a w hI => ?_)
  rotate_left
  · obtain ⟨o27, rfl, S⟩ := hI
    have h := g29
    clear g29
    try dsimp only at h
    obtain rfl := Option.some.inj h
    exact wp_ret (sRet (.bool o27) S (rsl1 rfl (rvT (t := 2) (v := .bool o27) S rfl)) ⟨(), rfl, S.mem.sel [] [] (by decide) rfl rfl⟩)
  refine sRegion ?_
  refine sMove (.slice ad1 p0.length cp2) S (wN rfl) (.inl rfl) rfl rfl (lb rfl) fun a S => ?_
  refine sLen (ad := ad1) (m := p0.length) (c := cp2) S (wN rfl) rfl Try.underlying46 rfl rfl (lb rfl) fun a S => ?_
  refine sBin (.bool (decide (20 < (p0.length : Int)))) S (wN rfl) rfl rfl rfl (bGt _ _ _ _ .i64 (p0.length : Int) 20) rfl (lb rfl) fun a S => ?_
  refine sMove (.bool (decide (20 < (p0.length : Int)))) S (wN rfl) (.inl rfl) rfl rfl (lb rfl) fun a S => ?_
  rcases iteSome h with ⟨hc30, h⟩ | ⟨hc30, h⟩
  rotate_left
  · refine sSkip 3 true 18 19 S rfl rfl rfl hc30 rfl (lb rfl) fun a S => ?_
    refine sSkip 3 true 18 20 S rfl rfl rfl hc30 rfl (lb rfl) fun a S => ?_
    refine sSkip 3 true 18 21 S rfl rfl rfl hc30 rfl (lb rfl) fun a S => ?_
    refine sPickF (.bool false) S (wN rfl) rfl rfl hc30 rfl rfl (lb rfl) fun a S => ?_
    refine sMove (.bool false) S (wN rfl) (.inl rfl) rfl rfl (lb rfl) fun a S => ?_
    refine sMove (.slice ad1 p0.length cp2) S (wG 8 false 23 rfl rfl rfl rfl) (.inl rfl) rfl rfl (lb rfl) fun a S => ?_
    refine sLen (ad := ad1) (m := p0.length) (c := cp2) S (wG 8 false 23 rfl rfl rfl rfl) rfl Try.underlying46 rfl rfl (lb rfl) fun a S => ?_
    refine sBin (.bool (decide (410 < (p0.length : Int)))) S (wG 8 false 23 rfl rfl rfl rfl) rfl rfl rfl (bGt _ _ _ _ .i64 (p0.length : Int) 410) rfl (lb rfl) fun a S => ?_
    refine sPickF (.bool (decide (410 < (p0.length : Int)))) S (wN rfl) rfl rfl rfl rfl rfl (lb rfl) fun a S => ?_
    refine sMove (.bool (decide (410 < (p0.length : Int)))) S (wN rfl) (.inr rfl) rfl rfl (lb rfl) fun a S => ?_
    exact leafL (leafT (⟨decide (410 < (p0.length : Int)), Option.some.inj h, S.fix [] [] (by decide) rfl rfl rfl⟩))
  refine sMove (.slice ad1 p0.length cp2) S (wG 3 true 18 rfl rfl rfl hc30) (.inl rfl) rfl rfl (lb rfl) fun a S => ?_
  refine sLen (ad := ad1) (m := p0.length) (c := cp2) S (wG 3 true 18 rfl rfl rfl hc30) rfl Try.underlying46 rfl rfl (lb rfl) fun a S => ?_
  refine sBin (.bool (decide ((p0.length : Int) ≤ 400))) S (wG 3 true 18 rfl rfl rfl hc30) rfl rfl rfl (bLe _ _ _ _ .i64 (p0.length : Int) 400) rfl (lb rfl) fun a S => ?_
  refine sPickT (.bool (decide ((p0.length : Int) ≤ 400))) S (wN rfl) rfl rfl hc30 rfl rfl (lb rfl) fun a S => ?_
  refine sMove (.bool (decide ((p0.length : Int) ≤ 400))) S (wN rfl) (.inl rfl) rfl rfl (lb rfl) fun a S => ?_
  rcases iteSome h with ⟨hc31, h⟩ | ⟨hc31, h⟩
  · refine sSkip 8 false 23 24 S rfl rfl rfl hc31 rfl (lb rfl) fun a S => ?_
    refine sSkip 8 false 23 25 S rfl rfl rfl hc31 rfl (lb rfl) fun a S => ?_
    refine sSkip 8 false 23 26 S rfl rfl rfl hc31 rfl (lb rfl) fun a S => ?_
    refine sPickT (.bool true) S (wN rfl) rfl rfl hc31 rfl rfl (lb rfl) fun a S => ?_
    refine sMove (.bool true) S (wN rfl) (.inr rfl) rfl rfl (lb rfl) fun a S => ?_
    exact leafL (leafT (⟨true, Option.some.inj h, S.fix [] [] (by decide) rfl rfl rfl⟩))
  refine sMove (.slice ad1 p0.length cp2) S (wG 8 false 23 rfl rfl rfl hc31) (.inl rfl) rfl rfl (lb rfl) fun a S => ?_
  refine sLen (ad := ad1) (m := p0.length) (c := cp2) S (wG 8 false 23 rfl rfl rfl hc31) rfl Try.underlying46 rfl rfl (lb rfl) fun a S => ?_
  refine sBin (.bool (decide (410 < (p0.length : Int)))) S (wG 8 false 23 rfl rfl rfl hc31) rfl rfl rfl (bGt _ _ _ _ .i64 (p0.length : Int) 410) rfl (lb rfl) fun a S => ?_
  refine sPickF (.bool (decide (410 < (p0.length : Int)))) S (wN rfl) rfl rfl hc31 rfl rfl (lb rfl) fun a S => ?_
  refine sMove (.bool (decide (410 < (p0.length : Int)))) S (wN rfl) (.inr rfl) rfl rfl (lb rfl) fun a S => ?_
  exact leafL (leafT (⟨decide (410 < (p0.length : Int)), Option.some.inj h, S.fix [] [] (by decide) rfl rfl rfl⟩))

end Go.Proofs.Ythfifeabomdlpaa
namespace Go.Proofs.Ythfifeabomdlpaa
open Go.RowKit
set_option linter.unusedVariables false

noncomputable def F_block_index_1_s0 (p0 : Int) (p1 : Int) : Option Bool :=
  Option.bind (α := Bool) (
    if decide (p0 < 0) then
      some true
    else
      some (decide (p1 ≤ p0))) fun o2 =>
  some o2
set_option maxHeartbeats 4000000 in
set_option maxRecDepth 100000 in
theorem c_block_index_1_s0 (E : Nat → Prop) (w0 : World) (p0 : Int) (p1 : Int) (v1 : Value) (r : Bool) (h : F_block_index_1_s0 p0 p1 = some r) (S : St0 E [] w0 w0 [] [fPtr (rI .i64) (v1) p1]) :
    Calls Try.prog 72 #[iv p0, v1] w0 (Ret (X := Unit) E [] w0 (fun _ => .bool r) (fun _ => []) (fun _ => [])) := by
  unfold F_block_index_1_s0 at h
  refine sEnter (args := [iv p0, v1]) 11 Try.func72 rfl rfl (by simp) S (fun a S => ?_)
  refine sSeq (fun K1 hK1 => ?_)
  refine sRegion ?_
  refine sMove (.bool false) S (wN rfl) (.inr rfl) rfl rfl (lb rfl) fun a S => ?_
  refine leafL (leafT (hK1 _ _ ?_))
  obtain ⟨t3, h, g4⟩ := bindSome h
  refine sCut (fun a w => ∃ o2, o2 = t3 ∧ St [] E [] w0 11 a w [(3, .bool o2)] [] []) ?_ (fun a w hI => ?_)
  rotate_left
  · obtain ⟨o2, rfl, S⟩ := hI
    have h := g4
    clear g4
    try dsimp only at h
    obtain rfl := Option.some.inj h
    exact wp_ret (sRet (.bool o2) S (rsl1 rfl (rvT (t := 3) (v := .bool o2) S rfl)) ⟨(), rfl, S.mem.sel [] [] (by decide) rfl rfl⟩)
  refine sRegion ?_
  refine sMove (iv p0) S (wN rfl) (.inl rfl) rfl rfl (lb rfl) fun a S => ?_
  refine sBin (.bool (decide (p0 < 0))) S (wN rfl) rfl rfl rfl (bLt _ _ _ _ .i64 p0 0) rfl (lb rfl) fun a S => ?_
  refine sMove (.bool (decide (p0 < 0))) S (wN rfl) (.inl rfl) rfl rfl (lb rfl) fun a S => ?_
  rcases iteSome h with ⟨hc5, h⟩ | ⟨hc5, h⟩
  · refine sSkip 2 false 6 7 S rfl rfl rfl hc5 rfl (lb rfl) fun a S => ?_
    refine sSkip 2 false 6 8 S rfl rfl rfl hc5 rfl (lb rfl) fun a S => ?_
    refine sSkip 2 false 6 9 S rfl rfl rfl hc5 rfl (lb rfl) fun a S => ?_
    refine sPickT (.bool true) S (wN rfl) rfl rfl hc5 rfl rfl (lb rfl) fun a S => ?_
    refine sMove (.bool true) S (wN rfl) (.inr rfl) rfl rfl (lb rfl) fun a S => ?_
    exact leafL (leafT (⟨true, Option.some.inj h, S.fix [] [] (by decide) rfl rfl rfl⟩))
  refine sMove (iv p0) S (wG 2 false 6 rfl rfl rfl hc5) (.inl rfl) rfl rfl (lb rfl) fun a S => ?_
  obtain ⟨u6, S⟩ := pLoad (r := (rI .i64)) (q := v1) (x := p1) 0 S rfl
  obtain rfl : u6 = iv p1 := S.mem.know (i := 1) (e := fRep (rI .i64) (u6) p1) rfl
  refine sLoadV1 (vq := v1) 0 (iv p1) S (wG 2 false 6 rfl rfl rfl hc5) rfl rfl rfl rfl rfl (lb rfl) fun a S => ?_
  refine sBin (.bool (decide (p1 ≤ p0))) S (wG 2 false 6 rfl rfl rfl hc5) rfl rfl rfl (bGe _ _ _ _ .i64 p0 p1) rfl (lb rfl) fun a S => ?_
  refine sPickF (.bool (decide (p1 ≤ p0))) S (wN rfl) rfl rfl hc5 rfl rfl (lb rfl) fun a S => ?_
  refine sMove (.bool (decide (p1 ≤ p0))) S (wN rfl) (.inr rfl) rfl rfl (lb rfl) fun a S => ?_
  exact leafL (leafT (⟨decide (p1 ≤ p0), Option.some.inj h, S.fix [] [] (by decide) rfl rfl rfl⟩))

end Go.Proofs.Ythfifeabomdlpaa
namespace Go.Proofs.Ythfifeabomdlpaa
open Go.RowKit
set_option linter.unusedVariables false

noncomputable def slices_IndexFunc___int_int__s0_l1 (p0 : (List Int)) (p1 : Int) : Int → Option (Int ⊕ (Int ⊕ Unit)) := fun s0 => match s0 with
  | s7 =>
    if decide (s7 < (p0.length : Int)) then
      Option.bind (idxO p0 s7) fun x17 =>
      Option.bind (F_block_index_1_s0 x17 p1) fun r22 =>
      if r22 then
        some (.inr (.inl s7))
      else
        some (.inl (w64 (s7 + 1)))
    else
      some (.inr (.inr ()))
noncomputable def F_slices_IndexFunc___int_int__s0 (p0 : (List Int)) (p1 : Int) : Option Int :=
  Option.bind (α := Unit ⊕ Int) (
    Option.bind (whileO (slices_IndexFunc___int_int__s0_l1 p0 p1) 0) fun z0 => match z0 with
      | .inl z =>
        some (.inr z)
      | .inr _ =>
        some (.inl ())) fun z0 => match z0 with
    | .inl _ =>
      some (-1)
    | .inr z =>
      some z
set_option maxHeartbeats 4000000 in
set_option maxRecDepth 100000 in
theorem c_slices_IndexFunc___int_int__s0 (E : Nat → Prop) (w0 : World) (p0 : (List Int)) (v0 : Value) (p1 : Int) (v1 : Value) (r : Int) (h : F_slices_IndexFunc___int_int__s0 p0 p1 = some r) (S : St0 E [] w0 w0 [] [fRep (rL (rI .i64)) (v0) p0, fPtr (rI .i64) (v1) p1]) :
    Calls Try.prog 77 #[v0, .func (.func 72) #[] #[v1]] w0 (Ret (X := Unit) E [] w0 (fun _ => .int .i64 r) (fun _ => []) (fun _ => [])) := by
  unfold F_slices_IndexFunc___int_int__s0 at h
  obtain ⟨ad1, cp2, _, rfl, _⟩ := S.know (i := 0) (e := fRep (rL (rI .i64)) (v0) p0) rfl
  refine sEnter (args := [.slice ad1 p0.length cp2, .func (.func 72) #[] #[v1]]) 19 Try.func77 rfl rfl (by simp) S (fun a S => ?_)
  refine sSeq (fun K3 hK3 => ?_)
  refine sRegion ?_
  refine sMove (iv 0) S (wN rfl) (.inr rfl) rfl rfl (lb rfl) fun a S => ?_
  refine leafL (leafT (hK3 _ _ ?_))
  obtain ⟨t4, h, g5⟩ := bindSome h
  refine sCut (fun a w => .inl () = t4 ∧ St [] E [] w0 19 a w [] [] []) ?_ (fun a w hI => ?_)
  rotate_left
  · obtain ⟨rfl, S⟩ := hI
    have h := g5
    clear g5
    try dsimp only at h
    refine sSeq (fun K26 hK26 => ?_)
    refine sRegion ?_
    refine sMove (iv (-1)) S (wN rfl) (.inr rfl) rfl rfl (lb rfl) fun a S => ?_
    refine leafL (leafT (hK26 _ _ ?_))
    obtain rfl := Option.some.inj h
    exact wp_ret (sRet (iv (-1)) S (rsl1 rfl (rvT (t := 4) (v := iv (-1)) S rfl)) ⟨(), rfl, S.mem.sel [] [] (by decide) rfl rfl⟩)
  refine sSeq (fun K6 hK6 => ?_)
  refine sRegion ?_
  refine sMove (.slice ad1 p0.length cp2) S (wN rfl) (.inl rfl) rfl rfl (lb rfl) fun a S => ?_
  refine sLen (ad := ad1) (m := p0.length) (c := cp2) S (wN rfl) rfl Try.underlying35 rfl rfl (lb rfl) fun a S => ?_
  refine sMove (iv 0) S (wN rfl) (.inl rfl) rfl rfl (lb rfl) fun a S => ?_
  refine leafL (leafT (hK6 _ _ ?_))
  refine wp_block ?_
  obtain ⟨t10, hl, g9⟩ := bindSome h
  refine sLoop hl (fun s0 a w => match s0 with | s7 => St [] E [] w0 19 a w [(0, .slice ad1 p0.length cp2), (1, .func (.func 72) #[] #[v1]), (7, iv (p0.length : Int)), (8, iv s7)] [] [fPtr (rI .i64) (v1) p1, fRep (rL (rI .i64)) (.slice ad1 p0.length cp2) p0]) (S.fix [] [1, 0] (by decide) rfl rfl rfl) ?_
  clear hl h
  intro s7 a w c0 hI h hu8
  unfold slices_IndexFunc___int_int__s0_l1 at h
  dsimp only at h hI
  have S := hI
  refine sSeq (fun K11 hK11 => ?_)
  refine sRegion ?_
  refine sBin (.bool (decide (s7 < (p0.length : Int)))) S (wN rfl) rfl rfl rfl (bLt _ _ _ _ .i64 s7 (p0.length : Int)) rfl (lb rfl) fun a S => ?_
  refine leafL (leafT (hK11 _ _ ?_))
  refine sSeq (fun K12 hK12 => ?_)
  rcases iteSome h with ⟨hc13, h⟩ | ⟨hc13, h⟩
  rotate_left
  · refine sCondF S rfl hc13 ?_
    obtain rfl := Option.some.inj h
    obtain rfl := hu8 _ rfl
    have h := g9
    clear g9
    try dsimp only at h
    exact wp_exit (xThen (xThen (xHit (leafT (⟨Option.some.inj h, S.fix [] [] (by decide) rfl rfl rfl⟩)))))
  refine sCondT S rfl hc13 ?_
  refine wp_skip (leafT (hK12 _ _ ?_))
  refine sSeq (fun K14 hK14 => ?_)
  refine wp_block ?_
  refine sSeq (fun K15 hK15 => ?_)
  refine sRegion ?_
  refine sMove (iv s7) S (wN rfl) (.inl rfl) rfl rfl (lb rfl) fun a S => ?_
  refine sMove (iv s7) S (wN rfl) (.inr rfl) rfl rfl (lb rfl) fun a S => ?_
  refine leafL (leafT (hK15 _ _ ?_))
  refine sSeq (fun K16 hK16 => ?_)
  refine sRegion ?_
  refine sMove (.func (.func 72) #[] #[v1]) S (wN rfl) (.inl rfl) rfl rfl (lb rfl) fun a S => ?_
  refine sMove (.slice ad1 p0.length cp2) S (wN rfl) (.inl rfl) rfl rfl (lb rfl) fun a S => ?_
  refine sMove (iv s7) S (wN rfl) (.inl rfl) rfl rfl (lb rfl) fun a S => ?_
  obtain ⟨x17, hx18, h⟩ := bindSome h
  obtain ⟨q19, hq20, S⟩ := pIdx (P := Try.prog) (r := (rI .i64)) (v := .slice ad1 p0.length cp2) (xs := p0) (j := s7) 35 3 1 S Try.underlying35 rfl rfl hx18
  refine sIdxV (v := .slice ad1 p0.length cp2) (k := .i64) (j := s7) S (wN rfl) rfl rfl rfl hq20 rfl (lb rfl) fun a S => ?_
  obtain ⟨u21, S⟩ := pLoad (r := (rI .i64)) (q := q19) (x := x17) 0 S rfl
  obtain rfl : u21 = iv x17 := S.mem.know (i := 1) (e := fRep (rI .i64) (u21) x17) rfl
  refine sLoadV1 (vq := q19) 0 (iv x17) S (wN rfl) rfl rfl rfl rfl rfl (lb rfl) fun a S => ?_
  obtain ⟨r22, hx23, h⟩ := bindSome h
  have S1 := S.mem
  refine sCallVQ (X := Unit) (g := 72) (vs := [iv x17]) (caps := [v1]) (val := fun _ => .bool r22) S (wN rfl) rfl rfl callee72 rfl (S1.quiet [3] rfl) (fun E1 w1 S1 => c_block_index_1_s0 E1 w1 x17 p1 v1 r22 hx23 S1) rfl (lb rfl) fun _ a w S => ?_
  refine leafL (leafT (hK16 _ _ ?_))
  rcases iteSome h with ⟨hc24, h⟩ | ⟨hc24, h⟩
  rotate_left
  · refine sCondF S rfl hc24 ?_
    refine wp_skip (leafB (leafT (hK14 _ _ ?_)))
    refine sRegion ?_
    refine sBin (iv (w64 (s7 + 1))) S (wN rfl) rfl rfl rfl (bAdd _ _ _ _ s7 1) rfl (lb rfl) fun a S => ?_
    refine sMove (iv (w64 (s7 + 1))) S (wN rfl) (.inl rfl) rfl rfl (lb rfl) fun a S => ?_
    exact leafL (leafT (⟨w64 (s7 + 1), (Option.some.inj h).symm, (S.fix [] [3, 4] (by decide) rfl rfl rfl)⟩))
  refine sCondT S rfl hc24 ?_
  refine sSeq (fun K25 hK25 => ?_)
  refine sRegion ?_
  refine sMove (iv s7) S (wN rfl) (.inl rfl) rfl rfl (lb rfl) fun a S => ?_
  refine sMove (iv s7) S (wN rfl) (.inr rfl) rfl rfl (lb rfl) fun a S => ?_
  refine leafL (leafT (hK25 _ _ ?_))
  obtain rfl := Option.some.inj h
  obtain rfl := hu8 _ rfl
  have h := g9
  clear g9
  try dsimp only at h
  obtain rfl := Option.some.inj h
  have h := g5
  clear g5
  try dsimp only at h
  obtain rfl := Option.some.inj h
  exact wp_ret (rBlock (rThen (rThen (rBlock (rThen (sRet (iv s7) S (rsl1 rfl (rvT (t := 4) (v := iv s7) S rfl)) ⟨(), rfl, S.mem.sel [] [] (by decide) rfl rfl⟩))))))

end Go.Proofs.Ythfifeabomdlpaa
namespace Go.Proofs.Ythfifeabomdlpaa
open Go.RowKit
set_option linter.unusedVariables false

noncomputable def F_slices_ContainsFunc___int_int__s0 (p0 : (List Int)) (p1 : Int) : Option Bool :=
  Option.bind (F_slices_IndexFunc___int_int__s0 p0 p1) fun r5 =>
  some (decide (0 ≤ r5))
set_option maxHeartbeats 4000000 in
set_option maxRecDepth 100000 in
theorem c_slices_ContainsFunc___int_int__s0 (E : Nat → Prop) (w0 : World) (p0 : (List Int)) (v0 : Value) (p1 : Int) (v1 : Value) (r : Bool) (h : F_slices_ContainsFunc___int_int__s0 p0 p1 = some r) (S : St0 E [] w0 w0 [] [fRep (rL (rI .i64)) (v0) p0, fPtr (rI .i64) (v1) p1]) :
    Calls Try.prog 71 #[v0, .func (.func 72) #[] #[v1]] w0 (Ret (X := Unit) E [] w0 (fun _ => .bool r) (fun _ => []) (fun _ => [])) := by
  unfold F_slices_ContainsFunc___int_int__s0 at h
  obtain ⟨ad1, cp2, _, rfl, _⟩ := S.know (i := 0) (e := fRep (rL (rI .i64)) (v0) p0) rfl
  refine sEnter (args := [.slice ad1 p0.length cp2, .func (.func 72) #[] #[v1]]) 9 Try.func71 rfl rfl (by simp) S (fun a S => ?_)
  refine sSeq (fun K3 hK3 => ?_)
  refine sRegion ?_
  refine sMove (.bool false) S (wN rfl) (.inr rfl) rfl rfl (lb rfl) fun a S => ?_
  refine leafL (leafT (hK3 _ _ ?_))
  refine sSeq (fun K4 hK4 => ?_)
  refine sRegion ?_
  refine sMove (.slice ad1 p0.length cp2) S (wN rfl) (.inl rfl) rfl rfl (lb rfl) fun a S => ?_
  refine sMove (.func (.func 72) #[] #[v1]) S (wN rfl) (.inl rfl) rfl rfl (lb rfl) fun a S => ?_
  obtain ⟨r5, hx6, h⟩ := bindSome h
  have S1 := S.mem
  refine sCallQ (X := Unit) (f := 77) (vs := [.slice ad1 p0.length cp2, .func (.func 72) #[] #[v1]]) (val := fun _ => iv r5) S (wN rfl) rfl callee77 rfl (S1.quiet [0, 1] rfl) (fun E1 w1 S1 => c_slices_IndexFunc___int_int__s0 E1 w1 p0 (.slice ad1 p0.length cp2) p1 v1 r5 hx6 S1) rfl (lb rfl) fun _ a w S => ?_
  refine sBin (.bool (decide (0 ≤ r5))) S (wN rfl) rfl rfl rfl (bGe _ _ _ _ .i64 r5 0) rfl (lb rfl) fun a S => ?_
  refine sMove (.bool (decide (0 ≤ r5))) S (wN rfl) (.inr rfl) rfl rfl (lb rfl) fun a S => ?_
  refine leafL (leafT (hK4 _ _ ?_))
  obtain rfl := Option.some.inj h
  exact wp_ret (sRet (.bool (decide (0 ≤ r5))) S (rsl1 rfl (rvT (t := 4) (v := .bool (decide (0 ≤ r5))) S rfl)) ⟨(), rfl, S.mem.sel [] [] (by decide) rfl rfl⟩)

end Go.Proofs.Ythfifeabomdlpaa
namespace Go.Proofs.Ythfifeabomdlpaa
open Go.RowKit
set_option linter.unusedVariables false

noncomputable def F_block_index (p0 : (List Int)) (p1 : Int) : Option Bool :=
  Option.bind (F_slices_ContainsFunc___int_int__s0 p0 p1) fun r6 =>
  some (!r6)
set_option maxHeartbeats 4000000 in
set_option maxRecDepth 100000 in
theorem c_block_index (E : Nat → Prop) (w0 : World) (p0 : (List Int)) (v0 : Value) (p1 : Int) (r : Bool) (h : F_block_index p0 p1 = some r) (S : St0 E [] w0 w0 [] [fRep (rL (rI .i64)) (v0) p0]) :
    Calls Try.prog 56 #[v0, iv p1] w0 (Ret (X := Unit) E [] w0 (fun _ => .bool r) (fun _ => []) (fun _ => [])) := by
  unfold F_block_index at h
  obtain ⟨ad1, cp2, _, rfl, _⟩ := S.know (i := 0) (e := fRep (rL (rI .i64)) (v0) p0) rfl
  refine sEnter (args := [.slice ad1 p0.length cp2, iv p1]) 9 Try.func56 rfl rfl (by simp) S (fun a S => ?_)
  refine sSeq (fun K3 hK3 => ?_)
  refine sRegion ?_
  refine sBox (v := iv p1) S (wN rfl) rfl rfl [iv p1] rfl rfl (lb rfl) fun a b4 w S => ?_
  refine sMove (.bool false) S (wN rfl) (.inr rfl) rfl rfl (lb rfl) fun a S => ?_
  refine leafL (leafT (hK3 _ _ ?_))
  refine sSeq (fun K5 hK5 => ?_)
  refine sRegion ?_
  refine sMove (.slice ad1 p0.length cp2) S (wN rfl) (.inl rfl) rfl rfl (lb rfl) fun a S => ?_
  refine sFunc (g := 72) (vs := [.pointer (some ⟨b4, 0, none⟩)]) S (wN rfl) rfl rfl rfl (lb rfl) fun a S => ?_
  obtain ⟨r6, hx7, h⟩ := bindSome h
  have S1 := S.mem
  have S1 := S1.shutB (r := (rI .i64)) (T := 3) (b := b4) (cs := [iv p1]) 0 (iv p1) p1 rfl rfl (rfl)
  refine sCallQ (X := Unit) (f := 71) (vs := [.slice ad1 p0.length cp2, .func (.func 72) #[] #[.pointer (some ⟨b4, 0, none⟩)]]) (val := fun _ => .bool r6) S (wN rfl) rfl callee71 rfl (S1.quiet [1, 0] rfl) (fun E1 w1 S1 => c_slices_ContainsFunc___int_int__s0 E1 w1 p0 (.slice ad1 p0.length cp2) p1 (.pointer (some ⟨b4, 0, none⟩)) r6 hx7 S1) rfl (lb rfl) fun _ a w S => ?_
  refine sNot (b := r6) S (wN rfl) rfl rfl rfl (lb rfl) fun a S => ?_
  refine sMove (.bool (!r6)) S (wN rfl) (.inr rfl) rfl rfl (lb rfl) fun a S => ?_
  refine leafL (leafT (hK5 _ _ ?_))
  obtain rfl := Option.some.inj h
  exact wp_ret (sRet (.bool (!r6)) S (rsl1 rfl (rvT (t := 4) (v := .bool (!r6)) S rfl)) ⟨(), rfl, S.mem.sel [] [] (by decide) rfl rfl⟩)

end Go.Proofs.Ythfifeabomdlpaa
namespace Go.Proofs.Ythfifeabomdlpaa
open Go.RowKit
set_option linter.unusedVariables false

noncomputable def thread_check_l1 (x17 : (List Int)) : Int → Option (Int ⊕ (Int ⊕ Unit)) := fun s0 => match s0 with
  | s29 =>
    if decide (s29 < (x17.length : Int)) then
      Option.bind (idxO x17 s29) fun x38 =>
      Option.bind (α := Bool) (
        if decide (x38 < 0) then
          some true
        else
          some (decide (400 ≤ x38))) fun o43 =>
      if o43 then
        some (.inr (.inl 8))
      else
        some (.inl (w64 (s29 + 1)))
    else
      some (.inr (.inr ()))
noncomputable def thread_check_l2 (p0 : (List (List Int))) : Int → Option (Int ⊕ (Int ⊕ Unit)) := fun s0 => match s0 with
  | s7 =>
    if decide (s7 < (p0.length : Int)) then
      Option.bind (α := Unit ⊕ Int) (
        Option.bind (idxO p0 s7) fun x17 =>
        if decide (400 < (x17.length : Int)) then
          some (.inr 4)
        else
          Option.bind (whileO (thread_check_l1 x17) 0) fun z0 => match z0 with
            | .inl z =>
              some (.inr z)
            | .inr _ =>
              some (.inl ())) fun z0 => match z0 with
        | .inl _ =>
          some (.inl (w64 (s7 + 1)))
        | .inr z =>
          some (.inr (.inl z))
    else
      some (.inr (.inr ()))
noncomputable def F_thread_check (p0 : (List (List Int))) : Option Int :=
  Option.bind (α := Unit ⊕ Int) (
    Option.bind (whileO (thread_check_l2 p0) 0) fun z0 => match z0 with
      | .inl z =>
        some (.inr z)
      | .inr _ =>
        some (.inl ())) fun z0 => match z0 with
    | .inl _ =>
      some 0
    | .inr z =>
      some z
set_option maxHeartbeats 4000000 in
set_option maxRecDepth 100000 in
theorem c_thread_check (E : Nat → Prop) (w0 : World) (p0 : (List (List Int))) (v0 : Value) (r : Int) (h : F_thread_check p0 = some r) (S : St0 E [] w0 w0 [] [fRep (rL (rL (rI .i64))) (v0) p0]) :
    Calls Try.prog 73 #[v0] w0 (Ret (X := Unit) E [] w0 (fun _ => .int .i64 r) (fun _ => []) (fun _ => [])) := by
  unfold F_thread_check at h
  obtain ⟨ad1, cp2, _, rfl, _⟩ := S.know (i := 0) (e := fRep (rL (rL (rI .i64))) (v0) p0) rfl
  refine sEnter (args := [.slice ad1 p0.length cp2]) 30 Try.func73 rfl rfl (by simp) S (fun a S => ?_)
  refine sSeq (fun K3 hK3 => ?_)
  refine sRegion ?_
  refine sMove (iv 0) S (wN rfl) (.inr rfl) rfl rfl (lb rfl) fun a S => ?_
  refine leafL (leafT (hK3 _ _ ?_))
  obtain ⟨t4, h, g5⟩ := bindSome h
  refine sCut (fun a w => .inl () = t4 ∧ St [] E [] w0 30 a w [] [] []) ?_ (fun a w hI => ?_)
  rotate_left
  · obtain ⟨rfl, S⟩ := hI
    have h := g5
    clear g5
    try dsimp only at h
    refine sSeq (fun K49 hK49 => ?_)
    refine sRegion ?_
    refine sMove (iv 0) S (wN rfl) (.inr rfl) rfl rfl (lb rfl) fun a S => ?_
    refine leafL (leafT (hK49 _ _ ?_))
    obtain rfl := Option.some.inj h
    exact wp_ret (sRet (iv 0) S (rsl1 rfl (rvT (t := 2) (v := iv 0) S rfl)) ⟨(), rfl, S.mem.sel [] [] (by decide) rfl rfl⟩)
  refine sSeq (fun K6 hK6 => ?_)
  refine sRegion ?_
  refine sMove (.slice ad1 p0.length cp2) S (wN rfl) (.inl rfl) rfl rfl (lb rfl) fun a S => ?_
  refine sLen (ad := ad1) (m := p0.length) (c := cp2) S (wN rfl) rfl Try.underlying46 rfl rfl (lb rfl) fun a S => ?_
  refine sMove (iv 0) S (wN rfl) (.inl rfl) rfl rfl (lb rfl) fun a S => ?_
  refine leafL (leafT (hK6 _ _ ?_))
  refine wp_block ?_
  obtain ⟨t10, hl, g9⟩ := bindSome h
  refine sLoop hl (fun s0 a w => match s0 with | s7 => St [] E [] w0 30 a w [(7, .slice ad1 p0.length cp2), (8, iv (p0.length : Int)), (9, iv s7)] [] [fRep (rL (rL (rI .i64))) (.slice ad1 p0.length cp2) p0]) (S.fix [] [0] (by decide) rfl rfl rfl) ?_
  clear hl h
  intro s7 a w c0 hI h hu8
  unfold thread_check_l2 at h
  dsimp only at h hI
  have S := hI
  refine sSeq (fun K11 hK11 => ?_)
  refine sRegion ?_
  refine sBin (.bool (decide (s7 < (p0.length : Int)))) S (wN rfl) rfl rfl rfl (bLt _ _ _ _ .i64 s7 (p0.length : Int)) rfl (lb rfl) fun a S => ?_
  refine leafL (leafT (hK11 _ _ ?_))
  refine sSeq (fun K12 hK12 => ?_)
  rcases iteSome h with ⟨hc13, h⟩ | ⟨hc13, h⟩
  rotate_left
  · refine sCondF S rfl hc13 ?_
    obtain rfl := Option.some.inj h
    obtain rfl := hu8 _ rfl
    have h := g9
    clear g9
    try dsimp only at h
    exact wp_exit (xThen (xThen (xHit (leafT (⟨Option.some.inj h, S.fix [] [] (by decide) rfl rfl rfl⟩)))))
  refine sCondT S rfl hc13 ?_
  refine wp_skip (leafT (hK12 _ _ ?_))
  obtain ⟨t14, h, g15⟩ := bindSome h
  refine sCut (fun a w => .inl () = t14 ∧ St [] E [] w0 30 a w [(7, .slice ad1 p0.length cp2), (8, iv (p0.length : Int)), (9, iv s7)] [] [fRep (rL (rL (rI .i64))) (.slice ad1 p0.length cp2) p0]) ?_ (fun a w hI => ?_)
  rotate_left
  · obtain ⟨rfl, S⟩ := hI
    have h := g15
    clear g15
    try dsimp only at h
    refine sRegion ?_
    refine sBin (iv (w64 (s7 + 1))) S (wN rfl) rfl rfl rfl (bAdd _ _ _ _ s7 1) rfl (lb rfl) fun a S => ?_
    refine sMove (iv (w64 (s7 + 1))) S (wN rfl) (.inl rfl) rfl rfl (lb rfl) fun a S => ?_
    exact leafL (leafT (⟨w64 (s7 + 1), (Option.some.inj h).symm, (S.fix [] [0] (by decide) rfl rfl rfl)⟩))
  refine wp_block ?_
  refine sSeq (fun K16 hK16 => ?_)
  refine sRegion ?_
  obtain ⟨x17, hx18, h⟩ := bindSome h
  obtain ⟨q19, hq20, S⟩ := pIdx (P := Try.prog) (r := (rL (rI .i64))) (v := .slice ad1 p0.length cp2) (xs := p0) (j := s7) 46 35 0 S Try.underlying46 rfl rfl hx18
  refine sIdxV (v := .slice ad1 p0.length cp2) (k := .i64) (j := s7) S (wN rfl) rfl rfl rfl hq20 rfl (lb rfl) fun a S => ?_
  obtain ⟨u21, S⟩ := pLoad (r := (rL (rI .i64))) (q := q19) (x := x17) 0 S rfl
  obtain ⟨ad22, cp23, _, rfl, _⟩ := S.mem.know (i := 1) (e := fRep (rL (rI .i64)) (u21) x17) rfl
  refine sLoadV1 (vq := q19) 0 (.slice ad22 x17.length cp23) S (wN rfl) rfl rfl rfl rfl rfl (lb rfl) fun a S => ?_
  refine sMove (.slice ad22 x17.length cp23) S (wN rfl) (.inr rfl) rfl rfl (lb rfl) fun a S => ?_
  refine leafL (leafT (hK16 _ _ ?_))
  refine sSeq (fun K24 hK24 => ?_)
  refine sSeq (fun K25 hK25 => ?_)
  refine sRegion ?_
  refine sMove (.slice ad22 x17.length cp23) S (wN rfl) (.inl rfl) rfl rfl (lb rfl) fun a S => ?_
  refine sLen (ad := ad22) (m := x17.length) (c := cp23) S (wN rfl) rfl Try.underlying35 rfl rfl (lb rfl) fun a S => ?_
  refine sBin (.bool (decide (400 < (x17.length : Int)))) S (wN rfl) rfl rfl rfl (bGt _ _ _ _ .i64 (x17.length : Int) 400) rfl (lb rfl) fun a S => ?_
  refine leafL (leafT (hK25 _ _ ?_))
  rcases iteSome h with ⟨hc26, h⟩ | ⟨hc26, h⟩
  · refine sCondT S rfl hc26 ?_
    refine sSeq (fun K27 hK27 => ?_)
    refine sRegion ?_
    refine sMove (iv 4) S (wN rfl) (.inr rfl) rfl rfl (lb rfl) fun a S => ?_
    refine leafL (leafT (hK27 _ _ ?_))
    obtain rfl := Option.some.inj h
    have h := g15
    clear g15
    try dsimp only at h
    obtain rfl := Option.some.inj h
    obtain rfl := hu8 _ rfl
    have h := g9
    clear g9
    try dsimp only at h
    obtain rfl := Option.some.inj h
    have h := g5
    clear g5
    try dsimp only at h
    obtain rfl := Option.some.inj h
    exact wp_ret (rThen (rBlock (rThen (rThen (rBlock (rThen (sRet (iv 4) S (rsl1 rfl (rvT (t := 2) (v := iv 4) S rfl)) ⟨(), rfl, S.mem.sel [] [] (by decide) rfl rfl⟩)))))))
  refine sCondF S rfl hc26 ?_
  refine wp_skip (leafT (hK24 _ _ ?_))
  refine sSeq (fun K28 hK28 => ?_)
  refine sRegion ?_
  refine sMove (.slice ad22 x17.length cp23) S (wN rfl) (.inl rfl) rfl rfl (lb rfl) fun a S => ?_
  refine sLen (ad := ad22) (m := x17.length) (c := cp23) S (wN rfl) rfl Try.underlying35 rfl rfl (lb rfl) fun a S => ?_
  refine sMove (iv 0) S (wN rfl) (.inl rfl) rfl rfl (lb rfl) fun a S => ?_
  refine leafL (leafT (hK28 _ _ ?_))
  refine wp_block ?_
  obtain ⟨t32, hl, g31⟩ := bindSome h
  refine sLoop hl (fun s0 a w => match s0 with | s29 => St [] E [] w0 30 a w [(7, .slice ad1 p0.length cp2), (8, iv (p0.length : Int)), (9, iv s7), (16, .slice ad22 x17.length cp23), (17, iv (x17.length : Int)), (18, iv s29)] [] [fRep (rL (rL (rI .i64))) (.slice ad1 p0.length cp2) p0, fRep (rL (rI .i64)) (.slice ad22 x17.length cp23) x17]) (S.fix [] [3, 1] (by decide) rfl rfl rfl) ?_
  clear hl h
  intro s29 a w c0 hI h hu30
  unfold thread_check_l1 at h
  dsimp only at h hI
  have S := hI
  refine sSeq (fun K33 hK33 => ?_)
  refine sRegion ?_
  refine sBin (.bool (decide (s29 < (x17.length : Int)))) S (wN rfl) rfl rfl rfl (bLt _ _ _ _ .i64 s29 (x17.length : Int)) rfl (lb rfl) fun a S => ?_
  refine leafL (leafT (hK33 _ _ ?_))
  refine sSeq (fun K34 hK34 => ?_)
  rcases iteSome h with ⟨hc35, h⟩ | ⟨hc35, h⟩
  rotate_left
  · refine sCondF S rfl hc35 ?_
    obtain rfl := Option.some.inj h
    obtain rfl := hu30 _ rfl
    have h := g31
    clear g31
    try dsimp only at h
    exact wp_exit (xThen (xThen (xHit (leafB (leafT (⟨Option.some.inj h, S.fix [] [0] (by decide) rfl rfl rfl⟩))))))
  refine sCondT S rfl hc35 ?_
  refine wp_skip (leafT (hK34 _ _ ?_))
  refine sSeq (fun K36 hK36 => ?_)
  refine wp_block ?_
  refine sSeq (fun K37 hK37 => ?_)
  refine sRegion ?_
  obtain ⟨x38, hx39, h⟩ := bindSome h
  obtain ⟨q40, hq41, S⟩ := pIdx (P := Try.prog) (r := (rI .i64)) (v := .slice ad22 x17.length cp23) (xs := x17) (j := s29) 35 3 1 S Try.underlying35 rfl rfl hx39
  refine sIdxV (v := .slice ad22 x17.length cp23) (k := .i64) (j := s29) S (wN rfl) rfl rfl rfl hq41 rfl (lb rfl) fun a S => ?_
  obtain ⟨u42, S⟩ := pLoad (r := (rI .i64)) (q := q40) (x := x38) 0 S rfl
  obtain rfl : u42 = iv x38 := S.mem.know (i := 1) (e := fRep (rI .i64) (u42) x38) rfl
  refine sLoadV1 (vq := q40) 0 (iv x38) S (wN rfl) rfl rfl rfl rfl rfl (lb rfl) fun a S => ?_
  refine sMove (iv x38) S (wN rfl) (.inr rfl) rfl rfl (lb rfl) fun a S => ?_
  refine leafL (leafT (hK37 _ _ ?_))
  obtain ⟨t44, h, g45⟩ := bindSome h
  refine sCut (fun a w => ∃ o43, o43 = t44 ∧ St [] E [] w0 30 a w [(7, .slice ad1 p0.length cp2), (8, iv (p0.length : Int)), (9, iv s7), (16, .slice ad22 x17.length cp23), (17, iv (x17.length : Int)), (18, iv s29), (27, .bool o43)] [] [fRep (rL (rL (rI .i64))) (.slice ad1 p0.length cp2) p0, fRep (rL (rI .i64)) (.slice ad22 x17.length cp23) x17]) ?_ (fun a w hI => ?_)
  · refine sRegion ?_
    refine sMove (iv x38) S (wN rfl) (.inl rfl) rfl rfl (lb rfl) fun a S => ?_
    refine sBin (.bool (decide (x38 < 0))) S (wN rfl) rfl rfl rfl (bLt _ _ _ _ .i64 x38 0) rfl (lb rfl) fun a S => ?_
    refine sMove (.bool (decide (x38 < 0))) S (wN rfl) (.inl rfl) rfl rfl (lb rfl) fun a S => ?_
    rcases iteSome h with ⟨hc46, h⟩ | ⟨hc46, h⟩
    · refine sSkip 2 false 24 25 S rfl rfl rfl hc46 rfl (lb rfl) fun a S => ?_
      refine sSkip 2 false 24 26 S rfl rfl rfl hc46 rfl (lb rfl) fun a S => ?_
      refine sPickT (.bool true) S (wN rfl) rfl rfl hc46 rfl rfl (lb rfl) fun a S => ?_
      exact leafL (leafT (⟨true, Option.some.inj h, S.fix [] [3, 4] (by decide) rfl rfl rfl⟩))
    refine sMove (iv x38) S (wG 2 false 24 rfl rfl rfl hc46) (.inl rfl) rfl rfl (lb rfl) fun a S => ?_
    refine sBin (.bool (decide (400 ≤ x38))) S (wG 2 false 24 rfl rfl rfl hc46) rfl rfl rfl (bGe _ _ _ _ .i64 x38 400) rfl (lb rfl) fun a S => ?_
    refine sPickF (.bool (decide (400 ≤ x38))) S (wN rfl) rfl rfl hc46 rfl rfl (lb rfl) fun a S => ?_
    exact leafL (leafT (⟨decide (400 ≤ x38), Option.some.inj h, S.fix [] [3, 4] (by decide) rfl rfl rfl⟩))
  obtain ⟨o43, rfl, S⟩ := hI
  have h := g45
  clear g45
  try dsimp only at h
  rcases iteSome h with ⟨hc47, h⟩ | ⟨hc47, h⟩
  rotate_left
  · refine sCondF S rfl hc47 ?_
    refine wp_skip (leafB (leafT (hK36 _ _ ?_)))
    refine sRegion ?_
    refine sBin (iv (w64 (s29 + 1))) S (wN rfl) rfl rfl rfl (bAdd _ _ _ _ s29 1) rfl (lb rfl) fun a S => ?_
    refine sMove (iv (w64 (s29 + 1))) S (wN rfl) (.inl rfl) rfl rfl (lb rfl) fun a S => ?_
    exact leafL (leafT (⟨w64 (s29 + 1), (Option.some.inj h).symm, (S.fix [] [0, 1] (by decide) rfl rfl rfl)⟩))
  refine sCondT S rfl hc47 ?_
  refine sSeq (fun K48 hK48 => ?_)
  refine sRegion ?_
  refine sMove (iv 8) S (wN rfl) (.inr rfl) rfl rfl (lb rfl) fun a S => ?_
  refine leafL (leafT (hK48 _ _ ?_))
  obtain rfl := Option.some.inj h
  obtain rfl := hu30 _ rfl
  have h := g31
  clear g31
  try dsimp only at h
  obtain rfl := Option.some.inj h
  have h := g15
  clear g15
  try dsimp only at h
  obtain rfl := Option.some.inj h
  obtain rfl := hu8 _ rfl
  have h := g9
  clear g9
  try dsimp only at h
  obtain rfl := Option.some.inj h
  have h := g5
  clear g5
  try dsimp only at h
  obtain rfl := Option.some.inj h
  exact wp_ret (rBlock (rThen (rThen (rBlock (rBlock (rThen (rThen (rBlock (rThen (sRet (iv 8) S (rsl1 rfl (rvT (t := 2) (v := iv 8) S rfl)) ⟨(), rfl, S.mem.sel [] [] (by decide) rfl rfl⟩))))))))))

end Go.Proofs.Ythfifeabomdlpaa
namespace Go.Proofs.Ythfifeabomdlpaa
open Go.RowKit
set_option linter.unusedVariables false

noncomputable def F_thread_Check (p0 : (List Int)) : Option Int :=
  Option.bind (F_thread_check [p0]) fun r7 =>
  some r7
set_option maxHeartbeats 4000000 in
set_option maxRecDepth 100000 in
theorem c_thread_Check (E : Nat → Prop) (w0 : World) (p0 : (List Int)) (v0 : Value) (r : Int) (h : F_thread_Check p0 = some r) (S : St0 E [] w0 w0 [] [fRep (rL (rI .i64)) (v0) p0]) :
    Calls Try.prog 57 #[v0] w0 (Ret (X := Unit) E [] w0 (fun _ => .int .i64 r) (fun _ => []) (fun _ => [])) := by
  unfold F_thread_Check at h
  obtain ⟨ad1, cp2, _, rfl, _⟩ := S.know (i := 0) (e := fRep (rL (rI .i64)) (v0) p0) rfl
  refine sEnter (args := [.slice ad1 p0.length cp2]) 6 Try.func57 rfl rfl (by simp) S (fun a S => ?_)
  refine sSeq (fun K3 hK3 => ?_)
  refine sRegion ?_
  refine sMove (iv 0) S (wN rfl) (.inr rfl) rfl rfl (lb rfl) fun a S => ?_
  refine leafL (leafT (hK3 _ _ ?_))
  refine sSeq (fun K4 hK4 => ?_)
  refine sRegion ?_
  refine sMove (.slice ad1 p0.length cp2) S (wN rfl) (.inl rfl) rfl rfl (lb rfl) fun a S => ?_
  refine sLit (r := (rL (rI .i64))) (T := 35) (xs := [p0]) [(0, .slice ad1 p0.length cp2)] 1 [.slice ad1 p0.length cp2] [.slice ad1 p0.length cp2] (.slice none 0 0) 24 S (wN rfl) rfl rfl Try.underlying46 rfl (by decide) (by decide) (by kernel_rfl) rfl (fun E1 w1 hE => All.cons ((rL (rI .i64)).mono hE (S.mem.know (i := 0) (e := fRep (rL (rI .i64)) (.slice ad1 p0.length cp2) p0) rfl)) (All.nil _ _ _)) rfl rfl (lb rfl) fun a w ad5 cp6 S => ?_
  obtain ⟨r7, hx8, h⟩ := bindSome h
  have S1 := S.mem
  have S1 := S1.shutR (r := (rL (rI .i64))) (T := 35) (v := .slice ad5 [p0].length cp6) (xs := [p0]) 0 rfl
  refine sCallQ (X := Unit) (f := 73) (vs := [.slice ad5 [p0].length cp6]) (val := fun _ => iv r7) S (wN rfl) rfl callee73 rfl (S1.quiet [0] rfl) (fun E1 w1 S1 => c_thread_check E1 w1 [p0] (.slice ad5 [p0].length cp6) r7 hx8 S1) rfl (lb rfl) fun _ a w S => ?_
  refine sMove (iv r7) S (wN rfl) (.inr rfl) rfl rfl (lb rfl) fun a S => ?_
  refine leafL (leafT (hK4 _ _ ?_))
  obtain rfl := Option.some.inj h
  exact wp_ret (sRet (iv r7) S (rsl1 rfl (rvT (t := 2) (v := iv r7) S rfl)) ⟨(), rfl, S.mem.sel [] [] (by decide) rfl rfl⟩)

end Go.Proofs.Ythfifeabomdlpaa
namespace Go.Proofs.Ythfifeabomdlpaa
open Go.RowKit
set_option linter.unusedVariables false

noncomputable def F_block_spelled_1_s0 (p0 : (List Int)) (p1 : (List (List Int))) : Option Bool :=
  Option.bind (idxO p1 0) fun x8 =>
  some ((p0.length : Int) != (x8.length : Int))
set_option maxHeartbeats 4000000 in
set_option maxRecDepth 100000 in
theorem c_block_spelled_1_s0 (E : Nat → Prop) (w0 : World) (p0 : (List Int)) (v0 : Value) (p1 : (List (List Int))) (v1 : Value) (r : Bool) (h : F_block_spelled_1_s0 p0 p1 = some r) (S : St0 E [] w0 w0 [] [fRep (rL (rI .i64)) (v0) p0, fPtr (rL (rL (rI .i64))) (v1) p1]) :
    Calls Try.prog 75 #[v0, v1] w0 (Ret (X := Unit) E [] w0 (fun _ => .bool r) (fun _ => []) (fun _ => [])) := by
  unfold F_block_spelled_1_s0 at h
  obtain ⟨ad1, cp2, _, rfl, _⟩ := S.know (i := 0) (e := fRep (rL (rI .i64)) (v0) p0) rfl
  refine sEnter (args := [.slice ad1 p0.length cp2, v1]) 11 Try.func75 rfl rfl (by simp) S (fun a S => ?_)
  refine sSeq (fun K3 hK3 => ?_)
  refine sRegion ?_
  refine sMove (.bool false) S (wN rfl) (.inr rfl) rfl rfl (lb rfl) fun a S => ?_
  refine leafL (leafT (hK3 _ _ ?_))
  refine sSeq (fun K4 hK4 => ?_)
  refine sRegion ?_
  refine sMove (.slice ad1 p0.length cp2) S (wN rfl) (.inl rfl) rfl rfl (lb rfl) fun a S => ?_
  refine sLen (ad := ad1) (m := p0.length) (c := cp2) S (wN rfl) rfl Try.underlying35 rfl rfl (lb rfl) fun a S => ?_
  obtain ⟨u5, S⟩ := pLoad (r := (rL (rL (rI .i64)))) (q := v1) (x := p1) 1 S rfl
  obtain ⟨ad6, cp7, _, rfl, _⟩ := S.mem.know (i := 1) (e := fRep (rL (rL (rI .i64))) (u5) p1) rfl
  refine sLoadV1 (vq := v1) 0 (.slice ad6 p1.length cp7) S (wN rfl) rfl rfl rfl rfl rfl (lb rfl) fun a S => ?_
  obtain ⟨x8, hx9, h⟩ := bindSome h
  obtain ⟨q10, hq11, S⟩ := pIdx (P := Try.prog) (r := (rL (rI .i64))) (v := .slice ad6 p1.length cp7) (xs := p1) (j := 0) 46 35 1 S Try.underlying46 rfl rfl hx9
  refine sIdxV (v := .slice ad6 p1.length cp7) (k := .i64) (j := 0) S (wN rfl) rfl rfl rfl hq11 rfl (lb rfl) fun a S => ?_
  obtain ⟨u12, S⟩ := pLoad (r := (rL (rI .i64))) (q := q10) (x := x8) 0 S rfl
  obtain ⟨ad13, cp14, _, rfl, _⟩ := S.mem.know (i := 1) (e := fRep (rL (rI .i64)) (u12) x8) rfl
  refine sLoadV1 (vq := q10) 0 (.slice ad13 x8.length cp14) S (wN rfl) rfl rfl rfl rfl rfl (lb rfl) fun a S => ?_
  refine sLen (ad := ad13) (m := x8.length) (c := cp14) S (wN rfl) rfl Try.underlying35 rfl rfl (lb rfl) fun a S => ?_
  refine sBin (.bool ((p0.length : Int) != (x8.length : Int))) S (wN rfl) rfl rfl rfl (bNe _ _ _ _ .i64 (p0.length : Int) (x8.length : Int)) rfl (lb rfl) fun a S => ?_
  refine sMove (.bool ((p0.length : Int) != (x8.length : Int))) S (wN rfl) (.inr rfl) rfl rfl (lb rfl) fun a S => ?_
  refine leafL (leafT (hK4 _ _ ?_))
  obtain rfl := Option.some.inj h
  exact wp_ret (sRet (.bool ((p0.length : Int) != (x8.length : Int))) S (rsl1 rfl (rvT (t := 3) (v := .bool ((p0.length : Int) != (x8.length : Int))) S rfl)) ⟨(), rfl, S.mem.sel [] [] (by decide) rfl rfl⟩)

end Go.Proofs.Ythfifeabomdlpaa
namespace Go.Proofs.Ythfifeabomdlpaa
open Go.RowKit
set_option linter.unusedVariables false

noncomputable def slices_IndexFunc_____int___int__s0_l1 (p0 : (List (List Int))) (p1 : (List (List Int))) : Int → Option (Int ⊕ (Int ⊕ Unit)) := fun s0 => match s0 with
  | s7 =>
    if decide (s7 < (p0.length : Int)) then
      Option.bind (idxO p0 s7) fun x17 =>
      Option.bind (F_block_spelled_1_s0 x17 p1) fun r24 =>
      if r24 then
        some (.inr (.inl s7))
      else
        some (.inl (w64 (s7 + 1)))
    else
      some (.inr (.inr ()))
noncomputable def F_slices_IndexFunc_____int___int__s0 (p0 : (List (List Int))) (p1 : (List (List Int))) : Option Int :=
  Option.bind (α := Unit ⊕ Int) (
    Option.bind (whileO (slices_IndexFunc_____int___int__s0_l1 p0 p1) 0) fun z0 => match z0 with
      | .inl z =>
        some (.inr z)
      | .inr _ =>
        some (.inl ())) fun z0 => match z0 with
    | .inl _ =>
      some (-1)
    | .inr z =>
      some z
set_option maxHeartbeats 4000000 in
set_option maxRecDepth 100000 in
theorem c_slices_IndexFunc_____int___int__s0 (E : Nat → Prop) (w0 : World) (p0 : (List (List Int))) (v0 : Value) (p1 : (List (List Int))) (v1 : Value) (r : Int) (h : F_slices_IndexFunc_____int___int__s0 p0 p1 = some r) (S : St0 E [] w0 w0 [] [fRep (rL (rL (rI .i64))) (v0) p0, fPtr (rL (rL (rI .i64))) (v1) p1]) :
    Calls Try.prog 61 #[v0, .func (.func 75) #[] #[v1]] w0 (Ret (X := Unit) E [] w0 (fun _ => .int .i64 r) (fun _ => []) (fun _ => [])) := by
  unfold F_slices_IndexFunc_____int___int__s0 at h
  obtain ⟨ad1, cp2, _, rfl, _⟩ := S.know (i := 0) (e := fRep (rL (rL (rI .i64))) (v0) p0) rfl
  refine sEnter (args := [.slice ad1 p0.length cp2, .func (.func 75) #[] #[v1]]) 19 Try.func61 rfl rfl (by simp) S (fun a S => ?_)
  refine sSeq (fun K3 hK3 => ?_)
  refine sRegion ?_
  refine sMove (iv 0) S (wN rfl) (.inr rfl) rfl rfl (lb rfl) fun a S => ?_
  refine leafL (leafT (hK3 _ _ ?_))
  obtain ⟨t4, h, g5⟩ := bindSome h
  refine sCut (fun a w => .inl () = t4 ∧ St [] E [] w0 19 a w [] [] []) ?_ (fun a w hI => ?_)
  rotate_left
  · obtain ⟨rfl, S⟩ := hI
    have h := g5
    clear g5
    try dsimp only at h
    refine sSeq (fun K28 hK28 => ?_)
    refine sRegion ?_
    refine sMove (iv (-1)) S (wN rfl) (.inr rfl) rfl rfl (lb rfl) fun a S => ?_
    refine leafL (leafT (hK28 _ _ ?_))
    obtain rfl := Option.some.inj h
    exact wp_ret (sRet (iv (-1)) S (rsl1 rfl (rvT (t := 4) (v := iv (-1)) S rfl)) ⟨(), rfl, S.mem.sel [] [] (by decide) rfl rfl⟩)
  refine sSeq (fun K6 hK6 => ?_)
  refine sRegion ?_
  refine sMove (.slice ad1 p0.length cp2) S (wN rfl) (.inl rfl) rfl rfl (lb rfl) fun a S => ?_
  refine sLen (ad := ad1) (m := p0.length) (c := cp2) S (wN rfl) rfl Try.underlying46 rfl rfl (lb rfl) fun a S => ?_
  refine sMove (iv 0) S (wN rfl) (.inl rfl) rfl rfl (lb rfl) fun a S => ?_
  refine leafL (leafT (hK6 _ _ ?_))
  refine wp_block ?_
  obtain ⟨t10, hl, g9⟩ := bindSome h
  refine sLoop hl (fun s0 a w => match s0 with | s7 => St [] E [] w0 19 a w [(0, .slice ad1 p0.length cp2), (1, .func (.func 75) #[] #[v1]), (7, iv (p0.length : Int)), (8, iv s7)] [] [fPtr (rL (rL (rI .i64))) (v1) p1, fRep (rL (rL (rI .i64))) (.slice ad1 p0.length cp2) p0]) (S.fix [] [1, 0] (by decide) rfl rfl rfl) ?_
  clear hl h
  intro s7 a w c0 hI h hu8
  unfold slices_IndexFunc_____int___int__s0_l1 at h
  dsimp only at h hI
  have S := hI
  refine sSeq (fun K11 hK11 => ?_)
  refine sRegion ?_
  refine sBin (.bool (decide (s7 < (p0.length : Int)))) S (wN rfl) rfl rfl rfl (bLt _ _ _ _ .i64 s7 (p0.length : Int)) rfl (lb rfl) fun a S => ?_
  refine leafL (leafT (hK11 _ _ ?_))
  refine sSeq (fun K12 hK12 => ?_)
  rcases iteSome h with ⟨hc13, h⟩ | ⟨hc13, h⟩
  rotate_left
  · refine sCondF S rfl hc13 ?_
    obtain rfl := Option.some.inj h
    obtain rfl := hu8 _ rfl
    have h := g9
    clear g9
    try dsimp only at h
    exact wp_exit (xThen (xThen (xHit (leafT (⟨Option.some.inj h, S.fix [] [] (by decide) rfl rfl rfl⟩)))))
  refine sCondT S rfl hc13 ?_
  refine wp_skip (leafT (hK12 _ _ ?_))
  refine sSeq (fun K14 hK14 => ?_)
  refine wp_block ?_
  refine sSeq (fun K15 hK15 => ?_)
  refine sRegion ?_
  refine sMove (iv s7) S (wN rfl) (.inl rfl) rfl rfl (lb rfl) fun a S => ?_
  refine sMove (iv s7) S (wN rfl) (.inr rfl) rfl rfl (lb rfl) fun a S => ?_
  refine leafL (leafT (hK15 _ _ ?_))
  refine sSeq (fun K16 hK16 => ?_)
  refine sRegion ?_
  refine sMove (.func (.func 75) #[] #[v1]) S (wN rfl) (.inl rfl) rfl rfl (lb rfl) fun a S => ?_
  refine sMove (.slice ad1 p0.length cp2) S (wN rfl) (.inl rfl) rfl rfl (lb rfl) fun a S => ?_
  refine sMove (iv s7) S (wN rfl) (.inl rfl) rfl rfl (lb rfl) fun a S => ?_
  obtain ⟨x17, hx18, h⟩ := bindSome h
  obtain ⟨q19, hq20, S⟩ := pIdx (P := Try.prog) (r := (rL (rI .i64))) (v := .slice ad1 p0.length cp2) (xs := p0) (j := s7) 46 35 1 S Try.underlying46 rfl rfl hx18
  refine sIdxV (v := .slice ad1 p0.length cp2) (k := .i64) (j := s7) S (wN rfl) rfl rfl rfl hq20 rfl (lb rfl) fun a S => ?_
  obtain ⟨u21, S⟩ := pLoad (r := (rL (rI .i64))) (q := q19) (x := x17) 0 S rfl
  obtain ⟨ad22, cp23, _, rfl, _⟩ := S.mem.know (i := 1) (e := fRep (rL (rI .i64)) (u21) x17) rfl
  refine sLoadV1 (vq := q19) 0 (.slice ad22 x17.length cp23) S (wN rfl) rfl rfl rfl rfl rfl (lb rfl) fun a S => ?_
  obtain ⟨r24, hx25, h⟩ := bindSome h
  have S1 := S.mem
  refine sCallVQ (X := Unit) (g := 75) (vs := [.slice ad22 x17.length cp23]) (caps := [v1]) (val := fun _ => .bool r24) S (wN rfl) rfl rfl callee75 rfl (S1.quiet [1, 3] rfl) (fun E1 w1 S1 => c_block_spelled_1_s0 E1 w1 x17 (.slice ad22 x17.length cp23) p1 v1 r24 hx25 S1) rfl (lb rfl) fun _ a w S => ?_
  refine leafL (leafT (hK16 _ _ ?_))
  rcases iteSome h with ⟨hc26, h⟩ | ⟨hc26, h⟩
  rotate_left
  · refine sCondF S rfl hc26 ?_
    refine wp_skip (leafB (leafT (hK14 _ _ ?_)))
    refine sRegion ?_
    refine sBin (iv (w64 (s7 + 1))) S (wN rfl) rfl rfl rfl (bAdd _ _ _ _ s7 1) rfl (lb rfl) fun a S => ?_
    refine sMove (iv (w64 (s7 + 1))) S (wN rfl) (.inl rfl) rfl rfl (lb rfl) fun a S => ?_
    exact leafL (leafT (⟨w64 (s7 + 1), (Option.some.inj h).symm, (S.fix [] [3, 4] (by decide) rfl rfl rfl)⟩))
  refine sCondT S rfl hc26 ?_
  refine sSeq (fun K27 hK27 => ?_)
  refine sRegion ?_
  refine sMove (iv s7) S (wN rfl) (.inl rfl) rfl rfl (lb rfl) fun a S => ?_
  refine sMove (iv s7) S (wN rfl) (.inr rfl) rfl rfl (lb rfl) fun a S => ?_
  refine leafL (leafT (hK27 _ _ ?_))
  obtain rfl := Option.some.inj h
  obtain rfl := hu8 _ rfl
  have h := g9
  clear g9
  try dsimp only at h
  obtain rfl := Option.some.inj h
  have h := g5
  clear g5
  try dsimp only at h
  obtain rfl := Option.some.inj h
  exact wp_ret (rBlock (rThen (rThen (rBlock (rThen (sRet (iv s7) S (rsl1 rfl (rvT (t := 4) (v := iv s7) S rfl)) ⟨(), rfl, S.mem.sel [] [] (by decide) rfl rfl⟩))))))

end Go.Proofs.Ythfifeabomdlpaa
namespace Go.Proofs.Ythfifeabomdlpaa
open Go.RowKit
set_option linter.unusedVariables false

noncomputable def F_slices_ContainsFunc_____int___int__s0 (p0 : (List (List Int))) (p1 : (List (List Int))) : Option Bool :=
  Option.bind (F_slices_IndexFunc_____int___int__s0 p0 p1) fun r5 =>
  some (decide (0 ≤ r5))
set_option maxHeartbeats 4000000 in
set_option maxRecDepth 100000 in
theorem c_slices_ContainsFunc_____int___int__s0 (E : Nat → Prop) (w0 : World) (p0 : (List (List Int))) (v0 : Value) (p1 : (List (List Int))) (v1 : Value) (r : Bool) (h : F_slices_ContainsFunc_____int___int__s0 p0 p1 = some r) (S : St0 E [] w0 w0 [] [fRep (rL (rL (rI .i64))) (v0) p0, fPtr (rL (rL (rI .i64))) (v1) p1]) :
    Calls Try.prog 74 #[v0, .func (.func 75) #[] #[v1]] w0 (Ret (X := Unit) E [] w0 (fun _ => .bool r) (fun _ => []) (fun _ => [])) := by
  unfold F_slices_ContainsFunc_____int___int__s0 at h
  obtain ⟨ad1, cp2, _, rfl, _⟩ := S.know (i := 0) (e := fRep (rL (rL (rI .i64))) (v0) p0) rfl
  refine sEnter (args := [.slice ad1 p0.length cp2, .func (.func 75) #[] #[v1]]) 9 Try.func74 rfl rfl (by simp) S (fun a S => ?_)
  refine sSeq (fun K3 hK3 => ?_)
  refine sRegion ?_
  refine sMove (.bool false) S (wN rfl) (.inr rfl) rfl rfl (lb rfl) fun a S => ?_
  refine leafL (leafT (hK3 _ _ ?_))
  refine sSeq (fun K4 hK4 => ?_)
  refine sRegion ?_
  refine sMove (.slice ad1 p0.length cp2) S (wN rfl) (.inl rfl) rfl rfl (lb rfl) fun a S => ?_
  refine sMove (.func (.func 75) #[] #[v1]) S (wN rfl) (.inl rfl) rfl rfl (lb rfl) fun a S => ?_
  obtain ⟨r5, hx6, h⟩ := bindSome h
  have S1 := S.mem
  refine sCallQ (X := Unit) (f := 61) (vs := [.slice ad1 p0.length cp2, .func (.func 75) #[] #[v1]]) (val := fun _ => iv r5) S (wN rfl) rfl callee61 rfl (S1.quiet [0, 1] rfl) (fun E1 w1 S1 => c_slices_IndexFunc_____int___int__s0 E1 w1 p0 (.slice ad1 p0.length cp2) p1 v1 r5 hx6 S1) rfl (lb rfl) fun _ a w S => ?_
  refine sBin (.bool (decide (0 ≤ r5))) S (wN rfl) rfl rfl rfl (bGe _ _ _ _ .i64 r5 0) rfl (lb rfl) fun a S => ?_
  refine sMove (.bool (decide (0 ≤ r5))) S (wN rfl) (.inr rfl) rfl rfl (lb rfl) fun a S => ?_
  refine leafL (leafT (hK4 _ _ ?_))
  obtain rfl := Option.some.inj h
  exact wp_ret (sRet (.bool (decide (0 ≤ r5))) S (rsl1 rfl (rvT (t := 4) (v := .bool (decide (0 ≤ r5))) S rfl)) ⟨(), rfl, S.mem.sel [] [] (by decide) rfl rfl⟩)

end Go.Proofs.Ythfifeabomdlpaa
namespace Go.Proofs.Ythfifeabomdlpaa
open Go.RowKit
set_option linter.unusedVariables false

noncomputable def block_spelled_l1 (p0 : (List (List Int))) : Int → Option (Int ⊕ (Int ⊕ Unit)) := fun s0 => match s0 with
  | s15 =>
    if decide (s15 < (p0.length : Int)) then
      Option.bind (idxO p0 s15) fun x24 =>
      Option.bind (F_thread_Check x24) fun r32 =>
      if r32 != 0 then
        some (.inr (.inl r32))
      else
        some (.inl (w64 (s15 + 1)))
    else
      some (.inr (.inr ()))
noncomputable def F_block_spelled (p0 : (List (List Int))) : Option Int :=
  Option.bind (α := Bool) (
    if (p0.length : Int) == 0 then
      some true
    else
      some (decide (400 < (p0.length : Int)))) fun o6 =>
  if o6 then
    some 2
  else
    Option.bind (α := Unit ⊕ Int) (
      Option.bind (whileO (block_spelled_l1 p0) 0) fun z0 => match z0 with
        | .inl z =>
          some (.inr z)
        | .inr _ =>
          some (.inl ())) fun z0 => match z0 with
      | .inl _ =>
        Option.bind (α := Bool) (
          Option.bind (idxO p0 0) fun x41 =>
          if (x41.length : Int) == 0 then
            some true
          else
            Option.bind (F_slices_ContainsFunc_____int___int__s0 p0 p0) fun r49 =>
            some r49) fun o38 =>
        if o38 then
          some 26
        else
          some 0
      | .inr z =>
        some z
set_option maxHeartbeats 4000000 in
set_option maxRecDepth 100000 in
theorem c_block_spelled (E : Nat → Prop) (w0 : World) (p0 : (List (List Int))) (v0 : Value) (r : Int) (h : F_block_spelled p0 = some r) (S : St0 E [] w0 w0 [] [fRep (rL (rL (rI .i64))) (v0) p0]) :
    Calls Try.prog 58 #[v0] w0 (Ret (X := Unit) E [] w0 (fun _ => .int .i64 r) (fun _ => []) (fun _ => [])) := by
  unfold F_block_spelled at h
  obtain ⟨ad1, cp2, _, rfl, _⟩ := S.know (i := 0) (e := fRep (rL (rL (rI .i64))) (v0) p0) rfl
  refine sEnter (args := [.slice ad1 p0.length cp2]) 36 Try.func58 rfl rfl (by simp) S (fun a S => ?_)
  refine sSeq (fun K3 hK3 => ?_)
  refine sRegion ?_
  refine sBox (v := .slice ad1 p0.length cp2) S (wN rfl) rfl rfl [.slice ad1 p0.length cp2] rfl rfl (lb rfl) fun a b4 w S => ?_
  refine sMove (iv 0) S (wN rfl) (.inr rfl) rfl rfl (lb rfl) fun a S => ?_
  refine leafL (leafT (hK3 _ _ ?_))
  refine sSeq (fun K5 hK5 => ?_)
  obtain ⟨t7, h, g8⟩ := bindSome h
  refine sCut (fun a w => ∃ o6, o6 = t7 ∧ St [] E [] w0 36 a w [(1, .pointer (some ⟨b4, 0, none⟩)), (13, .bool o6)] [eBox b4 46 [.slice ad1 p0.length cp2]] [fRep (rL (rL (rI .i64))) (.slice ad1 p0.length cp2) p0]) ?_ (fun a w hI => ?_)
  · refine sRegion ?_
    refine sLoad1 (p := b4) (off := 0) (T := 46) (vs := [.slice ad1 p0.length cp2]) 0 (.slice ad1 p0.length cp2) S (wN rfl) rfl rfl rfl rfl rfl rfl (lb rfl) fun a S => ?_
    refine sLen (ad := ad1) (m := p0.length) (c := cp2) S (wN rfl) rfl Try.underlying46 rfl rfl (lb rfl) fun a S => ?_
    refine sBin (.bool ((p0.length : Int) == 0)) S (wN rfl) rfl rfl rfl (bEq _ _ _ _ .i64 (p0.length : Int) 0) rfl (lb rfl) fun a S => ?_
    refine sMove (.bool ((p0.length : Int) == 0)) S (wN rfl) (.inl rfl) rfl rfl (lb rfl) fun a S => ?_
    rcases iteSome h with ⟨hc9, h⟩ | ⟨hc9, h⟩
    · refine sSkip 3 false 9 10 S rfl rfl rfl hc9 rfl (lb rfl) fun a S => ?_
      refine sSkip 3 false 9 11 S rfl rfl rfl hc9 rfl (lb rfl) fun a S => ?_
      refine sSkip 3 false 9 12 S rfl rfl rfl hc9 rfl (lb rfl) fun a S => ?_
      refine sPickT (.bool true) S (wN rfl) rfl rfl hc9 rfl rfl (lb rfl) fun a S => ?_
      exact leafL (leafT (⟨true, Option.some.inj h, S.fix [0] [0] (by decide) rfl rfl rfl⟩))
    refine sLoad1 (p := b4) (off := 0) (T := 46) (vs := [.slice ad1 p0.length cp2]) 0 (.slice ad1 p0.length cp2) S (wG 3 false 9 rfl rfl rfl hc9) rfl rfl rfl rfl rfl rfl (lb rfl) fun a S => ?_
    refine sLen (ad := ad1) (m := p0.length) (c := cp2) S (wG 3 false 9 rfl rfl rfl hc9) rfl Try.underlying46 rfl rfl (lb rfl) fun a S => ?_
    refine sBin (.bool (decide (400 < (p0.length : Int)))) S (wG 3 false 9 rfl rfl rfl hc9) rfl rfl rfl (bGt _ _ _ _ .i64 (p0.length : Int) 400) rfl (lb rfl) fun a S => ?_
    refine sPickF (.bool (decide (400 < (p0.length : Int)))) S (wN rfl) rfl rfl hc9 rfl rfl (lb rfl) fun a S => ?_
    exact leafL (leafT (⟨decide (400 < (p0.length : Int)), Option.some.inj h, S.fix [0] [0] (by decide) rfl rfl rfl⟩))
  obtain ⟨o6, rfl, S⟩ := hI
  have h := g8
  clear g8
  try dsimp only at h
  rcases iteSome h with ⟨hc10, h⟩ | ⟨hc10, h⟩
  · refine sCondT S rfl hc10 ?_
    refine sSeq (fun K11 hK11 => ?_)
    refine sRegion ?_
    refine sMove (iv 2) S (wN rfl) (.inr rfl) rfl rfl (lb rfl) fun a S => ?_
    refine leafL (leafT (hK11 _ _ ?_))
    obtain rfl := Option.some.inj h
    exact wp_ret (rThen (sRet (iv 2) S (rsl1 rfl (rvT (t := 2) (v := iv 2) S rfl)) ⟨(), rfl, S.mem.sel [] [] (by decide) rfl rfl⟩))
  refine sCondF S rfl hc10 ?_
  refine wp_skip (leafT (hK5 _ _ ?_))
  obtain ⟨t12, h, g13⟩ := bindSome h
  refine sCut (fun a w => .inl () = t12 ∧ St [] E [] w0 36 a w [(1, .pointer (some ⟨b4, 0, none⟩))] [eBox b4 46 [.slice ad1 p0.length cp2]] [fRep (rL (rL (rI .i64))) (.slice ad1 p0.length cp2) p0]) ?_ (fun a w hI => ?_)
  rotate_left
  · obtain ⟨rfl, S⟩ := hI
    have h := g13
    clear g13
    try dsimp only at h
    refine sSeq (fun K37 hK37 => ?_)
    obtain ⟨t39, h, g40⟩ := bindSome h
    refine sCut (fun a w => ∃ o38, o38 = t39 ∧ St [] E [] w0 36 a w [(35, .bool o38)] [] []) ?_ (fun a w hI => ?_)
    rotate_left
    · obtain ⟨o38, rfl, S⟩ := hI
      have h := g40
      clear g40
      try dsimp only at h
      rcases iteSome h with ⟨hc51, h⟩ | ⟨hc51, h⟩
      · refine sCondT S rfl hc51 ?_
        refine sSeq (fun K52 hK52 => ?_)
        refine sRegion ?_
        refine sMove (iv 26) S (wN rfl) (.inr rfl) rfl rfl (lb rfl) fun a S => ?_
        refine leafL (leafT (hK52 _ _ ?_))
        obtain rfl := Option.some.inj h
        exact wp_ret (rThen (sRet (iv 26) S (rsl1 rfl (rvT (t := 2) (v := iv 26) S rfl)) ⟨(), rfl, S.mem.sel [] [] (by decide) rfl rfl⟩))
      refine sCondF S rfl hc51 ?_
      refine wp_skip (leafT (hK37 _ _ ?_))
      refine sSeq (fun K53 hK53 => ?_)
      refine sRegion ?_
      refine sMove (iv 0) S (wN rfl) (.inr rfl) rfl rfl (lb rfl) fun a S => ?_
      refine leafL (leafT (hK53 _ _ ?_))
      obtain rfl := Option.some.inj h
      exact wp_ret (sRet (iv 0) S (rsl1 rfl (rvT (t := 2) (v := iv 0) S rfl)) ⟨(), rfl, S.mem.sel [] [] (by decide) rfl rfl⟩)
    refine sRegion ?_
    refine sLoad1 (p := b4) (off := 0) (T := 46) (vs := [.slice ad1 p0.length cp2]) 0 (.slice ad1 p0.length cp2) S (wN rfl) rfl rfl rfl rfl rfl rfl (lb rfl) fun a S => ?_
    obtain ⟨x41, hx42, h⟩ := bindSome h
    obtain ⟨q43, hq44, S⟩ := pIdx (P := Try.prog) (r := (rL (rI .i64))) (v := .slice ad1 p0.length cp2) (xs := p0) (j := 0) 46 35 0 S Try.underlying46 rfl rfl hx42
    refine sIdxV (v := .slice ad1 p0.length cp2) (k := .i64) (j := 0) S (wN rfl) rfl rfl rfl hq44 rfl (lb rfl) fun a S => ?_
    obtain ⟨u45, S⟩ := pLoad (r := (rL (rI .i64))) (q := q43) (x := x41) 0 S rfl
    obtain ⟨ad46, cp47, _, rfl, _⟩ := S.mem.know (i := 1) (e := fRep (rL (rI .i64)) (u45) x41) rfl
    refine sLoadV1 (vq := q43) 0 (.slice ad46 x41.length cp47) S (wN rfl) rfl rfl rfl rfl rfl (lb rfl) fun a S => ?_
    refine sLen (ad := ad46) (m := x41.length) (c := cp47) S (wN rfl) rfl Try.underlying35 rfl rfl (lb rfl) fun a S => ?_
    refine sBin (.bool ((x41.length : Int) == 0)) S (wN rfl) rfl rfl rfl (bEq _ _ _ _ .i64 (x41.length : Int) 0) rfl (lb rfl) fun a S => ?_
    refine sMove (.bool ((x41.length : Int) == 0)) S (wN rfl) (.inl rfl) rfl rfl (lb rfl) fun a S => ?_
    rcases iteSome h with ⟨hc48, h⟩ | ⟨hc48, h⟩
    · refine sSkip 5 false 31 32 S rfl rfl rfl hc48 rfl (lb rfl) fun a S => ?_
      refine sSkip 5 false 31 33 S rfl rfl rfl hc48 rfl (lb rfl) fun a S => ?_
      refine sSkip 5 false 31 34 S rfl rfl rfl hc48 rfl (lb rfl) fun a S => ?_
      refine sPickT (.bool true) S (wN rfl) rfl rfl hc48 rfl rfl (lb rfl) fun a S => ?_
      exact leafL (leafT (⟨true, Option.some.inj h, S.fix [] [] (by decide) rfl rfl rfl⟩))
    refine sLoad1 (p := b4) (off := 0) (T := 46) (vs := [.slice ad1 p0.length cp2]) 0 (.slice ad1 p0.length cp2) S (wG 5 false 31 rfl rfl rfl hc48) rfl rfl rfl rfl rfl rfl (lb rfl) fun a S => ?_
    refine sFunc (g := 75) (vs := [.pointer (some ⟨b4, 0, none⟩)]) S (wG 5 false 31 rfl rfl rfl hc48) rfl rfl rfl (lb rfl) fun a S => ?_
    obtain ⟨r49, hx50, h⟩ := bindSome h
    have S1 := S.mem
    have S1 := S1.shutB (r := (rL (rL (rI .i64)))) (T := 46) (b := b4) (cs := [.slice ad1 p0.length cp2]) 0 (.slice ad1 p0.length cp2) p0 rfl rfl (S1.know (i := 3) (e := fRep (rL (rL (rI .i64))) (.slice ad1 p0.length cp2) p0) rfl)
    refine sCallQ (X := Unit) (f := 74) (vs := [.slice ad1 p0.length cp2, .func (.func 75) #[] #[.pointer (some ⟨b4, 0, none⟩)]]) (val := fun _ => .bool r49) S (wG 5 false 31 rfl rfl rfl hc48) rfl callee74 rfl (S1.quiet [4, 0] rfl) (fun E1 w1 S1 => c_slices_ContainsFunc_____int___int__s0 E1 w1 p0 (.slice ad1 p0.length cp2) p0 (.pointer (some ⟨b4, 0, none⟩)) r49 hx50 S1) rfl (lb rfl) fun _ a w S => ?_
    refine sPickF (.bool r49) S (wN rfl) rfl rfl hc48 rfl rfl (lb rfl) fun a S => ?_
    exact leafL (leafT (⟨r49, Option.some.inj h, S.fix [] [] (by decide) rfl rfl rfl⟩))
  refine sSeq (fun K14 hK14 => ?_)
  refine sRegion ?_
  refine sLoad1 (p := b4) (off := 0) (T := 46) (vs := [.slice ad1 p0.length cp2]) 0 (.slice ad1 p0.length cp2) S (wN rfl) rfl rfl rfl rfl rfl rfl (lb rfl) fun a S => ?_
  refine sLen (ad := ad1) (m := p0.length) (c := cp2) S (wN rfl) rfl Try.underlying46 rfl rfl (lb rfl) fun a S => ?_
  refine sMove (iv 0) S (wN rfl) (.inl rfl) rfl rfl (lb rfl) fun a S => ?_
  refine leafL (leafT (hK14 _ _ ?_))
  refine wp_block ?_
  obtain ⟨t18, hl, g17⟩ := bindSome h
  refine sLoop hl (fun s0 a w => match s0 with | s15 => St [] E [] w0 36 a w [(1, .pointer (some ⟨b4, 0, none⟩)), (14, .slice ad1 p0.length cp2), (15, iv (p0.length : Int)), (16, iv s15)] [eBox b4 46 [.slice ad1 p0.length cp2]] [fRep (rL (rL (rI .i64))) (.slice ad1 p0.length cp2) p0]) (S.fix [0] [0] (by decide) rfl rfl rfl) ?_
  clear hl h
  intro s15 a w c0 hI h hu16
  unfold block_spelled_l1 at h
  dsimp only at h hI
  have S := hI
  refine sSeq (fun K19 hK19 => ?_)
  refine sRegion ?_
  refine sBin (.bool (decide (s15 < (p0.length : Int)))) S (wN rfl) rfl rfl rfl (bLt _ _ _ _ .i64 s15 (p0.length : Int)) rfl (lb rfl) fun a S => ?_
  refine leafL (leafT (hK19 _ _ ?_))
  refine sSeq (fun K20 hK20 => ?_)
  rcases iteSome h with ⟨hc21, h⟩ | ⟨hc21, h⟩
  rotate_left
  · refine sCondF S rfl hc21 ?_
    obtain rfl := Option.some.inj h
    obtain rfl := hu16 _ rfl
    have h := g17
    clear g17
    try dsimp only at h
    exact wp_exit (xThen (xThen (xHit (leafT (⟨Option.some.inj h, S.fix [0] [0] (by decide) rfl rfl rfl⟩)))))
  refine sCondT S rfl hc21 ?_
  refine wp_skip (leafT (hK20 _ _ ?_))
  refine sSeq (fun K22 hK22 => ?_)
  refine wp_block ?_
  refine sSeq (fun K23 hK23 => ?_)
  refine sRegion ?_
  obtain ⟨x24, hx25, h⟩ := bindSome h
  obtain ⟨q26, hq27, S⟩ := pIdx (P := Try.prog) (r := (rL (rI .i64))) (v := .slice ad1 p0.length cp2) (xs := p0) (j := s15) 46 35 0 S Try.underlying46 rfl rfl hx25
  refine sIdxV (v := .slice ad1 p0.length cp2) (k := .i64) (j := s15) S (wN rfl) rfl rfl rfl hq27 rfl (lb rfl) fun a S => ?_
  obtain ⟨u28, S⟩ := pLoad (r := (rL (rI .i64))) (q := q26) (x := x24) 0 S rfl
  obtain ⟨ad29, cp30, _, rfl, _⟩ := S.mem.know (i := 1) (e := fRep (rL (rI .i64)) (u28) x24) rfl
  refine sLoadV1 (vq := q26) 0 (.slice ad29 x24.length cp30) S (wN rfl) rfl rfl rfl rfl rfl (lb rfl) fun a S => ?_
  refine sMove (.slice ad29 x24.length cp30) S (wN rfl) (.inr rfl) rfl rfl (lb rfl) fun a S => ?_
  refine leafL (leafT (hK23 _ _ ?_))
  refine sSeq (fun K31 hK31 => ?_)
  refine sRegion ?_
  refine sMove (.slice ad29 x24.length cp30) S (wN rfl) (.inl rfl) rfl rfl (lb rfl) fun a S => ?_
  obtain ⟨r32, hx33, h⟩ := bindSome h
  have S1 := S.mem
  refine sCallQ (X := Unit) (f := 57) (vs := [.slice ad29 x24.length cp30]) (val := fun _ => iv r32) S (wN rfl) rfl callee57 rfl (S1.quiet [1] rfl) (fun E1 w1 S1 => c_thread_Check E1 w1 x24 (.slice ad29 x24.length cp30) r32 hx33 S1) rfl (lb rfl) fun _ a w S => ?_
  refine sMove (iv r32) S (wN rfl) (.inr rfl) rfl rfl (lb rfl) fun a S => ?_
  refine leafL (leafT (hK31 _ _ ?_))
  refine sSeq (fun K34 hK34 => ?_)
  refine sRegion ?_
  refine sMove (iv r32) S (wN rfl) (.inl rfl) rfl rfl (lb rfl) fun a S => ?_
  refine sBin (.bool (r32 != 0)) S (wN rfl) rfl rfl rfl (bNe _ _ _ _ .i64 r32 0) rfl (lb rfl) fun a S => ?_
  refine leafL (leafT (hK34 _ _ ?_))
  rcases iteSome h with ⟨hc35, h⟩ | ⟨hc35, h⟩
  rotate_left
  · refine sCondF S rfl hc35 ?_
    refine wp_skip (leafB (leafT (hK22 _ _ ?_)))
    refine sRegion ?_
    refine sBin (iv (w64 (s15 + 1))) S (wN rfl) rfl rfl rfl (bAdd _ _ _ _ s15 1) rfl (lb rfl) fun a S => ?_
    refine sMove (iv (w64 (s15 + 1))) S (wN rfl) (.inl rfl) rfl rfl (lb rfl) fun a S => ?_
    exact leafL (leafT (⟨w64 (s15 + 1), (Option.some.inj h).symm, (S.fix [0] [3] (by decide) rfl rfl rfl)⟩))
  refine sCondT S rfl hc35 ?_
  refine sSeq (fun K36 hK36 => ?_)
  refine sRegion ?_
  refine sMove (iv r32) S (wN rfl) (.inl rfl) rfl rfl (lb rfl) fun a S => ?_
  refine sMove (iv r32) S (wN rfl) (.inr rfl) rfl rfl (lb rfl) fun a S => ?_
  refine leafL (leafT (hK36 _ _ ?_))
  obtain rfl := Option.some.inj h
  obtain rfl := hu16 _ rfl
  have h := g17
  clear g17
  try dsimp only at h
  obtain rfl := Option.some.inj h
  have h := g13
  clear g13
  try dsimp only at h
  obtain rfl := Option.some.inj h
  exact wp_ret (rBlock (rThen (rThen (rBlock (rThen (sRet (iv r32) S (rsl1 rfl (rvT (t := 2) (v := iv r32) S rfl)) ⟨(), rfl, S.mem.sel [] [] (by decide) rfl rfl⟩))))))

end Go.Proofs.Ythfifeabomdlpaa
namespace Go.Proofs.Ythfifeabomdlpaa
open Go.RowKit
set_option linter.unusedVariables false

noncomputable def block_Spell_l1 (p0 : (List Int)) (p1 : (List (List Int))) : (List Int × Int) → Option ((List Int × Int) ⊕ List Int) := fun s0 => match s0 with
  | (s44, s47) =>
    if decide (s47 < (p0.length : Int)) then
      Option.bind (idxO p0 s47) fun x59 =>
      Option.bind (idxO p1 x59) fun x64 =>
      Option.bind (appO s44 x64) fun l71 =>
      some (.inl (l71, w64 (s47 + 1)))
    else
      some (.inr s44)
noncomputable def F_block_Spell (p0 : (List Int)) (p1 : (List (List Int))) : Option ((List Int) × Int) :=
  Option.bind (F_thread_Check p0) fun r8 =>
  if r8 != 0 then
    some (([] : (List Int)), r8)
  else
    Option.bind (F_block_spelled p1) fun r15 =>
    if r15 != 0 then
      some (([] : (List Int)), r15)
    else
      Option.bind (F_block_index p0 (p1.length : Int)) fun r22 =>
      if !r22 then
        some (([] : (List Int)), 8)
      else
        Option.bind (idxO p1 0) fun x28 =>
        if decide (400 < (w64 ((p0.length : Int) * (x28.length : Int)))) then
          some (([] : (List Int)), 4)
        else
          Option.bind (α := List Int) (
            Option.bind (whileO (block_Spell_l1 p0 p1) (([] : List Int), 0)) fun e51 =>
              some e51) fun o38 =>
          some (o38, 0)
def c_block_Spell_val (r : ((List Int) × Int)) (x : Value) : Value := .tuple #[x, .int .i64 r.2]
def c_block_Spell_D (r : ((List Int) × Int)) (x : Value) : List Fact := [fRep (rL (rI .i64)) x r.1]
set_option maxHeartbeats 4000000 in
set_option maxRecDepth 100000 in
theorem c_block_Spell (E : Nat → Prop) (w0 : World) (p0 : (List Int)) (v0 : Value) (p1 : (List (List Int))) (v1 : Value) (r : ((List Int) × Int)) (h : F_block_Spell p0 p1 = some r) (S : St0 E [] w0 w0 [] [fRep (rL (rI .i64)) (v0) p0, fRep (rL (rL (rI .i64))) (v1) p1]) :
    Calls Try.prog 27 #[v0, v1] w0 (Ret (X := Value) E [] w0 (c_block_Spell_val r) (fun _ => []) (c_block_Spell_D r)) := by
  unfold F_block_Spell at h
  obtain ⟨ad1, cp2, _, rfl, _⟩ := S.know (i := 0) (e := fRep (rL (rI .i64)) (v0) p0) rfl
  obtain ⟨ad3, cp4, _, rfl, _⟩ := S.know (i := 1) (e := fRep (rL (rL (rI .i64))) (v1) p1) rfl
  refine sEnter (args := [.slice ad1 p0.length cp2, .slice ad3 p1.length cp4]) 48 Try.func27 rfl rfl (by simp) S (fun a S => ?_)
  refine sSeq (fun K5 hK5 => ?_)
  refine sRegion ?_
  refine sMove (.slice none 0 0) S (wN rfl) (.inr rfl) rfl rfl (lb rfl) fun a S => ?_
  refine sMove (iv 0) S (wN rfl) (.inr rfl) rfl rfl (lb rfl) fun a S => ?_
  refine leafL (leafT (hK5 _ _ ?_))
  refine sSeq (fun K6 hK6 => ?_)
  refine sSeq (fun K7 hK7 => ?_)
  refine sRegion ?_
  refine sMove (.slice ad1 p0.length cp2) S (wN rfl) (.inl rfl) rfl rfl (lb rfl) fun a S => ?_
  obtain ⟨r8, hx9, h⟩ := bindSome h
  have S1 := S.mem
  refine sCallQ (X := Unit) (f := 57) (vs := [.slice ad1 p0.length cp2]) (val := fun _ => iv r8) S (wN rfl) rfl callee57 rfl (S1.quiet [0] rfl) (fun E1 w1 S1 => c_thread_Check E1 w1 p0 (.slice ad1 p0.length cp2) r8 hx9 S1) rfl (lb rfl) fun _ a w S => ?_
  refine sMove (iv r8) S (wN rfl) (.inr rfl) rfl rfl (lb rfl) fun a S => ?_
  refine leafL (leafT (hK7 _ _ ?_))
  refine sSeq (fun K10 hK10 => ?_)
  refine sRegion ?_
  refine sMove (iv r8) S (wN rfl) (.inl rfl) rfl rfl (lb rfl) fun a S => ?_
  refine sBin (.bool (r8 != 0)) S (wN rfl) rfl rfl rfl (bNe _ _ _ _ .i64 r8 0) rfl (lb rfl) fun a S => ?_
  refine leafL (leafT (hK10 _ _ ?_))
  rcases iteSome h with ⟨hc11, h⟩ | ⟨hc11, h⟩
  · refine sCondT S rfl hc11 ?_
    refine sSeq (fun K12 hK12 => ?_)
    refine sRegion ?_
    refine sMove (iv r8) S (wN rfl) (.inl rfl) rfl rfl (lb rfl) fun a S => ?_
    refine sMove (.slice none 0 0) S (wN rfl) (.inr rfl) rfl rfl (lb rfl) fun a S => ?_
    refine sMove (iv r8) S (wN rfl) (.inr rfl) rfl rfl (lb rfl) fun a S => ?_
    refine leafL (leafT (hK12 _ _ ?_))
    obtain rfl := Option.some.inj h
    have S := S.learn (fRep (rL (rI .i64)) (.slice none 0 0) ([] : (List Int))) (rL_nil _ _ _)
    exact wp_ret (rThen (sRet (.tuple #[.slice none 0 0, iv r8]) S (rsl2 rfl (rvT (t := 4) (v := .slice none 0 0) S rfl) (rvT (t := 5) (v := iv r8) S rfl)) ⟨(.slice none 0 0), rfl, S.mem.sel [] [0] (by decide) rfl rfl⟩))
  refine sCondF S rfl hc11 ?_
  refine wp_skip (leafT (hK6 _ _ ?_))
  refine sSeq (fun K13 hK13 => ?_)
  refine sSeq (fun K14 hK14 => ?_)
  refine sRegion ?_
  refine sMove (.slice ad3 p1.length cp4) S (wN rfl) (.inl rfl) rfl rfl (lb rfl) fun a S => ?_
  obtain ⟨r15, hx16, h⟩ := bindSome h
  have S1 := S.mem
  refine sCallQ (X := Unit) (f := 58) (vs := [.slice ad3 p1.length cp4]) (val := fun _ => iv r15) S (wN rfl) rfl callee58 rfl (S1.quiet [1] rfl) (fun E1 w1 S1 => c_block_spelled E1 w1 p1 (.slice ad3 p1.length cp4) r15 hx16 S1) rfl (lb rfl) fun _ a w S => ?_
  refine sMove (iv r15) S (wN rfl) (.inr rfl) rfl rfl (lb rfl) fun a S => ?_
  refine leafL (leafT (hK14 _ _ ?_))
  refine sSeq (fun K17 hK17 => ?_)
  refine sRegion ?_
  refine sMove (iv r15) S (wN rfl) (.inl rfl) rfl rfl (lb rfl) fun a S => ?_
  refine sBin (.bool (r15 != 0)) S (wN rfl) rfl rfl rfl (bNe _ _ _ _ .i64 r15 0) rfl (lb rfl) fun a S => ?_
  refine leafL (leafT (hK17 _ _ ?_))
  rcases iteSome h with ⟨hc18, h⟩ | ⟨hc18, h⟩
  · refine sCondT S rfl hc18 ?_
    refine sSeq (fun K19 hK19 => ?_)
    refine sRegion ?_
    refine sMove (iv r15) S (wN rfl) (.inl rfl) rfl rfl (lb rfl) fun a S => ?_
    refine sMove (.slice none 0 0) S (wN rfl) (.inr rfl) rfl rfl (lb rfl) fun a S => ?_
    refine sMove (iv r15) S (wN rfl) (.inr rfl) rfl rfl (lb rfl) fun a S => ?_
    refine leafL (leafT (hK19 _ _ ?_))
    obtain rfl := Option.some.inj h
    have S := S.learn (fRep (rL (rI .i64)) (.slice none 0 0) ([] : (List Int))) (rL_nil _ _ _)
    exact wp_ret (rThen (sRet (.tuple #[.slice none 0 0, iv r15]) S (rsl2 rfl (rvT (t := 4) (v := .slice none 0 0) S rfl) (rvT (t := 5) (v := iv r15) S rfl)) ⟨(.slice none 0 0), rfl, S.mem.sel [] [0] (by decide) rfl rfl⟩))
  refine sCondF S rfl hc18 ?_
  refine wp_skip (leafT (hK13 _ _ ?_))
  refine sSeq (fun K20 hK20 => ?_)
  refine sSeq (fun K21 hK21 => ?_)
  refine sRegion ?_
  refine sMove (.slice ad1 p0.length cp2) S (wN rfl) (.inl rfl) rfl rfl (lb rfl) fun a S => ?_
  refine sMove (.slice ad3 p1.length cp4) S (wN rfl) (.inl rfl) rfl rfl (lb rfl) fun a S => ?_
  refine sLen (ad := ad3) (m := p1.length) (c := cp4) S (wN rfl) rfl Try.underlying46 rfl rfl (lb rfl) fun a S => ?_
  obtain ⟨r22, hx23, h⟩ := bindSome h
  have S1 := S.mem
  refine sCallQ (X := Unit) (f := 56) (vs := [.slice ad1 p0.length cp2, iv (p1.length : Int)]) (val := fun _ => .bool r22) S (wN rfl) rfl callee56 rfl (S1.quiet [0] rfl) (fun E1 w1 S1 => c_block_index E1 w1 p0 (.slice ad1 p0.length cp2) (p1.length : Int) r22 hx23 S1) rfl (lb rfl) fun _ a w S => ?_
  refine sNot (b := r22) S (wN rfl) rfl rfl rfl (lb rfl) fun a S => ?_
  refine leafL (leafT (hK21 _ _ ?_))
  rcases iteSome h with ⟨hc24, h⟩ | ⟨hc24, h⟩
  · refine sCondT S rfl hc24 ?_
    refine sSeq (fun K25 hK25 => ?_)
    refine sRegion ?_
    refine sMove (.slice none 0 0) S (wN rfl) (.inr rfl) rfl rfl (lb rfl) fun a S => ?_
    refine sMove (iv 8) S (wN rfl) (.inr rfl) rfl rfl (lb rfl) fun a S => ?_
    refine leafL (leafT (hK25 _ _ ?_))
    obtain rfl := Option.some.inj h
    have S := S.learn (fRep (rL (rI .i64)) (.slice none 0 0) ([] : (List Int))) (rL_nil _ _ _)
    exact wp_ret (rThen (sRet (.tuple #[.slice none 0 0, iv 8]) S (rsl2 rfl (rvT (t := 4) (v := .slice none 0 0) S rfl) (rvT (t := 5) (v := iv 8) S rfl)) ⟨(.slice none 0 0), rfl, S.mem.sel [] [0] (by decide) rfl rfl⟩))
  refine sCondF S rfl hc24 ?_
  refine wp_skip (leafT (hK20 _ _ ?_))
  refine sSeq (fun K26 hK26 => ?_)
  refine sSeq (fun K27 hK27 => ?_)
  refine sRegion ?_
  refine sMove (.slice ad1 p0.length cp2) S (wN rfl) (.inl rfl) rfl rfl (lb rfl) fun a S => ?_
  refine sLen (ad := ad1) (m := p0.length) (c := cp2) S (wN rfl) rfl Try.underlying35 rfl rfl (lb rfl) fun a S => ?_
  refine sMove (.slice ad3 p1.length cp4) S (wN rfl) (.inl rfl) rfl rfl (lb rfl) fun a S => ?_
  obtain ⟨x28, hx29, h⟩ := bindSome h
  obtain ⟨q30, hq31, S⟩ := pIdx (P := Try.prog) (r := (rL (rI .i64))) (v := .slice ad3 p1.length cp4) (xs := p1) (j := 0) 46 35 1 S Try.underlying46 rfl rfl hx29
  refine sIdxV (v := .slice ad3 p1.length cp4) (k := .i64) (j := 0) S (wN rfl) rfl rfl rfl hq31 rfl (lb rfl) fun a S => ?_
  obtain ⟨u32, S⟩ := pLoad (r := (rL (rI .i64))) (q := q30) (x := x28) 0 S rfl
  obtain ⟨ad33, cp34, _, rfl, _⟩ := S.mem.know (i := 1) (e := fRep (rL (rI .i64)) (u32) x28) rfl
  refine sLoadV1 (vq := q30) 0 (.slice ad33 x28.length cp34) S (wN rfl) rfl rfl rfl rfl rfl (lb rfl) fun a S => ?_
  refine sLen (ad := ad33) (m := x28.length) (c := cp34) S (wN rfl) rfl Try.underlying35 rfl rfl (lb rfl) fun a S => ?_
  refine sBin (iv (w64 ((p0.length : Int) * (x28.length : Int)))) S (wN rfl) rfl rfl rfl (bMul _ _ _ _ (p0.length : Int) (x28.length : Int)) rfl (lb rfl) fun a S => ?_
  refine sBin (.bool (decide (400 < (w64 ((p0.length : Int) * (x28.length : Int)))))) S (wN rfl) rfl rfl rfl (bGt _ _ _ _ .i64 (w64 ((p0.length : Int) * (x28.length : Int))) 400) rfl (lb rfl) fun a S => ?_
  refine leafL (leafT (hK27 _ _ ?_))
  rcases iteSome h with ⟨hc35, h⟩ | ⟨hc35, h⟩
  · refine sCondT S rfl hc35 ?_
    refine sSeq (fun K36 hK36 => ?_)
    refine sRegion ?_
    refine sMove (.slice none 0 0) S (wN rfl) (.inr rfl) rfl rfl (lb rfl) fun a S => ?_
    refine sMove (iv 4) S (wN rfl) (.inr rfl) rfl rfl (lb rfl) fun a S => ?_
    refine leafL (leafT (hK36 _ _ ?_))
    obtain rfl := Option.some.inj h
    have S := S.learn (fRep (rL (rI .i64)) (.slice none 0 0) ([] : (List Int))) (rL_nil _ _ _)
    exact wp_ret (rThen (sRet (.tuple #[.slice none 0 0, iv 4]) S (rsl2 rfl (rvT (t := 4) (v := .slice none 0 0) S rfl) (rvT (t := 5) (v := iv 4) S rfl)) ⟨(.slice none 0 0), rfl, S.mem.sel [] [0] (by decide) rfl rfl⟩))
  refine sCondF S rfl hc35 ?_
  refine wp_skip (leafT (hK26 _ _ ?_))
  refine sSeq (fun K37 hK37 => ?_)
  refine sRegion ?_
  refine sMove (.slice none 0 0) S (wN rfl) (.inr rfl) rfl rfl (lb rfl) fun a S => ?_
  refine leafL (leafT (hK37 _ _ ?_))
  obtain ⟨t41, h, g42⟩ := bindSome h
  refine sCut (fun a w => ∃ o38, o38 = t41 ∧ ∃ ad39, ∃ cp40, St [] E [] w0 48 a w [(8, .slice ad39 o38.length cp40)] [eRow (rI .i64) 3 (.slice ad39 o38.length cp40) o38] []) ?_ (fun a w hI => ?_)
  rotate_left
  · obtain ⟨o38, rfl, ad39, cp40, S⟩ := hI
    have h := g42
    clear g42
    try dsimp only at h
    refine sSeq (fun K75 hK75 => ?_)
    refine sRegion ?_
    refine sMove (.slice ad39 o38.length cp40) S (wN rfl) (.inl rfl) rfl rfl (lb rfl) fun a S => ?_
    refine sMove (.slice ad39 o38.length cp40) S (wN rfl) (.inr rfl) rfl rfl (lb rfl) fun a S => ?_
    refine sMove (iv 0) S (wN rfl) (.inr rfl) rfl rfl (lb rfl) fun a S => ?_
    refine leafL (leafT (hK75 _ _ ?_))
    obtain rfl := Option.some.inj h
    have S := S.shutR (r := (rI .i64)) (T := 3) (v := .slice ad39 o38.length cp40) (xs := o38) 0 rfl
    exact wp_ret (sRet (.tuple #[.slice ad39 o38.length cp40, iv 0]) S (rsl2 rfl (rvT (t := 4) (v := .slice ad39 o38.length cp40) S rfl) (rvT (t := 5) (v := iv 0) S rfl)) ⟨(.slice ad39 o38.length cp40), rfl, S.mem.sel [] [0] (by decide) rfl rfl⟩)
  refine sSeq (fun K43 hK43 => ?_)
  refine sRegion ?_
  refine sMove (.slice ad1 p0.length cp2) S (wN rfl) (.inl rfl) rfl rfl (lb rfl) fun a S => ?_
  refine sLen (ad := ad1) (m := p0.length) (c := cp2) S (wN rfl) rfl Try.underlying35 rfl rfl (lb rfl) fun a S => ?_
  refine sMove (iv 0) S (wN rfl) (.inl rfl) rfl rfl (lb rfl) fun a S => ?_
  refine leafL (leafT (hK43 _ _ ?_))
  refine wp_block ?_
  have S := S.nilRow (rI .i64) 3 (α := Int)
  obtain ⟨t50, hl, g49⟩ := bindSome h
  refine sLoop hl (fun s0 a w => match s0 with | (s44, s47) => ∃ ad45, ∃ cp46, St [] E [] w0 48 a w [(1, .slice ad3 p1.length cp4), (8, .slice ad45 s44.length cp46), (34, .slice ad1 p0.length cp2), (35, iv (p0.length : Int)), (36, iv s47)] [eRow (rI .i64) 3 (.slice ad45 s44.length cp46) s44] [fRep (rL (rL (rI .i64))) (.slice ad3 p1.length cp4) p1, fRep (rL (rI .i64)) (.slice ad1 p0.length cp2) p0]) ⟨none, 0, S.fix [0] [4, 3] (by decide) rfl rfl rfl⟩ ?_
  clear hl h
  intro s0 a w c0 hI h hu48
  obtain ⟨s44, s47⟩ := s0
  unfold block_Spell_l1 at h
  dsimp only at h hI
  obtain ⟨ad45, cp46, S⟩ := hI
  refine sSeq (fun K54 hK54 => ?_)
  refine sRegion ?_
  refine sBin (.bool (decide (s47 < (p0.length : Int)))) S (wN rfl) rfl rfl rfl (bLt _ _ _ _ .i64 s47 (p0.length : Int)) rfl (lb rfl) fun a S => ?_
  refine leafL (leafT (hK54 _ _ ?_))
  refine sSeq (fun K55 hK55 => ?_)
  rcases iteSome h with ⟨hc56, h⟩ | ⟨hc56, h⟩
  rotate_left
  · refine sCondF S rfl hc56 ?_
    obtain rfl := Option.some.inj h
    obtain rfl := hu48 _ rfl
    have h := g49
    clear g49
    try dsimp only at h
    exact wp_exit (xThen (xThen (xHit (leafT (⟨s44, Option.some.inj h, ad45, cp46, S.fix [0] [] (by decide) rfl rfl rfl⟩)))))
  refine sCondT S rfl hc56 ?_
  refine wp_skip (leafT (hK55 _ _ ?_))
  refine sSeq (fun K57 hK57 => ?_)
  refine wp_block ?_
  refine sSeq (fun K58 hK58 => ?_)
  refine sRegion ?_
  obtain ⟨x59, hx60, h⟩ := bindSome h
  obtain ⟨q61, hq62, S⟩ := pIdx (P := Try.prog) (r := (rI .i64)) (v := .slice ad1 p0.length cp2) (xs := p0) (j := s47) 35 3 1 S Try.underlying35 rfl rfl hx60
  refine sIdxV (v := .slice ad1 p0.length cp2) (k := .i64) (j := s47) S (wN rfl) rfl rfl rfl hq62 rfl (lb rfl) fun a S => ?_
  obtain ⟨u63, S⟩ := pLoad (r := (rI .i64)) (q := q61) (x := x59) 0 S rfl
  obtain rfl : u63 = iv x59 := S.mem.know (i := 1) (e := fRep (rI .i64) (u63) x59) rfl
  refine sLoadV1 (vq := q61) 0 (iv x59) S (wN rfl) rfl rfl rfl rfl rfl (lb rfl) fun a S => ?_
  refine sMove (iv x59) S (wN rfl) (.inr rfl) rfl rfl (lb rfl) fun a S => ?_
  refine leafL (leafT (hK58 _ _ ?_))
  refine sRegion ?_
  refine sMove (.slice ad45 s44.length cp46) S (wN rfl) (.inl rfl) rfl rfl (lb rfl) fun a S => ?_
  refine sMove (.slice ad3 p1.length cp4) S (wN rfl) (.inl rfl) rfl rfl (lb rfl) fun a S => ?_
  refine sMove (iv x59) S (wN rfl) (.inl rfl) rfl rfl (lb rfl) fun a S => ?_
  obtain ⟨x64, hx65, h⟩ := bindSome h
  obtain ⟨q66, hq67, S⟩ := pIdx (P := Try.prog) (r := (rL (rI .i64))) (v := .slice ad3 p1.length cp4) (xs := p1) (j := x59) 46 35 3 S Try.underlying46 rfl rfl hx65
  refine sIdxV (v := .slice ad3 p1.length cp4) (k := .i64) (j := x59) S (wN rfl) rfl rfl rfl hq67 rfl (lb rfl) fun a S => ?_
  obtain ⟨u68, S⟩ := pLoad (r := (rL (rI .i64))) (q := q66) (x := x64) 0 S rfl
  obtain ⟨ad69, cp70, _, rfl, _⟩ := S.mem.know (i := 1) (e := fRep (rL (rI .i64)) (u68) x64) rfl
  refine sLoadV1 (vq := q66) 0 (.slice ad69 x64.length cp70) S (wN rfl) rfl rfl rfl rfl rfl (lb rfl) fun a S => ?_
  obtain ⟨l71, hx72, h⟩ := bindSome h
  refine sApp (r := (rI .i64)) (T := 3) (xs := s44) (ys := x64) (v := .slice ad45 s44.length cp46) (u := .slice ad69 x64.length cp70) 0 (iv 0) 8 S (wN rfl) rfl Try.underlying35 rfl rfl (by decide) rfl rfl rfl (src_D 1 S.mem rfl) hx72 rfl (lb rfl) fun a w ad73 cp74 S => ?_
  refine sMove (.slice ad73 l71.length cp74) S (wN rfl) (.inr rfl) rfl rfl (lb rfl) fun a S => ?_
  refine leafL (leafB (leafT (hK57 _ _ ?_)))
  refine sRegion ?_
  refine sBin (iv (w64 (s47 + 1))) S (wN rfl) rfl rfl rfl (bAdd _ _ _ _ s47 1) rfl (lb rfl) fun a S => ?_
  refine sMove (iv (w64 (s47 + 1))) S (wN rfl) (.inl rfl) rfl rfl (lb rfl) fun a S => ?_
  exact leafL (leafT (⟨(l71, w64 (s47 + 1)), (Option.some.inj h).symm, ⟨ad73, cp74, S.fix [0] [6, 7] (by decide) rfl rfl rfl⟩⟩))

end Go.Proofs.Ythfifeabomdlpaa
namespace Go.Proofs.Ythfifeabomdlpaa
open Go.RowKit
set_option linter.unusedVariables false

noncomputable def raddleref02_Check_l1 (p0 : (List Int)) : Int → Option (Int ⊕ (Int ⊕ Unit)) := fun s0 => match s0 with
  | s11 =>
    if decide (s11 < (p0.length : Int)) then
      Option.bind (α := Bool) (
        Option.bind (idxO p0 s11) fun x22 =>
        if decide (x22 < 0) then
          some true
        else
          some (decide (400 ≤ x22))) fun o19 =>
      if o19 then
        some (.inr (.inl 8))
      else
        some (.inl (w64 (s11 + 1)))
    else
      some (.inr (.inr ()))
noncomputable def F_raddleref02_Check (p0 : (List Int)) : Option Int :=
  if decide (400 < (p0.length : Int)) then
    some 4
  else
    Option.bind (α := Unit ⊕ Int) (
      Option.bind (whileO (raddleref02_Check_l1 p0) 0) fun z0 => match z0 with
        | .inl z =>
          some (.inr z)
        | .inr _ =>
          some (.inl ())) fun z0 => match z0 with
      | .inl _ =>
        some 0
      | .inr z =>
        some z
set_option maxHeartbeats 4000000 in
set_option maxRecDepth 100000 in
theorem c_raddleref02_Check (E : Nat → Prop) (w0 : World) (p0 : (List Int)) (v0 : Value) (r : Int) (h : F_raddleref02_Check p0 = some r) (S : St0 E [] w0 w0 [] [fRep (rL (rI .i64)) (v0) p0]) :
    Calls Try.prog 37 #[v0] w0 (Ret (X := Unit) E [] w0 (fun _ => .int .i64 r) (fun _ => []) (fun _ => [])) := by
  unfold F_raddleref02_Check at h
  obtain ⟨ad1, cp2, _, rfl, _⟩ := S.know (i := 0) (e := fRep (rL (rI .i64)) (v0) p0) rfl
  refine sEnter (args := [.slice ad1 p0.length cp2]) 25 Try.func37 rfl rfl (by simp) S (fun a S => ?_)
  refine sSeq (fun K3 hK3 => ?_)
  refine sRegion ?_
  refine sMove (iv 0) S (wN rfl) (.inr rfl) rfl rfl (lb rfl) fun a S => ?_
  refine leafL (leafT (hK3 _ _ ?_))
  refine sSeq (fun K4 hK4 => ?_)
  refine sSeq (fun K5 hK5 => ?_)
  refine sRegion ?_
  refine sMove (.slice ad1 p0.length cp2) S (wN rfl) (.inl rfl) rfl rfl (lb rfl) fun a S => ?_
  refine sLen (ad := ad1) (m := p0.length) (c := cp2) S (wN rfl) rfl Try.underlying35 rfl rfl (lb rfl) fun a S => ?_
  refine sBin (.bool (decide (400 < (p0.length : Int)))) S (wN rfl) rfl rfl rfl (bGt _ _ _ _ .i64 (p0.length : Int) 400) rfl (lb rfl) fun a S => ?_
  refine leafL (leafT (hK5 _ _ ?_))
  rcases iteSome h with ⟨hc6, h⟩ | ⟨hc6, h⟩
  · refine sCondT S rfl hc6 ?_
    refine sSeq (fun K7 hK7 => ?_)
    refine sRegion ?_
    refine sMove (iv 4) S (wN rfl) (.inr rfl) rfl rfl (lb rfl) fun a S => ?_
    refine leafL (leafT (hK7 _ _ ?_))
    obtain rfl := Option.some.inj h
    exact wp_ret (rThen (sRet (iv 4) S (rsl1 rfl (rvT (t := 2) (v := iv 4) S rfl)) ⟨(), rfl, S.mem.sel [] [] (by decide) rfl rfl⟩))
  refine sCondF S rfl hc6 ?_
  refine wp_skip (leafT (hK4 _ _ ?_))
  obtain ⟨t8, h, g9⟩ := bindSome h
  refine sCut (fun a w => .inl () = t8 ∧ St [] E [] w0 25 a w [] [] []) ?_ (fun a w hI => ?_)
  rotate_left
  · obtain ⟨rfl, S⟩ := hI
    have h := g9
    clear g9
    try dsimp only at h
    refine sSeq (fun K33 hK33 => ?_)
    refine sRegion ?_
    refine sMove (iv 0) S (wN rfl) (.inr rfl) rfl rfl (lb rfl) fun a S => ?_
    refine leafL (leafT (hK33 _ _ ?_))
    obtain rfl := Option.some.inj h
    exact wp_ret (sRet (iv 0) S (rsl1 rfl (rvT (t := 2) (v := iv 0) S rfl)) ⟨(), rfl, S.mem.sel [] [] (by decide) rfl rfl⟩)
  refine sSeq (fun K10 hK10 => ?_)
  refine sRegion ?_
  refine sMove (iv 0) S (wN rfl) (.inr rfl) rfl rfl (lb rfl) fun a S => ?_
  refine leafL (leafT (hK10 _ _ ?_))
  refine wp_block ?_
  obtain ⟨t14, hl, g13⟩ := bindSome h
  refine sLoop hl (fun s0 a w => match s0 with | s11 => St [] E [] w0 25 a w [(0, .slice ad1 p0.length cp2), (3, iv s11)] [] [fRep (rL (rI .i64)) (.slice ad1 p0.length cp2) p0]) (S.fix [] [0] (by decide) rfl rfl rfl) ?_
  clear hl h
  intro s11 a w c0 hI h hu12
  unfold raddleref02_Check_l1 at h
  dsimp only at h hI
  have S := hI
  refine sSeq (fun K15 hK15 => ?_)
  refine sSeq (fun K16 hK16 => ?_)
  refine sRegion ?_
  refine sMove (iv s11) S (wN rfl) (.inl rfl) rfl rfl (lb rfl) fun a S => ?_
  refine sMove (.slice ad1 p0.length cp2) S (wN rfl) (.inl rfl) rfl rfl (lb rfl) fun a S => ?_
  refine sLen (ad := ad1) (m := p0.length) (c := cp2) S (wN rfl) rfl Try.underlying35 rfl rfl (lb rfl) fun a S => ?_
  refine sBin (.bool (decide (s11 < (p0.length : Int)))) S (wN rfl) rfl rfl rfl (bLt _ _ _ _ .i64 s11 (p0.length : Int)) rfl (lb rfl) fun a S => ?_
  refine leafL (leafT (hK16 _ _ ?_))
  rcases iteSome h with ⟨hc17, h⟩ | ⟨hc17, h⟩
  rotate_left
  · refine sCondF S rfl hc17 ?_
    obtain rfl := Option.some.inj h
    obtain rfl := hu12 _ rfl
    have h := g13
    clear g13
    try dsimp only at h
    exact wp_exit (xThen (xThen (xHit (leafT (⟨Option.some.inj h, S.fix [] [] (by decide) rfl rfl rfl⟩)))))
  refine sCondT S rfl hc17 ?_
  refine wp_skip (leafT (hK15 _ _ ?_))
  refine sSeq (fun K18 hK18 => ?_)
  refine wp_block ?_
  obtain ⟨t20, h, g21⟩ := bindSome h
  refine sCut (fun a w => ∃ o19, o19 = t20 ∧ St [] E [] w0 25 a w [(0, .slice ad1 p0.length cp2), (3, iv s11), (24, .bool o19)] [] [fRep (rL (rI .i64)) (.slice ad1 p0.length cp2) p0]) ?_ (fun a w hI => ?_)
  rotate_left
  · obtain ⟨o19, rfl, S⟩ := hI
    have h := g21
    clear g21
    try dsimp only at h
    rcases iteSome h with ⟨hc31, h⟩ | ⟨hc31, h⟩
    rotate_left
    · refine sCondF S rfl hc31 ?_
      refine wp_skip (leafB (leafT (hK18 _ _ ?_)))
      refine sRegion ?_
      refine sMove (iv s11) S (wN rfl) (.inl rfl) rfl rfl (lb rfl) fun a S => ?_
      refine sBin (iv (w64 (s11 + 1))) S (wN rfl) rfl rfl rfl (bAdd _ _ _ _ s11 1) rfl (lb rfl) fun a S => ?_
      refine sMove (iv (w64 (s11 + 1))) S (wN rfl) (.inr rfl) rfl rfl (lb rfl) fun a S => ?_
      exact leafL (leafT (⟨w64 (s11 + 1), (Option.some.inj h).symm, (S.fix [] [0] (by decide) rfl rfl rfl)⟩))
    refine sCondT S rfl hc31 ?_
    refine sSeq (fun K32 hK32 => ?_)
    refine sRegion ?_
    refine sMove (iv 8) S (wN rfl) (.inr rfl) rfl rfl (lb rfl) fun a S => ?_
    refine leafL (leafT (hK32 _ _ ?_))
    obtain rfl := Option.some.inj h
    obtain rfl := hu12 _ rfl
    have h := g13
    clear g13
    try dsimp only at h
    obtain rfl := Option.some.inj h
    have h := g9
    clear g9
    try dsimp only at h
    obtain rfl := Option.some.inj h
    exact wp_ret (rBlock (rThen (rThen (rBlock (rThen (sRet (iv 8) S (rsl1 rfl (rvT (t := 2) (v := iv 8) S rfl)) ⟨(), rfl, S.mem.sel [] [] (by decide) rfl rfl⟩))))))
  refine sRegion ?_
  refine sMove (.slice ad1 p0.length cp2) S (wN rfl) (.inl rfl) rfl rfl (lb rfl) fun a S => ?_
  refine sMove (iv s11) S (wN rfl) (.inl rfl) rfl rfl (lb rfl) fun a S => ?_
  obtain ⟨x22, hx23, h⟩ := bindSome h
  obtain ⟨q24, hq25, S⟩ := pIdx (P := Try.prog) (r := (rI .i64)) (v := .slice ad1 p0.length cp2) (xs := p0) (j := s11) 35 3 0 S Try.underlying35 rfl rfl hx23
  refine sIdxV (v := .slice ad1 p0.length cp2) (k := .i64) (j := s11) S (wN rfl) rfl rfl rfl hq25 rfl (lb rfl) fun a S => ?_
  obtain ⟨u26, S⟩ := pLoad (r := (rI .i64)) (q := q24) (x := x22) 0 S rfl
  obtain rfl : u26 = iv x22 := S.mem.know (i := 1) (e := fRep (rI .i64) (u26) x22) rfl
  refine sLoadV1 (vq := q24) 0 (iv x22) S (wN rfl) rfl rfl rfl rfl rfl (lb rfl) fun a S => ?_
  refine sBin (.bool (decide (x22 < 0))) S (wN rfl) rfl rfl rfl (bLt _ _ _ _ .i64 x22 0) rfl (lb rfl) fun a S => ?_
  refine sMove (.bool (decide (x22 < 0))) S (wN rfl) (.inl rfl) rfl rfl (lb rfl) fun a S => ?_
  rcases iteSome h with ⟨hc27, h⟩ | ⟨hc27, h⟩
  · refine sSkip 5 false 18 19 S rfl rfl rfl hc27 rfl (lb rfl) fun a S => ?_
    refine sSkip 5 false 18 20 S rfl rfl rfl hc27 rfl (lb rfl) fun a S => ?_
    refine sSkip 5 false 18 21 S rfl rfl rfl hc27 rfl (lb rfl) fun a S => ?_
    refine sSkip 5 false 18 22 S rfl rfl rfl hc27 rfl (lb rfl) fun a S => ?_
    refine sSkip 5 false 18 23 S rfl rfl rfl hc27 rfl (lb rfl) fun a S => ?_
    refine sPickT (.bool true) S (wN rfl) rfl rfl hc27 rfl rfl (lb rfl) fun a S => ?_
    exact leafL (leafT (⟨true, Option.some.inj h, S.fix [] [3] (by decide) rfl rfl rfl⟩))
  refine sMove (.slice ad1 p0.length cp2) S (wG 5 false 18 rfl rfl rfl hc27) (.inl rfl) rfl rfl (lb rfl) fun a S => ?_
  refine sMove (iv s11) S (wG 5 false 18 rfl rfl rfl hc27) (.inl rfl) rfl rfl (lb rfl) fun a S => ?_
  obtain ⟨q28, hq29, S⟩ := pIdx (P := Try.prog) (r := (rI .i64)) (v := .slice ad1 p0.length cp2) (xs := p0) (j := s11) 35 3 3 S Try.underlying35 rfl rfl hx23
  refine sIdxV (v := .slice ad1 p0.length cp2) (k := .i64) (j := s11) S (wG 5 false 18 rfl rfl rfl hc27) rfl rfl rfl hq29 rfl (lb rfl) fun a S => ?_
  obtain ⟨u30, S⟩ := pLoad (r := (rI .i64)) (q := q28) (x := x22) 0 S rfl
  obtain rfl : u30 = iv x22 := S.mem.know (i := 1) (e := fRep (rI .i64) (u30) x22) rfl
  refine sLoadV1 (vq := q28) 0 (iv x22) S (wG 5 false 18 rfl rfl rfl hc27) rfl rfl rfl rfl rfl (lb rfl) fun a S => ?_
  refine sBin (.bool (decide (400 ≤ x22))) S (wG 5 false 18 rfl rfl rfl hc27) rfl rfl rfl (bGe _ _ _ _ .i64 x22 400) rfl (lb rfl) fun a S => ?_
  refine sPickF (.bool (decide (400 ≤ x22))) S (wN rfl) rfl rfl hc27 rfl rfl (lb rfl) fun a S => ?_
  exact leafL (leafT (⟨decide (400 ≤ x22), Option.some.inj h, S.fix [] [6] (by decide) rfl rfl rfl⟩))

end Go.Proofs.Ythfifeabomdlpaa
namespace Go.Proofs.Ythfifeabomdlpaa
open Go.RowKit
set_option linter.unusedVariables false

def anc_raddleref13_Spelled_0 : List (List Nat) := [[], [], [0, 1], [0, 1, 2], [0, 1, 2, 3], [0, 1, 2, 3, 4], [0, 1, 2, 3, 4, 5], [0, 1, 2, 3, 4, 5, 6], [0, 1, 2, 3, 4, 5, 6], [0, 1, 2, 3, 4, 5, 6, 7, 8], [0, 1, 2, 3, 4, 5, 6, 7, 8, 9], [0, 1, 2, 3, 4, 5, 6, 7, 8, 9, 10], [0, 1, 2, 3, 4, 5, 6], [0, 1, 2, 3, 4, 5, 6, 12], [0, 1, 2, 3, 4, 5, 6, 12, 13], [0, 1, 2, 3, 4, 5, 6, 12, 13, 14], [0, 1, 2, 3, 4, 5, 6, 7, 8, 9, 10, 11, 12, 13, 14, 15], [0, 1, 2, 3, 4, 5, 6, 7, 8, 9, 10, 11, 12, 13, 14, 15, 16]]
noncomputable def raddleref13_Spelled_l1 (p0 : (List (List Int))) : Int → Option (Int ⊕ (Int ⊕ Unit)) := fun s0 => match s0 with
  | s14 =>
    if decide (s14 < (p0.length : Int)) then
      Option.bind (idxO p0 s14) fun x23 =>
      Option.bind (F_raddleref02_Check x23) fun r30 =>
      if r30 != 0 then
        some (.inr (.inl r30))
      else
        some (.inl (w64 (s14 + 1)))
    else
      some (.inr (.inr ()))
noncomputable def raddleref13_Spelled_l2 (p0 : (List (List Int))) : Int → Option (Int ⊕ (Int ⊕ Unit)) := fun s0 => match s0 with
  | s42 =>
    if decide (s42 < (p0.length : Int)) then
      Option.bind (α := Bool) (
        Option.bind (idxO p0 s42) fun x53 =>
        if (x53.length : Int) == 0 then
          some true
        else
          Option.bind (idxO p0 0) fun x71 =>
          some ((x53.length : Int) != (x71.length : Int))) fun o50 =>
      if o50 then
        some (.inr (.inl 26))
      else
        some (.inl (w64 (s42 + 1)))
    else
      some (.inr (.inr ()))
noncomputable def F_raddleref13_Spelled (p0 : (List (List Int))) : Option Int :=
  Option.bind (α := Bool) (
    if decide ((p0.length : Int) < 1) then
      some true
    else
      some (decide (400 < (p0.length : Int)))) fun o5 =>
  if o5 then
    some 2
  else
    Option.bind (α := Unit ⊕ Int) (
      Option.bind (whileO (raddleref13_Spelled_l1 p0) 0) fun z0 => match z0 with
        | .inl z =>
          some (.inr z)
        | .inr _ =>
          some (.inl ())) fun z0 => match z0 with
      | .inl _ =>
        Option.bind (α := Unit ⊕ Int) (
          Option.bind (whileO (raddleref13_Spelled_l2 p0) 0) fun z0 => match z0 with
            | .inl z =>
              some (.inr z)
            | .inr _ =>
              some (.inl ())) fun z0 => match z0 with
          | .inl _ =>
            some 0
          | .inr z =>
            some z
      | .inr z =>
        some z
set_option maxHeartbeats 4000000 in
set_option maxRecDepth 100000 in
theorem c_raddleref13_Spelled (E : Nat → Prop) (w0 : World) (p0 : (List (List Int))) (v0 : Value) (r : Int) (h : F_raddleref13_Spelled p0 = some r) (S : St0 E [] w0 w0 [] [fRep (rL (rL (rI .i64))) (v0) p0]) :
    Calls Try.prog 36 #[v0] w0 (Ret (X := Unit) E [] w0 (fun _ => .int .i64 r) (fun _ => []) (fun _ => [])) := by
  unfold F_raddleref13_Spelled at h
  obtain ⟨ad1, cp2, _, rfl, _⟩ := S.know (i := 0) (e := fRep (rL (rL (rI .i64))) (v0) p0) rfl
  refine sEnter (args := [.slice ad1 p0.length cp2]) 54 Try.func36 rfl rfl (by simp) S (fun a S => ?_)
  refine sSeq (fun K3 hK3 => ?_)
  refine sRegion ?_
  refine sMove (iv 0) S (wN rfl) (.inr rfl) rfl rfl (lb rfl) fun a S => ?_
  refine leafL (leafT (hK3 _ _ ?_))
  refine sSeq (fun K4 hK4 => ?_)
  obtain ⟨t6, h, g7⟩ := bindSome h
  refine sCut (fun a w => ∃ o5, o5 = t6 ∧ St [] E [] w0 54 a w [(0, .slice ad1 p0.length cp2), (12, .bool o5)] [] [fRep (rL (rL (rI .i64))) (.slice ad1 p0.length cp2) p0]) ?_ (fun a w hI => ?_)
  · refine sRegion ?_
    refine sMove (.slice ad1 p0.length cp2) S (wN rfl) (.inl rfl) rfl rfl (lb rfl) fun a S => ?_
    refine sLen (ad := ad1) (m := p0.length) (c := cp2) S (wN rfl) rfl Try.underlying46 rfl rfl (lb rfl) fun a S => ?_
    refine sBin (.bool (decide ((p0.length : Int) < 1))) S (wN rfl) rfl rfl rfl (bLt _ _ _ _ .i64 (p0.length : Int) 1) rfl (lb rfl) fun a S => ?_
    refine sMove (.bool (decide ((p0.length : Int) < 1))) S (wN rfl) (.inl rfl) rfl rfl (lb rfl) fun a S => ?_
    rcases iteSome h with ⟨hc8, h⟩ | ⟨hc8, h⟩
    · refine sSkip 3 false 8 9 S rfl rfl rfl hc8 rfl (lb rfl) fun a S => ?_
      refine sSkip 3 false 8 10 S rfl rfl rfl hc8 rfl (lb rfl) fun a S => ?_
      refine sSkip 3 false 8 11 S rfl rfl rfl hc8 rfl (lb rfl) fun a S => ?_
      refine sPickT (.bool true) S (wN rfl) rfl rfl hc8 rfl rfl (lb rfl) fun a S => ?_
      exact leafL (leafT (⟨true, Option.some.inj h, S.fix [] [0] (by decide) rfl rfl rfl⟩))
    refine sMove (.slice ad1 p0.length cp2) S (wG 3 false 8 rfl rfl rfl hc8) (.inl rfl) rfl rfl (lb rfl) fun a S => ?_
    refine sLen (ad := ad1) (m := p0.length) (c := cp2) S (wG 3 false 8 rfl rfl rfl hc8) rfl Try.underlying46 rfl rfl (lb rfl) fun a S => ?_
    refine sBin (.bool (decide (400 < (p0.length : Int)))) S (wG 3 false 8 rfl rfl rfl hc8) rfl rfl rfl (bGt _ _ _ _ .i64 (p0.length : Int) 400) rfl (lb rfl) fun a S => ?_
    refine sPickF (.bool (decide (400 < (p0.length : Int)))) S (wN rfl) rfl rfl hc8 rfl rfl (lb rfl) fun a S => ?_
    exact leafL (leafT (⟨decide (400 < (p0.length : Int)), Option.some.inj h, S.fix [] [0] (by decide) rfl rfl rfl⟩))
  obtain ⟨o5, rfl, S⟩ := hI
  have h := g7
  clear g7
  try dsimp only at h
  rcases iteSome h with ⟨hc9, h⟩ | ⟨hc9, h⟩
  · refine sCondT S rfl hc9 ?_
    refine sSeq (fun K10 hK10 => ?_)
    refine sRegion ?_
    refine sMove (iv 2) S (wN rfl) (.inr rfl) rfl rfl (lb rfl) fun a S => ?_
    refine leafL (leafT (hK10 _ _ ?_))
    obtain rfl := Option.some.inj h
    exact wp_ret (rThen (sRet (iv 2) S (rsl1 rfl (rvT (t := 2) (v := iv 2) S rfl)) ⟨(), rfl, S.mem.sel [] [] (by decide) rfl rfl⟩))
  refine sCondF S rfl hc9 ?_
  refine wp_skip (leafT (hK4 _ _ ?_))
  obtain ⟨t11, h, g12⟩ := bindSome h
  refine sCut (fun a w => .inl () = t11 ∧ St [] E [] w0 54 a w [(0, .slice ad1 p0.length cp2)] [] [fRep (rL (rL (rI .i64))) (.slice ad1 p0.length cp2) p0]) ?_ (fun a w hI => ?_)
  · refine sSeq (fun K13 hK13 => ?_)
    refine sRegion ?_
    refine sMove (iv 0) S (wN rfl) (.inr rfl) rfl rfl (lb rfl) fun a S => ?_
    refine leafL (leafT (hK13 _ _ ?_))
    refine wp_block ?_
    obtain ⟨t17, hl, g16⟩ := bindSome h
    refine sLoop hl (fun s0 a w => match s0 with | s14 => St [] E [] w0 54 a w [(0, .slice ad1 p0.length cp2), (3, iv s14)] [] [fRep (rL (rL (rI .i64))) (.slice ad1 p0.length cp2) p0]) (S.fix [] [0] (by decide) rfl rfl rfl) ?_
    clear hl h
    intro s14 a w c0 hI h hu15
    unfold raddleref13_Spelled_l1 at h
    dsimp only at h hI
    have S := hI
    refine sSeq (fun K18 hK18 => ?_)
    refine sSeq (fun K19 hK19 => ?_)
    refine sRegion ?_
    refine sMove (iv s14) S (wN rfl) (.inl rfl) rfl rfl (lb rfl) fun a S => ?_
    refine sMove (.slice ad1 p0.length cp2) S (wN rfl) (.inl rfl) rfl rfl (lb rfl) fun a S => ?_
    refine sLen (ad := ad1) (m := p0.length) (c := cp2) S (wN rfl) rfl Try.underlying46 rfl rfl (lb rfl) fun a S => ?_
    refine sBin (.bool (decide (s14 < (p0.length : Int)))) S (wN rfl) rfl rfl rfl (bLt _ _ _ _ .i64 s14 (p0.length : Int)) rfl (lb rfl) fun a S => ?_
    refine leafL (leafT (hK19 _ _ ?_))
    rcases iteSome h with ⟨hc20, h⟩ | ⟨hc20, h⟩
    rotate_left
    · refine sCondF S rfl hc20 ?_
      obtain rfl := Option.some.inj h
      obtain rfl := hu15 _ rfl
      have h := g16
      clear g16
      try dsimp only at h
      exact wp_exit (xThen (xThen (xHit (leafT (⟨Option.some.inj h, S.fix [] [0] (by decide) rfl rfl rfl⟩)))))
    refine sCondT S rfl hc20 ?_
    refine wp_skip (leafT (hK18 _ _ ?_))
    refine sSeq (fun K21 hK21 => ?_)
    refine wp_block ?_
    refine sSeq (fun K22 hK22 => ?_)
    refine sRegion ?_
    refine sMove (.slice ad1 p0.length cp2) S (wN rfl) (.inl rfl) rfl rfl (lb rfl) fun a S => ?_
    refine sMove (iv s14) S (wN rfl) (.inl rfl) rfl rfl (lb rfl) fun a S => ?_
    obtain ⟨x23, hx24, h⟩ := bindSome h
    obtain ⟨q25, hq26, S⟩ := pIdx (P := Try.prog) (r := (rL (rI .i64))) (v := .slice ad1 p0.length cp2) (xs := p0) (j := s14) 46 35 0 S Try.underlying46 rfl rfl hx24
    refine sIdxV (v := .slice ad1 p0.length cp2) (k := .i64) (j := s14) S (wN rfl) rfl rfl rfl hq26 rfl (lb rfl) fun a S => ?_
    obtain ⟨u27, S⟩ := pLoad (r := (rL (rI .i64))) (q := q25) (x := x23) 0 S rfl
    obtain ⟨ad28, cp29, _, rfl, _⟩ := S.mem.know (i := 1) (e := fRep (rL (rI .i64)) (u27) x23) rfl
    refine sLoadV1 (vq := q25) 0 (.slice ad28 x23.length cp29) S (wN rfl) rfl rfl rfl rfl rfl (lb rfl) fun a S => ?_
    obtain ⟨r30, hx31, h⟩ := bindSome h
    have S1 := S.mem
    refine sCallQ (X := Unit) (f := 37) (vs := [.slice ad28 x23.length cp29]) (val := fun _ => iv r30) S (wN rfl) rfl callee37 rfl (S1.quiet [1] rfl) (fun E1 w1 S1 => c_raddleref02_Check E1 w1 x23 (.slice ad28 x23.length cp29) r30 hx31 S1) rfl (lb rfl) fun _ a w S => ?_
    refine sBin (.bool (r30 != 0)) S (wN rfl) rfl rfl rfl (bNe _ _ _ _ .i64 r30 0) rfl (lb rfl) fun a S => ?_
    refine leafL (leafT (hK22 _ _ ?_))
    rcases iteSome h with ⟨hc32, h⟩ | ⟨hc32, h⟩
    rotate_left
    · refine sCondF S rfl hc32 ?_
      refine wp_skip (leafB (leafT (hK21 _ _ ?_)))
      refine sRegion ?_
      refine sMove (iv s14) S (wN rfl) (.inl rfl) rfl rfl (lb rfl) fun a S => ?_
      refine sBin (iv (w64 (s14 + 1))) S (wN rfl) rfl rfl rfl (bAdd _ _ _ _ s14 1) rfl (lb rfl) fun a S => ?_
      refine sMove (iv (w64 (s14 + 1))) S (wN rfl) (.inr rfl) rfl rfl (lb rfl) fun a S => ?_
      exact leafL (leafT (⟨w64 (s14 + 1), (Option.some.inj h).symm, (S.fix [] [3] (by decide) rfl rfl rfl)⟩))
    refine sCondT S rfl hc32 ?_
    refine sSeq (fun K33 hK33 => ?_)
    refine sRegion ?_
    refine sMove (.slice ad1 p0.length cp2) S (wN rfl) (.inl rfl) rfl rfl (lb rfl) fun a S => ?_
    refine sMove (iv s14) S (wN rfl) (.inl rfl) rfl rfl (lb rfl) fun a S => ?_
    obtain ⟨q34, hq35, S⟩ := pIdx (P := Try.prog) (r := (rL (rI .i64))) (v := .slice ad1 p0.length cp2) (xs := p0) (j := s14) 46 35 3 S Try.underlying46 rfl rfl hx24
    refine sIdxV (v := .slice ad1 p0.length cp2) (k := .i64) (j := s14) S (wN rfl) rfl rfl rfl hq35 rfl (lb rfl) fun a S => ?_
    obtain ⟨u36, S⟩ := pLoad (r := (rL (rI .i64))) (q := q34) (x := x23) 0 S rfl
    obtain ⟨ad37, cp38, _, rfl, _⟩ := S.mem.know (i := 1) (e := fRep (rL (rI .i64)) (u36) x23) rfl
    refine sLoadV1 (vq := q34) 0 (.slice ad37 x23.length cp38) S (wN rfl) rfl rfl rfl rfl rfl (lb rfl) fun a S => ?_
    have S1 := S.mem
    refine sCallQ (X := Unit) (f := 37) (vs := [.slice ad37 x23.length cp38]) (val := fun _ => iv r30) S (wN rfl) rfl callee37 rfl (S1.quiet [1] rfl) (fun E1 w1 S1 => c_raddleref02_Check E1 w1 x23 (.slice ad37 x23.length cp38) r30 hx31 S1) rfl (lb rfl) fun _ a w S => ?_
    refine sMove (iv r30) S (wN rfl) (.inr rfl) rfl rfl (lb rfl) fun a S => ?_
    refine leafL (leafT (hK33 _ _ ?_))
    obtain rfl := Option.some.inj h
    obtain rfl := hu15 _ rfl
    have h := g16
    clear g16
    try dsimp only at h
    obtain rfl := Option.some.inj h
    have h := g12
    clear g12
    try dsimp only at h
    obtain rfl := Option.some.inj h
    exact wp_ret (rBlock (rThen (rThen (rBlock (rThen (sRet (iv r30) S (rsl1 rfl (rvT (t := 2) (v := iv r30) S rfl)) ⟨(), rfl, S.mem.sel [] [] (by decide) rfl rfl⟩))))))
  obtain ⟨rfl, S⟩ := hI
  have h := g12
  clear g12
  try dsimp only at h
  obtain ⟨t39, h, g40⟩ := bindSome h
  refine sCut (fun a w => .inl () = t39 ∧ St [] E [] w0 54 a w [] [] []) ?_ (fun a w hI => ?_)
  rotate_left
  · obtain ⟨rfl, S⟩ := hI
    have h := g40
    clear g40
    try dsimp only at h
    refine sSeq (fun K95 hK95 => ?_)
    refine sRegion ?_
    refine sMove (iv 0) S (wN rfl) (.inr rfl) rfl rfl (lb rfl) fun a S => ?_
    refine leafL (leafT (hK95 _ _ ?_))
    obtain rfl := Option.some.inj h
    exact wp_ret (sRet (iv 0) S (rsl1 rfl (rvT (t := 2) (v := iv 0) S rfl)) ⟨(), rfl, S.mem.sel [] [] (by decide) rfl rfl⟩)
  refine sSeq (fun K41 hK41 => ?_)
  refine sRegion ?_
  refine sMove (iv 0) S (wN rfl) (.inr rfl) rfl rfl (lb rfl) fun a S => ?_
  refine leafL (leafT (hK41 _ _ ?_))
  refine wp_block ?_
  obtain ⟨t45, hl, g44⟩ := bindSome h
  refine sLoop hl (fun s0 a w => match s0 with | s42 => St [] E [] w0 54 a w [(0, .slice ad1 p0.length cp2), (4, iv s42)] [] [fRep (rL (rL (rI .i64))) (.slice ad1 p0.length cp2) p0]) (S.fix [] [0] (by decide) rfl rfl rfl) ?_
  clear hl h
  intro s42 a w c0 hI h hu43
  unfold raddleref13_Spelled_l2 at h
  dsimp only at h hI
  have S := hI
  refine sSeq (fun K46 hK46 => ?_)
  refine sSeq (fun K47 hK47 => ?_)
  refine sRegion ?_
  refine sMove (iv s42) S (wN rfl) (.inl rfl) rfl rfl (lb rfl) fun a S => ?_
  refine sMove (.slice ad1 p0.length cp2) S (wN rfl) (.inl rfl) rfl rfl (lb rfl) fun a S => ?_
  refine sLen (ad := ad1) (m := p0.length) (c := cp2) S (wN rfl) rfl Try.underlying46 rfl rfl (lb rfl) fun a S => ?_
  refine sBin (.bool (decide (s42 < (p0.length : Int)))) S (wN rfl) rfl rfl rfl (bLt _ _ _ _ .i64 s42 (p0.length : Int)) rfl (lb rfl) fun a S => ?_
  refine leafL (leafT (hK47 _ _ ?_))
  rcases iteSome h with ⟨hc48, h⟩ | ⟨hc48, h⟩
  rotate_left
  · refine sCondF S rfl hc48 ?_
    obtain rfl := Option.some.inj h
    obtain rfl := hu43 _ rfl
    have h := g44
    clear g44
    try dsimp only at h
    exact wp_exit (xThen (xThen (xHit (leafT (⟨Option.some.inj h, S.fix [] [] (by decide) rfl rfl rfl⟩)))))
  refine sCondT S rfl hc48 ?_
  refine wp_skip (leafT (hK46 _ _ ?_))
  refine sSeq (fun K49 hK49 => ?_)
  refine wp_block ?_
  obtain ⟨t51, h, g52⟩ := bindSome h
  refine sCut (fun a w => ∃ o50, o50 = t51 ∧ St [] E [] w0 54 a w [(0, .slice ad1 p0.length cp2), (4, iv s42), (53, .bool o50)] [] [fRep (rL (rL (rI .i64))) (.slice ad1 p0.length cp2) p0]) ?_ (fun a w hI => ?_)
  rotate_left
  · obtain ⟨o50, rfl, S⟩ := hI
    have h := g52
    clear g52
    try dsimp only at h
    rcases iteSome h with ⟨hc93, h⟩ | ⟨hc93, h⟩
    rotate_left
    · refine sCondF S rfl hc93 ?_
      refine wp_skip (leafB (leafT (hK49 _ _ ?_)))
      refine sRegion ?_
      refine sMove (iv s42) S (wN rfl) (.inl rfl) rfl rfl (lb rfl) fun a S => ?_
      refine sBin (iv (w64 (s42 + 1))) S (wN rfl) rfl rfl rfl (bAdd _ _ _ _ s42 1) rfl (lb rfl) fun a S => ?_
      refine sMove (iv (w64 (s42 + 1))) S (wN rfl) (.inr rfl) rfl rfl (lb rfl) fun a S => ?_
      exact leafL (leafT (⟨w64 (s42 + 1), (Option.some.inj h).symm, (S.fix [] [0] (by decide) rfl rfl rfl)⟩))
    refine sCondT S rfl hc93 ?_
    refine sSeq (fun K94 hK94 => ?_)
    refine sRegion ?_
    refine sMove (iv 26) S (wN rfl) (.inr rfl) rfl rfl (lb rfl) fun a S => ?_
    refine leafL (leafT (hK94 _ _ ?_))
    obtain rfl := Option.some.inj h
    obtain rfl := hu43 _ rfl
    have h := g44
    clear g44
    try dsimp only at h
    obtain rfl := Option.some.inj h
    have h := g40
    clear g40
    try dsimp only at h
    obtain rfl := Option.some.inj h
    exact wp_ret (rBlock (rThen (rThen (rBlock (rThen (sRet (iv 26) S (rsl1 rfl (rvT (t := 2) (v := iv 26) S rfl)) ⟨(), rfl, S.mem.sel [] [] (by decide) rfl rfl⟩))))))
  obtain ⟨x53, hx54, h⟩ := bindSome h
  rcases iteSome h with ⟨hc60, h⟩ | ⟨hc60, h⟩
  · obtain ⟨q61, hq62, S⟩ := pIdx (P := Try.prog) (r := (rL (rI .i64))) (v := .slice ad1 p0.length cp2) (xs := p0) (j := s42) 46 35 0 S Try.underlying46 rfl rfl hx54
    obtain ⟨u63, S⟩ := pLoad (r := (rL (rI .i64))) (q := q61) (x := x53) 0 S rfl
    obtain ⟨ad64, cp65, _, rfl, _⟩ := S.mem.know (i := 1) (e := fRep (rL (rI .i64)) (u63) x53) rfl
    refine sDraw (nf := []) (W := [(0, 36, .slice ad1 p0.length cp2), (1, 37, iv s42), (2, 38, q61), (3, 39, .slice ad64 x53.length cp65), (4, 40, iv (x53.length : Int)), (5, 41, .bool ((x53.length : Int) == 0)), (6, 42, .bool ((x53.length : Int) == 0)), (7, 43, undef), (8, 44, undef), (9, 45, undef), (10, 46, undef), (11, 47, undef), (12, 48, undef), (13, 49, undef), (14, 50, undef), (15, 51, undef), (16, 52, undef), (17, 53, .bool true)]) rfl S ?_
    refine node_by (A := anc_raddleref13_Spelled_0) (nf := []) (Y := []) (W := [(0, 36, .slice ad1 p0.length cp2), (1, 37, iv s42), (2, 38, q61), (3, 39, .slice ad64 x53.length cp65), (4, 40, iv (x53.length : Int)), (5, 41, .bool ((x53.length : Int) == 0)), (6, 42, .bool ((x53.length : Int) == 0)), (7, 43, undef), (8, 44, undef), (9, 45, undef), (10, 46, undef), (11, 47, undef), (12, 48, undef), (13, 49, undef), (14, 50, undef), (15, 51, undef), (16, 52, undef), (17, 53, .bool true)]) 18 (by kernel_rfl) (by kernel_rfl) (by kernel_rfl) (by kernel_rfl) (by kernel_rfl) [0, 1, 2, 3, 4, 5, 6, 7, 8, 9, 10, 11, 12, 13, 14, 15, 16, 17] (by kernel_rfl) (by decide) (by decide) (aF 0 17 (by decide) ?_ (aF 1 16 (by decide) ?_ (aF 2 15 (by decide) ?_ (aF 3 14 (by decide) ?_ (aF 4 13 (by decide) ?_ (aF 5 12 (by decide) ?_ (aF 6 11 (by decide) ?_ (aF 7 10 (by decide) ?_ (aF 8 9 (by decide) ?_ (aF 9 8 (by decide) ?_ (aF 10 7 (by decide) ?_ (aF 11 6 (by decide) ?_ (aF 12 5 (by decide) ?_ (aF 13 4 (by decide) ?_ (aF 14 3 (by decide) ?_ (aF 15 2 (by decide) ?_ (aF 16 1 (by decide) ?_ (aF 17 0 (by decide) ?_ (trivial))))))))))))))))))) [(0, .slice ad1 p0.length cp2), (4, iv s42), (43, undef), (44, undef), (45, undef), (46, undef), (47, undef), (48, undef), (49, undef), (50, undef), (51, undef), (52, undef), (53, .bool true)] (fin_of [none, none, some 7, some 8, some 9, some 10, some 11, some 12, some 13, some 14, some 15, some 16, some 17] rfl (by kernel_rfl) (by kernel_rfl)) (fun _ a w S => ?_)
    · refine fI 36 (.slice ad1 p0.length cp2) [(0, .slice ad1 p0.length cp2)] 0 [none] rfl rfl rfl rfl rfl rfl fun G a w S => ?_
      refine sMove (.slice ad1 p0.length cp2) S (wN rfl) (.inl rfl) rfl rfl (lb rfl) fun a S => ?_
      exact leafL ⟨rfl, S⟩
    · refine fI 37 (iv s42) [(4, iv s42)] 1 [none] rfl rfl rfl rfl rfl rfl fun G a w S => ?_
      refine sMove (iv s42) S (wN rfl) (.inl rfl) rfl rfl (lb rfl) fun a S => ?_
      exact leafL ⟨rfl, S⟩
    · refine fI 38 q61 [(36, .slice ad1 p0.length cp2), (37, iv s42)] 2 [some 0, some 1] rfl rfl rfl rfl rfl rfl fun G a w S => ?_
      refine sIdxV (v := .slice ad1 p0.length cp2) (k := .i64) (j := s42) S (wN rfl) rfl rfl rfl hq62 rfl (lb rfl) fun a S => ?_
      exact leafL ⟨rfl, S⟩
    · refine fI 39 (.slice ad64 x53.length cp65) [(38, q61)] 3 [some 2] rfl rfl rfl rfl rfl rfl fun G a w S => ?_
      refine sLoadV1 (vq := q61) 0 (.slice ad64 x53.length cp65) S (wN rfl) rfl rfl rfl rfl rfl (lb rfl) fun a S => ?_
      exact leafL ⟨rfl, S⟩
    · refine fI 40 (iv (x53.length : Int)) [(39, .slice ad64 x53.length cp65)] 4 [some 3] rfl rfl rfl rfl rfl rfl fun G a w S => ?_
      refine sLen (ad := ad64) (m := x53.length) (c := cp65) S (wN rfl) rfl Try.underlying35 rfl rfl (lb rfl) fun a S => ?_
      exact leafL ⟨rfl, S⟩
    · refine fI 41 (.bool ((x53.length : Int) == 0)) [(40, iv (x53.length : Int))] 5 [some 4] rfl rfl rfl rfl rfl rfl fun G a w S => ?_
      refine sBin (.bool ((x53.length : Int) == 0)) S (wN rfl) rfl rfl rfl (bEq _ _ _ _ .i64 (x53.length : Int) 0) rfl (lb rfl) fun a S => ?_
      exact leafL ⟨rfl, S⟩
    · refine fI 42 (.bool ((x53.length : Int) == 0)) [(41, .bool ((x53.length : Int) == 0))] 6 [some 5] rfl rfl rfl rfl rfl rfl fun G a w S => ?_
      refine sMove (.bool ((x53.length : Int) == 0)) S (wN rfl) (.inl rfl) rfl rfl (lb rfl) fun a S => ?_
      exact leafL ⟨rfl, S⟩
    · refine fI 43 undef [(0, .slice ad1 p0.length cp2), (42, .bool ((x53.length : Int) == 0))] 7 [none, some 6] rfl rfl rfl rfl rfl rfl fun G a w S => ?_
      refine sSkip 6 false 42 43 S rfl rfl rfl hc60 rfl (lb rfl) fun a S => ?_
      exact leafL ⟨rfl, S⟩
    · refine fI 44 undef [(4, iv s42), (42, .bool ((x53.length : Int) == 0))] 8 [none, some 6] rfl rfl rfl rfl rfl rfl fun G a w S => ?_
      refine sSkip 6 false 42 44 S rfl rfl rfl hc60 rfl (lb rfl) fun a S => ?_
      exact leafL ⟨rfl, S⟩
    · refine fI 45 undef [(43, undef), (44, undef), (42, .bool ((x53.length : Int) == 0))] 9 [some 7, some 8, some 6] rfl rfl rfl rfl rfl rfl fun G a w S => ?_
      refine sSkip 6 false 42 45 S rfl rfl rfl hc60 rfl (lb rfl) fun a S => ?_
      exact leafL ⟨rfl, S⟩
    · refine fI 46 undef [(45, undef), (42, .bool ((x53.length : Int) == 0))] 10 [some 9, some 6] rfl rfl rfl rfl rfl rfl fun G a w S => ?_
      refine sSkip 6 false 42 46 S rfl rfl rfl hc60 rfl (lb rfl) fun a S => ?_
      exact leafL ⟨rfl, S⟩
    · refine fI 47 undef [(46, undef), (42, .bool ((x53.length : Int) == 0))] 11 [some 10, some 6] rfl rfl rfl rfl rfl rfl fun G a w S => ?_
      refine sSkip 6 false 42 47 S rfl rfl rfl hc60 rfl (lb rfl) fun a S => ?_
      exact leafL ⟨rfl, S⟩
    · refine fI 48 undef [(0, .slice ad1 p0.length cp2), (42, .bool ((x53.length : Int) == 0))] 12 [none, some 6] rfl rfl rfl rfl rfl rfl fun G a w S => ?_
      refine sSkip 6 false 42 48 S rfl rfl rfl hc60 rfl (lb rfl) fun a S => ?_
      exact leafL ⟨rfl, S⟩
    · refine fI 49 undef [(48, undef), (42, .bool ((x53.length : Int) == 0))] 13 [some 12, some 6] rfl rfl rfl rfl rfl rfl fun G a w S => ?_
      refine sSkip 6 false 42 49 S rfl rfl rfl hc60 rfl (lb rfl) fun a S => ?_
      exact leafL ⟨rfl, S⟩
    · refine fI 50 undef [(49, undef), (42, .bool ((x53.length : Int) == 0))] 14 [some 13, some 6] rfl rfl rfl rfl rfl rfl fun G a w S => ?_
      refine sSkip 6 false 42 50 S rfl rfl rfl hc60 rfl (lb rfl) fun a S => ?_
      exact leafL ⟨rfl, S⟩
    · refine fI 51 undef [(50, undef), (42, .bool ((x53.length : Int) == 0))] 15 [some 14, some 6] rfl rfl rfl rfl rfl rfl fun G a w S => ?_
      refine sSkip 6 false 42 51 S rfl rfl rfl hc60 rfl (lb rfl) fun a S => ?_
      exact leafL ⟨rfl, S⟩
    · refine fI 52 undef [(47, undef), (51, undef), (42, .bool ((x53.length : Int) == 0))] 16 [some 11, some 15, some 6] rfl rfl rfl rfl rfl rfl fun G a w S => ?_
      refine sSkip 6 false 42 52 S rfl rfl rfl hc60 rfl (lb rfl) fun a S => ?_
      exact leafL ⟨rfl, S⟩
    · refine fI 53 (.bool true) [(42, .bool ((x53.length : Int) == 0)), (52, undef)] 17 [some 6, some 16] rfl rfl rfl rfl rfl rfl fun G a w S => ?_
      refine sPickT (.bool true) S (wN rfl) rfl rfl hc60 rfl rfl (lb rfl) fun a S => ?_
      exact leafL ⟨rfl, S⟩
    exact leafT (⟨true, Option.some.inj h, S.fix [] [3] (by decide) rfl rfl rfl⟩)
  obtain ⟨x71, hx72, h⟩ := bindSome h
  obtain ⟨q78, hq79, S⟩ := pIdx (P := Try.prog) (r := (rL (rI .i64))) (v := .slice ad1 p0.length cp2) (xs := p0) (j := s42) 46 35 0 S Try.underlying46 rfl rfl hx54
  obtain ⟨u80, S⟩ := pLoad (r := (rL (rI .i64))) (q := q78) (x := x53) 0 S rfl
  obtain ⟨ad81, cp82, _, rfl, _⟩ := S.mem.know (i := 1) (e := fRep (rL (rI .i64)) (u80) x53) rfl
  obtain ⟨q83, hq84, S⟩ := pIdx (P := Try.prog) (r := (rL (rI .i64))) (v := .slice ad1 p0.length cp2) (xs := p0) (j := s42) 46 35 3 S Try.underlying46 rfl rfl hx54
  obtain ⟨u85, S⟩ := pLoad (r := (rL (rI .i64))) (q := q83) (x := x53) 0 S rfl
  obtain ⟨ad86, cp87, _, rfl, _⟩ := S.mem.know (i := 1) (e := fRep (rL (rI .i64)) (u85) x53) rfl
  obtain ⟨q88, hq89, S⟩ := pIdx (P := Try.prog) (r := (rL (rI .i64))) (v := .slice ad1 p0.length cp2) (xs := p0) (j := 0) 46 35 6 S Try.underlying46 rfl rfl hx72
  obtain ⟨u90, S⟩ := pLoad (r := (rL (rI .i64))) (q := q88) (x := x71) 0 S rfl
  obtain ⟨ad91, cp92, _, rfl, _⟩ := S.mem.know (i := 1) (e := fRep (rL (rI .i64)) (u90) x71) rfl
  refine sDraw (nf := []) (W := [(0, 36, .slice ad1 p0.length cp2), (1, 37, iv s42), (2, 38, q78), (3, 39, .slice ad81 x53.length cp82), (4, 40, iv (x53.length : Int)), (5, 41, .bool ((x53.length : Int) == 0)), (6, 42, .bool ((x53.length : Int) == 0)), (7, 43, .slice ad1 p0.length cp2), (8, 44, iv s42), (9, 45, q83), (10, 46, .slice ad86 x53.length cp87), (11, 47, iv (x53.length : Int)), (12, 48, .slice ad1 p0.length cp2), (13, 49, q88), (14, 50, .slice ad91 x71.length cp92), (15, 51, iv (x71.length : Int)), (16, 52, .bool ((x53.length : Int) != (x71.length : Int))), (17, 53, .bool ((x53.length : Int) != (x71.length : Int)))]) rfl S ?_
  refine node_by (A := anc_raddleref13_Spelled_0) (nf := []) (Y := []) (W := [(0, 36, .slice ad1 p0.length cp2), (1, 37, iv s42), (2, 38, q78), (3, 39, .slice ad81 x53.length cp82), (4, 40, iv (x53.length : Int)), (5, 41, .bool ((x53.length : Int) == 0)), (6, 42, .bool ((x53.length : Int) == 0)), (7, 43, .slice ad1 p0.length cp2), (8, 44, iv s42), (9, 45, q83), (10, 46, .slice ad86 x53.length cp87), (11, 47, iv (x53.length : Int)), (12, 48, .slice ad1 p0.length cp2), (13, 49, q88), (14, 50, .slice ad91 x71.length cp92), (15, 51, iv (x71.length : Int)), (16, 52, .bool ((x53.length : Int) != (x71.length : Int))), (17, 53, .bool ((x53.length : Int) != (x71.length : Int)))]) 18 (by kernel_rfl) (by kernel_rfl) (by kernel_rfl) (by kernel_rfl) (by kernel_rfl) [0, 1, 2, 3, 4, 5, 6, 7, 8, 9, 10, 11, 12, 13, 14, 15, 16, 17] (by kernel_rfl) (by decide) (by decide) (aF 0 17 (by decide) ?_ (aF 1 16 (by decide) ?_ (aF 2 15 (by decide) ?_ (aF 3 14 (by decide) ?_ (aF 4 13 (by decide) ?_ (aF 5 12 (by decide) ?_ (aF 6 11 (by decide) ?_ (aF 7 10 (by decide) ?_ (aF 8 9 (by decide) ?_ (aF 9 8 (by decide) ?_ (aF 10 7 (by decide) ?_ (aF 11 6 (by decide) ?_ (aF 12 5 (by decide) ?_ (aF 13 4 (by decide) ?_ (aF 14 3 (by decide) ?_ (aF 15 2 (by decide) ?_ (aF 16 1 (by decide) ?_ (aF 17 0 (by decide) ?_ (trivial))))))))))))))))))) [(0, .slice ad1 p0.length cp2), (4, iv s42), (43, .slice ad1 p0.length cp2), (44, iv s42), (45, q83), (46, .slice ad86 x53.length cp87), (47, iv (x53.length : Int)), (48, .slice ad1 p0.length cp2), (49, q88), (50, .slice ad91 x71.length cp92), (51, iv (x71.length : Int)), (52, .bool ((x53.length : Int) != (x71.length : Int))), (53, .bool ((x53.length : Int) != (x71.length : Int)))] (fin_of [none, none, some 7, some 8, some 9, some 10, some 11, some 12, some 13, some 14, some 15, some 16, some 17] rfl (by kernel_rfl) (by kernel_rfl)) (fun _ a w S => ?_)
  · refine fI 36 (.slice ad1 p0.length cp2) [(0, .slice ad1 p0.length cp2)] 0 [none] rfl rfl rfl rfl rfl rfl fun G a w S => ?_
    refine sMove (.slice ad1 p0.length cp2) S (wN rfl) (.inl rfl) rfl rfl (lb rfl) fun a S => ?_
    exact leafL ⟨rfl, S⟩
  · refine fI 37 (iv s42) [(4, iv s42)] 1 [none] rfl rfl rfl rfl rfl rfl fun G a w S => ?_
    refine sMove (iv s42) S (wN rfl) (.inl rfl) rfl rfl (lb rfl) fun a S => ?_
    exact leafL ⟨rfl, S⟩
  · refine fI 38 q78 [(36, .slice ad1 p0.length cp2), (37, iv s42)] 2 [some 0, some 1] rfl rfl rfl rfl rfl rfl fun G a w S => ?_
    refine sIdxV (v := .slice ad1 p0.length cp2) (k := .i64) (j := s42) S (wN rfl) rfl rfl rfl hq79 rfl (lb rfl) fun a S => ?_
    exact leafL ⟨rfl, S⟩
  · refine fI 39 (.slice ad81 x53.length cp82) [(38, q78)] 3 [some 2] rfl rfl rfl rfl rfl rfl fun G a w S => ?_
    refine sLoadV1 (vq := q78) 6 (.slice ad81 x53.length cp82) S (wN rfl) rfl rfl rfl rfl rfl (lb rfl) fun a S => ?_
    exact leafL ⟨rfl, S⟩
  · refine fI 40 (iv (x53.length : Int)) [(39, .slice ad81 x53.length cp82)] 4 [some 3] rfl rfl rfl rfl rfl rfl fun G a w S => ?_
    refine sLen (ad := ad81) (m := x53.length) (c := cp82) S (wN rfl) rfl Try.underlying35 rfl rfl (lb rfl) fun a S => ?_
    exact leafL ⟨rfl, S⟩
  · refine fI 41 (.bool ((x53.length : Int) == 0)) [(40, iv (x53.length : Int))] 5 [some 4] rfl rfl rfl rfl rfl rfl fun G a w S => ?_
    refine sBin (.bool ((x53.length : Int) == 0)) S (wN rfl) rfl rfl rfl (bEq _ _ _ _ .i64 (x53.length : Int) 0) rfl (lb rfl) fun a S => ?_
    exact leafL ⟨rfl, S⟩
  · refine fI 42 (.bool ((x53.length : Int) == 0)) [(41, .bool ((x53.length : Int) == 0))] 6 [some 5] rfl rfl rfl rfl rfl rfl fun G a w S => ?_
    refine sMove (.bool ((x53.length : Int) == 0)) S (wN rfl) (.inl rfl) rfl rfl (lb rfl) fun a S => ?_
    exact leafL ⟨rfl, S⟩
  · refine fI 43 (.slice ad1 p0.length cp2) [(0, .slice ad1 p0.length cp2), (42, .bool ((x53.length : Int) == 0))] 7 [none, some 6] rfl rfl rfl rfl rfl rfl fun G a w S => ?_
    refine sMove (.slice ad1 p0.length cp2) S (wG 6 false 42 rfl rfl rfl hc60) (.inl rfl) rfl rfl (lb rfl) fun a S => ?_
    exact leafL ⟨rfl, S⟩
  · refine fI 44 (iv s42) [(4, iv s42), (42, .bool ((x53.length : Int) == 0))] 8 [none, some 6] rfl rfl rfl rfl rfl rfl fun G a w S => ?_
    refine sMove (iv s42) S (wG 6 false 42 rfl rfl rfl hc60) (.inl rfl) rfl rfl (lb rfl) fun a S => ?_
    exact leafL ⟨rfl, S⟩
  · refine fI 45 q83 [(43, .slice ad1 p0.length cp2), (44, iv s42), (42, .bool ((x53.length : Int) == 0))] 9 [some 7, some 8, some 6] rfl rfl rfl rfl rfl rfl fun G a w S => ?_
    refine sIdxV (v := .slice ad1 p0.length cp2) (k := .i64) (j := s42) S (wG 6 false 42 rfl rfl rfl hc60) rfl rfl rfl hq84 rfl (lb rfl) fun a S => ?_
    exact leafL ⟨rfl, S⟩
  · refine fI 46 (.slice ad86 x53.length cp87) [(45, q83), (42, .bool ((x53.length : Int) == 0))] 10 [some 9, some 6] rfl rfl rfl rfl rfl rfl fun G a w S => ?_
    refine sLoadV1 (vq := q83) 3 (.slice ad86 x53.length cp87) S (wG 6 false 42 rfl rfl rfl hc60) rfl rfl rfl rfl rfl (lb rfl) fun a S => ?_
    exact leafL ⟨rfl, S⟩
  · refine fI 47 (iv (x53.length : Int)) [(46, .slice ad86 x53.length cp87), (42, .bool ((x53.length : Int) == 0))] 11 [some 10, some 6] rfl rfl rfl rfl rfl rfl fun G a w S => ?_
    refine sLen (ad := ad86) (m := x53.length) (c := cp87) S (wG 6 false 42 rfl rfl rfl hc60) rfl Try.underlying35 rfl rfl (lb rfl) fun a S => ?_
    exact leafL ⟨rfl, S⟩
  · refine fI 48 (.slice ad1 p0.length cp2) [(0, .slice ad1 p0.length cp2), (42, .bool ((x53.length : Int) == 0))] 12 [none, some 6] rfl rfl rfl rfl rfl rfl fun G a w S => ?_
    refine sMove (.slice ad1 p0.length cp2) S (wG 6 false 42 rfl rfl rfl hc60) (.inl rfl) rfl rfl (lb rfl) fun a S => ?_
    exact leafL ⟨rfl, S⟩
  · refine fI 49 q88 [(48, .slice ad1 p0.length cp2), (42, .bool ((x53.length : Int) == 0))] 13 [some 12, some 6] rfl rfl rfl rfl rfl rfl fun G a w S => ?_
    refine sIdxV (v := .slice ad1 p0.length cp2) (k := .i64) (j := 0) S (wG 6 false 42 rfl rfl rfl hc60) rfl rfl rfl hq89 rfl (lb rfl) fun a S => ?_
    exact leafL ⟨rfl, S⟩
  · refine fI 50 (.slice ad91 x71.length cp92) [(49, q88), (42, .bool ((x53.length : Int) == 0))] 14 [some 13, some 6] rfl rfl rfl rfl rfl rfl fun G a w S => ?_
    refine sLoadV1 (vq := q88) 0 (.slice ad91 x71.length cp92) S (wG 6 false 42 rfl rfl rfl hc60) rfl rfl rfl rfl rfl (lb rfl) fun a S => ?_
    exact leafL ⟨rfl, S⟩
  · refine fI 51 (iv (x71.length : Int)) [(50, .slice ad91 x71.length cp92), (42, .bool ((x53.length : Int) == 0))] 15 [some 14, some 6] rfl rfl rfl rfl rfl rfl fun G a w S => ?_
    refine sLen (ad := ad91) (m := x71.length) (c := cp92) S (wG 6 false 42 rfl rfl rfl hc60) rfl Try.underlying35 rfl rfl (lb rfl) fun a S => ?_
    exact leafL ⟨rfl, S⟩
  · refine fI 52 (.bool ((x53.length : Int) != (x71.length : Int))) [(47, iv (x53.length : Int)), (51, iv (x71.length : Int)), (42, .bool ((x53.length : Int) == 0))] 16 [some 11, some 15, some 6] rfl rfl rfl rfl rfl rfl fun G a w S => ?_
    refine sBin (.bool ((x53.length : Int) != (x71.length : Int))) S (wG 6 false 42 rfl rfl rfl hc60) rfl rfl rfl (bNe _ _ _ _ .i64 (x53.length : Int) (x71.length : Int)) rfl (lb rfl) fun a S => ?_
    exact leafL ⟨rfl, S⟩
  · refine fI 53 (.bool ((x53.length : Int) != (x71.length : Int))) [(42, .bool ((x53.length : Int) == 0)), (52, .bool ((x53.length : Int) != (x71.length : Int)))] 17 [some 6, some 16] rfl rfl rfl rfl rfl rfl fun G a w S => ?_
    refine sPickF (.bool ((x53.length : Int) != (x71.length : Int))) S (wN rfl) rfl rfl hc60 rfl rfl (lb rfl) fun a S => ?_
    exact leafL ⟨rfl, S⟩
  exact leafT (⟨(x53.length : Int) != (x71.length : Int), Option.some.inj h, S.fix [] [9] (by decide) rfl rfl rfl⟩)

end Go.Proofs.Ythfifeabomdlpaa
namespace Go.Proofs.Ythfifeabomdlpaa
open Go.RowKit
set_option linter.unusedVariables false

def anc_raddleref13_Spell_0 : List (List Nat) := [[], [], [], [], [], [], [4, 5], [3, 4, 5, 6], [3, 4, 5, 6, 7], [2, 3, 4, 5, 6, 7, 8], [2, 3, 4, 5, 6, 7, 8, 9], [], [], [11, 12], [2, 3, 4, 5, 6, 7, 8, 9, 10, 11, 12, 13], [2, 3, 4, 5, 6, 7, 8, 9, 10, 11, 12, 13, 14], [0, 1, 2, 3, 4, 5, 6, 7, 8, 9, 10, 11, 12, 13, 14, 15], [0, 1, 2, 3, 4, 5, 6, 7, 8, 9, 10, 11, 12, 13, 14, 15, 16]]
noncomputable def raddleref13_Spell_l1 (p0 : (List Int)) (p1 : (List (List Int))) : Int → Option (Int ⊕ (((List Int) × Int) ⊕ Unit)) := fun s0 => match s0 with
  | s21 =>
    if decide (s21 < (p0.length : Int)) then
      Option.bind (idxO p0 s21) fun x30 =>
      if decide ((p1.length : Int) ≤ x30) then
        some (.inr (.inl (([] : (List Int)), 8)))
      else
        some (.inl (w64 (s21 + 1)))
    else
      some (.inr (.inr ()))
noncomputable def raddleref13_Spell_l2 (x38 : (List Int)) (p0 : (List Int)) (p1 : (List (List Int))) : (List Int × Int) → Option ((List Int × Int) ⊕ List Int) := fun s0 => match s0 with
  | (s58, s59) =>
    if decide (s59 < (s58.length : Int)) then
      Option.bind (quoI s59 (x38.length : Int)) fun z68 =>
      Option.bind (idxO p0 z68) fun x70 =>
      Option.bind (idxO p1 x70) fun x75 =>
      Option.bind (remI s59 (x38.length : Int)) fun z82 =>
      Option.bind (idxO x75 z82) fun x84 =>
      Option.bind (idxO s58 s59) fun x89 =>
      Option.bind (setO s58 s59 x84) fun l94 =>
      some (.inl (l94, w64 (s59 + 1)))
    else
      some (.inr s58)
noncomputable def F_raddleref13_Spell (p0 : (List Int)) (p1 : (List (List Int))) : Option ((List Int) × Int) :=
  Option.bind (F_raddleref02_Check p0) fun r8 =>
  if r8 != 0 then
    some (([] : (List Int)), r8)
  else
    Option.bind (F_raddleref13_Spelled p1) fun r14 =>
    if r14 != 0 then
      some (([] : (List Int)), r14)
    else
      Option.bind (α := Unit ⊕ ((List Int) × Int)) (
        Option.bind (whileO (raddleref13_Spell_l1 p0 p1) 0) fun z0 => match z0 with
          | .inl z =>
            some (.inr z)
          | .inr _ =>
            some (.inl ())) fun z0 => match z0 with
        | .inl _ =>
          Option.bind (idxO p1 0) fun x38 =>
          if decide (400 < (w64 ((p0.length : Int) * (x38.length : Int)))) then
            some (([] : (List Int)), 4)
          else
            Option.bind (makeO (w64 ((p0.length : Int) * (x38.length : Int))) (0 : Int)) fun m52 =>
            Option.bind (α := List Int) (
              Option.bind (whileO (raddleref13_Spell_l2 x38 p0 p1) (m52, 0)) fun e63 =>
                some e63) fun o54 =>
            some (o54, 0)
        | .inr z =>
          some z
def c_raddleref13_Spell_val (r : ((List Int) × Int)) (x : Value) : Value := .tuple #[x, .int .i64 r.2]
def c_raddleref13_Spell_D (r : ((List Int) × Int)) (x : Value) : List Fact := [fRep (rL (rI .i64)) x r.1]
set_option maxHeartbeats 4000000 in
set_option maxRecDepth 100000 in
theorem c_raddleref13_Spell (E : Nat → Prop) (w0 : World) (p0 : (List Int)) (v0 : Value) (p1 : (List (List Int))) (v1 : Value) (r : ((List Int) × Int)) (h : F_raddleref13_Spell p0 p1 = some r) (S : St0 E [] w0 w0 [] [fRep (rL (rI .i64)) (v0) p0, fRep (rL (rL (rI .i64))) (v1) p1]) :
    Calls Try.prog 28 #[v0, v1] w0 (Ret (X := Value) E [] w0 (c_raddleref13_Spell_val r) (fun _ => []) (c_raddleref13_Spell_D r)) := by
  unfold F_raddleref13_Spell at h
  obtain ⟨ad1, cp2, _, rfl, _⟩ := S.know (i := 0) (e := fRep (rL (rI .i64)) (v0) p0) rfl
  obtain ⟨ad3, cp4, _, rfl, _⟩ := S.know (i := 1) (e := fRep (rL (rL (rI .i64))) (v1) p1) rfl
  refine sEnter (args := [.slice ad1 p0.length cp2, .slice ad3 p1.length cp4]) 71 Try.func28 rfl rfl (by simp) S (fun a S => ?_)
  refine sSeq (fun K5 hK5 => ?_)
  refine sRegion ?_
  refine sMove (.slice none 0 0) S (wN rfl) (.inr rfl) rfl rfl (lb rfl) fun a S => ?_
  refine sMove (iv 0) S (wN rfl) (.inr rfl) rfl rfl (lb rfl) fun a S => ?_
  refine leafL (leafT (hK5 _ _ ?_))
  refine sSeq (fun K6 hK6 => ?_)
  refine sSeq (fun K7 hK7 => ?_)
  refine sRegion ?_
  refine sMove (.slice ad1 p0.length cp2) S (wN rfl) (.inl rfl) rfl rfl (lb rfl) fun a S => ?_
  obtain ⟨r8, hx9, h⟩ := bindSome h
  have S1 := S.mem
  refine sCallQ (X := Unit) (f := 37) (vs := [.slice ad1 p0.length cp2]) (val := fun _ => iv r8) S (wN rfl) rfl callee37 rfl (S1.quiet [0] rfl) (fun E1 w1 S1 => c_raddleref02_Check E1 w1 p0 (.slice ad1 p0.length cp2) r8 hx9 S1) rfl (lb rfl) fun _ a w S => ?_
  refine sBin (.bool (r8 != 0)) S (wN rfl) rfl rfl rfl (bNe _ _ _ _ .i64 r8 0) rfl (lb rfl) fun a S => ?_
  refine leafL (leafT (hK7 _ _ ?_))
  rcases iteSome h with ⟨hc10, h⟩ | ⟨hc10, h⟩
  · refine sCondT S rfl hc10 ?_
    refine sSeq (fun K11 hK11 => ?_)
    refine sRegion ?_
    refine sMove (.slice ad1 p0.length cp2) S (wN rfl) (.inl rfl) rfl rfl (lb rfl) fun a S => ?_
    have S1 := S.mem
    refine sCallQ (X := Unit) (f := 37) (vs := [.slice ad1 p0.length cp2]) (val := fun _ => iv r8) S (wN rfl) rfl callee37 rfl (S1.quiet [0] rfl) (fun E1 w1 S1 => c_raddleref02_Check E1 w1 p0 (.slice ad1 p0.length cp2) r8 hx9 S1) rfl (lb rfl) fun _ a w S => ?_
    refine sMove (.slice none 0 0) S (wN rfl) (.inr rfl) rfl rfl (lb rfl) fun a S => ?_
    refine sMove (iv r8) S (wN rfl) (.inr rfl) rfl rfl (lb rfl) fun a S => ?_
    refine leafL (leafT (hK11 _ _ ?_))
    obtain rfl := Option.some.inj h
    have S := S.learn (fRep (rL (rI .i64)) (.slice none 0 0) ([] : (List Int))) (rL_nil _ _ _)
    exact wp_ret (rThen (sRet (.tuple #[.slice none 0 0, iv r8]) S (rsl2 rfl (rvT (t := 4) (v := .slice none 0 0) S rfl) (rvT (t := 5) (v := iv r8) S rfl)) ⟨(.slice none 0 0), rfl, S.mem.sel [] [0] (by decide) rfl rfl⟩))
  refine sCondF S rfl hc10 ?_
  refine wp_skip (leafT (hK6 _ _ ?_))
  refine sSeq (fun K12 hK12 => ?_)
  refine sSeq (fun K13 hK13 => ?_)
  refine sRegion ?_
  refine sMove (.slice ad3 p1.length cp4) S (wN rfl) (.inl rfl) rfl rfl (lb rfl) fun a S => ?_
  obtain ⟨r14, hx15, h⟩ := bindSome h
  have S1 := S.mem
  refine sCallQ (X := Unit) (f := 36) (vs := [.slice ad3 p1.length cp4]) (val := fun _ => iv r14) S (wN rfl) rfl callee36 rfl (S1.quiet [1] rfl) (fun E1 w1 S1 => c_raddleref13_Spelled E1 w1 p1 (.slice ad3 p1.length cp4) r14 hx15 S1) rfl (lb rfl) fun _ a w S => ?_
  refine sBin (.bool (r14 != 0)) S (wN rfl) rfl rfl rfl (bNe _ _ _ _ .i64 r14 0) rfl (lb rfl) fun a S => ?_
  refine leafL (leafT (hK13 _ _ ?_))
  rcases iteSome h with ⟨hc16, h⟩ | ⟨hc16, h⟩
  · refine sCondT S rfl hc16 ?_
    refine sSeq (fun K17 hK17 => ?_)
    refine sRegion ?_
    refine sMove (.slice ad3 p1.length cp4) S (wN rfl) (.inl rfl) rfl rfl (lb rfl) fun a S => ?_
    have S1 := S.mem
    refine sCallQ (X := Unit) (f := 36) (vs := [.slice ad3 p1.length cp4]) (val := fun _ => iv r14) S (wN rfl) rfl callee36 rfl (S1.quiet [1] rfl) (fun E1 w1 S1 => c_raddleref13_Spelled E1 w1 p1 (.slice ad3 p1.length cp4) r14 hx15 S1) rfl (lb rfl) fun _ a w S => ?_
    refine sMove (.slice none 0 0) S (wN rfl) (.inr rfl) rfl rfl (lb rfl) fun a S => ?_
    refine sMove (iv r14) S (wN rfl) (.inr rfl) rfl rfl (lb rfl) fun a S => ?_
    refine leafL (leafT (hK17 _ _ ?_))
    obtain rfl := Option.some.inj h
    have S := S.learn (fRep (rL (rI .i64)) (.slice none 0 0) ([] : (List Int))) (rL_nil _ _ _)
    exact wp_ret (rThen (sRet (.tuple #[.slice none 0 0, iv r14]) S (rsl2 rfl (rvT (t := 4) (v := .slice none 0 0) S rfl) (rvT (t := 5) (v := iv r14) S rfl)) ⟨(.slice none 0 0), rfl, S.mem.sel [] [0] (by decide) rfl rfl⟩))
  refine sCondF S rfl hc16 ?_
  refine wp_skip (leafT (hK12 _ _ ?_))
  obtain ⟨t18, h, g19⟩ := bindSome h
  refine sCut (fun a w => .inl () = t18 ∧ St [] E [] w0 71 a w [(0, .slice ad1 p0.length cp2), (1, .slice ad3 p1.length cp4)] [] [fRep (rL (rI .i64)) (.slice ad1 p0.length cp2) p0, fRep (rL (rL (rI .i64))) (.slice ad3 p1.length cp4) p1]) ?_ (fun a w hI => ?_)
  · refine sSeq (fun K20 hK20 => ?_)
    refine sRegion ?_
    refine sMove (iv 0) S (wN rfl) (.inr rfl) rfl rfl (lb rfl) fun a S => ?_
    refine leafL (leafT (hK20 _ _ ?_))
    refine wp_block ?_
    obtain ⟨t24, hl, g23⟩ := bindSome h
    refine sLoop hl (fun s0 a w => match s0 with | s21 => St [] E [] w0 71 a w [(0, .slice ad1 p0.length cp2), (1, .slice ad3 p1.length cp4), (6, iv s21)] [] [fRep (rL (rI .i64)) (.slice ad1 p0.length cp2) p0, fRep (rL (rL (rI .i64))) (.slice ad3 p1.length cp4) p1]) (S.fix [] [0, 1] (by decide) rfl rfl rfl) ?_
    clear hl h
    intro s21 a w c0 hI h hu22
    unfold raddleref13_Spell_l1 at h
    dsimp only at h hI
    have S := hI
    refine sSeq (fun K25 hK25 => ?_)
    refine sSeq (fun K26 hK26 => ?_)
    refine sRegion ?_
    refine sMove (iv s21) S (wN rfl) (.inl rfl) rfl rfl (lb rfl) fun a S => ?_
    refine sMove (.slice ad1 p0.length cp2) S (wN rfl) (.inl rfl) rfl rfl (lb rfl) fun a S => ?_
    refine sLen (ad := ad1) (m := p0.length) (c := cp2) S (wN rfl) rfl Try.underlying35 rfl rfl (lb rfl) fun a S => ?_
    refine sBin (.bool (decide (s21 < (p0.length : Int)))) S (wN rfl) rfl rfl rfl (bLt _ _ _ _ .i64 s21 (p0.length : Int)) rfl (lb rfl) fun a S => ?_
    refine leafL (leafT (hK26 _ _ ?_))
    rcases iteSome h with ⟨hc27, h⟩ | ⟨hc27, h⟩
    rotate_left
    · refine sCondF S rfl hc27 ?_
      obtain rfl := Option.some.inj h
      obtain rfl := hu22 _ rfl
      have h := g23
      clear g23
      try dsimp only at h
      exact wp_exit (xThen (xThen (xHit (leafT (⟨Option.some.inj h, S.fix [] [0, 1] (by decide) rfl rfl rfl⟩)))))
    refine sCondT S rfl hc27 ?_
    refine wp_skip (leafT (hK25 _ _ ?_))
    refine sSeq (fun K28 hK28 => ?_)
    refine wp_block ?_
    refine sSeq (fun K29 hK29 => ?_)
    refine sRegion ?_
    refine sMove (.slice ad1 p0.length cp2) S (wN rfl) (.inl rfl) rfl rfl (lb rfl) fun a S => ?_
    refine sMove (iv s21) S (wN rfl) (.inl rfl) rfl rfl (lb rfl) fun a S => ?_
    obtain ⟨x30, hx31, h⟩ := bindSome h
    obtain ⟨q32, hq33, S⟩ := pIdx (P := Try.prog) (r := (rI .i64)) (v := .slice ad1 p0.length cp2) (xs := p0) (j := s21) 35 3 0 S Try.underlying35 rfl rfl hx31
    refine sIdxV (v := .slice ad1 p0.length cp2) (k := .i64) (j := s21) S (wN rfl) rfl rfl rfl hq33 rfl (lb rfl) fun a S => ?_
    obtain ⟨u34, S⟩ := pLoad (r := (rI .i64)) (q := q32) (x := x30) 0 S rfl
    obtain rfl : u34 = iv x30 := S.mem.know (i := 1) (e := fRep (rI .i64) (u34) x30) rfl
    refine sLoadV1 (vq := q32) 0 (iv x30) S (wN rfl) rfl rfl rfl rfl rfl (lb rfl) fun a S => ?_
    refine sMove (.slice ad3 p1.length cp4) S (wN rfl) (.inl rfl) rfl rfl (lb rfl) fun a S => ?_
    refine sLen (ad := ad3) (m := p1.length) (c := cp4) S (wN rfl) rfl Try.underlying46 rfl rfl (lb rfl) fun a S => ?_
    refine sBin (.bool (decide ((p1.length : Int) ≤ x30))) S (wN rfl) rfl rfl rfl (bGe _ _ _ _ .i64 x30 (p1.length : Int)) rfl (lb rfl) fun a S => ?_
    refine leafL (leafT (hK29 _ _ ?_))
    rcases iteSome h with ⟨hc35, h⟩ | ⟨hc35, h⟩
    rotate_left
    · refine sCondF S rfl hc35 ?_
      refine wp_skip (leafB (leafT (hK28 _ _ ?_)))
      refine sRegion ?_
      refine sMove (iv s21) S (wN rfl) (.inl rfl) rfl rfl (lb rfl) fun a S => ?_
      refine sBin (iv (w64 (s21 + 1))) S (wN rfl) rfl rfl rfl (bAdd _ _ _ _ s21 1) rfl (lb rfl) fun a S => ?_
      refine sMove (iv (w64 (s21 + 1))) S (wN rfl) (.inr rfl) rfl rfl (lb rfl) fun a S => ?_
      exact leafL (leafT (⟨w64 (s21 + 1), (Option.some.inj h).symm, (S.fix [] [3, 4] (by decide) rfl rfl rfl)⟩))
    refine sCondT S rfl hc35 ?_
    refine sSeq (fun K36 hK36 => ?_)
    refine sRegion ?_
    refine sMove (.slice none 0 0) S (wN rfl) (.inr rfl) rfl rfl (lb rfl) fun a S => ?_
    refine sMove (iv 8) S (wN rfl) (.inr rfl) rfl rfl (lb rfl) fun a S => ?_
    refine leafL (leafT (hK36 _ _ ?_))
    obtain rfl := Option.some.inj h
    obtain rfl := hu22 _ rfl
    have h := g23
    clear g23
    try dsimp only at h
    obtain rfl := Option.some.inj h
    have h := g19
    clear g19
    try dsimp only at h
    obtain rfl := Option.some.inj h
    have S := S.learn (fRep (rL (rI .i64)) (.slice none 0 0) ([] : (List Int))) (rL_nil _ _ _)
    exact wp_ret (rBlock (rThen (rThen (rBlock (rThen (sRet (.tuple #[.slice none 0 0, iv 8]) S (rsl2 rfl (rvT (t := 4) (v := .slice none 0 0) S rfl) (rvT (t := 5) (v := iv 8) S rfl)) ⟨(.slice none 0 0), rfl, S.mem.sel [] [0] (by decide) rfl rfl⟩))))))
  obtain ⟨rfl, S⟩ := hI
  have h := g19
  clear g19
  try dsimp only at h
  refine sSeq (fun K37 hK37 => ?_)
  refine sRegion ?_
  refine sMove (.slice ad3 p1.length cp4) S (wN rfl) (.inl rfl) rfl rfl (lb rfl) fun a S => ?_
  obtain ⟨x38, hx39, h⟩ := bindSome h
  obtain ⟨q40, hq41, S⟩ := pIdx (P := Try.prog) (r := (rL (rI .i64))) (v := .slice ad3 p1.length cp4) (xs := p1) (j := 0) 46 35 1 S Try.underlying46 rfl rfl hx39
  refine sIdxV (v := .slice ad3 p1.length cp4) (k := .i64) (j := 0) S (wN rfl) rfl rfl rfl hq41 rfl (lb rfl) fun a S => ?_
  obtain ⟨u42, S⟩ := pLoad (r := (rL (rI .i64))) (q := q40) (x := x38) 0 S rfl
  obtain ⟨ad43, cp44, _, rfl, _⟩ := S.mem.know (i := 1) (e := fRep (rL (rI .i64)) (u42) x38) rfl
  refine sLoadV1 (vq := q40) 0 (.slice ad43 x38.length cp44) S (wN rfl) rfl rfl rfl rfl rfl (lb rfl) fun a S => ?_
  refine sLen (ad := ad43) (m := x38.length) (c := cp44) S (wN rfl) rfl Try.underlying35 rfl rfl (lb rfl) fun a S => ?_
  refine sMove (iv (x38.length : Int)) S (wN rfl) (.inr rfl) rfl rfl (lb rfl) fun a S => ?_
  refine leafL (leafT (hK37 _ _ ?_))
  refine sSeq (fun K45 hK45 => ?_)
  refine sSeq (fun K46 hK46 => ?_)
  refine sRegion ?_
  refine sMove (.slice ad1 p0.length cp2) S (wN rfl) (.inl rfl) rfl rfl (lb rfl) fun a S => ?_
  refine sLen (ad := ad1) (m := p0.length) (c := cp2) S (wN rfl) rfl Try.underlying35 rfl rfl (lb rfl) fun a S => ?_
  refine sMove (iv (x38.length : Int)) S (wN rfl) (.inl rfl) rfl rfl (lb rfl) fun a S => ?_
  refine sBin (iv (w64 ((p0.length : Int) * (x38.length : Int)))) S (wN rfl) rfl rfl rfl (bMul _ _ _ _ (p0.length : Int) (x38.length : Int)) rfl (lb rfl) fun a S => ?_
  refine sBin (.bool (decide (400 < (w64 ((p0.length : Int) * (x38.length : Int)))))) S (wN rfl) rfl rfl rfl (bGt _ _ _ _ .i64 (w64 ((p0.length : Int) * (x38.length : Int))) 400) rfl (lb rfl) fun a S => ?_
  refine leafL (leafT (hK46 _ _ ?_))
  rcases iteSome h with ⟨hc47, h⟩ | ⟨hc47, h⟩
  · refine sCondT S rfl hc47 ?_
    refine sSeq (fun K48 hK48 => ?_)
    refine sRegion ?_
    refine sMove (.slice none 0 0) S (wN rfl) (.inr rfl) rfl rfl (lb rfl) fun a S => ?_
    refine sMove (iv 4) S (wN rfl) (.inr rfl) rfl rfl (lb rfl) fun a S => ?_
    refine leafL (leafT (hK48 _ _ ?_))
    obtain rfl := Option.some.inj h
    have S := S.learn (fRep (rL (rI .i64)) (.slice none 0 0) ([] : (List Int))) (rL_nil _ _ _)
    exact wp_ret (rThen (sRet (.tuple #[.slice none 0 0, iv 4]) S (rsl2 rfl (rvT (t := 4) (v := .slice none 0 0) S rfl) (rvT (t := 5) (v := iv 4) S rfl)) ⟨(.slice none 0 0), rfl, S.mem.sel [] [0] (by decide) rfl rfl⟩))
  refine sCondF S rfl hc47 ?_
  refine wp_skip (leafT (hK45 _ _ ?_))
  refine sSeq (fun K49 hK49 => ?_)
  refine sRegion ?_
  refine sMove (.slice ad1 p0.length cp2) S (wN rfl) (.inl rfl) rfl rfl (lb rfl) fun a S => ?_
  refine sLen (ad := ad1) (m := p0.length) (c := cp2) S (wN rfl) rfl Try.underlying35 rfl rfl (lb rfl) fun a S => ?_
  refine sMove (iv (x38.length : Int)) S (wN rfl) (.inl rfl) rfl rfl (lb rfl) fun a S => ?_
  refine sBin (iv (w64 ((p0.length : Int) * (x38.length : Int)))) S (wN rfl) rfl rfl rfl (bMul _ _ _ _ (p0.length : Int) (x38.length : Int)) rfl (lb rfl) fun a S => ?_
  obtain ⟨m52, hx53, h⟩ := bindSome h
  refine sMake (r := (rI .i64)) (m := w64 ((p0.length : Int) * (x38.length : Int))) (xs := m52) (iv 0) (0 : Int) 8 S (wN rfl) rfl Try.underlying35 rfl rfl (by decide) (fun _ _ => rfl) rfl rfl hx53 rfl (lb rfl) fun a w ad50 cp51 S => ?_
  refine sMove (.slice ad50 m52.length cp51) S (wN rfl) (.inr rfl) rfl rfl (lb rfl) fun a S => ?_
  refine leafL (leafT (hK49 _ _ ?_))
  obtain ⟨t55, h, g56⟩ := bindSome h
  refine sCut (fun a w => ∃ o54, o54 = t55 ∧ St [] E [] w0 71 a w [(8, .slice ad50 o54.length cp51)] [eRow (rI .i64) 3 (.slice ad50 o54.length cp51) o54] []) ?_ (fun a w hI => ?_)
  rotate_left
  · obtain ⟨o54, rfl, S⟩ := hI
    have h := g56
    clear g56
    try dsimp only at h
    refine sSeq (fun K110 hK110 => ?_)
    refine sRegion ?_
    refine sMove (.slice ad50 o54.length cp51) S (wN rfl) (.inl rfl) rfl rfl (lb rfl) fun a S => ?_
    refine sMove (.slice ad50 o54.length cp51) S (wN rfl) (.inr rfl) rfl rfl (lb rfl) fun a S => ?_
    refine sMove (iv 0) S (wN rfl) (.inr rfl) rfl rfl (lb rfl) fun a S => ?_
    refine leafL (leafT (hK110 _ _ ?_))
    obtain rfl := Option.some.inj h
    have S := S.shutR (r := (rI .i64)) (T := 3) (v := .slice ad50 o54.length cp51) (xs := o54) 0 rfl
    exact wp_ret (sRet (.tuple #[.slice ad50 o54.length cp51, iv 0]) S (rsl2 rfl (rvT (t := 4) (v := .slice ad50 o54.length cp51) S rfl) (rvT (t := 5) (v := iv 0) S rfl)) ⟨(.slice ad50 o54.length cp51), rfl, S.mem.sel [] [0] (by decide) rfl rfl⟩)
  refine sSeq (fun K57 hK57 => ?_)
  refine sRegion ?_
  refine sMove (iv 0) S (wN rfl) (.inr rfl) rfl rfl (lb rfl) fun a S => ?_
  refine leafL (leafT (hK57 _ _ ?_))
  refine wp_block ?_
  obtain ⟨t62, hl, g61⟩ := bindSome h
  refine sLoop hl (fun s0 a w => match s0 with | (s58, s59) => St [] E [] w0 71 a w [(0, .slice ad1 p0.length cp2), (1, .slice ad3 p1.length cp4), (7, iv (x38.length : Int)), (8, .slice ad50 s58.length cp51), (9, iv s59)] [eRow (rI .i64) 3 (.slice ad50 s58.length cp51) s58] [fRep (rL (rI .i64)) (.slice ad1 p0.length cp2) p0, fRep (rL (rL (rI .i64))) (.slice ad3 p1.length cp4) p1]) (S.fix [0] [3, 4] (by decide) rfl rfl rfl) ?_
  clear hl h
  intro s0 a w c0 hI h hu60
  obtain ⟨s58, s59⟩ := s0
  unfold raddleref13_Spell_l2 at h
  dsimp only at h hI
  have S := hI
  refine sSeq (fun K64 hK64 => ?_)
  refine sSeq (fun K65 hK65 => ?_)
  refine sRegion ?_
  refine sMove (iv s59) S (wN rfl) (.inl rfl) rfl rfl (lb rfl) fun a S => ?_
  refine sMove (.slice ad50 s58.length cp51) S (wN rfl) (.inl rfl) rfl rfl (lb rfl) fun a S => ?_
  refine sLen (ad := ad50) (m := s58.length) (c := cp51) S (wN rfl) rfl Try.underlying35 rfl rfl (lb rfl) fun a S => ?_
  refine sBin (.bool (decide (s59 < (s58.length : Int)))) S (wN rfl) rfl rfl rfl (bLt _ _ _ _ .i64 s59 (s58.length : Int)) rfl (lb rfl) fun a S => ?_
  refine leafL (leafT (hK65 _ _ ?_))
  rcases iteSome h with ⟨hc66, h⟩ | ⟨hc66, h⟩
  rotate_left
  · refine sCondF S rfl hc66 ?_
    obtain rfl := Option.some.inj h
    obtain rfl := hu60 _ rfl
    have h := g61
    clear g61
    try dsimp only at h
    exact wp_exit (xThen (xThen (xHit (leafT (⟨s58, Option.some.inj h, S.fix [0] [] (by decide) rfl rfl rfl⟩)))))
  refine sCondT S rfl hc66 ?_
  refine wp_skip (leafT (hK64 _ _ ?_))
  refine sSeq (fun K67 hK67 => ?_)
  refine wp_block ?_
  obtain ⟨z68, hx69, h⟩ := bindSome h
  obtain ⟨x70, hx71, h⟩ := bindSome h
  obtain ⟨x75, hx76, h⟩ := bindSome h
  obtain ⟨z82, hx83, h⟩ := bindSome h
  obtain ⟨x84, hx85, h⟩ := bindSome h
  obtain ⟨x89, hx90, h⟩ := bindSome h
  obtain ⟨l94, hx95, h⟩ := bindSome h
  obtain ⟨q96, hq97, S⟩ := pIdx (P := Try.prog) (r := (rI .i64)) (v := .slice ad1 p0.length cp2) (xs := p0) (j := z68) 35 3 0 S Try.underlying35 rfl rfl hx71
  obtain ⟨u98, S⟩ := pLoad (r := (rI .i64)) (q := q96) (x := x70) 0 S rfl
  obtain rfl : u98 = iv x70 := S.mem.know (i := 1) (e := fRep (rI .i64) (u98) x70) rfl
  obtain ⟨q99, hq100, S⟩ := pIdx (P := Try.prog) (r := (rL (rI .i64))) (v := .slice ad3 p1.length cp4) (xs := p1) (j := x70) 46 35 4 S Try.underlying46 rfl rfl hx76
  obtain ⟨u101, S⟩ := pLoad (r := (rL (rI .i64))) (q := q99) (x := x75) 0 S rfl
  obtain ⟨ad102, cp103, _, rfl, _⟩ := S.mem.know (i := 1) (e := fRep (rL (rI .i64)) (u101) x75) rfl
  obtain ⟨q104, hq105, S⟩ := pIdx (P := Try.prog) (r := (rI .i64)) (v := .slice ad102 x75.length cp103) (xs := x75) (j := z82) 35 3 1 S Try.underlying35 rfl rfl hx85
  obtain ⟨u106, S⟩ := pLoad (r := (rI .i64)) (q := q104) (x := x84) 0 S rfl
  obtain rfl : u106 = iv x84 := S.mem.know (i := 1) (e := fRep (rI .i64) (u106) x84) rfl
  obtain ⟨q107, hq108, hp109⟩ := pIdxR (P := Try.prog) (r := (rI .i64)) (T := 3) (v := .slice ad50 s58.length cp51) (xs := s58) (j := s59) 35 3 0 S Try.underlying35 rfl rfl hx90
  refine sDraw (nf := [17]) (W := [(0, 53, .slice ad50 s58.length cp51), (1, 54, iv s59), (2, 55, .slice ad3 p1.length cp4), (3, 56, .slice ad1 p0.length cp2), (4, 57, iv s59), (5, 58, iv (x38.length : Int)), (6, 59, iv z68), (7, 60, q96), (8, 61, iv x70), (9, 62, q99), (10, 63, .slice ad102 x75.length cp103), (11, 64, iv s59), (12, 65, iv (x38.length : Int)), (13, 66, iv z82), (14, 67, q104), (15, 68, iv x84), (16, 69, q107)]) rfl S ?_
  refine node_by (A := anc_raddleref13_Spell_0) (nf := [17]) (Y := []) (W := [(0, 53, .slice ad50 s58.length cp51), (1, 54, iv s59), (2, 55, .slice ad3 p1.length cp4), (3, 56, .slice ad1 p0.length cp2), (4, 57, iv s59), (5, 58, iv (x38.length : Int)), (6, 59, iv z68), (7, 60, q96), (8, 61, iv x70), (9, 62, q99), (10, 63, .slice ad102 x75.length cp103), (11, 64, iv s59), (12, 65, iv (x38.length : Int)), (13, 66, iv z82), (14, 67, q104), (15, 68, iv x84), (16, 69, q107)]) 18 (by kernel_rfl) (by kernel_rfl) (by kernel_rfl) (by kernel_rfl) (by kernel_rfl) [0, 1, 2, 3, 4, 5, 6, 7, 8, 9, 10, 11, 12, 13, 14, 15, 16] (by kernel_rfl) (by decide) (by decide) (aF 0 17 (by decide) ?_ (aF 1 16 (by decide) ?_ (aF 2 15 (by decide) ?_ (aF 3 14 (by decide) ?_ (aF 4 13 (by decide) ?_ (aF 5 12 (by decide) ?_ (aF 6 11 (by decide) ?_ (aF 7 10 (by decide) ?_ (aF 8 9 (by decide) ?_ (aF 9 8 (by decide) ?_ (aF 10 7 (by decide) ?_ (aF 11 6 (by decide) ?_ (aF 12 5 (by decide) ?_ (aF 13 4 (by decide) ?_ (aF 14 3 (by decide) ?_ (aF 15 2 (by decide) ?_ (aF 16 1 (by decide) ?_ (aN 17 0 (by decide) ?_ (trivial))))))))))))))))))) [] (fun q hq => by cases hq) (fun hY => absurd (hY 17 (by decide)) (by decide))
  · refine fI 53 (.slice ad50 s58.length cp51) [(8, .slice ad50 s58.length cp51)] 0 [none] rfl rfl rfl rfl rfl rfl fun G a w S => ?_
    refine sMove (.slice ad50 s58.length cp51) S (wN rfl) (.inl rfl) rfl rfl (lb rfl) fun a S => ?_
    exact leafL ⟨rfl, S⟩
  · refine fI 54 (iv s59) [(9, iv s59)] 1 [none] rfl rfl rfl rfl rfl rfl fun G a w S => ?_
    refine sMove (iv s59) S (wN rfl) (.inl rfl) rfl rfl (lb rfl) fun a S => ?_
    exact leafL ⟨rfl, S⟩
  · refine fI 55 (.slice ad3 p1.length cp4) [(1, .slice ad3 p1.length cp4)] 2 [none] rfl rfl rfl rfl rfl rfl fun G a w S => ?_
    refine sMove (.slice ad3 p1.length cp4) S (wN rfl) (.inl rfl) rfl rfl (lb rfl) fun a S => ?_
    exact leafL ⟨rfl, S⟩
  · refine fI 56 (.slice ad1 p0.length cp2) [(0, .slice ad1 p0.length cp2)] 3 [none] rfl rfl rfl rfl rfl rfl fun G a w S => ?_
    refine sMove (.slice ad1 p0.length cp2) S (wN rfl) (.inl rfl) rfl rfl (lb rfl) fun a S => ?_
    exact leafL ⟨rfl, S⟩
  · refine fI 57 (iv s59) [(9, iv s59)] 4 [none] rfl rfl rfl rfl rfl rfl fun G a w S => ?_
    refine sMove (iv s59) S (wN rfl) (.inl rfl) rfl rfl (lb rfl) fun a S => ?_
    exact leafL ⟨rfl, S⟩
  · refine fI 58 (iv (x38.length : Int)) [(7, iv (x38.length : Int))] 5 [none] rfl rfl rfl rfl rfl rfl fun G a w S => ?_
    refine sMove (iv (x38.length : Int)) S (wN rfl) (.inl rfl) rfl rfl (lb rfl) fun a S => ?_
    exact leafL ⟨rfl, S⟩
  · refine fI 59 (iv z68) [(57, iv s59), (58, iv (x38.length : Int))] 6 [some 4, some 5] rfl rfl rfl rfl rfl rfl fun G a w S => ?_
    refine sBin (iv z68) S (wN rfl) rfl rfl rfl (bQuo _ _ _ _ (x := s59) (y := (x38.length : Int)) hx69) rfl (lb rfl) fun a S => ?_
    exact leafL ⟨rfl, S⟩
  · refine fI 60 q96 [(56, .slice ad1 p0.length cp2), (59, iv z68)] 7 [some 3, some 6] rfl rfl rfl rfl rfl rfl fun G a w S => ?_
    refine sIdxV (v := .slice ad1 p0.length cp2) (k := .i64) (j := z68) S (wN rfl) rfl rfl rfl hq97 rfl (lb rfl) fun a S => ?_
    exact leafL ⟨rfl, S⟩
  · refine fI 61 (iv x70) [(60, q96)] 8 [some 7] rfl rfl rfl rfl rfl rfl fun G a w S => ?_
    refine sLoadV1 (vq := q96) 6 (iv x70) S (wN rfl) rfl rfl rfl rfl rfl (lb rfl) fun a S => ?_
    exact leafL ⟨rfl, S⟩
  · refine fI 62 q99 [(55, .slice ad3 p1.length cp4), (61, iv x70)] 9 [some 2, some 8] rfl rfl rfl rfl rfl rfl fun G a w S => ?_
    refine sIdxV (v := .slice ad3 p1.length cp4) (k := .i64) (j := x70) S (wN rfl) rfl rfl rfl hq100 rfl (lb rfl) fun a S => ?_
    exact leafL ⟨rfl, S⟩
  · refine fI 63 (.slice ad102 x75.length cp103) [(62, q99)] 10 [some 9] rfl rfl rfl rfl rfl rfl fun G a w S => ?_
    refine sLoadV1 (vq := q99) 3 (.slice ad102 x75.length cp103) S (wN rfl) rfl rfl rfl rfl rfl (lb rfl) fun a S => ?_
    exact leafL ⟨rfl, S⟩
  · refine fI 64 (iv s59) [(9, iv s59)] 11 [none] rfl rfl rfl rfl rfl rfl fun G a w S => ?_
    refine sMove (iv s59) S (wN rfl) (.inl rfl) rfl rfl (lb rfl) fun a S => ?_
    exact leafL ⟨rfl, S⟩
  · refine fI 65 (iv (x38.length : Int)) [(7, iv (x38.length : Int))] 12 [none] rfl rfl rfl rfl rfl rfl fun G a w S => ?_
    refine sMove (iv (x38.length : Int)) S (wN rfl) (.inl rfl) rfl rfl (lb rfl) fun a S => ?_
    exact leafL ⟨rfl, S⟩
  · refine fI 66 (iv z82) [(64, iv s59), (65, iv (x38.length : Int))] 13 [some 11, some 12] rfl rfl rfl rfl rfl rfl fun G a w S => ?_
    refine sBin (iv z82) S (wN rfl) rfl rfl rfl (bRem _ _ _ _ (x := s59) (y := (x38.length : Int)) hx83) rfl (lb rfl) fun a S => ?_
    exact leafL ⟨rfl, S⟩
  · refine fI 67 q104 [(63, .slice ad102 x75.length cp103), (66, iv z82)] 14 [some 10, some 13] rfl rfl rfl rfl rfl rfl fun G a w S => ?_
    refine sIdxV (v := .slice ad102 x75.length cp103) (k := .i64) (j := z82) S (wN rfl) rfl rfl rfl hq105 rfl (lb rfl) fun a S => ?_
    exact leafL ⟨rfl, S⟩
  · refine fI 68 (iv x84) [(67, q104)] 15 [some 14] rfl rfl rfl rfl rfl rfl fun G a w S => ?_
    refine sLoadV1 (vq := q104) 0 (iv x84) S (wN rfl) rfl rfl rfl rfl rfl (lb rfl) fun a S => ?_
    exact leafL ⟨rfl, S⟩
  · refine fI 69 q107 [(53, .slice ad50 s58.length cp51), (54, iv s59)] 16 [some 0, some 1] rfl rfl rfl rfl rfl rfl fun G a w S => ?_
    refine sIdxV (v := .slice ad50 s58.length cp51) (k := .i64) (j := s59) S (wN rfl) rfl rfl rfl hq108 rfl (lb rfl) fun a S => ?_
    exact leafL ⟨rfl, S⟩
  refine ⟨_, [(68, iv x84), (69, q107)], rfl, (srcs_of [some 15, some 16] rfl rfl rfl), fun G a w S => ?_⟩
  refine sStoreR (r := (rI .i64)) (T := 3) (xs := s58) (ys := l94) (y := x84) (v := .slice ad50 s58.length cp51) (vq := q107) (u := iv x84) (j := s59) 0 S hp109 (wN rfl) rfl rfl rfl rfl rfl hx95 rfl rfl fun a w S => ?_
  refine leafL ⟨rfl, _, _, .inr ⟨[], rfl, S, hz_of rfl, ?_⟩⟩
  refine node_by (A := anc_raddleref13_Spell_0) (nf := [17]) (Y := [17]) 18 (by kernel_rfl) (by kernel_rfl) (by kernel_rfl) (by kernel_rfl) (by kernel_rfl) [0, 1, 2, 3, 4, 5, 6, 7, 8, 9, 10, 11, 12, 13, 14, 15, 16] (by kernel_rfl) (by decide) (by decide) (aD 0 17 17 (by decide) (aD 1 16 17 (by decide) (aD 2 15 17 (by decide) (aD 3 14 17 (by decide) (aD 4 13 17 (by decide) (aD 5 12 17 (by decide) (aD 6 11 17 (by decide) (aD 7 10 17 (by decide) (aD 8 9 17 (by decide) (aD 9 8 17 (by decide) (aD 10 7 17 (by decide) (aD 11 6 17 (by decide) (aD 12 5 17 (by decide) (aD 13 4 17 (by decide) (aD 14 3 17 (by decide) (aD 15 2 17 (by decide) (aD 16 1 17 (by decide) (aY 17 0 (by decide) (trivial))))))))))))))))))) [(0, .slice ad1 p0.length cp2), (1, .slice ad3 p1.length cp4), (7, iv (x38.length : Int)), (8, .slice ad50 s58.length cp51), (9, iv s59)] (fin_of [none, none, none, none, none] rfl (by kernel_rfl) (by kernel_rfl)) (fun _ a w S => ?_)
  rw [setO_v hx95 ad50 cp51] at S
  refine leafB (leafT (hK67 _ _ ?_))
  refine sRegion ?_
  refine sMove (iv s59) S (wN rfl) (.inl rfl) rfl rfl (lb rfl) fun a S => ?_
  refine sBin (iv (w64 (s59 + 1))) S (wN rfl) rfl rfl rfl (bAdd _ _ _ _ s59 1) rfl (lb rfl) fun a S => ?_
  refine sMove (iv (w64 (s59 + 1))) S (wN rfl) (.inr rfl) rfl rfl (lb rfl) fun a S => ?_
  exact leafL (leafT (⟨(l94, w64 (s59 + 1)), (Option.some.inj h).symm, (S.fix [0] [9, 10] (by decide) rfl rfl rfl)⟩))

end Go.Proofs.Ythfifeabomdlpaa
namespace Go.Proofs.Ythfifeabomdlpaa
open Go.RowKit
set_option linter.unusedVariables false

def anc_slices_Equal___int_int__0 : List (List Nat) := [[], [], [0, 1], [0, 1, 2], [], [], [4, 5], [4, 5, 6], [0, 1, 2, 3, 4, 5, 6, 7]]
noncomputable def slices_Equal___int_int__l1 (p0 : (List Int)) (p1 : (List Int)) : Int → Option (Int ⊕ (Bool ⊕ Unit)) := fun s0 => match s0 with
  | s13 =>
    if decide (s13 < (p0.length : Int)) then
      Option.bind (idxO p0 s13) fun x23 =>
      Option.bind (idxO p1 s13) fun x28 =>
      if x23 != x28 then
        some (.inr (.inl false))
      else
        some (.inl (w64 (s13 + 1)))
    else
      some (.inr (.inr ()))
noncomputable def F_slices_Equal___int_int_ (p0 : (List Int)) (p1 : (List Int)) : Option Bool :=
  if (p0.length : Int) != (p1.length : Int) then
    some false
  else
    Option.bind (α := Unit ⊕ Bool) (
      Option.bind (whileO (slices_Equal___int_int__l1 p0 p1) 0) fun z0 => match z0 with
        | .inl z =>
          some (.inr z)
        | .inr _ =>
          some (.inl ())) fun z0 => match z0 with
      | .inl _ =>
        some true
      | .inr z =>
        some z
set_option maxHeartbeats 4000000 in
set_option maxRecDepth 100000 in
theorem c_slices_Equal___int_int_ (E : Nat → Prop) (w0 : World) (p0 : (List Int)) (v0 : Value) (p1 : (List Int)) (v1 : Value) (r : Bool) (h : F_slices_Equal___int_int_ p0 p1 = some r) (S : St0 E [] w0 w0 [] [fRep (rL (rI .i64)) (v0) p0, fRep (rL (rI .i64)) (v1) p1]) :
    Calls Try.prog 59 #[v0, v1] w0 (Ret (X := Unit) E [] w0 (fun _ => .bool r) (fun _ => []) (fun _ => [])) := by
  unfold F_slices_Equal___int_int_ at h
  obtain ⟨ad1, cp2, _, rfl, _⟩ := S.know (i := 0) (e := fRep (rL (rI .i64)) (v0) p0) rfl
  obtain ⟨ad3, cp4, _, rfl, _⟩ := S.know (i := 1) (e := fRep (rL (rI .i64)) (v1) p1) rfl
  refine sEnter (args := [.slice ad1 p0.length cp2, .slice ad3 p1.length cp4]) 26 Try.func59 rfl rfl (by simp) S (fun a S => ?_)
  refine sSeq (fun K5 hK5 => ?_)
  refine sRegion ?_
  refine sMove (.bool false) S (wN rfl) (.inr rfl) rfl rfl (lb rfl) fun a S => ?_
  refine leafL (leafT (hK5 _ _ ?_))
  refine sSeq (fun K6 hK6 => ?_)
  refine sSeq (fun K7 hK7 => ?_)
  refine sRegion ?_
  refine sMove (.slice ad1 p0.length cp2) S (wN rfl) (.inl rfl) rfl rfl (lb rfl) fun a S => ?_
  refine sLen (ad := ad1) (m := p0.length) (c := cp2) S (wN rfl) rfl Try.underlying35 rfl rfl (lb rfl) fun a S => ?_
  refine sMove (.slice ad3 p1.length cp4) S (wN rfl) (.inl rfl) rfl rfl (lb rfl) fun a S => ?_
  refine sLen (ad := ad3) (m := p1.length) (c := cp4) S (wN rfl) rfl Try.underlying35 rfl rfl (lb rfl) fun a S => ?_
  refine sBin (.bool ((p0.length : Int) != (p1.length : Int))) S (wN rfl) rfl rfl rfl (bNe _ _ _ _ .i64 (p0.length : Int) (p1.length : Int)) rfl (lb rfl) fun a S => ?_
  refine leafL (leafT (hK7 _ _ ?_))
  rcases iteSome h with ⟨hc8, h⟩ | ⟨hc8, h⟩
  · refine sCondT S rfl hc8 ?_
    refine sSeq (fun K9 hK9 => ?_)
    refine sRegion ?_
    refine sMove (.bool false) S (wN rfl) (.inr rfl) rfl rfl (lb rfl) fun a S => ?_
    refine leafL (leafT (hK9 _ _ ?_))
    obtain rfl := Option.some.inj h
    exact wp_ret (rThen (sRet (.bool false) S (rsl1 rfl (rvT (t := 4) (v := .bool false) S rfl)) ⟨(), rfl, S.mem.sel [] [] (by decide) rfl rfl⟩))
  refine sCondF S rfl hc8 ?_
  refine wp_skip (leafT (hK6 _ _ ?_))
  obtain ⟨t10, h, g11⟩ := bindSome h
  refine sCut (fun a w => .inl () = t10 ∧ St [] E [] w0 26 a w [] [] []) ?_ (fun a w hI => ?_)
  rotate_left
  · obtain ⟨rfl, S⟩ := hI
    have h := g11
    clear g11
    try dsimp only at h
    refine sSeq (fun K41 hK41 => ?_)
    refine sRegion ?_
    refine sMove (.bool true) S (wN rfl) (.inr rfl) rfl rfl (lb rfl) fun a S => ?_
    refine leafL (leafT (hK41 _ _ ?_))
    obtain rfl := Option.some.inj h
    exact wp_ret (sRet (.bool true) S (rsl1 rfl (rvT (t := 4) (v := .bool true) S rfl)) ⟨(), rfl, S.mem.sel [] [] (by decide) rfl rfl⟩)
  refine sSeq (fun K12 hK12 => ?_)
  refine sRegion ?_
  refine sMove (.slice ad1 p0.length cp2) S (wN rfl) (.inl rfl) rfl rfl (lb rfl) fun a S => ?_
  refine sLen (ad := ad1) (m := p0.length) (c := cp2) S (wN rfl) rfl Try.underlying35 rfl rfl (lb rfl) fun a S => ?_
  refine sMove (iv 0) S (wN rfl) (.inl rfl) rfl rfl (lb rfl) fun a S => ?_
  refine leafL (leafT (hK12 _ _ ?_))
  refine wp_block ?_
  obtain ⟨t16, hl, g15⟩ := bindSome h
  refine sLoop hl (fun s0 a w => match s0 with | s13 => St [] E [] w0 26 a w [(0, .slice ad1 p0.length cp2), (1, .slice ad3 p1.length cp4), (12, iv (p0.length : Int)), (13, iv s13)] [] [fRep (rL (rI .i64)) (.slice ad1 p0.length cp2) p0, fRep (rL (rI .i64)) (.slice ad3 p1.length cp4) p1]) (S.fix [] [0, 1] (by decide) rfl rfl rfl) ?_
  clear hl h
  intro s13 a w c0 hI h hu14
  unfold slices_Equal___int_int__l1 at h
  dsimp only at h hI
  have S := hI
  refine sSeq (fun K17 hK17 => ?_)
  refine sRegion ?_
  refine sBin (.bool (decide (s13 < (p0.length : Int)))) S (wN rfl) rfl rfl rfl (bLt _ _ _ _ .i64 s13 (p0.length : Int)) rfl (lb rfl) fun a S => ?_
  refine leafL (leafT (hK17 _ _ ?_))
  refine sSeq (fun K18 hK18 => ?_)
  rcases iteSome h with ⟨hc19, h⟩ | ⟨hc19, h⟩
  rotate_left
  · refine sCondF S rfl hc19 ?_
    obtain rfl := Option.some.inj h
    obtain rfl := hu14 _ rfl
    have h := g15
    clear g15
    try dsimp only at h
    exact wp_exit (xThen (xThen (xHit (leafT (⟨Option.some.inj h, S.fix [] [] (by decide) rfl rfl rfl⟩)))))
  refine sCondT S rfl hc19 ?_
  refine wp_skip (leafT (hK18 _ _ ?_))
  refine sSeq (fun K20 hK20 => ?_)
  refine wp_block ?_
  refine sSeq (fun K21 hK21 => ?_)
  refine sRegion ?_
  refine sMove (iv s13) S (wN rfl) (.inl rfl) rfl rfl (lb rfl) fun a S => ?_
  refine sMove (iv s13) S (wN rfl) (.inr rfl) rfl rfl (lb rfl) fun a S => ?_
  refine leafL (leafT (hK21 _ _ ?_))
  refine sSeq (fun K22 hK22 => ?_)
  obtain ⟨x23, hx24, h⟩ := bindSome h
  obtain ⟨x28, hx29, h⟩ := bindSome h
  obtain ⟨q33, hq34, S⟩ := pIdx (P := Try.prog) (r := (rI .i64)) (v := .slice ad1 p0.length cp2) (xs := p0) (j := s13) 35 3 0 S Try.underlying35 rfl rfl hx24
  obtain ⟨u35, S⟩ := pLoad (r := (rI .i64)) (q := q33) (x := x23) 0 S rfl
  obtain rfl : u35 = iv x23 := S.mem.know (i := 1) (e := fRep (rI .i64) (u35) x23) rfl
  obtain ⟨q36, hq37, S⟩ := pIdx (P := Try.prog) (r := (rI .i64)) (v := .slice ad3 p1.length cp4) (xs := p1) (j := s13) 35 3 4 S Try.underlying35 rfl rfl hx29
  obtain ⟨u38, S⟩ := pLoad (r := (rI .i64)) (q := q36) (x := x28) 0 S rfl
  obtain rfl : u38 = iv x28 := S.mem.know (i := 1) (e := fRep (rI .i64) (u38) x28) rfl
  refine sDraw (nf := []) (W := [(0, 16, .slice ad1 p0.length cp2), (1, 17, iv s13), (2, 18, q33), (3, 19, iv x23), (4, 20, .slice ad3 p1.length cp4), (5, 21, iv s13), (6, 22, q36), (7, 23, iv x28), (8, 24, .bool (x23 != x28))]) rfl S ?_
  refine node_by (A := anc_slices_Equal___int_int__0) (nf := []) (Y := []) (W := [(0, 16, .slice ad1 p0.length cp2), (1, 17, iv s13), (2, 18, q33), (3, 19, iv x23), (4, 20, .slice ad3 p1.length cp4), (5, 21, iv s13), (6, 22, q36), (7, 23, iv x28), (8, 24, .bool (x23 != x28))]) 9 (by kernel_rfl) (by kernel_rfl) (by kernel_rfl) (by kernel_rfl) (by kernel_rfl) [0, 1, 2, 3, 4, 5, 6, 7, 8] (by kernel_rfl) (by decide) (by decide) (aF 0 8 (by decide) ?_ (aF 1 7 (by decide) ?_ (aF 2 6 (by decide) ?_ (aF 3 5 (by decide) ?_ (aF 4 4 (by decide) ?_ (aF 5 3 (by decide) ?_ (aF 6 2 (by decide) ?_ (aF 7 1 (by decide) ?_ (aF 8 0 (by decide) ?_ (trivial)))))))))) [(0, .slice ad1 p0.length cp2), (1, .slice ad3 p1.length cp4), (12, iv (p0.length : Int)), (13, iv s13), (24, .bool (x23 != x28))] (fin_of [none, none, none, none, some 8] rfl (by kernel_rfl) (by kernel_rfl)) (fun _ a w S => ?_)
  · refine fI 16 (.slice ad1 p0.length cp2) [(0, .slice ad1 p0.length cp2)] 0 [none] rfl rfl rfl rfl rfl rfl fun G a w S => ?_
    refine sMove (.slice ad1 p0.length cp2) S (wN rfl) (.inl rfl) rfl rfl (lb rfl) fun a S => ?_
    exact leafL ⟨rfl, S⟩
  · refine fI 17 (iv s13) [(5, iv s13)] 1 [none] rfl rfl rfl rfl rfl rfl fun G a w S => ?_
    refine sMove (iv s13) S (wN rfl) (.inl rfl) rfl rfl (lb rfl) fun a S => ?_
    exact leafL ⟨rfl, S⟩
  · refine fI 18 q33 [(16, .slice ad1 p0.length cp2), (17, iv s13)] 2 [some 0, some 1] rfl rfl rfl rfl rfl rfl fun G a w S => ?_
    refine sIdxV (v := .slice ad1 p0.length cp2) (k := .i64) (j := s13) S (wN rfl) rfl rfl rfl hq34 rfl (lb rfl) fun a S => ?_
    exact leafL ⟨rfl, S⟩
  · refine fI 19 (iv x23) [(18, q33)] 3 [some 2] rfl rfl rfl rfl rfl rfl fun G a w S => ?_
    refine sLoadV1 (vq := q33) 3 (iv x23) S (wN rfl) rfl rfl rfl rfl rfl (lb rfl) fun a S => ?_
    exact leafL ⟨rfl, S⟩
  · refine fI 20 (.slice ad3 p1.length cp4) [(1, .slice ad3 p1.length cp4)] 4 [none] rfl rfl rfl rfl rfl rfl fun G a w S => ?_
    refine sMove (.slice ad3 p1.length cp4) S (wN rfl) (.inl rfl) rfl rfl (lb rfl) fun a S => ?_
    exact leafL ⟨rfl, S⟩
  · refine fI 21 (iv s13) [(5, iv s13)] 5 [none] rfl rfl rfl rfl rfl rfl fun G a w S => ?_
    refine sMove (iv s13) S (wN rfl) (.inl rfl) rfl rfl (lb rfl) fun a S => ?_
    exact leafL ⟨rfl, S⟩
  · refine fI 22 q36 [(20, .slice ad3 p1.length cp4), (21, iv s13)] 6 [some 4, some 5] rfl rfl rfl rfl rfl rfl fun G a w S => ?_
    refine sIdxV (v := .slice ad3 p1.length cp4) (k := .i64) (j := s13) S (wN rfl) rfl rfl rfl hq37 rfl (lb rfl) fun a S => ?_
    exact leafL ⟨rfl, S⟩
  · refine fI 23 (iv x28) [(22, q36)] 7 [some 6] rfl rfl rfl rfl rfl rfl fun G a w S => ?_
    refine sLoadV1 (vq := q36) 0 (iv x28) S (wN rfl) rfl rfl rfl rfl rfl (lb rfl) fun a S => ?_
    exact leafL ⟨rfl, S⟩
  · refine fI 24 (.bool (x23 != x28)) [(19, iv x23), (23, iv x28)] 8 [some 3, some 7] rfl rfl rfl rfl rfl rfl fun G a w S => ?_
    refine sBin (.bool (x23 != x28)) S (wN rfl) rfl rfl rfl (bNe _ _ _ _ .i64 x23 x28) rfl (lb rfl) fun a S => ?_
    exact leafL ⟨rfl, S⟩
  refine leafT (hK22 _ _ ?_)
  rcases iteSome h with ⟨hc39, h⟩ | ⟨hc39, h⟩
  rotate_left
  · refine sCondF S rfl hc39 ?_
    refine wp_skip (leafB (leafT (hK20 _ _ ?_)))
    refine sRegion ?_
    refine sBin (iv (w64 (s13 + 1))) S (wN rfl) rfl rfl rfl (bAdd _ _ _ _ s13 1) rfl (lb rfl) fun a S => ?_
    refine sMove (iv (w64 (s13 + 1))) S (wN rfl) (.inl rfl) rfl rfl (lb rfl) fun a S => ?_
    exact leafL (leafT (⟨w64 (s13 + 1), (Option.some.inj h).symm, (S.fix [] [6, 7] (by decide) rfl rfl rfl)⟩))
  refine sCondT S rfl hc39 ?_
  refine sSeq (fun K40 hK40 => ?_)
  refine sRegion ?_
  refine sMove (.bool false) S (wN rfl) (.inr rfl) rfl rfl (lb rfl) fun a S => ?_
  refine leafL (leafT (hK40 _ _ ?_))
  obtain rfl := Option.some.inj h
  obtain rfl := hu14 _ rfl
  have h := g15
  clear g15
  try dsimp only at h
  obtain rfl := Option.some.inj h
  have h := g11
  clear g11
  try dsimp only at h
  obtain rfl := Option.some.inj h
  exact wp_ret (rBlock (rThen (rThen (rBlock (rThen (sRet (.bool false) S (rsl1 rfl (rvT (t := 4) (v := .bool false) S rfl)) ⟨(), rfl, S.mem.sel [] [] (by decide) rfl rfl⟩))))))

end Go.Proofs.Ythfifeabomdlpaa
namespace Go.Proofs.Ythfifeabomdlpaa
open Go.RowKit
set_option linter.unusedVariables false

noncomputable def F_slices_Chunk___int_int_ (p0 : (List Int)) (p1 : Int) : Option ((List Int) × Int) :=
  if decide (p1 < 1) then
    none
  else
    some (p0, p1)
def c_slices_Chunk___int_int__val (r : ((List Int) × Int)) (x : Value × Value) : Value := .func (.func 76) #[] #[x.1, x.2]
def c_slices_Chunk___int_int__D (r : ((List Int) × Int)) (x : Value × Value) : List Fact := [fPtr (rL (rI .i64)) x.1 r.1, fPtr (rI .i64) x.2 r.2]
set_option maxHeartbeats 4000000 in
set_option maxRecDepth 100000 in
theorem c_slices_Chunk___int_int_ (E : Nat → Prop) (w0 : World) (p0 : (List Int)) (v0 : Value) (p1 : Int) (r : ((List Int) × Int)) (h : F_slices_Chunk___int_int_ p0 p1 = some r) (S : St0 E [] w0 w0 [] [fRep (rL (rI .i64)) (v0) p0]) :
    Calls Try.prog 60 #[v0, iv p1] w0 (Ret (X := Value × Value) E [] w0 (c_slices_Chunk___int_int__val r) (fun _ => []) (c_slices_Chunk___int_int__D r)) := by
  unfold F_slices_Chunk___int_int_ at h
  obtain ⟨ad1, cp2, _, rfl, _⟩ := S.know (i := 0) (e := fRep (rL (rI .i64)) (v0) p0) rfl
  refine sEnter (args := [.slice ad1 p0.length cp2, iv p1]) 9 Try.func60 rfl rfl (by simp) S (fun a S => ?_)
  refine sSeq (fun K3 hK3 => ?_)
  refine sRegion ?_
  refine sBox (v := .slice ad1 p0.length cp2) S (wN rfl) rfl rfl [.slice ad1 p0.length cp2] rfl rfl (lb rfl) fun a b4 w S => ?_
  refine sBox (v := iv p1) S (wN rfl) rfl rfl [iv p1] rfl rfl (lb rfl) fun a b5 w S => ?_
  refine sMove (.nilFunc) S (wN rfl) (.inr rfl) rfl rfl (lb rfl) fun a S => ?_
  refine leafL (leafT (hK3 _ _ ?_))
  refine sSeq (fun K6 hK6 => ?_)
  refine sSeq (fun K7 hK7 => ?_)
  refine sRegion ?_
  refine sLoad1 (p := b5) (off := 0) (T := 3) (vs := [iv p1]) 0 (iv p1) S (wN rfl) rfl rfl rfl rfl rfl rfl (lb rfl) fun a S => ?_
  refine sBin (.bool (decide (p1 < 1))) S (wN rfl) rfl rfl rfl (bLt _ _ _ _ .i64 p1 1) rfl (lb rfl) fun a S => ?_
  refine leafL (leafT (hK7 _ _ ?_))
  rcases iteSome h with ⟨hc8, h⟩ | ⟨hc8, h⟩
  · refine sCondT S rfl hc8 ?_
    refine sRegion ?_
    cases h
  refine sCondF S rfl hc8 ?_
  refine wp_skip (leafT (hK6 _ _ ?_))
  refine sSeq (fun K9 hK9 => ?_)
  refine sRegion ?_
  refine sFunc (g := 76) (vs := [.pointer (some ⟨b4, 0, none⟩), .pointer (some ⟨b5, 0, none⟩)]) S (wN rfl) rfl rfl rfl (lb rfl) fun a S => ?_
  refine sMove (.func (.func 76) #[] #[.pointer (some ⟨b4, 0, none⟩), .pointer (some ⟨b5, 0, none⟩)]) S (wN rfl) (.inr rfl) rfl rfl (lb rfl) fun a S => ?_
  refine leafL (leafT (hK9 _ _ ?_))
  have S := S.shutB (r := (rL (rI .i64))) (T := 35) (b := b4) (cs := [.slice ad1 p0.length cp2]) 1 (.slice ad1 p0.length cp2) p0 rfl rfl (S.mem.know (i := 0) (e := fRep (rL (rI .i64)) (.slice ad1 p0.length cp2) p0) rfl)
  have S := S.shutB (r := (rI .i64)) (T := 3) (b := b5) (cs := [iv p1]) 0 (iv p1) p1 rfl rfl (rfl)
  obtain rfl := Option.some.inj h
  exact wp_ret (sRet (.func (.func 76) #[] #[.pointer (some ⟨b4, 0, none⟩), .pointer (some ⟨b5, 0, none⟩)]) S (rsl1 rfl (rvT (t := 4) (v := .func (.func 76) #[] #[.pointer (some ⟨b4, 0, none⟩), .pointer (some ⟨b5, 0, none⟩)]) S rfl)) ⟨((.pointer (some ⟨b4, 0, none⟩)), (.pointer (some ⟨b5, 0, none⟩))), rfl, S.mem.sel [] [1, 0] (by decide) rfl rfl⟩)

end Go.Proofs.Ythfifeabomdlpaa
namespace Go.Proofs.Ythfifeabomdlpaa
open Go.RowKit
set_option linter.unusedVariables false

noncomputable def F_block_Blocks_1_s0 (p0 : (List Int)) (p1 : (List Int)) : Option Bool :=
  Option.bind (F_slices_Equal___int_int_ p0 p1) fun r8 =>
  some r8
set_option maxHeartbeats 4000000 in
set_option maxRecDepth 100000 in
theorem c_block_Blocks_1_s0 (E : Nat → Prop) (w0 : World) (p0 : (List Int)) (v0 : Value) (p1 : (List Int)) (v1 : Value) (r : Bool) (h : F_block_Blocks_1_s0 p0 p1 = some r) (S : St0 E [] w0 w0 [] [fRep (rL (rI .i64)) (v0) p0, fPtr (rL (rI .i64)) (v1) p1]) :
    Calls Try.prog 62 #[v0, v1] w0 (Ret (X := Unit) E [] w0 (fun _ => .bool r) (fun _ => []) (fun _ => [])) := by
  unfold F_block_Blocks_1_s0 at h
  obtain ⟨ad1, cp2, _, rfl, _⟩ := S.know (i := 0) (e := fRep (rL (rI .i64)) (v0) p0) rfl
  refine sEnter (args := [.slice ad1 p0.length cp2, v1]) 7 Try.func62 rfl rfl (by simp) S (fun a S => ?_)
  refine sSeq (fun K3 hK3 => ?_)
  refine sRegion ?_
  refine sMove (.bool false) S (wN rfl) (.inr rfl) rfl rfl (lb rfl) fun a S => ?_
  refine leafL (leafT (hK3 _ _ ?_))
  refine sSeq (fun K4 hK4 => ?_)
  refine sRegion ?_
  refine sMove (.slice ad1 p0.length cp2) S (wN rfl) (.inl rfl) rfl rfl (lb rfl) fun a S => ?_
  obtain ⟨u5, S⟩ := pLoad (r := (rL (rI .i64))) (q := v1) (x := p1) 1 S rfl
  obtain ⟨ad6, cp7, _, rfl, _⟩ := S.mem.know (i := 1) (e := fRep (rL (rI .i64)) (u5) p1) rfl
  refine sLoadV1 (vq := v1) 0 (.slice ad6 p1.length cp7) S (wN rfl) rfl rfl rfl rfl rfl (lb rfl) fun a S => ?_
  obtain ⟨r8, hx9, h⟩ := bindSome h
  have S1 := S.mem
  refine sCallQ (X := Unit) (f := 59) (vs := [.slice ad1 p0.length cp2, .slice ad6 p1.length cp7]) (val := fun _ => .bool r8) S (wN rfl) rfl callee59 rfl (S1.quiet [2, 1] rfl) (fun E1 w1 S1 => c_slices_Equal___int_int_ E1 w1 p0 (.slice ad1 p0.length cp2) p1 (.slice ad6 p1.length cp7) r8 hx9 S1) rfl (lb rfl) fun _ a w S => ?_
  refine sMove (.bool r8) S (wN rfl) (.inr rfl) rfl rfl (lb rfl) fun a S => ?_
  refine leafL (leafT (hK4 _ _ ?_))
  obtain rfl := Option.some.inj h
  exact wp_ret (sRet (.bool r8) S (rsl1 rfl (rvT (t := 3) (v := .bool r8) S rfl)) ⟨(), rfl, S.mem.sel [] [] (by decide) rfl rfl⟩)

end Go.Proofs.Ythfifeabomdlpaa
namespace Go.Proofs.Ythfifeabomdlpaa
open Go.RowKit
set_option linter.unusedVariables false

noncomputable def slices_IndexFunc_____int___int__s1_l1 (p0 : (List (List Int))) (p1 : (List Int)) : Int → Option (Int ⊕ (Int ⊕ Unit)) := fun s0 => match s0 with
  | s7 =>
    if decide (s7 < (p0.length : Int)) then
      Option.bind (idxO p0 s7) fun x17 =>
      Option.bind (F_block_Blocks_1_s0 x17 p1) fun r24 =>
      if r24 then
        some (.inr (.inl s7))
      else
        some (.inl (w64 (s7 + 1)))
    else
      some (.inr (.inr ()))
noncomputable def F_slices_IndexFunc_____int___int__s1 (p0 : (List (List Int))) (p1 : (List Int)) : Option Int :=
  Option.bind (α := Unit ⊕ Int) (
    Option.bind (whileO (slices_IndexFunc_____int___int__s1_l1 p0 p1) 0) fun z0 => match z0 with
      | .inl z =>
        some (.inr z)
      | .inr _ =>
        some (.inl ())) fun z0 => match z0 with
    | .inl _ =>
      some (-1)
    | .inr z =>
      some z
set_option maxHeartbeats 4000000 in
set_option maxRecDepth 100000 in
theorem c_slices_IndexFunc_____int___int__s1 (E : Nat → Prop) (w0 : World) (p0 : (List (List Int))) (v0 : Value) (p1 : (List Int)) (v1 : Value) (r : Int) (h : F_slices_IndexFunc_____int___int__s1 p0 p1 = some r) (S : St0 E [] w0 w0 [] [fRep (rL (rL (rI .i64))) (v0) p0, fPtr (rL (rI .i64)) (v1) p1]) :
    Calls Try.prog 61 #[v0, .func (.func 62) #[] #[v1]] w0 (Ret (X := Unit) E [] w0 (fun _ => .int .i64 r) (fun _ => []) (fun _ => [])) := by
  unfold F_slices_IndexFunc_____int___int__s1 at h
  obtain ⟨ad1, cp2, _, rfl, _⟩ := S.know (i := 0) (e := fRep (rL (rL (rI .i64))) (v0) p0) rfl
  refine sEnter (args := [.slice ad1 p0.length cp2, .func (.func 62) #[] #[v1]]) 19 Try.func61 rfl rfl (by simp) S (fun a S => ?_)
  refine sSeq (fun K3 hK3 => ?_)
  refine sRegion ?_
  refine sMove (iv 0) S (wN rfl) (.inr rfl) rfl rfl (lb rfl) fun a S => ?_
  refine leafL (leafT (hK3 _ _ ?_))
  obtain ⟨t4, h, g5⟩ := bindSome h
  refine sCut (fun a w => .inl () = t4 ∧ St [] E [] w0 19 a w [] [] []) ?_ (fun a w hI => ?_)
  rotate_left
  · obtain ⟨rfl, S⟩ := hI
    have h := g5
    clear g5
    try dsimp only at h
    refine sSeq (fun K28 hK28 => ?_)
    refine sRegion ?_
    refine sMove (iv (-1)) S (wN rfl) (.inr rfl) rfl rfl (lb rfl) fun a S => ?_
    refine leafL (leafT (hK28 _ _ ?_))
    obtain rfl := Option.some.inj h
    exact wp_ret (sRet (iv (-1)) S (rsl1 rfl (rvT (t := 4) (v := iv (-1)) S rfl)) ⟨(), rfl, S.mem.sel [] [] (by decide) rfl rfl⟩)
  refine sSeq (fun K6 hK6 => ?_)
  refine sRegion ?_
  refine sMove (.slice ad1 p0.length cp2) S (wN rfl) (.inl rfl) rfl rfl (lb rfl) fun a S => ?_
  refine sLen (ad := ad1) (m := p0.length) (c := cp2) S (wN rfl) rfl Try.underlying46 rfl rfl (lb rfl) fun a S => ?_
  refine sMove (iv 0) S (wN rfl) (.inl rfl) rfl rfl (lb rfl) fun a S => ?_
  refine leafL (leafT (hK6 _ _ ?_))
  refine wp_block ?_
  obtain ⟨t10, hl, g9⟩ := bindSome h
  refine sLoop hl (fun s0 a w => match s0 with | s7 => St [] E [] w0 19 a w [(0, .slice ad1 p0.length cp2), (1, .func (.func 62) #[] #[v1]), (7, iv (p0.length : Int)), (8, iv s7)] [] [fPtr (rL (rI .i64)) (v1) p1, fRep (rL (rL (rI .i64))) (.slice ad1 p0.length cp2) p0]) (S.fix [] [1, 0] (by decide) rfl rfl rfl) ?_
  clear hl h
  intro s7 a w c0 hI h hu8
  unfold slices_IndexFunc_____int___int__s1_l1 at h
  dsimp only at h hI
  have S := hI
  refine sSeq (fun K11 hK11 => ?_)
  refine sRegion ?_
  refine sBin (.bool (decide (s7 < (p0.length : Int)))) S (wN rfl) rfl rfl rfl (bLt _ _ _ _ .i64 s7 (p0.length : Int)) rfl (lb rfl) fun a S => ?_
  refine leafL (leafT (hK11 _ _ ?_))
  refine sSeq (fun K12 hK12 => ?_)
  rcases iteSome h with ⟨hc13, h⟩ | ⟨hc13, h⟩
  rotate_left
  · refine sCondF S rfl hc13 ?_
    obtain rfl := Option.some.inj h
    obtain rfl := hu8 _ rfl
    have h := g9
    clear g9
    try dsimp only at h
    exact wp_exit (xThen (xThen (xHit (leafT (⟨Option.some.inj h, S.fix [] [] (by decide) rfl rfl rfl⟩)))))
  refine sCondT S rfl hc13 ?_
  refine wp_skip (leafT (hK12 _ _ ?_))
  refine sSeq (fun K14 hK14 => ?_)
  refine wp_block ?_
  refine sSeq (fun K15 hK15 => ?_)
  refine sRegion ?_
  refine sMove (iv s7) S (wN rfl) (.inl rfl) rfl rfl (lb rfl) fun a S => ?_
  refine sMove (iv s7) S (wN rfl) (.inr rfl) rfl rfl (lb rfl) fun a S => ?_
  refine leafL (leafT (hK15 _ _ ?_))
  refine sSeq (fun K16 hK16 => ?_)
  refine sRegion ?_
  refine sMove (.func (.func 62) #[] #[v1]) S (wN rfl) (.inl rfl) rfl rfl (lb rfl) fun a S => ?_
  refine sMove (.slice ad1 p0.length cp2) S (wN rfl) (.inl rfl) rfl rfl (lb rfl) fun a S => ?_
  refine sMove (iv s7) S (wN rfl) (.inl rfl) rfl rfl (lb rfl) fun a S => ?_
  obtain ⟨x17, hx18, h⟩ := bindSome h
  obtain ⟨q19, hq20, S⟩ := pIdx (P := Try.prog) (r := (rL (rI .i64))) (v := .slice ad1 p0.length cp2) (xs := p0) (j := s7) 46 35 1 S Try.underlying46 rfl rfl hx18
  refine sIdxV (v := .slice ad1 p0.length cp2) (k := .i64) (j := s7) S (wN rfl) rfl rfl rfl hq20 rfl (lb rfl) fun a S => ?_
  obtain ⟨u21, S⟩ := pLoad (r := (rL (rI .i64))) (q := q19) (x := x17) 0 S rfl
  obtain ⟨ad22, cp23, _, rfl, _⟩ := S.mem.know (i := 1) (e := fRep (rL (rI .i64)) (u21) x17) rfl
  refine sLoadV1 (vq := q19) 0 (.slice ad22 x17.length cp23) S (wN rfl) rfl rfl rfl rfl rfl (lb rfl) fun a S => ?_
  obtain ⟨r24, hx25, h⟩ := bindSome h
  have S1 := S.mem
  refine sCallVQ (X := Unit) (g := 62) (vs := [.slice ad22 x17.length cp23]) (caps := [v1]) (val := fun _ => .bool r24) S (wN rfl) rfl rfl callee62 rfl (S1.quiet [1, 3] rfl) (fun E1 w1 S1 => c_block_Blocks_1_s0 E1 w1 x17 (.slice ad22 x17.length cp23) p1 v1 r24 hx25 S1) rfl (lb rfl) fun _ a w S => ?_
  refine leafL (leafT (hK16 _ _ ?_))
  rcases iteSome h with ⟨hc26, h⟩ | ⟨hc26, h⟩
  rotate_left
  · refine sCondF S rfl hc26 ?_
    refine wp_skip (leafB (leafT (hK14 _ _ ?_)))
    refine sRegion ?_
    refine sBin (iv (w64 (s7 + 1))) S (wN rfl) rfl rfl rfl (bAdd _ _ _ _ s7 1) rfl (lb rfl) fun a S => ?_
    refine sMove (iv (w64 (s7 + 1))) S (wN rfl) (.inl rfl) rfl rfl (lb rfl) fun a S => ?_
    exact leafL (leafT (⟨w64 (s7 + 1), (Option.some.inj h).symm, (S.fix [] [3, 4] (by decide) rfl rfl rfl)⟩))
  refine sCondT S rfl hc26 ?_
  refine sSeq (fun K27 hK27 => ?_)
  refine sRegion ?_
  refine sMove (iv s7) S (wN rfl) (.inl rfl) rfl rfl (lb rfl) fun a S => ?_
  refine sMove (iv s7) S (wN rfl) (.inr rfl) rfl rfl (lb rfl) fun a S => ?_
  refine leafL (leafT (hK27 _ _ ?_))
  obtain rfl := Option.some.inj h
  obtain rfl := hu8 _ rfl
  have h := g9
  clear g9
  try dsimp only at h
  obtain rfl := Option.some.inj h
  have h := g5
  clear g5
  try dsimp only at h
  obtain rfl := Option.some.inj h
  exact wp_ret (rBlock (rThen (rThen (rBlock (rThen (sRet (iv s7) S (rsl1 rfl (rvT (t := 4) (v := iv s7) S rfl)) ⟨(), rfl, S.mem.sel [] [] (by decide) rfl rfl⟩))))))

end Go.Proofs.Ythfifeabomdlpaa
namespace Go.Proofs.Ythfifeabomdlpaa
open Go.RowKit
set_option linter.unusedVariables false

def anc_slices_Chunk___int_int__1_0 : List (List Nat) := [[], [], [], [1, 2], [1, 2, 3], [0, 1, 2, 3, 4], [0, 1, 2, 3, 4, 5]]
noncomputable def slices_Chunk___int_int__1_l1 {σ τ : Type} (p0 : (List Int)) (p1 : Int) (B : σ → (List Int) → Option (σ ⊕ τ)) : (Int × σ) → Option ((Int × σ) ⊕ ((σ ⊕ τ) ⊕ (σ))) := fun s0 => match s0 with
  | (s2, gz3) =>
    if decide (s2 < (p0.length : Int)) then
      Option.bind (sliceO p0 s2 (p0.length : Int)) fun y20 =>
      Option.bind (slice3O p0 s2 (w64 (s2 + (if (y20.length : Int) < p1 then (y20.length : Int) else p1))) (w64 (s2 + (if (y20.length : Int) < p1 then (y20.length : Int) else p1)))) fun y35 =>
      Option.bind (B gz3 y35) fun y38 =>
      match y38 with
      | .inl gz40 =>
        some (.inl (w64 (s2 + p1), gz40))
      | .inr tz41 =>
        some (.inr (.inl (.inr tz41)))
    else
      some (.inr (.inr gz3))
noncomputable def I_slices_Chunk___int_int__1 (p0 : (List Int)) (p1 : Int) (σ τ : Type) (B : σ → (List Int) → Option (σ ⊕ τ)) (gz0 : σ) : Option (σ ⊕ τ) :=
  Option.bind (whileO (slices_Chunk___int_int__1_l1 p0 p1 B) (0, gz0)) fun z0 => match z0 with
    | .inl z =>
      some z
    | .inr gz7 =>
      some (.inl gz7)
set_option maxHeartbeats 4000000 in
set_option maxRecDepth 100000 in
theorem it_slices_Chunk___int_int__1 (p0 : (List Int)) (v0 : Value) (p1 : Int) (v1 : Value) : SeqF Try.prog 76 #[v0, v1] (fA1 (rL (rI .i64))) (I_slices_Chunk___int_int__1 p0 p1) [fPtr (rL (rI .i64)) (v0) p0, fPtr (rI .i64) (v1) p1] := by
  refine seqF_of (lb := [v0, v1]) (fun σ τ B gz0 r h l J Jx E w0 hC S hJ => ?_)
  unfold I_slices_Chunk___int_int__1 at h
  refine sEnterI (args := [.func (.yield l) #[] #[], v0, v1]) 31 Try.func76 rfl rfl (by simp) S (fun a S => ?_)
  refine sSeq (fun K1 hK1 => ?_)
  refine sRegion ?_
  refine sMove (iv 0) S (wN rfl) (.inr rfl) rfl rfl (lb rfl) fun a S => ?_
  refine leafL (leafT (hK1 _ _ ?_))
  refine wp_block ?_
  obtain ⟨t6, hl, g5⟩ := bindSome h
  refine sLoop hl (fun s0 a w => match s0 with | (s2, gz3) => ∃ E w0, J gz3 E w0 ∧ St [] E [] w0 31 a w [(0, .func (.yield l) #[] #[]), (1, v0), (2, v1), (4, iv s2)] [] [fPtr (rL (rI .i64)) (v0) p0, fPtr (rI .i64) (v1) p1]) ⟨_, _, hJ, S.fix [] [0, 1] (by decide) rfl rfl rfl⟩ ?_
  clear hl h
  intro s0 a w c0 hI h hu4
  obtain ⟨s2, gz3⟩ := s0
  unfold slices_Chunk___int_int__1_l1 at h
  dsimp only at h hI
  obtain ⟨E, w0, hJ, S⟩ := hI
  refine sSeq (fun K8 hK8 => ?_)
  refine sSeq (fun K9 hK9 => ?_)
  refine sRegion ?_
  refine sMove (iv s2) S (wN rfl) (.inl rfl) rfl rfl (lb rfl) fun a S => ?_
  obtain ⟨u10, S⟩ := pLoad (r := (rL (rI .i64))) (q := v0) (x := p0) 0 S rfl
  obtain ⟨ad11, cp12, _, rfl, _⟩ := S.mem.know (i := 1) (e := fRep (rL (rI .i64)) (u10) p0) rfl
  refine sLoadV1 (vq := v0) 0 (.slice ad11 p0.length cp12) S (wN rfl) rfl rfl rfl rfl rfl (lb rfl) fun a S => ?_
  refine sLen (ad := ad11) (m := p0.length) (c := cp12) S (wN rfl) rfl Try.underlying35 rfl rfl (lb rfl) fun a S => ?_
  refine sBin (.bool (decide (s2 < (p0.length : Int)))) S (wN rfl) rfl rfl rfl (bLt _ _ _ _ .i64 s2 (p0.length : Int)) rfl (lb rfl) fun a S => ?_
  refine leafL (leafT (hK9 _ _ ?_))
  rcases iteSome h with ⟨hc13, h⟩ | ⟨hc13, h⟩
  rotate_left
  · refine sCondF S rfl hc13 ?_
    obtain rfl := Option.some.inj h
    obtain rfl := hu4 _ rfl
    have h := g5
    clear g5
    try dsimp only at h
    exact wp_exit (xThen (xThen (xHit (sEnd (.tuple #[]) S (res0 rfl) (sGoI S hC hJ (Option.some.inj h) _)))))
  refine sCondT S rfl hc13 ?_
  refine wp_skip (leafT (hK8 _ _ ?_))
  refine sSeq (fun K14 hK14 => ?_)
  refine wp_block ?_
  refine sSeq (fun K15 hK15 => ?_)
  obtain ⟨y20, hx21, h⟩ := bindSome h
  obtain ⟨u24, S⟩ := pLoad (r := (rI .i64)) (q := v1) (x := p1) 3 S rfl
  obtain rfl : u24 = iv p1 := S.mem.know (i := 1) (e := fRep (rI .i64) (u24) p1) rfl
  obtain ⟨u25, S⟩ := pLoad (r := (rL (rI .i64))) (q := v0) (x := p0) 4 S rfl
  obtain ⟨ad26, cp27, _, rfl, _⟩ := S.mem.know (i := 1) (e := fRep (rL (rI .i64)) (u25) p0) rfl
  refine sDraw (nf := [3]) (W := [(0, 13, iv p1), (1, 14, .slice ad26 p0.length cp27), (2, 15, iv s2)]) rfl S ?_
  refine node_by (A := anc_slices_Chunk___int_int__1_0) (nf := [3]) (Y := []) (W := [(0, 13, iv p1), (1, 14, .slice ad26 p0.length cp27), (2, 15, iv s2)]) 7 (by kernel_rfl) (by kernel_rfl) (by kernel_rfl) (by kernel_rfl) (by kernel_rfl) [0, 1, 2] (by kernel_rfl) (by decide) (by decide) (aF 0 6 (by decide) ?_ (aF 1 5 (by decide) ?_ (aF 2 4 (by decide) ?_ (aN 3 3 (by decide) ?_ (aE 4 2 3 (by decide) (aE 5 1 3 (by decide) (aE 6 0 3 (by decide) (trivial)))))))) [] (fun q hq => by cases hq) (fun hY => absurd (hY 3 (by decide)) (by decide))
  · refine fI 13 (iv p1) [(2, v1)] 0 [none] rfl rfl rfl rfl rfl rfl fun G a w S => ?_
    refine sLoadV1 (vq := v1) 2 (iv p1) S (wN rfl) rfl rfl rfl rfl rfl (lb rfl) fun a S => ?_
    exact leafL ⟨rfl, S⟩
  · refine fI 14 (.slice ad26 p0.length cp27) [(1, v0)] 1 [none] rfl rfl rfl rfl rfl rfl fun G a w S => ?_
    refine sLoadV1 (vq := v0) 0 (.slice ad26 p0.length cp27) S (wN rfl) rfl rfl rfl rfl rfl (lb rfl) fun a S => ?_
    exact leafL ⟨rfl, S⟩
  · refine fI 15 (iv s2) [(4, iv s2)] 2 [none] rfl rfl rfl rfl rfl rfl fun G a w S => ?_
    refine sMove (iv s2) S (wN rfl) (.inl rfl) rfl rfl (lb rfl) fun a S => ?_
    exact leafL ⟨rfl, S⟩
  refine ⟨_, [(14, .slice ad26 p0.length cp27), (15, iv s2)], rfl, (srcs_of [some 1, some 2] rfl rfl rfl), fun G a w S => ?_⟩
  refine sSlice (r := (rI .i64)) (v := .slice ad26 p0.length cp27) (xs := p0) (vlo := (some (.int .i64 s2))) (vhi := none) (lo' := s2) (hi' := (p0.length : Int)) 1 S (wN rfl) rfl Try.underlying35 rfl rfl rfl rfl rfl (.inl rfl) (.inr ⟨rfl, rfl⟩) hx21 rfl (lb rfl) fun a ad28 cp29 S => ?_
  refine leafL ⟨rfl, _, _, .inl ⟨16, (.slice ad28 y20.length cp29), [(4, 17, iv (y20.length : Int)), (5, 18, iv (if (y20.length : Int) < p1 then (y20.length : Int) else p1)), (6, 5, iv (if (y20.length : Int) < p1 then (y20.length : Int) else p1))], rfl, S, hz_of rfl, ?_⟩⟩
  refine node_by (A := anc_slices_Chunk___int_int__1_0) (nf := [3]) (Y := [3]) 7 (by kernel_rfl) (by kernel_rfl) (by kernel_rfl) (by kernel_rfl) (by kernel_rfl) [4, 5, 6, 3, 0, 1, 2] (by kernel_rfl) (by decide) (by decide) (aF 0 6 (by decide) ?_ (aD 1 5 3 (by decide) (aD 2 4 3 (by decide) (aY 3 3 (by decide) (aF 4 2 (by decide) ?_ (aF 5 1 (by decide) ?_ (aF 6 0 (by decide) ?_ (trivial)))))))) [(0, .func (.yield l) #[] #[]), (1, v0), (2, v1), (4, iv s2), (5, iv (if (y20.length : Int) < p1 then (y20.length : Int) else p1))] (fin_of [none, none, none, none, some 2] rfl (by kernel_rfl) (by kernel_rfl)) (fun _ a w S => ?_)
  · refine fI 13 (iv p1) [(2, v1)] 4 [none] rfl rfl rfl rfl rfl rfl fun G a w S => ?_
    refine sLoadV1 (vq := v1) 3 (iv p1) S (wN rfl) rfl rfl rfl rfl rfl (lb rfl) fun a S => ?_
    exact leafL ⟨rfl, S⟩
  · refine fI 17 (iv (y20.length : Int)) [(16, .slice ad28 y20.length cp29)] 0 [some 3] rfl rfl rfl rfl rfl rfl fun G a w S => ?_
    refine sLen (ad := ad28) (m := y20.length) (c := cp29) S (wN rfl) rfl Try.underlying35 rfl rfl (lb rfl) fun a S => ?_
    exact leafL ⟨rfl, S⟩
  · refine fI 18 (iv (if (y20.length : Int) < p1 then (y20.length : Int) else p1)) [(13, iv p1), (17, iv (y20.length : Int))] 1 [some 4, some 0] rfl rfl rfl rfl rfl rfl fun G a w S => ?_
    refine sMin2 (p := p1) (q := (y20.length : Int)) S (wN rfl) rfl rfl rfl rfl (lb rfl) fun a S => ?_
    exact leafL ⟨rfl, S⟩
  · refine fI 5 (iv (if (y20.length : Int) < p1 then (y20.length : Int) else p1)) [(18, iv (if (y20.length : Int) < p1 then (y20.length : Int) else p1))] 2 [some 1] rfl rfl rfl rfl rfl rfl fun G a w S => ?_
    refine sMove (iv (if (y20.length : Int) < p1 then (y20.length : Int) else p1)) S (wN rfl) (.inr rfl) rfl rfl (lb rfl) fun a S => ?_
    exact leafL ⟨rfl, S⟩
  refine leafT (hK15 _ _ ?_)
  refine sSeq (fun K30 hK30 => ?_)
  refine sRegionY ?_
  refine sSplitR (by repeat (first | exact roundU_out | exact it_out | exact lo_false | refine lo_then ?_ | refine lo_block ?_)) 10 rfl (fun K31 hK31 => ?_)
  refine sMove (.func (.yield l) #[] #[]) S (wN rfl) (.inl rfl) rfl rfl (lb rfl) fun a S => ?_
  obtain ⟨u32, S⟩ := pLoad (r := (rL (rI .i64))) (q := v0) (x := p0) 7 S rfl
  obtain ⟨ad33, cp34, _, rfl, _⟩ := S.mem.know (i := 1) (e := fRep (rL (rI .i64)) (u32) p0) rfl
  refine sLoadV1 (vq := v0) 0 (.slice ad33 p0.length cp34) S (wN rfl) rfl rfl rfl rfl rfl (lb rfl) fun a S => ?_
  refine sMove (iv s2) S (wN rfl) (.inl rfl) rfl rfl (lb rfl) fun a S => ?_
  refine sMove (iv s2) S (wN rfl) (.inl rfl) rfl rfl (lb rfl) fun a S => ?_
  refine sMove (iv (if (y20.length : Int) < p1 then (y20.length : Int) else p1)) S (wN rfl) (.inl rfl) rfl rfl (lb rfl) fun a S => ?_
  refine sBin (iv (w64 (s2 + (if (y20.length : Int) < p1 then (y20.length : Int) else p1)))) S (wN rfl) rfl rfl rfl (bAdd _ _ _ _ s2 (if (y20.length : Int) < p1 then (y20.length : Int) else p1)) rfl (lb rfl) fun a S => ?_
  refine sMove (iv s2) S (wN rfl) (.inl rfl) rfl rfl (lb rfl) fun a S => ?_
  refine sMove (iv (if (y20.length : Int) < p1 then (y20.length : Int) else p1)) S (wN rfl) (.inl rfl) rfl rfl (lb rfl) fun a S => ?_
  refine sBin (iv (w64 (s2 + (if (y20.length : Int) < p1 then (y20.length : Int) else p1)))) S (wN rfl) rfl rfl rfl (bAdd _ _ _ _ s2 (if (y20.length : Int) < p1 then (y20.length : Int) else p1)) rfl (lb rfl) fun a S => ?_
  obtain ⟨y35, hx36, h⟩ := bindSome h
  refine sSlice3 (r := (rI .i64)) (ad := ad33) (c := cp34) (xs := p0) (vlo := (some (.int .i64 s2))) (lo' := s2) (hi' := w64 (s2 + (if (y20.length : Int) < p1 then (y20.length : Int) else p1))) (mx' := w64 (s2 + (if (y20.length : Int) < p1 then (y20.length : Int) else p1))) 1 S (wN rfl) rfl Try.underlying35 rfl rfl rfl rfl rfl rfl (.inl rfl) hx36 rfl (lb rfl) fun a ad37 S => ?_
  refine leafL ⟨rfl, hK31 _ _ ?_⟩
  obtain ⟨y38, hy39, h⟩ := bindSome h
  refine sYieldI y35 [.slice ad37 y35.length (Int.toNat (w64 (s2 + (if (y20.length : Int) < p1 then (y20.length : Int) else p1))) - Int.toNat s2)] S hC hJ hy39 (fA1_mk (S.mem.know (i := 0) (e := fRep (rL (rI .i64)) (.slice ad37 y35.length (Int.toNat (w64 (s2 + (if (y20.length : Int) < p1 then (y20.length : Int) else p1))) - Int.toNat s2)) y35) rfl)) (wN rfl) rfl rfl rfl rfl (by decide) (fun gz40 E a w hb hJ S => ?_) (fun tz41 a w hb hJ S => ?_)
  · obtain rfl := hb
    dsimp only at h
    refine list_inR (by repeat (first | exact roundU_out | exact it_out | exact lo_false | refine lo_then ?_ | refine lo_block ?_)) _ rfl _ _ ?_
    refine sNot (b := true) S (wN rfl) rfl rfl rfl (lb rfl) fun a S => ?_
    refine leafL (leafT (hK30 _ _ ?_))
    refine sCondF S rfl rfl ?_
    refine wp_skip (leafB (leafT (hK14 _ _ ?_)))
    refine sRegion ?_
    refine sMove (iv s2) S (wN rfl) (.inl rfl) rfl rfl (lb rfl) fun a S => ?_
    obtain ⟨u42, S⟩ := pLoad (r := (rI .i64)) (q := v1) (x := p1) 11 S rfl
    obtain rfl : u42 = iv p1 := S.mem.know (i := 1) (e := fRep (rI .i64) (u42) p1) rfl
    refine sLoadV1 (vq := v1) 0 (iv p1) S (wN rfl) rfl rfl rfl rfl rfl (lb rfl) fun a S => ?_
    refine sBin (iv (w64 (s2 + p1))) S (wN rfl) rfl rfl rfl (bAdd _ _ _ _ s2 p1) rfl (lb rfl) fun a S => ?_
    refine sMove (iv (w64 (s2 + p1))) S (wN rfl) (.inr rfl) rfl rfl (lb rfl) fun a S => ?_
    exact leafL (leafT (⟨(w64 (s2 + p1), gz40), (Option.some.inj h).symm, ⟨_, _, hJ, S.fix [] [12, 13] (by decide) rfl rfl rfl⟩⟩))
  · obtain rfl := hb
    dsimp only at h
    refine list_inR (by repeat (first | exact roundU_out | exact it_out | exact lo_false | refine lo_then ?_ | refine lo_block ?_)) _ rfl _ _ ?_
    refine sNot (b := false) S (wN rfl) rfl rfl rfl (lb rfl) fun a S => ?_
    refine leafL (leafT (hK30 _ _ ?_))
    refine sCondT S rfl rfl ?_
    obtain rfl := Option.some.inj h
    obtain rfl := hu4 _ rfl
    have h := g5
    clear g5
    try dsimp only at h
    exact wp_ret (rBlock (rThen (rThen (rBlock (sRet (.tuple #[]) S (res0 rfl) (sStopI S hC hJ (Option.some.inj h) _))))))

end Go.Proofs.Ythfifeabomdlpaa
