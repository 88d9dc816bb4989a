/- CompareRows: walks, tables, laws. -/
import Derived.Test.YtffikfajljbmnaaProg
import Derived.Test.YtffikfajljbmnaaRows
import Derived.Test.YtffikfajljbmnaaMCompareRows6
namespace Go.Proofs.Ytffikfajljbmnaa
open Go.RowKit
def K_raddlelaw46_alive  : Option Bool :=
 Option.bind (K_raddlelaw46_cloth (⟨#[46, 120, 10]⟩ : ByteArray)) fun r3 =>
 Option.bind (K_raddlelaw46_cloth (⟨#[120, 46, 10]⟩ : ByteArray)) fun r10 =>
 Option.bind (K_compare_Cells r3 r10) fun r17 =>
 Option.bind (K_compare_Nearest r3 r10 0) fun r30 =>
 Option.bind (K_raddlelaw46_cells (⟨#[107, 32, 112, 32, 107]⟩ : ByteArray)) fun r35 =>
 Option.bind (K_raddlelaw46_cells (⟨#[107, 32, 121, 111, 32, 107]⟩ : ByteArray)) fun r40 =>
 Option.bind (K_compare_Edits r35 r40) fun r45 =>
 Option.bind (K_raddlelaw46_cells (⟨#[107, 32, 112]⟩ : ByteArray)) fun r51 =>
 Option.bind (K_raddlelaw46_cells (⟨#[112]⟩ : ByteArray)) fun r56 =>
 Option.bind (K_compare_Edits r51 r56) fun r61 =>
 Option.bind (K_raddlelaw46_knit (⟨#[115, 116, 97, 114, 116, 32, 49, 10, 102, 114, 111, 110, 116, 32, 107, 10]⟩ : ByteArray)) fun r67 =>
 Option.bind (K_raddlelaw46_knit (⟨#[115, 116, 97, 114, 116, 32, 49, 10, 102, 114, 111, 110, 116, 32, 112, 10, 98, 97, 99, 107, 32, 107, 10]⟩ : ByteArray)) fun r74 =>
 Option.bind (K_compare_Charts r67 r74) fun r81 =>
 if r17.2 == 0 then
  if r30.2.2.2 == 0 then
   if r45.2.2 == 0 then
    if r61.2.2 == 0 then
     Option.bind (α := Bool) (
      if r81.2 == 0 then
       if r17.1 == 2 then
        if r30.1 == 0 then
         if r30.2.1 == 0 then
          if ((r30.2.2.1.X == 1) && ((r30.2.2.1.Y == 0) && true)) then
           Option.bind (K_raddleref46_Same r45.1 [(api_CellStep.mk 1 (api_Stitch.mk 0 false 0 0)), (api_CellStep.mk 2 (api_Stitch.mk 2 false 0 0)), (api_CellStep.mk 1 (api_Stitch.mk 0 false 0 0))]) fun r102 =>
           if r102 then
            if r45.2.1 == 1 then
             Option.bind (K_raddleref46_Same r61.1 [(api_CellStep.mk 4 (api_Stitch.mk 0 false 0 0)), (api_CellStep.mk 1 (api_Stitch.mk 0 false 0 0))]) fun r108 =>
             if r108 then
              if r61.2.1 == 1 then
               some (r81.1 == 3)
              else
               none
             else
              none
            else
             none
           else
            none
          else
           none
         else
          none
        else
         none
       else
        none
      else
       some false) fun o92 =>
     some o92
    else
     none
   else
    none
  else
   none
 else
  none
theorem m_F_raddlelaw46_alive  : Le (K_raddlelaw46_alive) (F_raddlelaw46_alive) := by
 unfold K_raddlelaw46_alive F_raddlelaw46_alive
 with_reducible repeat' (first | exact m_F_raddlelaw46_cloth _ | exact m_F_compare_Cells _ _ | exact m_F_compare_Nearest _ _ _ | exact m_F_raddlelaw46_cells _ | exact m_F_compare_Edits _ _ | exact m_F_raddlelaw46_knit _ | exact m_F_compare_Charts _ _ | exact m_F_raddleref46_Same _ _ | exact Le.rfl _ | refine Le.loop _ ?_ | refine Le.bind ?_ ?_ | refine Le.ite ?_ ?_ | refine Le.sum ?_ ?_ | refine Le.prod ?_ | intro _ | exact Empty.elim (by assumption) | dsimp only)
set_option maxRecDepth 1000000 in
theorem k_raddlelaw46_alive : F_raddlelaw46_alive = some true := m_F_raddlelaw46_alive _ (by kernel_rfl)
end Go.Proofs.Ytffikfajljbmnaa
namespace Go.Proofs.Ytffikfajljbmnaa
open Go.RowKit
theorem w64_of {x : Int} (h0 : -9223372036854775808 ≤ x) (h1 : x ≤ 9223372036854775807) : w64 x = x := w64_id ⟨h0, h1⟩
theorem w64_succ {k : Nat} (h : k < 9223372036854775807) : w64 ((k : Int) + 1) = ((k + 1 : Nat) : Int) := by
 rw [w64_of (by omega) (by omega)]; omega
theorem idxO_nat {α : Type} {xs : List α} {k : Nat} (h : k < xs.length) : idxO xs (k : Int) = some xs[k] := by
 simp [idxO, h]
theorem setO_nat {α : Type} {xs : List α} {k : Nat} {y : α} (h : k < xs.length) : setO xs (k : Int) y = some (xs.set k y) := by
 simp [setO, h]
theorem appO_of {α : Type} {xs ys : List α} (h : xs.length + ys.length ≤ 68719476736) : appO xs ys = some (xs ++ ys) := by
 simp [appO, lim, h]
theorem makeO_of {α : Type} {n : Int} {z : α} {k : Nat} (h : n = (k : Int)) (hk : k ≤ 68719476736) : makeO n z = some (List.replicate k z) := by
 subst h; simp [makeO, lim, hk]
theorem loop_ix {τ : Type} {B : Int → Option (Int ⊕ τ)} (n : Nat) (I : Nat → Prop) (Pt : τ → Prop) (h0 : I 0)
 (step : ∀ k, k < n → I k → (B (k : Int) = some (.inl ((k + 1 : Nat) : Int)) ∧ I (k + 1)) ∨ (∃ t, B (k : Int) = some (.inr t) ∧ Pt t))
 (last : I n → ∃ t, B (n : Int) = some (.inr t) ∧ Pt t) : ∃ t, whileO B 0 = some t ∧ Pt t := by
 refine whileO_inv (fun s => ∃ k : Nat, k ≤ n ∧ s = (k : Int) ∧ I k) (fun s => ((n : Int) - s).toNat) Pt ⟨0, Nat.zero_le _, rfl, h0⟩ ?_
 rintro i ⟨k, hk, rfl, hI⟩
 by_cases hlt : k < n
 ·rcases step k hlt hI with ⟨h1, h2⟩ | h
  ·exact .inl ⟨_, h1, ⟨k + 1, hlt, rfl, h2⟩, by simp; omega⟩
  ·exact .inr h
 ·obtain rfl : k = n := by omega
  exact .inr (last hI)
end Go.Proofs.Ytffikfajljbmnaa
namespace Go.Proofs.Ytffikfajljbmnaa
open Go.RowKit
theorem loop_all {τ : Type} {B : Int → Option (Int ⊕ τ)} (n : Nat) (p : Nat → Bool) (good bad : τ)
 (h : ∀ k, k < n → B (k : Int) = some (if p k = true then .inl ((k + 1 : Nat) : Int) else .inr bad)) (hn : B (n : Int) = some (.inr good)) :
 whileO B 0 = some (if (List.range n).all p = true then good else bad) := by
 have key : ∃ t, whileO B 0 = some t ∧ t = if (List.range n).all p = true then good else bad := by
  refine loop_ix n (fun k => ∀ j, j < k → p j = true) _ (fun j h => absurd h (Nat.not_lt_zero j)) ?_ ?_
  ·intro k hk hI
   cases hf : p k with
   | true =>
    refine .inl ⟨by rw [h k hk, if_pos hf], fun j hj => ?_⟩
    by_cases e : j = k
    ·rw [e]; exact hf
    ·exact hI j (by omega)
   | false =>
    refine .inr ⟨bad, by rw [h k hk, hf]; simp, ?_⟩
    rw [if_neg]
    intro hc
    rw [List.all_eq_true] at hc
    have := hc k (List.mem_range.2 hk)
    rw [hf] at this; cases this
  ·intro hI
   refine ⟨good, hn, ?_⟩
   rw [if_pos]
   rw [List.all_eq_true]
   exact fun j hj => hI j (List.mem_range.1 hj)
 obtain ⟨t, h1, rfl⟩ := key
 exact h1
theorem map_cong {α : Type} {n : Nat} {f g : Nat → α} (h : ∀ k, k < n → f k = g k) : (List.range n).map f = (List.range n).map g :=
 List.map_congr_left fun k hk => h k (List.mem_range.1 hk)
theorem dT {p : Prop} [Decidable p] (h : p) : decide p = true := decide_eq_true h
theorem dF {p : Prop} [Decidable p] (h : ¬ p) : decide p = false := decide_eq_false h
theorem bT {a b : Int} (h : a = b) : (a == b) = true := by simp [h]
theorem bF {a b : Int} (h : ¬ a = b) : (a == b) = false := by simp [h]
theorem nT {a b : Int} (h : ¬ a = b) : (a != b) = true := by simp [h]
theorem nF {a b : Int} (h : a = b) : (a != b) = false := by simp [h]
def Fill {α : Type} (n : Nat) (f : Nat → α) (k : Nat) (s : List α) : Prop := s.length = n ∧ ∀ j, j < k → s[j]? = some (f j)
theorem Fill.zero {α : Type} (n : Nat) (f : Nat → α) (z : α) : Fill n f 0 (List.replicate n z) := ⟨by simp, fun j hj => absurd hj (Nat.not_lt_zero j)⟩
theorem Fill.set {α : Type} {n : Nat} {f : Nat → α} {k : Nat} {s : List α} (h : Fill n f k s) (hk : k < n) : Fill n f (k + 1) (s.set k (f k)) := by
 refine ⟨by simp [h.1], fun j hj => ?_⟩
 by_cases e : j = k
 ·subst e; simp [h.1, hk]
 ·rw [List.getElem?_set_ne (fun h => e h.symm)]; exact h.2 j (by omega)
theorem Fill.all {α : Type} {n : Nat} {f : Nat → α} {s : List α} (h : Fill n f n s) : s = (List.range n).map f := by
 apply List.ext_getElem?
 intro j
 by_cases hj : j < n
 ·rw [h.2 j hj]; simp [hj]
 ·rw [List.getElem?_eq_none (by rw [h.1]; omega), List.getElem?_eq_none (by simp; omega)]
end Go.Proofs.Ytffikfajljbmnaa
namespace Go.Proofs.Ytffikfajljbmnaa
open Go.RowKit
theorem loop_seqf {S τ : Type} {B : S → Option (S ⊕ τ)} (c : Nat → S) (n : Nat) (g : Nat → Bool) {bad t : τ} (h : ∀ k, k < n → (∀ j, j < k → g j = true) → B (c k) = some (if g k = true then .inl (c (k + 1)) else .inr bad)) (hn : (∀ j, j < n → g j = true) → B (c n) = some (.inr t)) :
 whileO B (c 0) = some (if (List.range n).all g = true then t else bad) := by
 have key : ∀ j k, j + k = n → (∀ i, i < k → g i = true) → whileO B (c k) = some (if (List.range n).all g = true then t else bad) := by
  intro j
  induction j with
  | zero =>
   intro k hk hI
   obtain rfl : k = n := by omega
   rw [whileO_done (hn hI), if_pos (List.all_eq_true.2 fun i hi => hI i (List.mem_range.1 hi))]
  | succ j ih =>
   intro k hk hI
   have hb := h k (by omega) hI
   cases hg : g k with
   | true =>
    rw [hg, if_pos rfl] at hb
    rw [whileO_step hb]
    refine ih _ (by omega) fun i hi => ?_
    by_cases e : i = k
    ·rw [e]; exact hg
    ·exact hI i (by omega)
   | false =>
    rw [hg, if_neg (by decide)] at hb
    rw [whileO_done hb, if_neg]
    intro ha
    have := List.all_eq_true.1 ha k (List.mem_range.2 (by omega))
    rw [hg] at this; cases this
 exact key n 0 (by omega) fun i hi => absurd hi (Nat.not_lt_zero i)
theorem loop_eql {α τ : Type} [DecidableEq α] {B : Int → Option (Int ⊕ τ)} (a b : List α) (hl : a.length = b.length) (good bad : τ)
 (h : ∀ k (hk : k < a.length), B (k : Int) = some (if a[k] = b[k]'(by omega) then .inl ((k + 1 : Nat) : Int) else .inr bad)) (hn : B (a.length : Int) = some (.inr good)) : whileO B 0 = some (if a = b then good else bad) := by
 have := loop_seqf (B := B) (fun k => (k : Int)) a.length (fun k => decide (a[k]? = b[k]?)) (bad := bad) (t := good) (fun k hk _ => by
  rw [h k hk]
  by_cases e : a[k] = b[k]'(by omega)
  ·rw [if_pos e, if_pos]; exact decide_eq_true (by rw [List.getElem?_eq_getElem hk, List.getElem?_eq_getElem (by omega), e])
  ·rw [if_neg e, if_neg]; intro hc; have := of_decide_eq_true hc; rw [List.getElem?_eq_getElem hk, List.getElem?_eq_getElem (by omega)] at this; exact e (Option.some.inj this)) (fun _ => hn)
 have h0 : (((0 : Nat) : Int)) = 0 := rfl
 rw [h0] at this
 rw [this]
 congr 1
 by_cases e : a = b
 ·subst e; rw [if_pos rfl, if_pos]; simp
 ·rw [if_neg e, if_neg]
  intro hc
  refine e (List.ext_getElem? fun j => ?_)
  by_cases hj : j < a.length
  ·exact of_decide_eq_true (List.all_eq_true.1 hc j (List.mem_range.2 hj))
  ·rw [List.getElem?_eq_none (by omega), List.getElem?_eq_none (by omega)]
theorem wadd {a b : Nat} (h : a + b ≤ 9223372036854775807) : w64 ((a : Int) + (b : Int)) = ((a + b : Nat) : Int) := by
 rw [← Int.natCast_add]; exact w64_of (by omega) (by omega)
end Go.Proofs.Ytffikfajljbmnaa
namespace Go.Proofs.Ytffikfajljbmnaa
open Go.RowKit
section
variable {α : Type} (al : α → Nat) (bo : α → α → Nat)
def sumA : List α → Nat
 | [] => 0
 | y :: b => sumA b + al y
def rowD (f : List α → Nat) (x : α) : List α → Nat
 | [] => f [] + al x
 | y :: b => min (min (f (y :: b) + al x) (rowD f x b + al y)) (f b + bo x y)
def wed : List α → List α → Nat
 | [] => sumA al
 | x :: a => rowD al bo (wed a) x
end
section
variable {α : Type} {al : α → Nat} {bo : α → α → Nat}
theorem wed_nn : wed al bo [] [] = 0 := rfl
theorem wed_cn (x : α) (a : List α) : wed al bo (x :: a) [] = wed al bo a [] + al x := rfl
theorem wed_cc (x : α) (a : List α) (y : α) (b : List α) : wed al bo (x :: a) (y :: b) = min (min (wed al bo a (y :: b) + al x) (wed al bo (x :: a) b + al y)) (wed al bo a b + bo x y) := rfl
theorem wed_drop (x : α) (a b : List α) : wed al bo (x :: a) b ≤ wed al bo a b + al x := by
 cases b with
 | nil => exact Nat.le_refl _
 | cons y b => rw [wed_cc]; exact Nat.le_trans (Nat.min_le_left _ _) (Nat.min_le_left _ _)
theorem wed_add (a : List α) (y : α) (b : List α) : wed al bo a (y :: b) ≤ wed al bo a b + al y := by
 cases a with
 | nil => exact Nat.le_refl _
 | cons x a => rw [wed_cc]; exact Nat.le_trans (Nat.min_le_left _ _) (Nat.min_le_right _ _)
theorem wed_both (x : α) (a : List α) (y : α) (b : List α) : wed al bo (x :: a) (y :: b) ≤ wed al bo a b + bo x y := by
 rw [wed_cc]; exact Nat.min_le_right _ _
theorem wed_step (a b : List α) : (a = [] ∧ b = []) ∨ (∃ x a', a = x :: a' ∧ wed al bo a b = wed al bo a' b + al x) ∨ (∃ y b', b = y :: b' ∧ wed al bo a b = wed al bo a b' + al y) ∨ (∃ x a' y b', a = x :: a' ∧ b = y :: b' ∧ wed al bo a b = wed al bo a' b' + bo x y) := by
 cases a with
 | nil =>
  cases b with
  | nil => exact .inl ⟨rfl, rfl⟩
  | cons y b => exact .inr (.inr (.inl ⟨y, b, rfl, rfl⟩))
 | cons x a =>
  cases b with
  | nil => exact .inr (.inl ⟨x, a, rfl, rfl⟩)
  | cons y b =>
   have h := wed_cc (al := al) (bo := bo) x a y b
   have h1 : wed al bo (x :: a) (y :: b) = wed al bo a (y :: b) + al x ∨ wed al bo (x :: a) (y :: b) = wed al bo (x :: a) b + al y ∨ wed al bo (x :: a) (y :: b) = wed al bo a b + bo x y := by omega
   rcases h1 with h1 | h1 | h1
   ·exact .inr (.inl ⟨x, a, rfl, h1⟩)
   ·exact .inr (.inr (.inl ⟨y, b, rfl, h1⟩))
   ·exact .inr (.inr (.inr ⟨x, a, y, b, rfl, rfl, h1⟩))
theorem wed_tri (t1 : ∀ x y z, bo x z ≤ bo x y + bo y z) (t2 : ∀ y z, al z ≤ al y + bo y z) (t3 : ∀ x y, al x ≤ bo x y + al y) : ∀ (n : Nat) (a b c : List α), a.length + b.length + c.length ≤ n → wed al bo a c ≤ wed al bo a b + wed al bo b c := by
 intro n
 induction n with
 | zero =>
  intro a b c h
  obtain rfl : a = [] := List.length_eq_zero_iff.1 (by omega)
  obtain rfl : b = [] := List.length_eq_zero_iff.1 (by omega)
  obtain rfl : c = [] := List.length_eq_zero_iff.1 (by omega)
  exact Nat.zero_le _
 | succ n ih =>
  intro a b c h
  rcases wed_step (al := al) (bo := bo) a b with ⟨rfl, rfl⟩ | ⟨x, a', rfl, e1⟩ | ⟨y, b', rfl, e1⟩ | ⟨x, a', y, b', rfl, rfl, e1⟩
  ·rw [wed_nn, Nat.zero_add]; exact Nat.le_refl _
  ·have i1 := ih a' b c (by simp only [List.length_cons] at h; omega)
   have i2 := wed_drop (al := al) (bo := bo) x a' c
   omega
  ·rcases wed_step (al := al) (bo := bo) (y :: b') c with ⟨h1, _⟩ | ⟨y2, b2, h1, e2⟩ | ⟨z, c', rfl, e2⟩ | ⟨y2, b2, z, c', h1, rfl, e2⟩
   ·cases h1
   ·cases h1
    have i1 := ih a b' c (by simp only [List.length_cons] at h; omega)
    omega
   ·have i1 := ih a (y :: b') c' (by simp only [List.length_cons] at h ⊢; omega)
    have i2 := wed_add (al := al) (bo := bo) a z c'
    omega
   ·cases h1
    have i1 := ih a b' c' (by simp only [List.length_cons] at h; omega)
    have i2 := wed_add (al := al) (bo := bo) a z c'
    have i3 := t2 y z
    omega
  ·rcases wed_step (al := al) (bo := bo) (y :: b') c with ⟨h1, _⟩ | ⟨y2, b2, h1, e2⟩ | ⟨z, c', rfl, e2⟩ | ⟨y2, b2, z, c', h1, rfl, e2⟩
   ·cases h1
   ·cases h1
    have i1 := ih a' b' c (by simp only [List.length_cons] at h; omega)
    have i2 := wed_drop (al := al) (bo := bo) x a' c
    have i3 := t3 x y
    omega
   ·have i1 := ih (x :: a') (y :: b') c' (by simp only [List.length_cons] at h ⊢; omega)
    have i2 := wed_add (al := al) (bo := bo) (x :: a') z c'
    omega
   ·cases h1
    have i1 := ih a' b' c' (by simp only [List.length_cons] at h; omega)
    have i2 := wed_both (al := al) (bo := bo) x a' z c'
    have i3 := t1 x y z
    omega
theorem wed_symL (hs : ∀ x y, bo x y = bo y x) : ∀ (n : Nat) (a b : List α), a.length + b.length ≤ n → wed al bo b a ≤ wed al bo a b := by
 intro n
 induction n with
 | zero =>
  intro a b h
  obtain rfl : a = [] := List.length_eq_zero_iff.1 (by omega)
  obtain rfl : b = [] := List.length_eq_zero_iff.1 (by omega)
  exact Nat.le_refl _
 | succ n ih =>
  intro a b h
  rcases wed_step (al := al) (bo := bo) a b with ⟨rfl, rfl⟩ | ⟨x, a', rfl, e1⟩ | ⟨y, b', rfl, e1⟩ | ⟨x, a', y, b', rfl, rfl, e1⟩
  ·exact Nat.le_refl _
  ·have i1 := ih a' b (by simp only [List.length_cons] at h; omega)
   have i2 := wed_add (al := al) (bo := bo) b x a'
   omega
  ·have i1 := ih a b' (by simp only [List.length_cons] at h; omega)
   have i2 := wed_drop (al := al) (bo := bo) y b' a
   omega
  ·have i1 := ih a' b' (by simp only [List.length_cons] at h; omega)
   have i2 := wed_both (al := al) (bo := bo) y b' x a'
   have i3 := hs x y
   omega
theorem wed_sym (hs : ∀ x y, bo x y = bo y x) (a b : List α) : wed al bo a b = wed al bo b a := Nat.le_antisymm (wed_symL hs _ b a (Nat.le_refl _)) (wed_symL hs _ a b (Nat.le_refl _))
theorem wed_self (h0 : ∀ x, bo x x = 0) (a : List α) : wed al bo a a = 0 := by
 induction a with
 | nil => rfl
 | cons x a ih =>
  have := wed_both (al := al) (bo := bo) x a x a
  have := h0 x
  omega
theorem wed_zeroL (h1 : ∀ x, 1 ≤ al x) (h2 : ∀ x y, bo x y = 0 → x = y) : ∀ (n : Nat) (a b : List α), a.length + b.length ≤ n → wed al bo a b = 0 → a = b := by
 intro n
 induction n with
 | zero =>
  intro a b h _
  obtain rfl : a = [] := List.length_eq_zero_iff.1 (by omega)
  obtain rfl : b = [] := List.length_eq_zero_iff.1 (by omega)
  rfl
 | succ n ih =>
  intro a b h hz
  rcases wed_step (al := al) (bo := bo) a b with ⟨rfl, rfl⟩ | ⟨x, a', rfl, e1⟩ | ⟨y, b', rfl, e1⟩ | ⟨x, a', y, b', rfl, rfl, e1⟩
  ·rfl
  ·have := h1 x; omega
  ·have := h1 y; omega
  ·have i1 := ih a' b' (by simp only [List.length_cons] at h; omega) (by omega)
   have i2 := h2 x y (by omega)
   rw [i1, i2]
theorem wed_zero (h0 : ∀ x, bo x x = 0) (h1 : ∀ x, 1 ≤ al x) (h2 : ∀ x y, bo x y = 0 → x = y) (a b : List α) : wed al bo a b = 0 ↔ a = b :=
 ⟨wed_zeroL h1 h2 _ a b (Nat.le_refl _), fun h => by rw [h]; exact wed_self h0 b⟩
theorem wed_sum (a b : List α) : wed al bo a b ≤ sumA al a + sumA al b := by
 induction a with
 | nil => simp only [sumA, Nat.zero_add]; exact Nat.le_refl _
 | cons x a ih =>
  have := wed_drop (al := al) (bo := bo) x a b
  simp only [sumA]
  omega
theorem wed_nil (a : List α) : wed al bo a [] = sumA al a := by
 induction a with
 | nil => rfl
 | cons x a ih => rw [wed_cn, ih]; rfl
theorem sumA_one (h : ∀ x, al x = 1) (b : List α) : sumA al b = b.length := by
 induction b with
 | nil => rfl
 | cons y b ih => simp only [sumA, List.length_cons, ih, h y]
theorem wed_max (h : ∀ x, al x = 1) (hb : ∀ x y, bo x y ≤ 1) : ∀ (a b : List α), wed al bo a b ≤ max a.length b.length := by
 intro a
 induction a with
 | nil =>
  intro b
  show sumA al b ≤ _
  rw [sumA_one h]
  exact Nat.le_max_right _ _
 | cons x a ih =>
  intro b
  cases b with
  | nil =>
   rw [wed_nil, sumA_one h]
   exact Nat.le_max_left _ _
  | cons y b =>
   have i1 := wed_both (al := al) (bo := bo) x a y b
   have i2 := ih b
   have i3 := hb x y
   simp only [List.length_cons]
   omega
end
end Go.Proofs.Ytffikfajljbmnaa
namespace Go.Proofs.Ytffikfajljbmnaa
open Go.RowKit
instance decSt : DecidableEq api_Stitch := fun a b => decidable_of_iff (a.Kind = b.Kind ∧ a.Purl = b.Purl ∧ a.A = b.A ∧ a.B = b.B) (by cases a; cases b; simp)
def al1 (_ : api_Stitch) : Nat := 1
def bo1 (x y : api_Stitch) : Nat := if x = y then 0 else 1
abbrev D1 : List api_Stitch → List api_Stitch → Nat := wed al1 bo1
theorem bo1_eq {x y : api_Stitch} (h : x = y) : bo1 x y = 0 := if_pos h
theorem bo1_ne {x y : api_Stitch} (h : ¬ x = y) : bo1 x y = 1 := if_neg h
theorem bo1_le (x y : api_Stitch) : bo1 x y ≤ 1 := by unfold bo1; split <;> omega
theorem bo1_tri (x y z : api_Stitch) : bo1 x z ≤ bo1 x y + bo1 y z := by
 by_cases h : x = y
 ·subst h; rw [bo1_eq rfl]; omega
 ·have := bo1_le x z; rw [bo1_ne h]; omega
theorem bo1_sym (x y : api_Stitch) : bo1 x y = bo1 y x := by
 by_cases h : x = y
 ·rw [bo1_eq h, bo1_eq h.symm]
 ·rw [bo1_ne h, bo1_ne fun e => h e.symm]
theorem bo1_zero {x y : api_Stitch} (h : bo1 x y = 0) : x = y := by
 by_cases e : x = y
 ·exact e
 ·rw [bo1_ne e] at h; cases h
theorem D1_tri (a b c : List api_Stitch) : D1 a c ≤ D1 a b + D1 b c :=
 wed_tri bo1_tri (fun _ _ => by simp only [al1]; omega) (fun _ _ => by simp only [al1]; omega) _ a b c (Nat.le_refl _)
theorem D1_sym (a b : List api_Stitch) : D1 a b = D1 b a := wed_sym bo1_sym a b
theorem D1_zero (a b : List api_Stitch) : D1 a b = 0 ↔ a = b := wed_zero (fun _ => bo1_eq rfl) (fun _ => Nat.le_refl 1) (fun _ _ => bo1_zero) a b
theorem D1_max (a b : List api_Stitch) : D1 a b ≤ max a.length b.length := wed_max (fun _ => rfl) bo1_le a b
theorem D1_nil (a : List api_Stitch) : D1 a [] = a.length := by rw [D1, wed_nil, sumA_one (al := al1) fun _ => rfl]
theorem D1_low (a b : List api_Stitch) : a.length ≤ b.length + D1 a b := by
 have := D1_tri a b []
 rw [D1_nil, D1_nil] at this
 omega
def z0 : api_Stitch := ⟨0, false, 0, 0⟩
def eds : Nat → List api_Stitch → List api_Stitch → List api_CellStep
 | 0, _, _ => []
 | _ + 1, [], [] => []
 | n + 1, [], y :: b => ⟨3, y⟩ :: eds n [] b
 | n + 1, x :: a, [] => ⟨4, z0⟩ :: eds n a []
 | n + 1, x :: a, y :: b =>
  if x = y ∧ D1 (x :: a) (y :: b) = D1 a b then ⟨1, z0⟩ :: eds n a b
  else if ¬ x = y ∧ D1 (x :: a) (y :: b) = 1 + D1 a b then ⟨2, y⟩ :: eds n a b
  else if D1 (x :: a) (y :: b) = 1 + D1 a (y :: b) then ⟨4, z0⟩ :: eds n a (y :: b)
  else ⟨3, y⟩ :: eds n (x :: a) b
end Go.Proofs.Ytffikfajljbmnaa
namespace Go.Proofs.Ytffikfajljbmnaa
open Go.RowKit
theorem loop_at {S σ τ : Type} {B : S → Option (S ⊕ τ)} (n : Nat) (st : Nat → σ → S) (I : Nat → σ → Prop) (Pt : τ → Prop) {s0 : σ} (h0 : I 0 s0)
 (step : ∀ k s, k < n → I k s → (∃ s', B (st k s) = some (.inl (st (k + 1) s')) ∧ I (k + 1) s') ∨ (∃ t, B (st k s) = some (.inr t) ∧ Pt t))
 (last : ∀ s, I n s → ∃ t, B (st n s) = some (.inr t) ∧ Pt t) : ∃ t, whileO B (st 0 s0) = some t ∧ Pt t := by
 have key : ∀ j k s, j + k = n → I k s → ∃ t, whileO B (st k s) = some t ∧ Pt t := by
  intro j
  induction j with
  | zero =>
   intro k s hk hI
   obtain rfl : k = n := by omega
   obtain ⟨t, h1, h2⟩ := last s hI
   exact ⟨t, whileO_done h1, h2⟩
  | succ j ih =>
   intro k s hk hI
   rcases step k s (by omega) hI with ⟨s', h1, h2⟩ | ⟨t, h1, h2⟩
   ·rw [whileO_step h1]; exact ih _ _ (by omega) h2
   ·exact ⟨t, whileO_done h1, h2⟩
 exact key n 0 s0 (by omega) h0
def sm {α : Type} (f : α → Int) : List α → Int
 | [] => 0
 | x :: l => f x + sm f l
theorem sm_append {α : Type} (f : α → Int) (l k : List α) : sm f (l ++ k) = sm f l + sm f k := by
 induction l with
 | nil => simp [sm]
 | cons x l ih => simp only [List.cons_append, sm, ih]; omega
theorem sm_take {α : Type} (f : α → Int) (l : List α) {k : Nat} (h : k < l.length) : sm f (l.take (k + 1)) = sm f (l.take k) + f l[k] := by
 rw [List.take_succ_eq_append_getElem h, sm_append]
 simp [sm]
theorem sm_bd {α : Type} {f : α → Int} {b : Int} {l : List α} (h : ∀ x, x ∈ l → 0 ≤ f x ∧ f x ≤ b) : 0 ≤ sm f l ∧ sm f l ≤ b * l.length := by
 induction l with
 | nil => simp [sm]
 | cons x l ih =>
  have h1 := h x (by simp)
  have h2 := ih fun y hy => h y (by simp [hy])
  simp only [sm, List.length_cons]
  have e : b * ((l.length + 1 : Nat) : Int) = b * l.length + b := by rw [Int.natCast_add, Int.mul_add]; simp
  rw [e]
  omega
def usedS (p : api_Stitch) : Int := if p.Kind = 2 ∨ p.Kind = 9 then 0 else if p.Kind = 3 ∨ p.Kind = 4 ∨ p.Kind = 10 then p.A else if p.Kind = 6 ∨ p.Kind = 7 then p.A + p.B else 1
def madeS (p : api_Stitch) : Int := if p.Kind = 10 then 0 else if p.Kind = 5 ∨ p.Kind = 9 then p.A else if p.Kind = 6 ∨ p.Kind = 7 then p.A + p.B else 1
def okS (p : api_Stitch) : Prop :=
 (p.Kind = 1 ∨ p.Kind = 8) ∧ p.A = 0 ∧ p.B = 0 ∨ p.Kind = 2 ∧ p.A = 0 ∧ p.B = 0 ∧ p.Purl = false ∨ (p.Kind = 3 ∨ p.Kind = 4 ∨ p.Kind = 5) ∧ 2 ≤ p.A ∧ p.A ≤ 4 ∧ p.B = 0 ∨
 (p.Kind = 6 ∨ p.Kind = 7) ∧ 1 ≤ p.A ∧ p.A ≤ 6 ∧ 1 ≤ p.B ∧ p.B ≤ 6 ∨ p.Kind = 9 ∧ 1 ≤ p.A ∧ p.A ≤ 200 ∧ p.B = 0 ∧ p.Purl = false ∨ p.Kind = 10 ∧ 1 ≤ p.A ∧ p.A ≤ 200 ∧ p.B = 0
instance (p : api_Stitch) : Decidable (okS p) := by unfold okS; infer_instance
theorem okS_bd {p : api_Stitch} (h : okS p) : 1 ≤ p.Kind ∧ p.Kind ≤ 10 ∧ 0 ≤ p.A ∧ p.A ≤ 200 ∧ 0 ≤ p.B ∧ p.B ≤ 6 := by
 unfold okS at h
 omega
theorem usedS_bd {p : api_Stitch} (h : okS p) : 0 ≤ usedS p ∧ usedS p ≤ 200 := by
 have hb := okS_bd h
 unfold okS at h
 unfold usedS
 split
 ·omega
 ·split
  ·omega
  ·split <;> omega
theorem madeS_bd {p : api_Stitch} (h : okS p) : 0 ≤ madeS p ∧ madeS p ≤ 200 := by
 have hb := okS_bd h
 unfold okS at h
 unfold madeS
 split
 ·omega
 ·split
  ·omega
  ·split <;> omega
theorem check_form (p : api_Stitch) (f : stitch_form) (h : F_stitch_forms p.Kind = some (f, true)) :
 F_stitch_Check p = some (if (f.a.1 ≤ p.A ∧ p.A ≤ f.a.2) ∧ (f.b.1 ≤ p.B ∧ p.B ≤ f.b.2) ∧ (p.Purl = true → f.sided = true) then 0 else 8) := by
 unfold F_stitch_Check F_stitch_within
 rw [h]
 by_cases a1 : f.a.1 ≤ p.A <;> by_cases a2 : p.A ≤ f.a.2 <;> by_cases b1 : f.b.1 ≤ p.B <;> by_cases b2 : p.B ≤ f.b.2 <;> cases hp : p.Purl <;> cases hs : f.sided <;> simp [a1, a2, b1, b2, hs]
theorem ifc {α : Type} {c d : Prop} [Decidable c] [Decidable d] {a b : α} (h : c ↔ d) : (if c then a else b) = if d then a else b := by
 by_cases hc : c
 ·rw [if_pos hc, if_pos (h.1 hc)]
 ·rw [if_neg hc, if_neg (fun hd => hc (h.2 hd))]
theorem kinds {x : Int} (h : 0 ≤ x ∧ x ≤ 255) : x = 0 ∨ x = 1 ∨ x = 2 ∨ x = 3 ∨ x = 4 ∨ x = 5 ∨ x = 6 ∨ x = 7 ∨ x = 8 ∨ x = 9 ∨ x = 10 ∨ 10 < x := by omega
theorem forms_none {x : Int} (h : 10 < x ∧ x ≤ 255) : ∃ f, F_stitch_forms x = some (f, false) := by
 unfold F_stitch_forms
 have hw : IntKind.i64.wrap x = x := w64_of (by omega) (by omega)
 simp only [dF (show ¬ x < 1 by omega), hw, Bool.false_eq_true, if_false, Option.bind_some, List.length_cons, List.length_nil]
 rw [dT (show ((0 + 1 + 1 + 1 + 1 + 1 + 1 + 1 + 1 + 1 + 1 : Nat) : Int) < x by omega)]
 exact ⟨_, rfl⟩
theorem check_none {p : api_Stitch} {f : stitch_form} (h : F_stitch_forms p.Kind = some (f, false)) : F_stitch_Check p = some 8 := by
 unfold F_stitch_Check
 rw [h]
 simp
theorem check_eq (p : api_Stitch) (hk : 0 ≤ p.Kind ∧ p.Kind ≤ 255) : F_stitch_Check p = some (if okS p then 0 else 8) := by
 rcases kinds hk with h | h | h | h | h | h | h | h | h | h | h | h
 ·rw [check_none (f := ⟨⟨#[]⟩, (0, 0), (0, 0), false, 0, 0⟩) (by rw [h]; rfl), if_neg (by unfold okS; omega)]
 ·rw [check_form p _ (by rw [h]; rfl)]; cases hp : p.Purl <;> exact congrArg some (ifc (by simp [okS, h]; omega))
 ·rw [check_form p _ (by rw [h]; rfl)]; cases hp : p.Purl <;> exact congrArg some (ifc (by simp [okS, h, hp] <;> omega))
 ·rw [check_form p _ (by rw [h]; rfl)]; cases hp : p.Purl <;> exact congrArg some (ifc (by simp [okS, h]; omega))
 ·rw [check_form p _ (by rw [h]; rfl)]; cases hp : p.Purl <;> exact congrArg some (ifc (by simp [okS, h]; omega))
 ·rw [check_form p _ (by rw [h]; rfl)]; cases hp : p.Purl <;> exact congrArg some (ifc (by simp [okS, h]; omega))
 ·rw [check_form p _ (by rw [h]; rfl)]; cases hp : p.Purl <;> exact congrArg some (ifc (by simp [okS, h]; omega))
 ·rw [check_form p _ (by rw [h]; rfl)]; cases hp : p.Purl <;> exact congrArg some (ifc (by simp [okS, h]; omega))
 ·rw [check_form p _ (by rw [h]; rfl)]; cases hp : p.Purl <;> exact congrArg some (ifc (by simp [okS, h]; omega))
 ·rw [check_form p _ (by rw [h]; rfl)]; cases hp : p.Purl <;> exact congrArg some (ifc (by simp [okS, h, hp] <;> omega))
 ·rw [check_form p _ (by rw [h]; rfl)]; cases hp : p.Purl <;> exact congrArg some (ifc (by simp [okS, h]; omega))
 ·obtain ⟨f, hf⟩ := forms_none ⟨h, hk.2⟩
  rw [check_none hf, if_neg (by unfold okS; omega)]
theorem rstitch_eq (p : api_Stitch) : F_raddleref25_Check p = some (if okS p then 0 else 8) := by
 have e3 : (if (p.A == 0) = true then some (p.B == 0) else some false) = some (p.A == 0 && p.B == 0) := by cases h : (p.A == 0) <;> simp
 unfold F_raddleref25_Check
 rw [e3, Option.bind_some]
 by_cases k1 : p.Kind = 1
 ·by_cases hA : p.A = 0 <;> by_cases hB : p.B = 0 <;> simp [k1, hA, hB, okS]
 by_cases k8 : p.Kind = 8
 ·by_cases hA : p.A = 0 <;> by_cases hB : p.B = 0 <;> simp [k8, hA, hB, okS]
 by_cases k2 : p.Kind = 2
 ·by_cases hA : p.A = 0 <;> by_cases hB : p.B = 0 <;> cases hp : p.Purl <;> simp [k2, hA, hB, hp, okS]
 by_cases k3 : p.Kind = 3
 ·by_cases h1 : 2 ≤ p.A <;> by_cases h2 : p.A ≤ 4 <;> by_cases hB : p.B = 0 <;> simp [k3, h1, h2, hB, okS]
 by_cases k4 : p.Kind = 4
 ·by_cases h1 : 2 ≤ p.A <;> by_cases h2 : p.A ≤ 4 <;> by_cases hB : p.B = 0 <;> simp [k4, h1, h2, hB, okS]
 by_cases k5 : p.Kind = 5
 ·by_cases h1 : 2 ≤ p.A <;> by_cases h2 : p.A ≤ 4 <;> by_cases hB : p.B = 0 <;> simp [k5, h1, h2, hB, okS]
 by_cases k6 : p.Kind = 6
 ·by_cases h1 : 1 ≤ p.A <;> by_cases h2 : p.A ≤ 6 <;> by_cases h3 : 1 ≤ p.B <;> by_cases h4 : p.B ≤ 6 <;> simp [k6, h1, h2, h3, h4, okS]
 by_cases k7 : p.Kind = 7
 ·by_cases h1 : 1 ≤ p.A <;> by_cases h2 : p.A ≤ 6 <;> by_cases h3 : 1 ≤ p.B <;> by_cases h4 : p.B ≤ 6 <;> simp [k7, h1, h2, h3, h4, okS]
 by_cases k9 : p.Kind = 9
 ·by_cases h1 : 1 ≤ p.A <;> by_cases h2 : p.A ≤ 200 <;> by_cases hB : p.B = 0 <;> cases hp : p.Purl <;> simp [k9, h1, h2, hB, hp, okS]
 by_cases k10 : p.Kind = 10
 ·by_cases h1 : 1 ≤ p.A <;> by_cases h2 : p.A ≤ 200 <;> by_cases hB : p.B = 0 <;> simp [k10, h1, h2, hB, okS]
 have hn : ¬ okS p := by unfold okS; omega
 simp [k1, k2, k3, k4, k5, k6, k7, k8, k9, k10, hn]
theorem form_ok {p : api_Stitch} (h : okS p) : ∃ f, F_stitch_forms p.Kind = some (f, true) ∧ F_stitch_loops p f.uses = some (usedS p) ∧ F_stitch_loops p f.made = some (madeS p) := by
 have hb := okS_bd h
 have hw : w64 (p.A + p.B) = p.A + p.B := w64_of (by omega) (by omega)
 have l0 : F_stitch_loops p 0 = some 0 := rfl
 have l1 : F_stitch_loops p 1 = some 1 := rfl
 have l2 : F_stitch_loops p 2 = some p.A := rfl
 have l3 : F_stitch_loops p 3 = some (p.A + p.B) := by rw [← hw]; rfl
 rcases kinds (x := p.Kind) (by omega) with k | k | k | k | k | k | k | k | k | k | k | k
 ·omega
 ·exact ⟨⟨⟨#[]⟩, (0, 0), (0, 0), true, 1, 1⟩, by rw [k]; rfl, by rw [l1]; simp [usedS, k], by rw [l1]; simp [madeS, k]⟩
 ·exact ⟨⟨⟨#[]⟩, (0, 0), (0, 0), false, 0, 1⟩, by rw [k]; rfl, by rw [l0]; simp [usedS, k], by rw [l1]; simp [madeS, k]⟩
 ·exact ⟨⟨⟨#[102]⟩, (2, 4), (0, 0), true, 2, 1⟩, by rw [k]; rfl, by rw [l2]; simp [usedS, k], by rw [l1]; simp [madeS, k]⟩
 ·exact ⟨⟨⟨#[108]⟩, (2, 4), (0, 0), true, 2, 1⟩, by rw [k]; rfl, by rw [l2]; simp [usedS, k], by rw [l1]; simp [madeS, k]⟩
 ·exact ⟨⟨⟨#[109]⟩, (2, 4), (0, 0), true, 1, 2⟩, by rw [k]; rfl, by rw [l1]; simp [usedS, k], by rw [l2]; simp [madeS, k]⟩
 ·exact ⟨⟨⟨#[120]⟩, (1, 6), (1, 6), true, 3, 3⟩, by rw [k]; rfl, by rw [l3]; simp [usedS, k], by rw [l3]; simp [madeS, k]⟩
 ·exact ⟨⟨⟨#[121]⟩, (1, 6), (1, 6), true, 3, 3⟩, by rw [k]; rfl, by rw [l3]; simp [usedS, k], by rw [l3]; simp [madeS, k]⟩
 ·exact ⟨⟨⟨#[115]⟩, (0, 0), (0, 0), true, 1, 1⟩, by rw [k]; rfl, by rw [l1]; simp [usedS, k], by rw [l1]; simp [madeS, k]⟩
 ·exact ⟨⟨⟨#[]⟩, (1, 200), (0, 0), false, 0, 2⟩, by rw [k]; rfl, by rw [l0]; simp [usedS, k], by rw [l2]; simp [madeS, k]⟩
 ·exact ⟨⟨⟨#[111]⟩, (1, 200), (0, 0), true, 2, 0⟩, by rw [k]; rfl, by rw [l2]; simp [usedS, k], by rw [l0]; simp [madeS, k]⟩
 ·omega
theorem rused_eq {p : api_Stitch} (h : okS p) : F_raddleref25_Used p = some (usedS p) := by
 have hb := okS_bd h
 have hw : w64 (p.A + p.B) = p.A + p.B := w64_of (by omega) (by omega)
 unfold F_raddleref25_Used usedS
 rcases kinds (x := p.Kind) (by omega) with k | k | k | k | k | k | k | k | k | k | k | k <;> first | omega | simp [k, hw]
theorem rgives_eq {p : api_Stitch} (h : okS p) : F_raddleref25_Gives p = some (madeS p) := by
 have hb := okS_bd h
 have hw : w64 (p.A + p.B) = p.A + p.B := w64_of (by omega) (by omega)
 unfold F_raddleref25_Gives madeS
 rcases kinds (x := p.Kind) (by omega) with k | k | k | k | k | k | k | k | k | k | k | k <;> first | omega | simp [k, hw]
def allOk (l : List api_Stitch) : Prop := ∀ p, p ∈ l → okS p
instance (l : List api_Stitch) : Decidable (allOk l) := by unfold allOk; infer_instance
def wfS (p : api_Stitch) : Prop := 0 ≤ p.Kind ∧ p.Kind ≤ 255
theorem used_bd {l : List api_Stitch} (h : allOk l) : 0 ≤ sm usedS l ∧ sm usedS l ≤ 200 * l.length := sm_bd fun _ hx => usedS_bd (h _ hx)
theorem made_bd {l : List api_Stitch} (h : allOk l) : 0 ≤ sm madeS l ∧ sm madeS l ≤ 200 * l.length := sm_bd fun _ hx => madeS_bd (h _ hx)
theorem take_ok {l : List api_Stitch} (h : allOk l) (k : Nat) : allOk (l.take k) := fun _ hx => h _ (List.mem_of_mem_take hx)
theorem sum_step {l : List api_Stitch} (h : allOk l) (hl : l.length ≤ 100000) {k : Nat} (hk : k < l.length) :
 w64 (sm usedS (l.take k) + usedS l[k]) = sm usedS (l.take (k + 1)) ∧ w64 (sm madeS (l.take k) + madeS l[k]) = sm madeS (l.take (k + 1)) := by
 have h1 := used_bd (take_ok h k)
 have h2 := made_bd (take_ok h k)
 have h3 := usedS_bd (h _ (List.getElem_mem hk))
 have h4 := madeS_bd (h _ (List.getElem_mem hk))
 have hlen : (l.take k).length ≤ 100000 := by rw [List.length_take]; omega
 rw [sm_take _ _ hk, sm_take _ _ hk]
 exact ⟨w64_of (by omega) (by omega), w64_of (by omega) (by omega)⟩
theorem sum_eq {l : List api_Stitch} (h : allOk l) (hl : l.length ≤ 100000) : F_stitch_sum l = some (sm usedS l, sm madeS l) := by
 have key : ∃ t, whileO (stitch_sum_l1 l) (0, 0, 0) = some t ∧ t = (sm usedS l, sm madeS l) := by
  refine loop_at (σ := Unit) l.length (fun k _ => (sm usedS (l.take k), sm madeS (l.take k), (k : Int))) (fun _ _ => True) _ (s0 := ()) trivial ?_ ?_
  ·intro k _ hk _
   refine .inl ⟨(), ?_, trivial⟩
   obtain ⟨f, f1, f2, f3⟩ := form_ok (h _ (List.getElem_mem hk))
   have hs := sum_step h hl hk
   unfold stitch_sum_l1
   simp only [dT (show (k : Int) < (l.length : Int) by omega), if_true, idxO_nat hk, Option.bind_some, f1, f2, f3, hs.1, hs.2, w64_succ (show k < 9223372036854775807 by omega)]
  ·intro _ _
   refine ⟨_, ?_, rfl⟩
   unfold stitch_sum_l1
   simp only [dF (show ¬ (l.length : Int) < (l.length : Int) by omega), Bool.false_eq_true, if_false, List.take_length]
 obtain ⟨t, h1, rfl⟩ := key
 unfold F_stitch_sum
 rw [h1]; rfl
theorem rsums_eq {l : List api_Stitch} (h : allOk l) (hl : l.length ≤ 100000) : F_raddleref25_sums l = some (sm usedS l, sm madeS l) := by
 have key : ∃ t, whileO (raddleref25_sums_l1 l) (0, 0, 0) = some t ∧ t = (sm usedS l, sm madeS l) := by
  refine loop_at (σ := Unit) l.length (fun k _ => (sm usedS (l.take k), sm madeS (l.take k), (k : Int))) (fun _ _ => True) _ (s0 := ()) trivial ?_ ?_
  ·intro k _ hk _
   refine .inl ⟨(), ?_, trivial⟩
   have hs := sum_step h hl hk
   unfold raddleref25_sums_l1
   simp only [dT (show (k : Int) < (l.length : Int) by omega), if_true, idxO_nat hk, Option.bind_some, rused_eq (h _ (List.getElem_mem hk)), rgives_eq (h _ (List.getElem_mem hk)), hs.1, hs.2, w64_succ (show k < 9223372036854775807 by omega)]
  ·intro _ _
   refine ⟨_, ?_, rfl⟩
   unfold raddleref25_sums_l1
   simp only [dF (show ¬ (l.length : Int) < (l.length : Int) by omega), Bool.false_eq_true, if_false, List.take_length]
 obtain ⟨t, h1, rfl⟩ := key
 unfold F_raddleref25_sums
 rw [h1]; rfl
def allS (l : List api_Stitch) : Int := if 200 < l.length then 4 else if allOk l then (if 200 < sm usedS l ∨ 200 < sm madeS l then 4 else 0) else 8
theorem allOk_range {l : List api_Stitch} : (List.range l.length).all (fun k => decide (okS (l.getD k ⟨0, false, 0, 0⟩))) = true ↔ allOk l := by
 rw [List.all_eq_true]
 constructor
 ·intro h p hp
  obtain ⟨k, hk, rfl⟩ := List.getElem_of_mem hp
  have := h k (List.mem_range.2 hk)
  simpa [hk] using this
 ·intro h k hk
  have hk := List.mem_range.1 hk
  have := h _ (List.getElem_mem hk)
  simpa [hk] using this
theorem getD_of {α : Type} {l : List α} {k : Nat} (d : α) (h : k < l.length) : l.getD k d = l[k] := by simp [h]
theorem find_bad {l : List api_Stitch} (hw : ∀ p, p ∈ l → wfS p) (hl : l.length ≤ 100000) : ∃ j, F_slices_IndexFunc___api_Stitch_api_Stitch__s0 l = some j ∧ (0 ≤ j ↔ ¬ allOk l) := by
 have key : ∃ t, whileO (slices_IndexFunc___api_Stitch_api_Stitch__s0_l1 l) 0 = some t ∧ ((t = .inr () ∧ allOk l) ∨ (∃ k : Nat, t = .inl (k : Int) ∧ ¬ allOk l)) := by
  refine loop_ix l.length (fun k => allOk (l.take k)) _ (fun p hp => by simp at hp) ?_ ?_
  ·intro k hk hI
   have hc := check_eq l[k] (hw _ (List.getElem_mem hk))
   unfold slices_IndexFunc___api_Stitch_api_Stitch__s0_l1 F_stitch_All_1
   simp only [dT (show (k : Int) < (l.length : Int) by omega), if_true, idxO_nat hk, Option.bind_some, hc, w64_succ (show k < 9223372036854775807 by omega)]
   by_cases ho : okS l[k]
   ·refine .inl ⟨by simp [ho], fun p hp => ?_⟩
    rw [List.take_succ_eq_append_getElem hk, List.mem_append] at hp
    rcases hp with hp | hp
    ·exact hI p hp
    ·simp at hp; subst hp; exact ho
   ·exact .inr ⟨.inl (k : Int), by simp [ho], .inr ⟨k, rfl, fun h => ho (h _ (List.getElem_mem hk))⟩⟩
  ·intro hI
   refine ⟨.inr (), ?_, .inl ⟨rfl, by simpa using hI⟩⟩
   unfold slices_IndexFunc___api_Stitch_api_Stitch__s0_l1
   simp only [dF (show ¬ (l.length : Int) < (l.length : Int) by omega), Bool.false_eq_true, if_false]
 obtain ⟨t, h1, h2⟩ := key
 unfold F_slices_IndexFunc___api_Stitch_api_Stitch__s0
 rw [h1]
 rcases h2 with ⟨rfl, h⟩ | ⟨k, rfl, h⟩
 ·exact ⟨-1, rfl, by simp [h]⟩
 ·exact ⟨(k : Int), rfl, by simp [h]⟩
theorem all_eq {l : List api_Stitch} (hw : ∀ p, p ∈ l → wfS p) : F_stitch_All l = some (allS l) := by
 unfold F_stitch_All allS
 by_cases hl : 200 < l.length
 ·simp only [dT (show (200 : Int) < (l.length : Int) by omega), if_true, if_pos hl]
 simp only [dF (show ¬ (200 : Int) < (l.length : Int) by omega), Bool.false_eq_true, if_false, if_neg hl]
 obtain ⟨j, h1, h2⟩ := find_bad hw (by omega)
 unfold F_slices_ContainsFunc___api_Stitch_api_Stitch__s0
 rw [h1]
 by_cases ho : allOk l
 ·have : ¬ 0 ≤ j := fun h => h2.1 h ho
  simp only [Option.bind_some, dF this, Bool.false_eq_true, if_false, sum_eq ho (show l.length ≤ 100000 by omega), if_pos ho]
  by_cases hm : 200 < sm usedS l ∨ 200 < sm madeS l
  ·rw [dT (show (200 : Int) < if sm usedS l < sm madeS l then sm madeS l else sm usedS l by split <;> omega)]
   simp [hm]
  ·rw [dF (show ¬ (200 : Int) < if sm usedS l < sm madeS l then sm madeS l else sm usedS l by split <;> omega)]
   simp [hm]
 ·have : 0 ≤ j := h2.2 ho
  simp only [Option.bind_some, dT this, if_true, if_neg ho]
theorem rall_eq (l : List api_Stitch) : F_raddleref25_All l = some (allS l) := by
 unfold F_raddleref25_All allS
 by_cases hl : 200 < l.length
 ·simp only [dT (show (200 : Int) < (l.length : Int) by omega), if_true, if_pos hl]
 simp only [dF (show ¬ (200 : Int) < (l.length : Int) by omega), Bool.false_eq_true, if_false, if_neg hl]
 have hloop : whileO (raddleref25_All_l1 l) 0 = some (if (List.range l.length).all (fun k => decide (okS (l.getD k ⟨0, false, 0, 0⟩))) = true then .inr () else .inl 8) := by
  refine loop_all l.length _ _ _ ?_ ?_
  ·intro k hk
   unfold raddleref25_All_l1
   simp only [dT (show (k : Int) < (l.length : Int) by omega), if_true, idxO_nat hk, Option.bind_some, rstitch_eq, w64_succ (show k < 9223372036854775807 by omega), getD_of _ hk]
   by_cases ho : okS l[k] <;> simp [ho]
  ·unfold raddleref25_All_l1
   simp only [dF (show ¬ (l.length : Int) < (l.length : Int) by omega), Bool.false_eq_true, if_false]
 rw [hloop]
 by_cases ho : allOk l
 ·rw [if_pos (allOk_range.2 ho), if_pos ho]
  simp only [Option.bind_some, rsums_eq ho (show l.length ≤ 100000 by omega)]
  by_cases hu : 200 < sm usedS l
  ·simp [hu]
  ·by_cases hm : 200 < sm madeS l <;> simp [hu, hm]
 ·rw [if_neg (fun h => ho (allOk_range.1 h)), if_neg ho]
  rfl
theorem allS_ok {l : List api_Stitch} (h : allS l = 0) : l.length ≤ 200 ∧ allOk l ∧ sm usedS l ≤ 200 ∧ sm madeS l ≤ 200 := by
 unfold allS at h
 split at h
 ·omega
 ·split at h
  ·rename_i h1 h2
   split at h
   ·omega
   ·rename_i h3
    exact ⟨by omega, h2, by omega, by omega⟩
  ·omega
end Go.Proofs.Ytffikfajljbmnaa
namespace Go.Proofs.Ytffikfajljbmnaa
open Go.RowKit
noncomputable def F_raddleref25_Great (p0 : (List api_Stitch)) : Option Bool :=
 Option.bind (α := Bool) (
  if decide (60 < (p0.length : Int)) then
   if decide ((p0.length : Int) ≤ 200) then
    some true
   else
    some (decide (300 < (p0.length : Int)))
  else
   some (decide (300 < (p0.length : Int)))) fun o4 =>
 some o4
set_option maxHeartbeats 4000000 in
set_option maxRecDepth 100000 in
theorem c_raddleref25_Great (E : Nat → Prop) (w0 : World) (p0 : (List api_Stitch)) (v0 : Value) (r : Bool) (h : F_raddleref25_Great p0 = some r) (S : St0 E [] w0 w0 [] [fRep (rL r_api_Stitch) (v0) p0]) :
 Calls Try.prog 22 #[v0] w0 (Ret (X := Unit) E [] w0 (fun _ => .bool r) (fun _ => []) (fun _ => [])) := by
 unfold F_raddleref25_Great at h
 obtain ⟨ad1, cp2, _, rfl, _⟩ := S.know (i := 0) (e := fRep (rL r_api_Stitch) (v0) p0) rfl
 refine sEnter (args := [.slice ad1 p0.length cp2]) 16 Try.func22 rfl rfl (by simp) S (fun a S => ?_)
 refine sSeq (fun K3 hK3 => ?_)
 refine sRegion ?_
 refine sMa S rfl rfl rfl rfl rfl fun a S => ?_
 refine lT (hK3 _ _ ?_)
 obtain ⟨t5, h, g6⟩ := bindSome h
 refine sCut (fun a w => ∃ o4, o4 = t5 ∧ St [] E [] w0 16 a w [(2, .bool o4)] [] []) ?_ (fun a w hI => ?_)
 rotate_left
 ·obtain ⟨o4, rfl, S⟩ := hI
  have h := g6
  clear g6
  try dsimp only at h
  obtain rfl := Option.some.inj h
  exact wp_ret (sRet (.bool o4) S (rsl1 rfl (rvT (t := 2) (v := .bool o4) S rfl)) ⟨(), rfl, S.mem.sel [] [] (by decide) rfl rfl⟩)
 refine sRegion ?_
 refine sMm S rfl rfl rfl rfl rfl fun a S => ?_
 refine sLen S (wN rfl) rfl Try.underlying47 rfl rfl (lb rfl) fun a S => ?_
 refine sBin _ S (wN rfl) rfl rfl rfl (bGt _ _ _ _ .i64 (p0.length : Int) 60) rfl (lb rfl) fun a S => ?_
 refine sMm S rfl rfl rfl rfl rfl fun a S => ?_
 rcases iteSome h with ⟨hc7, h⟩ | ⟨hc7, h⟩
 rotate_left
 ·refine sSkN 3 3 true 6 S rfl rfl hc7 rfl fun a S => ?_
  refine sPickF (.bool false) S (wN rfl) rfl rfl hc7 rfl rfl (lb rfl) fun a S => ?_
  refine sMm S rfl rfl rfl rfl rfl fun a S => ?_
  refine sMove (.slice ad1 p0.length cp2) S (wG 8 false 11 rfl rfl rfl rfl) (.inl rfl) rfl rfl (lb rfl) fun a S => ?_
  refine sLen S (wG 8 false 11 rfl rfl rfl rfl) rfl Try.underlying47 rfl rfl (lb rfl) fun a S => ?_
  refine sBin _ S (wG 8 false 11 rfl rfl rfl rfl) rfl rfl rfl (bGt _ _ _ _ .i64 (p0.length : Int) 300) rfl (lb rfl) fun a S => ?_
  refine sPickF (.bool (decide (300 < (p0.length : Int)))) S (wN rfl) rfl rfl rfl rfl rfl (lb rfl) fun a S => ?_
  refine sMa S rfl rfl rfl rfl rfl fun a S => ?_
  exact lT (⟨decide (300 < (p0.length : Int)), Option.some.inj h, S.fix [] [] (by decide) rfl rfl rfl⟩)
 refine sMove (.slice ad1 p0.length cp2) S (wG 3 true 6 rfl rfl rfl hc7) (.inl rfl) rfl rfl (lb rfl) fun a S => ?_
 refine sLen S (wG 3 true 6 rfl rfl rfl hc7) rfl Try.underlying47 rfl rfl (lb rfl) fun a S => ?_
 refine sBin _ S (wG 3 true 6 rfl rfl rfl hc7) rfl rfl rfl (bLe _ _ _ _ .i64 (p0.length : Int) 200) rfl (lb rfl) fun a S => ?_
 refine sPickT (.bool (decide ((p0.length : Int) ≤ 200))) S (wN rfl) rfl rfl hc7 rfl rfl (lb rfl) fun a S => ?_
 refine sMm S rfl rfl rfl rfl rfl fun a S => ?_
 rcases iteSome h with ⟨hc8, h⟩ | ⟨hc8, h⟩
 ·refine sSkN 3 8 false 11 S rfl rfl hc8 rfl fun a S => ?_
  refine sPickT (.bool true) S (wN rfl) rfl rfl hc8 rfl rfl (lb rfl) fun a S => ?_
  refine sMa S rfl rfl rfl rfl rfl fun a S => ?_
  exact lT (⟨true, Option.some.inj h, S.fix [] [] (by decide) rfl rfl rfl⟩)
 refine sMove (.slice ad1 p0.length cp2) S (wG 8 false 11 rfl rfl rfl hc8) (.inl rfl) rfl rfl (lb rfl) fun a S => ?_
 refine sLen S (wG 8 false 11 rfl rfl rfl hc8) rfl Try.underlying47 rfl rfl (lb rfl) fun a S => ?_
 refine sBin _ S (wG 8 false 11 rfl rfl rfl hc8) rfl rfl rfl (bGt _ _ _ _ .i64 (p0.length : Int) 300) rfl (lb rfl) fun a S => ?_
 refine sPickF (.bool (decide (300 < (p0.length : Int)))) S (wN rfl) rfl rfl hc8 rfl rfl (lb rfl) fun a S => ?_
 refine sMa S rfl rfl rfl rfl rfl fun a S => ?_
 exact lT (⟨decide (300 < (p0.length : Int)), Option.some.inj h, S.fix [] [] (by decide) rfl rfl rfl⟩)
end Go.Proofs.Ytffikfajljbmnaa
namespace Go.Proofs.Ytffikfajljbmnaa
open Go.RowKit
end Go.Proofs.Ytffikfajljbmnaa
namespace Go.Proofs.Ytffikfajljbmnaa
open Go.RowKit
end Go.Proofs.Ytffikfajljbmnaa
namespace Go.Proofs.Ytffikfajljbmnaa
open Go.RowKit
end Go.Proofs.Ytffikfajljbmnaa
namespace Go.Proofs.Ytffikfajljbmnaa
open Go.RowKit
end Go.Proofs.Ytffikfajljbmnaa
namespace Go.Proofs.Ytffikfajljbmnaa
open Go.RowKit
end Go.Proofs.Ytffikfajljbmnaa
namespace Go.Proofs.Ytffikfajljbmnaa
open Go.RowKit
end Go.Proofs.Ytffikfajljbmnaa
namespace Go.Proofs.Ytffikfajljbmnaa
open Go.RowKit
end Go.Proofs.Ytffikfajljbmnaa
namespace Go.Proofs.Ytffikfajljbmnaa
open Go.RowKit
end Go.Proofs.Ytffikfajljbmnaa
namespace Go.Proofs.Ytffikfajljbmnaa
open Go.RowKit
end Go.Proofs.Ytffikfajljbmnaa
namespace Go.Proofs.Ytffikfajljbmnaa
open Go.RowKit
end Go.Proofs.Ytffikfajljbmnaa
namespace Go.Proofs.Ytffikfajljbmnaa
open Go.RowKit
def anc_raddleref25_Same_0 : List (List Nat) := [[], [], [0, 1], [0, 1, 2], [], [], [4, 5], [4, 5, 6], [0, 1, 2, 3, 4, 5, 6, 7]]
noncomputable def raddleref25_Same_l1 (p0 : (List api_Stitch)) (p1 : (List api_Stitch)) : Int → Option (Int ⊕ (Bool ⊕ Unit)) := fun s0 => match s0 with
 | s13 =>
  if decide (s13 < (p0.length : Int)) then
   Option.bind (idxO p0 s13) fun x22 =>
   Option.bind (idxO p1 s13) fun x27 =>
   if !((x22.Kind == x27.Kind) && ((x22.Purl == x27.Purl) && ((x22.A == x27.A) && ((x22.B == x27.B) && true)))) then
    some (.inr (.inl false))
   else
    some (.inl (w64 (s13 + 1)))
  else
   some (.inr (.inr ()))
noncomputable def F_raddleref25_Same (p0 : (List api_Stitch)) (p1 : (List api_Stitch)) : Option Bool :=
 if (p0.length : Int) != (p1.length : Int) then
  some false
 else
  Option.bind (α := Unit ⊕ Bool) (
   Option.bind (whileO (raddleref25_Same_l1 p0 p1) 0) fun z0 => match z0 with
    | .inl z =>
     some (.inr z)
    | .inr _ =>
     some (.inl ())) fun z0 => match z0 with
   | .inl _ =>
    some true
   | .inr z =>
    some z
set_option maxHeartbeats 4000000 in
set_option maxRecDepth 100000 in
theorem c_raddleref25_Same (E : Nat → Prop) (w0 : World) (p0 : (List api_Stitch)) (v0 : Value) (p1 : (List api_Stitch)) (v1 : Value) (r : Bool) (h : F_raddleref25_Same p0 p1 = some r) (S : St0 E [] w0 w0 [] [fRep (rL r_api_Stitch) (v0) p0, fRep (rL r_api_Stitch) (v1) p1]) :
 Calls Try.prog 30 #[v0, v1] w0 (Ret (X := Unit) E [] w0 (fun _ => .bool r) (fun _ => []) (fun _ => [])) := by
 unfold F_raddleref25_Same at h
 obtain ⟨ad1, cp2, _, rfl, _⟩ := S.know (i := 0) (e := fRep (rL r_api_Stitch) (v0) p0) rfl
 obtain ⟨ad3, cp4, _, rfl, _⟩ := S.know (i := 1) (e := fRep (rL r_api_Stitch) (v1) p1) rfl
 refine sEnter (args := [.slice ad1 p0.length cp2, .slice ad3 p1.length cp4]) 26 Try.func30 rfl rfl (by simp) S (fun a S => ?_)
 refine sSeq (fun K5 hK5 => ?_)
 refine sRegion ?_
 refine sMa S rfl rfl rfl rfl rfl fun a S => ?_
 refine lT (hK5 _ _ ?_)
 refine sSeq (fun K6 hK6 => ?_)
 refine sSeq (fun K7 hK7 => ?_)
 refine sRegion ?_
 refine sMm S rfl rfl rfl rfl rfl fun a S => ?_
 refine sLen S (wN rfl) rfl Try.underlying47 rfl rfl (lb rfl) fun a S => ?_
 refine sMm S rfl rfl rfl rfl rfl fun a S => ?_
 refine sLen S (wN rfl) rfl Try.underlying47 rfl rfl (lb rfl) fun a S => ?_
 refine sBin _ S (wN rfl) rfl rfl rfl (bNe _ _ _ _ .i64 (p0.length : Int) (p1.length : Int)) rfl (lb rfl) fun a S => ?_
 refine lT (hK7 _ _ ?_)
 rcases iteSome h with ⟨hc8, h⟩ | ⟨hc8, h⟩
 ·refine sCondT S rfl hc8 ?_
  refine sSeq (fun K9 hK9 => ?_)
  refine sRegion ?_
  refine sMa S rfl rfl rfl rfl rfl fun a S => ?_
  refine lT (hK9 _ _ ?_)
  obtain rfl := Option.some.inj h
  exact wp_ret (rThen (sRet (.bool false) S (rsl1 rfl (rvT (t := 4) (v := .bool false) S rfl)) ⟨(), rfl, S.mem.sel [] [] (by decide) rfl rfl⟩))
 refine sCondF S rfl hc8 ?_
 refine wp_skip (leafT (hK6 _ _ ?_))
 obtain ⟨t10, h, g11⟩ := bindSome h
 refine sCut (fun a w => .inl () = t10 ∧ St [] E [] w0 26 a w [] [] []) ?_ (fun a w hI => ?_)
 rotate_left
 ·obtain ⟨rfl, S⟩ := hI
  have h := g11
  clear g11
  try dsimp only at h
  refine sSeq (fun K40 hK40 => ?_)
  refine sRegion ?_
  refine sMa S rfl rfl rfl rfl rfl fun a S => ?_
  refine lT (hK40 _ _ ?_)
  obtain rfl := Option.some.inj h
  exact wp_ret (sRet (.bool true) S (rsl1 rfl (rvT (t := 4) (v := .bool true) S rfl)) ⟨(), rfl, S.mem.sel [] [] (by decide) rfl rfl⟩)
 refine sSeq (fun K12 hK12 => ?_)
 refine sRegion ?_
 refine sMa S rfl rfl rfl rfl rfl fun a S => ?_
 refine lT (hK12 _ _ ?_)
 refine wp_block ?_
 obtain ⟨t16, hl, g15⟩ := bindSome h
 refine sLoop hl (fun s0 a w => match s0 with | s13 => St [] E [] w0 26 a w [(0, .slice ad1 p0.length cp2), (1, .slice ad3 p1.length cp4), (5, iv s13)] [] [fRep (rL r_api_Stitch) (.slice ad1 p0.length cp2) p0, fRep (rL r_api_Stitch) (.slice ad3 p1.length cp4) p1]) (S.fix [] [0, 1] (by decide) rfl rfl rfl) ?_
 clear hl h
 intro s13 a w c0 hI h hu14
 unfold raddleref25_Same_l1 at h
 dsimp only at h hI
 have S := hI
 refine sSeq (fun K17 hK17 => ?_)
 refine sSeq (fun K18 hK18 => ?_)
 refine sRegion ?_
 refine sMm S rfl rfl rfl rfl rfl fun a S => ?_
 refine sMm S rfl rfl rfl rfl rfl fun a S => ?_
 refine sLen S (wN rfl) rfl Try.underlying47 rfl rfl (lb rfl) fun a S => ?_
 refine sBin _ S (wN rfl) rfl rfl rfl (bLt _ _ _ _ .i64 s13 (p0.length : Int)) rfl (lb rfl) fun a S => ?_
 refine lT (hK18 _ _ ?_)
 rcases iteSome h with ⟨hc19, h⟩ | ⟨hc19, h⟩
 rotate_left
 ·refine sCondF S rfl hc19 ?_
  obtain rfl := Option.some.inj h
  obtain rfl := hu14 _ rfl
  have h := g15
  clear g15
  try dsimp only at h
  exact wp_exit (xThen (xThen (xHit (leafT (⟨Option.some.inj h, S.fix [] [] (by decide) rfl rfl rfl⟩)))))
 refine sCondT S rfl hc19 ?_
 refine wp_skip (leafT (hK17 _ _ ?_))
 refine sSeq (fun K20 hK20 => ?_)
 refine wp_block ?_
 refine sSeq (fun K21 hK21 => ?_)
 obtain ⟨x22, hx23, h⟩ := bindSome h
 obtain ⟨x27, hx28, h⟩ := bindSome h
 obtain ⟨q32, hq33, S⟩ := pIdx (P := Try.prog) (r := r_api_Stitch) (v := .slice ad1 p0.length cp2) (xs := p0) (j := s13) 47 81 0 S Try.underlying47 rfl rfl hx23
 obtain ⟨u34, S⟩ := pLoad (r := r_api_Stitch) (q := q32) (x := x22) 0 S rfl
 obtain rfl : u34 = .agg #[.int .u8 x22.Kind, .bool x22.Purl, iv x22.A, iv x22.B] := S.mem.know (i := 1) (e := fRep r_api_Stitch (u34) x22) rfl
 obtain ⟨q35, hq36, S⟩ := pIdx (P := Try.prog) (r := r_api_Stitch) (v := .slice ad3 p1.length cp4) (xs := p1) (j := s13) 47 81 4 S Try.underlying47 rfl rfl hx28
 obtain ⟨u37, S⟩ := pLoad (r := r_api_Stitch) (q := q35) (x := x27) 0 S rfl
 obtain rfl : u37 = .agg #[.int .u8 x27.Kind, .bool x27.Purl, iv x27.A, iv x27.B] := S.mem.know (i := 1) (e := fRep r_api_Stitch (u37) x27) rfl
 refine sDraw (nf := []) (W := [(0, 17, .slice ad1 p0.length cp2), (1, 18, iv s13), (2, 19, q32), (3, 20, .agg #[.int .u8 x22.Kind, .bool x22.Purl, iv x22.A, iv x22.B]), (4, 21, .slice ad3 p1.length cp4), (5, 22, iv s13), (6, 23, q35), (7, 24, .agg #[.int .u8 x27.Kind, .bool x27.Purl, iv x27.A, iv x27.B]), (8, 25, .bool (!((x22.Kind == x27.Kind) && ((x22.Purl == x27.Purl) && ((x22.A == x27.A) && ((x22.B == x27.B) && true))))))]) rfl S ?_
 refine node_by (A := anc_raddleref25_Same_0) 9 (by kernel_rfl) (by kernel_rfl) (by kernel_rfl) (by kernel_rfl) (by kernel_rfl) [0, 1, 2, 3, 4, 5, 6, 7, 8] (by kernel_rfl) (by decide) (by decide) (fF ?_ (fF ?_ (fF ?_ (fF ?_ (fF ?_ (fF ?_ (fF ?_ (fF ?_ (fF ?_ (trivial)))))))))) [(0, .slice ad1 p0.length cp2), (1, .slice ad3 p1.length cp4), (5, iv s13), (25, .bool (!((x22.Kind == x27.Kind) && ((x22.Purl == x27.Purl) && ((x22.A == x27.A) && ((x22.B == x27.B) && true))))))] (fin_of [none, none, none, some 8] rfl (by kernel_rfl) (by kernel_rfl)) (fun _ a w S => ?_)
 ·exact fM 0 none rfl rfl rfl rfl (.inl rfl) rfl rfl rfl
 ·exact fM 1 none rfl rfl rfl rfl (.inl rfl) rfl rfl rfl
 ·refine fJ [(17, _), (18, _)] 2 [some 0, some 1] fun G a w S => ?_
  exact sIdxV S (wN rfl) rfl rfl rfl hq33 rfl (lb rfl) fun a S => leafL ⟨rfl, S⟩
 ·refine fJ [(19, _)] 3 [some 2] fun G a w S => ?_
  exact sLoadVN (vq := q32) 3 [.int .u8 x22.Kind, .bool x22.Purl, iv x22.A, iv x22.B] S (wN rfl) rfl rfl rfl rfl rfl rfl (lb rfl) fun a S => leafL ⟨rfl, S⟩
 ·exact fM 4 none rfl rfl rfl rfl (.inl rfl) rfl rfl rfl
 ·exact fM 5 none rfl rfl rfl rfl (.inl rfl) rfl rfl rfl
 ·refine fJ [(21, _), (22, _)] 6 [some 4, some 5] fun G a w S => ?_
  exact sIdxV S (wN rfl) rfl rfl rfl hq36 rfl (lb rfl) fun a S => leafL ⟨rfl, S⟩
 ·refine fJ [(23, _)] 7 [some 6] fun G a w S => ?_
  exact sLoadVN (vq := q35) 0 [.int .u8 x27.Kind, .bool x27.Purl, iv x27.A, iv x27.B] S (wN rfl) rfl rfl rfl rfl rfl rfl (lb rfl) fun a S => leafL ⟨rfl, S⟩
 ·refine fJ [(20, _), (24, _)] 8 [some 3, some 7] fun G a w S => ?_
  exact sBin _ S (wN rfl) rfl rfl rfl (bNeV _ _ _ _ #[.int .u8 x22.Kind, .bool x22.Purl, iv x22.A, iv x22.B] #[.int .u8 x27.Kind, .bool x27.Purl, iv x27.A, iv x27.B] ((x22.Kind == x27.Kind) && ((x22.Purl == x27.Purl) && ((x22.A == x27.A) && ((x22.B == x27.B) && true)))) (by kernel_rfl) (eqlV_of (by kernel_rfl))) rfl (lb rfl) fun a S => leafL ⟨rfl, S⟩
 refine leafT (hK21 _ _ ?_)
 rcases iteSome h with ⟨hc38, h⟩ | ⟨hc38, h⟩
 rotate_left
 ·refine sCondF S rfl hc38 ?_
  refine wp_skip (leafB (leafT (hK20 _ _ ?_)))
  refine sRegion ?_
  refine sMm S rfl rfl rfl rfl rfl fun a S => ?_
  refine sBin _ S (wN rfl) rfl rfl rfl (bAdd _ _ _ _ s13 1) rfl (lb rfl) fun a S => ?_
  refine sMa S rfl rfl rfl rfl rfl fun a S => ?_
  exact lT (⟨w64 (s13 + 1), (Option.some.inj h).symm, (S.fix [] [6, 7] (by decide) rfl rfl rfl)⟩)
 refine sCondT S rfl hc38 ?_
 refine sSeq (fun K39 hK39 => ?_)
 refine sRegion ?_
 refine sMa S rfl rfl rfl rfl rfl fun a S => ?_
 refine lT (hK39 _ _ ?_)
 obtain rfl := Option.some.inj h
 obtain rfl := hu14 _ rfl
 have h := g15
 clear g15
 try dsimp only at h
 obtain rfl := Option.some.inj h
 have h := g11
 clear g11
 try dsimp only at h
 obtain rfl := Option.some.inj h
 exact wp_ret (rBlock (rThen (rThen (rBlock (rThen (sRet (.bool false) S (rsl1 rfl (rvT (t := 4) (v := .bool false) S rfl)) ⟨(), rfl, S.mem.sel [] [] (by decide) rfl rfl⟩))))))
end Go.Proofs.Ytffikfajljbmnaa
namespace Go.Proofs.Ytffikfajljbmnaa
open Go.RowKit
end Go.Proofs.Ytffikfajljbmnaa
namespace Go.Proofs.Ytffikfajljbmnaa
open Go.RowKit
theorem steq (x y : api_Stitch) : ((x.Kind == y.Kind) && ((x.Purl == y.Purl) && ((x.A == y.A) && ((x.B == y.B) && true)))) = decide (x = y) := by
 by_cases h : x = y
 ·subst h; simp
 ·rw [dF h]
  refine Bool.eq_false_iff.2 fun hb => h ?_
  simp only [Bool.and_eq_true, beq_iff_eq, and_true] at hb
  cases x; cases y
  simp only at hb
  obtain ⟨h1, h2, h3, h4⟩ := hb
  rw [h1, h2, h3, h4]
theorem min3_nat (x y z : Nat) : min3 (x : Int) (y : Int) (z : Int) = ((min (min x y) z : Nat) : Int) := by
 unfold min3
 repeat' split
 all_goals omega
def stS {β : Type} (z : β) (W : Nat → β) (n k : Nat) : List β := (List.range (n + 1)).map fun j => if k ≤ j then W j else z
theorem stS_len {β : Type} (z : β) (W : Nat → β) (n k : Nat) : (stS z W n k).length = n + 1 := by simp [stS]
theorem stS_get {β : Type} (z : β) (W : Nat → β) {n k j : Nat} (hj : j ≤ n) (hk : k ≤ j) : idxO (stS z W n k) (j : Int) = some (W j) := by
 rw [idxO_nat (by rw [stS_len]; omega)]
 simp [stS, hk]
theorem stS_idx {β : Type} (z : β) (W : Nat → β) {n k j : Nat} (hj : j ≤ n) : ∃ y, idxO (stS z W n k) (j : Int) = some y := ⟨_, idxO_nat (by rw [stS_len]; omega)⟩
theorem stS_list {β : Type} (z : β) (W : Nat → β) (n k : Nat) : (stS z W n (k + 1)).set k (W k) = stS z W n k := by
 apply List.ext_getElem?
 intro t
 by_cases ht : t < n + 1
 ·rw [List.getElem?_set]
  simp only [stS, List.getElem?_map, List.getElem?_range ht, Option.map_some, List.length_map, List.length_range]
  by_cases e : k = t
  ·subst e; rw [if_pos rfl, if_pos ht, if_pos (Nat.le_refl _)]
  ·rw [if_neg e]
   by_cases e2 : k ≤ t
   ·rw [if_pos (by omega), if_pos e2]
   ·rw [if_neg (by omega), if_neg e2]
 ·rw [List.getElem?_eq_none (by simp [stS]; omega), List.getElem?_eq_none (by simp [stS]; omega)]
theorem stS_set {β : Type} (z : β) (W : Nat → β) {n k : Nat} (hk : k ≤ n) {v : β} (hv : v = W k) : setO (stS z W n (k + 1)) (k : Int) v = some (stS z W n k) := by
 rw [setO_nat (by rw [stS_len]; omega), hv, stS_list]
theorem stS_same {β : Type} (z : β) (W : Nat → β) {n k : Nat} (h : W k = z) : stS z W n (k + 1) = stS z W n k := by
 unfold stS
 refine map_cong fun j _ => ?_
 by_cases e : k = j
 ·subst e; rw [if_neg (by omega), if_pos (Nat.le_refl _), h]
 ·by_cases e2 : k ≤ j
  ·rw [if_pos (by omega), if_pos e2]
  ·rw [if_neg (by omega), if_neg e2]
theorem stS_top {β : Type} (z : β) (W : Nat → β) (n : Nat) : stS z W n (n + 1) = List.replicate (n + 1) z := by
 unfold stS
 have : (List.range (n + 1)).map (fun j => if n + 1 ≤ j then W j else z) = (List.range (n + 1)).map fun _ => z := map_cong fun j hj => if_neg (by omega)
 rw [this]
 simp [List.map_const']
theorem loop_dn {σ τ : Type} {B : Int × σ → Option ((Int × σ) ⊕ τ)} (n : Nat) (st : Nat → σ) {t : τ} (h : ∀ k, k ≤ n → B ((k : Int), st (k + 1)) = some (.inl ((k : Int) - 1, st k))) (hn : B (-1, st 0) = some (.inr t)) : whileO B ((n : Int), st (n + 1)) = some t := by
 have key : ∀ k, k ≤ n + 1 → whileO B ((k : Int) - 1, st k) = some t := by
  intro k
  induction k with
  | zero => intro _; exact whileO_done hn
  | succ k ih =>
   intro hk
   rw [show (((k + 1 : Nat) : Int) - 1) = (k : Int) by omega, whileO_step (h k (by omega))]
   exact ih (by omega)
 have := key (n + 1) (Nat.le_refl _)
 rw [show (((n + 1 : Nat) : Int) - 1) = (n : Int) by omega] at this
 exact this
theorem loop_dn2 {σ τ : Type} {B : σ × Int → Option ((σ × Int) ⊕ τ)} (n : Nat) (st : Nat → σ) {t : τ} (h : ∀ k, k ≤ n → B (st (k + 1), (k : Int)) = some (.inl (st k, (k : Int) - 1))) (hn : B (st 0, -1) = some (.inr t)) : whileO B (st (n + 1), (n : Int)) = some t := by
 have key : ∀ k, k ≤ n + 1 → whileO B (st k, (k : Int) - 1) = some t := by
  intro k
  induction k with
  | zero => intro _; exact whileO_done hn
  | succ k ih =>
   intro hk
   rw [show (((k + 1 : Nat) : Int) - 1) = (k : Int) by omega, whileO_step (h k (by omega))]
   exact ih (by omega)
 have := key (n + 1) (Nat.le_refl _)
 rw [show (((n + 1 : Nat) : Int) - 1) = (n : Int) by omega] at this
 exact this
theorem w64_pred {k : Nat} (h : k ≤ 9223372036854775807) : w64 ((k : Int) - 1) = (k : Int) - 1 := w64_of (by omega) (by omega)
section
variable {α : Type} (al : α → Nat) (bo : α → α → Nat)
def Wg (a b : List α) (i k : Nat) : Nat := wed al bo (a.drop i) (b.drop k)
end
section
variable {α : Type} {al : α → Nat} {bo : α → α → Nat} {a b : List α}
theorem Wg_end : Wg al bo a b a.length b.length = 0 := by unfold Wg; rw [List.drop_length, List.drop_length]; rfl
theorem Wg_b {k : Nat} (hk : k < b.length) : Wg al bo a b a.length k = Wg al bo a b a.length (k + 1) + al b[k] := by
 unfold Wg; rw [List.drop_length, List.drop_eq_getElem_cons hk]; rfl
theorem Wg_a {i : Nat} (hi : i < a.length) : Wg al bo a b i b.length = Wg al bo a b (i + 1) b.length + al a[i] := by
 unfold Wg; rw [List.drop_length, List.drop_eq_getElem_cons hi]; rfl
theorem Wg_ab {i k : Nat} (hi : i < a.length) (hk : k < b.length) : Wg al bo a b i k = min (min (Wg al bo a b (i + 1) k + al a[i]) (Wg al bo a b i (k + 1) + al b[k])) (Wg al bo a b (i + 1) (k + 1) + bo a[i] b[k]) := by
 unfold Wg; rw [List.drop_eq_getElem_cons hi, List.drop_eq_getElem_cons hk, wed_cc]
theorem sumA_drop (b : List α) (k : Nat) : sumA al (b.drop k) ≤ sumA al b := by
 induction b generalizing k with
 | nil => simp [sumA]
 | cons y b ih =>
  cases k with
  | zero => exact Nat.le_refl _
  | succ k => have := ih k; simp only [List.drop_succ_cons, sumA]; omega
theorem Wg_bd (i k : Nat) : Wg al bo a b i k ≤ sumA al a + sumA al b := by
 have h1 := wed_sum (al := al) (bo := bo) (a.drop i) (b.drop k)
 have h2 := sumA_drop (al := al) a i
 have h3 := sumA_drop (al := al) b k
 unfold Wg
 omega
end
def tbS {α : Type} (al : α → Nat) (bo : α → α → Nat) (a b : List α) (i : Nat) : List (List Int) := stS [] (fun i => stS 0 (fun k => ((Wg al bo a b i k : Nat) : Int)) b.length 0) a.length i
theorem tb_row {α : Type} (al : α → Nat) (bo : α → α → Nat) (a b : List α) {i j : Nat} (hi : i ≤ a.length) (hj : j ≤ i) : idxO (tbS al bo a b j) (i : Int) = some (stS 0 (fun k => ((Wg al bo a b i k : Nat) : Int)) b.length 0) := stS_get _ _ hi hj
theorem tb_val {α : Type} (al : α → Nat) (bo : α → α → Nat) (a b : List α) (i : Nat) {k : Nat} (hk : k ≤ b.length) : idxO (stS 0 (fun k => ((Wg al bo a b i k : Nat) : Int)) b.length 0) (k : Int) = some ((Wg al bo a b i k : Nat) : Int) := stS_get _ _ hk (Nat.zero_le _)
theorem rowS_set {α : Type} (al : α → Nat) (bo : α → α → Nat) (a b : List α) (i : Nat) {k : Nat} (hk : k ≤ b.length) : setO (stS (0 : Int) (fun k => ((Wg al bo a b i k : Nat) : Int)) b.length (k + 1)) (k : Int) ((Wg al bo a b i k : Nat) : Int) = some (stS 0 (fun k => ((Wg al bo a b i k : Nat) : Int)) b.length k) := stS_set _ _ hk rfl
theorem ctable_eq (a b : List api_Stitch) (ha : a.length ≤ 1000) (hb : b.length ≤ 1000) : F_compare_cellTable a b = some (tbS al1 bo1 a b 0) := by
 have hbd : ∀ i k, Wg al1 bo1 a b i k ≤ 2000 := by
  intro i k
  have h1 := Wg_bd (al := al1) (bo := bo1) (a := a) (b := b) i k
  rw [sumA_one (al := al1) (fun _ => rfl), sumA_one (al := al1) (fun _ => rfl)] at h1
  omega
 have hc2 : ∀ x y, F_compare_cellTable_2 x y = some ((bo1 x y : Nat) : Int) := by
  intro x y
  unfold F_compare_cellTable_2
  rw [steq]
  by_cases h : x = y
  ·rw [dT h, bo1_eq h]; rfl
  ·rw [dF h, bo1_ne h]; rfl
 have hc1 : ∀ x, F_compare_cellTable_1 x = some ((al1 x : Nat) : Int) := fun x => rfl
 have hrow : ∀ i, i ≤ a.length → whileO (compare_table_api_Stitch__s0_l1 (i : Int) a b (tbS al1 bo1 a b (i + 1))) ((b.length : Int), List.replicate (b.length + 1) 0) = some (stS 0 (fun k => ((Wg al1 bo1 a b i k : Nat) : Int)) b.length 0) := by
  intro i hi
  have h := loop_dn (B := compare_table_api_Stitch__s0_l1 (i : Int) a b (tbS al1 bo1 a b (i + 1))) b.length (fun k => stS 0 (fun k => ((Wg al1 bo1 a b i k : Nat) : Int)) b.length k) (t := stS 0 (fun k => ((Wg al1 bo1 a b i k : Nat) : Int)) b.length 0)
   (fun k hk => by
    have b1 := hbd i (k + 1)
    have b2 := hbd (i + 1) k
    have b3 := hbd (i + 1) (k + 1)
    obtain ⟨y, hy⟩ := stS_idx (0 : Int) (fun k => ((Wg al1 bo1 a b i k : Nat) : Int)) (k := k + 1) hk
    unfold compare_table_api_Stitch__s0_l1
    simp only [dT (show (0 : Int) ≤ (k : Int) by omega), if_true]
    by_cases e1 : i = a.length
    ·by_cases e2 : k = b.length
     ·simp only [bT (show (i : Int) = (a.length : Int) by omega), bT (show (k : Int) = (b.length : Int) by omega), if_true, Option.bind_some, w64_pred (show k ≤ 9223372036854775807 by omega)]
      rw [stS_same (0 : Int) (fun k => ((Wg al1 bo1 a b i k : Nat) : Int)) (by rw [e1, e2, Wg_end]; rfl)]
     ·have hk2 : k < b.length := by omega
      simp only [bT (show (i : Int) = (a.length : Int) by omega), bF (show ¬ (k : Int) = (b.length : Int) by omega), if_true, Bool.false_eq_true, if_false, Option.bind_some, w64_succ (show k < 9223372036854775807 by omega), stS_get (0 : Int) (fun k => ((Wg al1 bo1 a b i k : Nat) : Int)) (show k + 1 ≤ b.length by omega) (Nat.le_refl _), idxO_nat hk2, hc1, hy, w64_pred (show k ≤ 9223372036854775807 by omega)]
      have hv : w64 (((Wg al1 bo1 a b i (k + 1) : Nat) : Int) + ((al1 b[k] : Nat) : Int)) = ((Wg al1 bo1 a b i k : Nat) : Int) := by rw [wadd (by simp only [al1]; omega), e1, Wg_b hk2]
      rw [hv, rowS_set al1 bo1 a b i hk]
      rfl
    ·have hi2 : i < a.length := by omega
     by_cases e2 : k = b.length
     ·simp only [bF (show ¬ (i : Int) = (a.length : Int) by omega), bT (show (k : Int) = (b.length : Int) by omega), if_true, Bool.false_eq_true, if_false, Option.bind_some, w64_succ (show i < 9223372036854775807 by omega), tb_row al1 bo1 a b (show i + 1 ≤ a.length by omega) (Nat.le_refl _), tb_val al1 bo1 a b (i + 1) hk, idxO_nat hi2, hc1, hy, w64_pred (show k ≤ 9223372036854775807 by omega)]
      have hv : w64 (((Wg al1 bo1 a b (i + 1) k : Nat) : Int) + ((al1 a[i] : Nat) : Int)) = ((Wg al1 bo1 a b i k : Nat) : Int) := by rw [wadd (by simp only [al1]; omega), e2, Wg_a hi2]
      rw [hv, rowS_set al1 bo1 a b i hk]
      rfl
     ·have hk2 : k < b.length := by omega
      have b4 := bo1_le a[i] b[k]
      simp only [bF (show ¬ (i : Int) = (a.length : Int) by omega), bF (show ¬ (k : Int) = (b.length : Int) by omega), Bool.false_eq_true, if_false, Option.bind_some, w64_succ (show i < 9223372036854775807 by omega), w64_succ (show k < 9223372036854775807 by omega), tb_row al1 bo1 a b (show i + 1 ≤ a.length by omega) (Nat.le_refl _), tb_val al1 bo1 a b (i + 1) hk, tb_val al1 bo1 a b (i + 1) (show k + 1 ≤ b.length by omega), stS_get (0 : Int) (fun k => ((Wg al1 bo1 a b i k : Nat) : Int)) (show k + 1 ≤ b.length by omega) (Nat.le_refl _), idxO_nat hi2, idxO_nat hk2, hc1, hc2, hy, w64_pred (show k ≤ 9223372036854775807 by omega)]
      have hv : min3 (w64 (((Wg al1 bo1 a b (i + 1) k : Nat) : Int) + ((al1 a[i] : Nat) : Int))) (w64 (((Wg al1 bo1 a b i (k + 1) : Nat) : Int) + ((al1 b[k] : Nat) : Int))) (w64 (((Wg al1 bo1 a b (i + 1) (k + 1) : Nat) : Int) + ((bo1 a[i] b[k] : Nat) : Int))) = ((Wg al1 bo1 a b i k : Nat) : Int) := by
       rw [wadd (a := Wg al1 bo1 a b (i + 1) k) (by simp only [al1]; omega), wadd (a := Wg al1 bo1 a b i (k + 1)) (by simp only [al1]; omega), wadd (by omega), min3_nat, Wg_ab hi2 hk2]
      rw [hv, rowS_set al1 bo1 a b i hk]
      rfl)
   (by
    unfold compare_table_api_Stitch__s0_l1
    simp only [dF (show ¬ (0 : Int) ≤ -1 by decide), Bool.false_eq_true, if_false])
  rw [stS_top] at h
  exact h
 have h := loop_dn2 (B := compare_table_api_Stitch__s0_l2 b a) a.length (fun i => tbS al1 bo1 a b i) (t := tbS al1 bo1 a b 0)
  (fun i hi => by
   obtain ⟨y, hy⟩ := stS_idx ([] : List Int) (fun i => stS 0 (fun k => ((Wg al1 bo1 a b i k : Nat) : Int)) b.length 0) (k := i + 1) hi
   have hy2 : idxO (tbS al1 bo1 a b (i + 1)) (i : Int) = some y := hy
   unfold compare_table_api_Stitch__s0_l2
   simp only [dT (show (0 : Int) ≤ (i : Int) by omega), if_true, w64_succ (show b.length < 9223372036854775807 by omega)]
   rw [makeO_of (k := b.length + 1) rfl (by omega)]
   simp only [Option.bind_some, hy2, hrow i hi, w64_pred (show i ≤ 9223372036854775807 by omega), Int.toNat_natCast]
   rw [show (tbS al1 bo1 a b (i + 1)).set i (stS 0 (fun k => ((Wg al1 bo1 a b i k : Nat) : Int)) b.length 0) = tbS al1 bo1 a b i from stS_list _ _ _ _])
  (by
   unfold compare_table_api_Stitch__s0_l2
   simp only [dF (show ¬ (0 : Int) ≤ -1 by decide), Bool.false_eq_true, if_false])
 have ht : tbS al1 bo1 a b (a.length + 1) = List.replicate (a.length + 1) [] := stS_top _ _ _
 rw [ht] at h
 unfold F_compare_cellTable F_compare_table_api_Stitch__s0
 simp only [w64_succ (show a.length < 9223372036854775807 by omega)]
 rw [makeO_of (k := a.length + 1) rfl (by omega)]
 simp only [Option.bind_some, h]
end Go.Proofs.Ytffikfajljbmnaa
namespace Go.Proofs.Ytffikfajljbmnaa
open Go.RowKit
theorem tb_at (a b : List api_Stitch) {i k : Nat} (hi : i ≤ a.length) (hk : k ≤ b.length) : ∃ r, idxO (tbS al1 bo1 a b 0) (i : Int) = some r ∧ idxO r (k : Int) = some ((D1 (a.drop i) (b.drop k) : Nat) : Int) :=
 ⟨_, tb_row al1 bo1 a b hi (Nat.zero_le _), tb_val al1 bo1 a b i hk⟩
theorem D1_bd (a b : List api_Stitch) : D1 a b ≤ a.length + b.length := by have := D1_max a b; omega
theorem edits_loop (a b : List api_Stitch) (ha : a.length ≤ 1000) (hb : b.length ≤ 1000) : ∀ (n i k : Nat) (out : List api_CellStep), i ≤ a.length → k ≤ b.length → (a.length - i) + (b.length - k) ≤ n → out.length + n ≤ 100000 →
 whileO (compare_Edits_l2 a b (tbS al1 bo1 a b 0)) (out, (i : Int), (k : Int)) = some (out ++ eds n (a.drop i) (b.drop k)) := by
 intro n
 induction n with
 | zero =>
  intro i k out hi hk h _
  have e1 : i = a.length := by omega
  have e2 : k = b.length := by omega
  refine whileO_done ?_
  unfold compare_Edits_l2
  simp only [dF (show ¬ (i : Int) < (a.length : Int) by omega), dF (show ¬ (k : Int) < (b.length : Int) by omega), Bool.false_eq_true, if_false, Option.bind_some, eds, List.append_nil]
 | succ n ih =>
  intro i k out hi hk h ho
  by_cases c1 : i < a.length
  ·obtain ⟨r, h1, h2⟩ := tb_at a b hi hk
   obtain ⟨r', h3, h4⟩ := tb_at a b (show i + 1 ≤ a.length by omega) hk
   have bd := D1_bd (a.drop (i + 1)) (b.drop k)
   rw [List.length_drop, List.length_drop] at bd
   by_cases c2 : k < b.length
   ·obtain ⟨r'', h5, h6⟩ := tb_at a b (show i + 1 ≤ a.length by omega) (show k + 1 ≤ b.length by omega)
    obtain rfl : r' = r'' := Option.some.inj (h3.symm.trans h5)
    have bd2 := D1_bd (a.drop (i + 1)) (b.drop (k + 1))
    rw [List.length_drop, List.length_drop] at bd2
    rw [List.drop_eq_getElem_cons c1, List.drop_eq_getElem_cons c2] at *
    simp only [eds]
    have hstep : compare_Edits_l2 a b (tbS al1 bo1 a b 0) (out, (i : Int), (k : Int)) =
     (if a[i] = b[k] ∧ D1 (a[i] :: a.drop (i + 1)) (b[k] :: b.drop (k + 1)) = D1 (a.drop (i + 1)) (b.drop (k + 1)) then some (.inl (out ++ [⟨1, z0⟩], ((i + 1 : Nat) : Int), ((k + 1 : Nat) : Int)))
     else if ¬ a[i] = b[k] ∧ D1 (a[i] :: a.drop (i + 1)) (b[k] :: b.drop (k + 1)) = 1 + D1 (a.drop (i + 1)) (b.drop (k + 1)) then some (.inl (out ++ [⟨2, b[k]⟩], ((i + 1 : Nat) : Int), ((k + 1 : Nat) : Int)))
     else if D1 (a[i] :: a.drop (i + 1)) (b[k] :: b.drop (k + 1)) = 1 + D1 (a.drop (i + 1)) (b[k] :: b.drop (k + 1)) then some (.inl (out ++ [⟨4, z0⟩], ((i + 1 : Nat) : Int), (k : Int)))
     else some (.inl (out ++ [⟨3, b[k]⟩], (i : Int), ((k + 1 : Nat) : Int)))) := by
     have w1 : w64 (1 + ((D1 (a.drop (i + 1)) (b.drop (k + 1)) : Nat) : Int)) = ((1 + D1 (a.drop (i + 1)) (b.drop (k + 1)) : Nat) : Int) := by rw [w64_of (by omega) (by omega)]; omega
     have w2 : w64 (1 + ((D1 (a.drop (i + 1)) (b[k] :: b.drop (k + 1)) : Nat) : Int)) = ((1 + D1 (a.drop (i + 1)) (b[k] :: b.drop (k + 1)) : Nat) : Int) := by rw [w64_of (by omega) (by omega)]; omega
     generalize D1 (a.drop (i + 1)) (b.drop (k + 1)) = d2 at *
     generalize D1 (a.drop (i + 1)) (b[k] :: b.drop (k + 1)) = d3 at *
     generalize D1 (a[i] :: a.drop (i + 1)) (b[k] :: b.drop (k + 1)) = d1 at *
     unfold compare_Edits_l2
     simp only [dT (show (i : Int) < (a.length : Int) by omega), dT (show (k : Int) < (b.length : Int) by omega), if_true, Option.bind_some, h1, h2, h3, h4, h6, idxO_nat c1, idxO_nat c2, steq, w64_succ (show i < 9223372036854775807 by omega), w64_succ (show k < 9223372036854775807 by omega), w1, w2]
     have hap : ∀ s : api_CellStep, appO out [s] = some (out ++ [s]) := fun s => appO_of (by simp; omega)
     by_cases q1 : a[i] = b[k]
     ·by_cases q2 : d1 = d2
      ·rw [if_pos (show a[i] = b[k] ∧ d1 = d2 from ⟨q1, q2⟩)]
       simp only [dT q1, if_true, bT (show (d1 : Int) = (d2 : Int) by omega), Option.bind_some, hap]
       rfl
      ·rw [if_neg (show ¬ (a[i] = b[k] ∧ d1 = d2) from fun x => q2 x.2), if_neg (show ¬ (¬ a[i] = b[k] ∧ d1 = 1 + d2) from fun x => x.1 q1)]
       by_cases q3 : d1 = 1 + d3
       ·rw [if_pos q3]
        simp only [dT q1, if_true, bF (show ¬ (d1 : Int) = (d2 : Int) by omega), Bool.false_eq_true, if_false, Bool.not_true, bT (show (d1 : Int) = ((1 + d3 : Nat) : Int) by omega), Option.bind_some, hap]
        rfl
       ·rw [if_neg q3]
        simp only [dT q1, if_true, bF (show ¬ (d1 : Int) = (d2 : Int) by omega), Bool.false_eq_true, if_false, Bool.not_true, bF (show ¬ (d1 : Int) = ((1 + d3 : Nat) : Int) by omega), Option.bind_some, hap]
     ·rw [if_neg (show ¬ (a[i] = b[k] ∧ d1 = d2) from fun x => q1 x.1)]
      by_cases q2 : d1 = 1 + d2
      ·rw [if_pos (show ¬ a[i] = b[k] ∧ d1 = 1 + d2 from ⟨q1, q2⟩)]
       simp only [dF q1, Bool.false_eq_true, if_false, Bool.not_false, if_true, bT (show (d1 : Int) = ((1 + d2 : Nat) : Int) by omega), Option.bind_some, hap]
      ·rw [if_neg (show ¬ (¬ a[i] = b[k] ∧ d1 = 1 + d2) from fun x => q2 x.2)]
       by_cases q3 : d1 = 1 + d3
       ·rw [if_pos q3]
        simp only [dF q1, Bool.false_eq_true, if_false, Bool.not_false, if_true, bF (show ¬ (d1 : Int) = ((1 + d2 : Nat) : Int) by omega), bT (show (d1 : Int) = ((1 + d3 : Nat) : Int) by omega), Option.bind_some, hap]
        rfl
       ·rw [if_neg q3]
        simp only [dF q1, Bool.false_eq_true, if_false, Bool.not_false, if_true, bF (show ¬ (d1 : Int) = ((1 + d2 : Nat) : Int) by omega), bF (show ¬ (d1 : Int) = ((1 + d3 : Nat) : Int) by omega), Option.bind_some, hap]
    by_cases q1 : a[i] = b[k] ∧ D1 (a[i] :: a.drop (i + 1)) (b[k] :: b.drop (k + 1)) = D1 (a.drop (i + 1)) (b.drop (k + 1))
    ·rw [if_pos q1] at hstep ⊢
     rw [whileO_step hstep, ih (i + 1) (k + 1) _ (by omega) (by omega) (by omega) (by simp; omega), List.append_assoc]
     rfl
    rw [if_neg q1] at hstep ⊢
    by_cases q2 : ¬ a[i] = b[k] ∧ D1 (a[i] :: a.drop (i + 1)) (b[k] :: b.drop (k + 1)) = 1 + D1 (a.drop (i + 1)) (b.drop (k + 1))
    ·rw [if_pos q2] at hstep ⊢
     rw [whileO_step hstep, ih (i + 1) (k + 1) _ (by omega) (by omega) (by omega) (by simp; omega), List.append_assoc]
     rfl
    rw [if_neg q2] at hstep ⊢
    by_cases q3 : D1 (a[i] :: a.drop (i + 1)) (b[k] :: b.drop (k + 1)) = 1 + D1 (a.drop (i + 1)) (b[k] :: b.drop (k + 1))
    ·rw [if_pos q3] at hstep ⊢
     rw [whileO_step hstep, ih (i + 1) k _ (by omega) (by omega) (by omega) (by simp; omega), List.append_assoc, List.drop_eq_getElem_cons c2]
     rfl
    ·rw [if_neg q3] at hstep ⊢
     rw [whileO_step hstep, ih i (k + 1) _ (by omega) (by omega) (by omega) (by simp; omega), List.append_assoc, List.drop_eq_getElem_cons c1]
     rfl
   ·have e2 : k = b.length := by omega
    have hstep : compare_Edits_l2 a b (tbS al1 bo1 a b 0) (out, (i : Int), (k : Int)) = some (.inl (out ++ [⟨4, z0⟩], ((i + 1 : Nat) : Int), (k : Int))) := by
     have hd : D1 (a.drop i) (b.drop k) = 1 + D1 (a.drop (i + 1)) (b.drop k) := by
      rw [e2, List.drop_length, List.drop_eq_getElem_cons c1]; exact Nat.add_comm (D1 (a.drop (i + 1)) []) 1
     have w2 : w64 (1 + ((D1 (a.drop (i + 1)) (b.drop k) : Nat) : Int)) = ((1 + D1 (a.drop (i + 1)) (b.drop k) : Nat) : Int) := by rw [w64_of (by omega) (by omega)]; omega
     have hap : ∀ s : api_CellStep, appO out [s] = some (out ++ [s]) := fun s => appO_of (by simp; omega)
     unfold compare_Edits_l2
     simp only [dT (show (i : Int) < (a.length : Int) by omega), dF (show ¬ (k : Int) < (b.length : Int) by omega), if_true, Bool.false_eq_true, if_false, Option.bind_some, h1, h2, h3, h4, w64_succ (show i < 9223372036854775807 by omega), w2, hd, beq_self_eq_true, hap]
     rfl
    rw [whileO_step hstep, ih (i + 1) k _ (by omega) (by omega) (by omega) (by simp; omega), List.append_assoc, e2, List.drop_length, List.drop_eq_getElem_cons c1]
    rfl
  ·have e1 : i = a.length := by omega
   by_cases c2 : k < b.length
   ·obtain ⟨r, h1, h2⟩ := tb_at a b hi hk
    have hstep : compare_Edits_l2 a b (tbS al1 bo1 a b 0) (out, (i : Int), (k : Int)) = some (.inl (out ++ [⟨3, b[k]⟩], (i : Int), ((k + 1 : Nat) : Int))) := by
     have hap : ∀ s : api_CellStep, appO out [s] = some (out ++ [s]) := fun s => appO_of (by simp; omega)
     unfold compare_Edits_l2
     simp only [dF (show ¬ (i : Int) < (a.length : Int) by omega), dT (show (k : Int) < (b.length : Int) by omega), if_true, Bool.false_eq_true, if_false, Option.bind_some, h1, h2, idxO_nat c2, w64_succ (show k < 9223372036854775807 by omega), hap]
    rw [whileO_step hstep, ih i (k + 1) _ (by omega) (by omega) (by omega) (by simp; omega), List.append_assoc, e1, List.drop_length, List.drop_eq_getElem_cons c2]
    rfl
   ·have e2 : k = b.length := by omega
    have hx : eds (n + 1) (a.drop i) (b.drop k) = [] := by rw [e1, e2, List.drop_length, List.drop_length]; rfl
    rw [hx, List.append_nil]
    refine whileO_done ?_
    unfold compare_Edits_l2
    simp only [dF (show ¬ (i : Int) < (a.length : Int) by omega), dF (show ¬ (k : Int) < (b.length : Int) by omega), Bool.false_eq_true, if_false, Option.bind_some]
def editsS (a b : List api_Stitch) : List api_CellStep × Int × Int :=
 if allS a = 0 then (if allS b = 0 then (eds (a.length + b.length) a b, ((D1 a b : Nat) : Int), 0) else ([], 0, allS b)) else ([], 0, allS a)
theorem edits_eq {a b : List api_Stitch} (wa : ∀ p, p ∈ a → wfS p) (wb : ∀ p, p ∈ b → wfS p) : F_compare_Edits a b = some (editsS a b) := by
 have hw : whileO (compare_Edits_l1 a b) 0 = some (if allS a = 0 then (if allS b = 0 then .inr () else .inl ([], 0, allS b)) else .inl ([], 0, allS a)) := by
  have h0 : compare_Edits_l1 a b 0 = some (if allS a = 0 then .inl 1 else .inr (.inl ([], 0, allS a))) := by
   unfold compare_Edits_l1
   simp only [show decide ((0 : Int) < 2) = true from rfl, if_true, show idxO ([a, b] : List (List api_Stitch)) 0 = some a from rfl, Option.bind_some, all_eq wa]
   by_cases h : allS a = 0
   ·rw [nF h, if_pos h]; rfl
   ·rw [nT h, if_neg h]; rfl
  have h1 : compare_Edits_l1 a b 1 = some (if allS b = 0 then .inl 2 else .inr (.inl ([], 0, allS b))) := by
   unfold compare_Edits_l1
   simp only [show decide ((1 : Int) < 2) = true from rfl, if_true, show idxO ([a, b] : List (List api_Stitch)) 1 = some b from rfl, Option.bind_some, all_eq wb]
   by_cases h : allS b = 0
   ·rw [nF h, if_pos h]; rfl
   ·rw [nT h, if_neg h]; rfl
  have h2 : compare_Edits_l1 a b 2 = some (.inr (.inr ())) := by
   unfold compare_Edits_l1
   simp only [show decide ((2 : Int) < 2) = false from rfl, Bool.false_eq_true, if_false]
  by_cases ha : allS a = 0
  ·rw [if_pos ha] at h0 ⊢
   rw [whileO_step h0]
   by_cases hb : allS b = 0
   ·rw [if_pos hb] at h1 ⊢
    rw [whileO_step h1, whileO_done h2]
   ·rw [if_neg hb] at h1 ⊢
    rw [whileO_done h1]
  ·rw [if_neg ha] at h0 ⊢
   rw [whileO_done h0]
 unfold F_compare_Edits editsS
 rw [hw]
 by_cases ha : allS a = 0
 case neg => rw [if_neg ha, if_neg ha]; rfl
 by_cases hb : allS b = 0
 case neg => rw [if_pos ha, if_pos ha, if_neg hb, if_neg hb]; rfl
 rw [if_pos ha, if_pos ha, if_pos hb, if_pos hb]
 have la := (allS_ok ha).1
 have lb := (allS_ok hb).1
 have hl := edits_loop a b (by omega) (by omega) (a.length + b.length) 0 0 [] (by omega) (by omega) (by omega) (by simp; omega)
 obtain ⟨r, h1, h2⟩ := tb_at a b (Nat.zero_le _) (Nat.zero_le _)
 have h0 : ((0 : Nat) : Int) = 0 := rfl
 rw [h0] at hl h1 h2
 simp only [List.drop_zero, List.nil_append] at hl h2
 simp only [Option.bind_some, ctable_eq a b (by omega) (by omega), hl, h1, h2]
end Go.Proofs.Ytffikfajljbmnaa
namespace Go.Proofs.Ytffikfajljbmnaa
open Go.RowKit
instance decCs : DecidableEq api_CellStep := fun a b => decidable_of_iff (a.Kind = b.Kind ∧ a.S = b.S) (by cases a; cases b; simp)
theorem rsame25_eq (a b : List api_Stitch) (hl : a.length ≤ 9223372036854775807) : F_raddleref25_Same a b = some (decide (a = b)) := by
 by_cases h3 : (a.length : Int) = (b.length : Int)
 case neg => unfold F_raddleref25_Same; simp only [nT h3, if_true]; rw [decide_eq_false]; rintro rfl; exact h3 rfl
 have hw : whileO (raddleref25_Same_l1 a b) 0 = some (if a = b then .inr () else .inl false) := by
  refine loop_eql a b (by omega) _ _ (fun k hk => ?_) ?_
  ·unfold raddleref25_Same_l1
   simp only [dT (show (k : Int) < (a.length : Int) by omega), if_true, idxO_nat hk, idxO_nat (xs := b) (k := k) (by omega), Option.bind_some, steq, w64_succ (show k < 9223372036854775807 by omega)]
   by_cases e : a[k] = b[k]'(by omega)
   ·rw [if_pos e, dT e]; rfl
   ·rw [if_neg e, dF e]; rfl
  ·unfold raddleref25_Same_l1; simp
 unfold F_raddleref25_Same
 simp only [nF h3, Bool.false_eq_true, if_false, Option.bind_some, hw]
 by_cases e : a = b
 ·rw [if_pos e]; simp [e]
 ·rw [if_neg e]; simp [e]
end Go.Proofs.Ytffikfajljbmnaa
namespace Go.Proofs.Ytffikfajljbmnaa
open Go.RowKit
theorem rgreat25_eq (l : List api_Stitch) : ∃ b, F_raddleref25_Great l = some b := by
 unfold F_raddleref25_Great
 by_cases h1 : (60 : Int) < (l.length : Int)
 ·simp only [dT h1, if_true]; repeat' split
  all_goals exact ⟨_, rfl⟩
 ·simp only [dF h1, Bool.false_eq_true, if_false]; repeat' split
  all_goals exact ⟨_, rfl⟩
theorem wf_st {l : List api_Stitch} (h : Wl wf_api_Stitch l) : ∀ p, p ∈ l → wfS p := fun p hp => inK_u8 (h.2 p hp).1
end Go.Proofs.Ytffikfajljbmnaa
namespace Go.Proofs.Ytffikfajljbmnaa
open Go.RowKit
noncomputable def F_raddlelaw46_CompareRows (p0 : (List api_Stitch)) (p1 : (List api_Stitch)) (p2 : (List api_Stitch)) : Option Bool :=
 Option.bind (F_raddlelaw46_alive) fun r9 =>
 Option.bind (α := Bool) (
  Option.bind (F_raddleref25_Great p0) fun r15 =>
  if r15 then
   some true
  else
   Option.bind (F_raddleref25_Great p1) fun r18 =>
   if r18 then
    some true
   else
    Option.bind (F_raddleref25_Great p2) fun r21 =>
    if r21 then
     some true
    else
     Option.bind (F_raddleref25_All p0) fun r24 =>
     if r24 != 0 then
      some true
     else
      Option.bind (F_raddleref25_All p1) fun r27 =>
      if r27 != 0 then
       some true
      else
       Option.bind (F_raddleref25_All p2) fun r30 =>
       if r30 != 0 then
        some true
       else
        some (!r9)) fun o12 =>
 if o12 then
  some r9
 else
  Option.bind (F_compare_Edits p0 p1) fun r36 =>
  Option.bind (F_compare_Edits p1 p2) fun r42 =>
  Option.bind (F_compare_Edits p0 p2) fun r48 =>
  Option.bind (F_compare_Edits p1 p0) fun r54 =>
  Option.bind (α := Bool) (
   if r9 then
    if r36.2.2 == 0 then
     if r42.2.2 == 0 then
      if r48.2.2 == 0 then
       if r54.2.2 == 0 then
        if r36.2.1 == r54.2.1 then
         if decide (r48.2.1 ≤ (w64 (r36.2.1 + r42.2.1))) then
          Option.bind (F_raddleref25_Same p0 p1) fun r70 =>
          if (r36.2.1 == 0) == r70 then
           if decide (r36.2.1 ≤ (if (p0.length : Int) < (p1.length : Int) then (p1.length : Int) else (p0.length : Int))) then
            some (decide ((w64 ((if (p0.length : Int) < (p1.length : Int) then (p1.length : Int) else (p0.length : Int)) - (if (p1.length : Int) < (p0.length : Int) then (p1.length : Int) else (p0.length : Int)))) ≤ r36.2.1))
           else
            some false
          else
           some false
         else
          some false
        else
         some false
       else
        some false
      else
       some false
     else
      some false
    else
     some false
   else
    some false) fun o60 =>
  some o60
set_option maxHeartbeats 4000000 in
set_option maxRecDepth 100000 in
theorem c_raddlelaw46_CompareRows (E : Nat → Prop) (w0 : World) (p0 : (List api_Stitch)) (v0 : Value) (p1 : (List api_Stitch)) (v1 : Value) (p2 : (List api_Stitch)) (v2 : Value) (r : Bool) (h : F_raddlelaw46_CompareRows p0 p1 p2 = some r) (S : St0 E [] w0 w0 [] [fRep (rL r_api_Stitch) (v0) p0, fRep (rL r_api_Stitch) (v1) p1, fRep (rL r_api_Stitch) (v2) p2]) :
 Calls Try.prog 8 #[v0, v1, v2] w0 (Ret (X := Unit) E [] w0 (fun _ => .bool r) (fun _ => []) (fun _ => [])) := by
 unfold F_raddlelaw46_CompareRows at h
 obtain ⟨ad1, cp2, _, rfl, _⟩ := S.know (i := 0) (e := fRep (rL r_api_Stitch) (v0) p0) rfl
 obtain ⟨ad3, cp4, _, rfl, _⟩ := S.know (i := 1) (e := fRep (rL r_api_Stitch) (v1) p1) rfl
 obtain ⟨ad5, cp6, _, rfl, _⟩ := S.know (i := 2) (e := fRep (rL r_api_Stitch) (v2) p2) rfl
 refine sEnter (args := [.slice ad1 p0.length cp2, .slice ad3 p1.length cp4, .slice ad5 p2.length cp6]) 138 Try.func8 rfl rfl (by simp) S (fun a S => ?_)
 refine sSeq (fun K7 hK7 => ?_)
 refine sRegion ?_
 refine sMa S rfl rfl rfl rfl rfl fun a S => ?_
 refine lT (hK7 _ _ ?_)
 refine sSeq (fun K8 hK8 => ?_)
 refine sRegion ?_
 obtain ⟨r9, hx10, h⟩ := bindSome h
 have S1 := S.mem
 refine sCallQ (X := Unit) (f := 31) (vs := []) (val := fun _ => .bool r9) S (wN rfl) rfl callee31 rfl (S1.quiet [] rfl) (fun E1 w1 S1 => c_raddlelaw46_alive E1 w1  r9 hx10 S1) rfl (lb rfl) fun _ a w S => ?_
 refine sMa S rfl rfl rfl rfl rfl fun a S => ?_
 refine lT (hK8 _ _ ?_)
 refine sSeq (fun K11 hK11 => ?_)
 obtain ⟨t13, h, g14⟩ := bindSome h
 refine sCut (fun a w => ∃ o12, o12 = t13 ∧ St [] E [] w0 138 a w [(0, .slice ad1 p0.length cp2), (1, .slice ad3 p1.length cp4), (2, .slice ad5 p2.length cp6), (7, .bool r9), (50, .bool o12)] [] [fRep (rL r_api_Stitch) (.slice ad1 p0.length cp2) p0, fRep (rL r_api_Stitch) (.slice ad3 p1.length cp4) p1, fRep (rL r_api_Stitch) (.slice ad5 p2.length cp6) p2]) ?_ (fun a w hI => ?_)
 ·refine sRegion ?_
  refine sMm S rfl rfl rfl rfl rfl fun a S => ?_
  obtain ⟨r15, hx16, h⟩ := bindSome h
  have S1 := S.mem
  refine sCallQ (X := Unit) (f := 22) (vs := [.slice ad1 p0.length cp2]) (val := fun _ => .bool r15) S (wN rfl) rfl callee22 rfl (S1.quiet [0] rfl) (fun E1 w1 S1 => c_raddleref25_Great E1 w1 p0 (.slice ad1 p0.length cp2) r15 hx16 S1) rfl (lb rfl) fun _ a w S => ?_
  refine sMm S rfl rfl rfl rfl rfl fun a S => ?_
  rcases iteSome h with ⟨hc17, h⟩ | ⟨hc17, h⟩
  ·refine sSkN 2 2 false 24 S rfl rfl hc17 rfl fun a S => ?_
   refine sPickT (.bool true) S (wN rfl) rfl rfl hc17 rfl rfl (lb rfl) fun a S => ?_
   refine sMm S rfl rfl rfl rfl rfl fun a S => ?_
   refine sSkN 2 6 false 28 S rfl rfl rfl rfl fun a S => ?_
   refine sPickT (.bool true) S (wN rfl) rfl rfl rfl rfl rfl (lb rfl) fun a S => ?_
   refine sMm S rfl rfl rfl rfl rfl fun a S => ?_
   refine sSkN 3 10 false 32 S rfl rfl rfl rfl fun a S => ?_
   refine sPickT (.bool true) S (wN rfl) rfl rfl rfl rfl rfl (lb rfl) fun a S => ?_
   refine sMm S rfl rfl rfl rfl rfl fun a S => ?_
   refine sSkN 3 15 false 37 S rfl rfl rfl rfl fun a S => ?_
   refine sPickT (.bool true) S (wN rfl) rfl rfl rfl rfl rfl (lb rfl) fun a S => ?_
   refine sMm S rfl rfl rfl rfl rfl fun a S => ?_
   refine sSkN 3 20 false 42 S rfl rfl rfl rfl fun a S => ?_
   refine sPickT (.bool true) S (wN rfl) rfl rfl rfl rfl rfl (lb rfl) fun a S => ?_
   refine sMm S rfl rfl rfl rfl rfl fun a S => ?_
   refine sSkN 2 25 false 47 S rfl rfl rfl rfl fun a S => ?_
   refine sPickT (.bool true) S (wN rfl) rfl rfl rfl rfl rfl (lb rfl) fun a S => ?_
   exact lT (⟨true, Option.some.inj h, S.fix [] [0, 1, 2] (by decide) rfl rfl rfl⟩)
  refine sMove (.slice ad3 p1.length cp4) S (wG 2 false 24 rfl rfl rfl hc17) (.inl rfl) rfl rfl (lb rfl) fun a S => ?_
  obtain ⟨r18, hx19, h⟩ := bindSome h
  have S1 := S.mem
  refine sCallQ (X := Unit) (f := 22) (vs := [.slice ad3 p1.length cp4]) (val := fun _ => .bool r18) S (wG 2 false 24 rfl rfl rfl hc17) rfl callee22 rfl (S1.quiet [1] rfl) (fun E1 w1 S1 => c_raddleref25_Great E1 w1 p1 (.slice ad3 p1.length cp4) r18 hx19 S1) rfl (lb rfl) fun _ a w S => ?_
  refine sPickF (.bool r18) S (wN rfl) rfl rfl hc17 rfl rfl (lb rfl) fun a S => ?_
  refine sMm S rfl rfl rfl rfl rfl fun a S => ?_
  rcases iteSome h with ⟨hc20, h⟩ | ⟨hc20, h⟩
  ·refine sSkN 2 6 false 28 S rfl rfl hc20 rfl fun a S => ?_
   refine sPickT (.bool true) S (wN rfl) rfl rfl hc20 rfl rfl (lb rfl) fun a S => ?_
   refine sMm S rfl rfl rfl rfl rfl fun a S => ?_
   refine sSkN 3 10 false 32 S rfl rfl rfl rfl fun a S => ?_
   refine sPickT (.bool true) S (wN rfl) rfl rfl rfl rfl rfl (lb rfl) fun a S => ?_
   refine sMm S rfl rfl rfl rfl rfl fun a S => ?_
   refine sSkN 3 15 false 37 S rfl rfl rfl rfl fun a S => ?_
   refine sPickT (.bool true) S (wN rfl) rfl rfl rfl rfl rfl (lb rfl) fun a S => ?_
   refine sMm S rfl rfl rfl rfl rfl fun a S => ?_
   refine sSkN 3 20 false 42 S rfl rfl rfl rfl fun a S => ?_
   refine sPickT (.bool true) S (wN rfl) rfl rfl rfl rfl rfl (lb rfl) fun a S => ?_
   refine sMm S rfl rfl rfl rfl rfl fun a S => ?_
   refine sSkN 2 25 false 47 S rfl rfl rfl rfl fun a S => ?_
   refine sPickT (.bool true) S (wN rfl) rfl rfl rfl rfl rfl (lb rfl) fun a S => ?_
   exact lT (⟨true, Option.some.inj h, S.fix [] [0, 1, 2] (by decide) rfl rfl rfl⟩)
  refine sMove (.slice ad5 p2.length cp6) S (wG 6 false 28 rfl rfl rfl hc20) (.inl rfl) rfl rfl (lb rfl) fun a S => ?_
  obtain ⟨r21, hx22, h⟩ := bindSome h
  have S1 := S.mem
  refine sCallQ (X := Unit) (f := 22) (vs := [.slice ad5 p2.length cp6]) (val := fun _ => .bool r21) S (wG 6 false 28 rfl rfl rfl hc20) rfl callee22 rfl (S1.quiet [2] rfl) (fun E1 w1 S1 => c_raddleref25_Great E1 w1 p2 (.slice ad5 p2.length cp6) r21 hx22 S1) rfl (lb rfl) fun _ a w S => ?_
  refine sPickF (.bool r21) S (wN rfl) rfl rfl hc20 rfl rfl (lb rfl) fun a S => ?_
  refine sMm S rfl rfl rfl rfl rfl fun a S => ?_
  rcases iteSome h with ⟨hc23, h⟩ | ⟨hc23, h⟩
  ·refine sSkN 3 10 false 32 S rfl rfl hc23 rfl fun a S => ?_
   refine sPickT (.bool true) S (wN rfl) rfl rfl hc23 rfl rfl (lb rfl) fun a S => ?_
   refine sMm S rfl rfl rfl rfl rfl fun a S => ?_
   refine sSkN 3 15 false 37 S rfl rfl rfl rfl fun a S => ?_
   refine sPickT (.bool true) S (wN rfl) rfl rfl rfl rfl rfl (lb rfl) fun a S => ?_
   refine sMm S rfl rfl rfl rfl rfl fun a S => ?_
   refine sSkN 3 20 false 42 S rfl rfl rfl rfl fun a S => ?_
   refine sPickT (.bool true) S (wN rfl) rfl rfl rfl rfl rfl (lb rfl) fun a S => ?_
   refine sMm S rfl rfl rfl rfl rfl fun a S => ?_
   refine sSkN 2 25 false 47 S rfl rfl rfl rfl fun a S => ?_
   refine sPickT (.bool true) S (wN rfl) rfl rfl rfl rfl rfl (lb rfl) fun a S => ?_
   exact lT (⟨true, Option.some.inj h, S.fix [] [0, 1, 2] (by decide) rfl rfl rfl⟩)
  refine sMove (.slice ad1 p0.length cp2) S (wG 10 false 32 rfl rfl rfl hc23) (.inl rfl) rfl rfl (lb rfl) fun a S => ?_
  obtain ⟨r24, hx25, h⟩ := bindSome h
  have S1 := S.mem
  refine sCallQ (X := Unit) (f := 38) (vs := [.slice ad1 p0.length cp2]) (val := fun _ => iv r24) S (wG 10 false 32 rfl rfl rfl hc23) rfl callee38 rfl (S1.quiet [0] rfl) (fun E1 w1 S1 => c_raddleref25_All E1 w1 p0 (.slice ad1 p0.length cp2) r24 hx25 S1) rfl (lb rfl) fun _ a w S => ?_
  refine sBin _ S (wG 10 false 32 rfl rfl rfl hc23) rfl rfl rfl (bNe _ _ _ _ .i64 r24 0) rfl (lb rfl) fun a S => ?_
  refine sPickF (.bool (r24 != 0)) S (wN rfl) rfl rfl hc23 rfl rfl (lb rfl) fun a S => ?_
  refine sMm S rfl rfl rfl rfl rfl fun a S => ?_
  rcases iteSome h with ⟨hc26, h⟩ | ⟨hc26, h⟩
  ·refine sSkN 3 15 false 37 S rfl rfl hc26 rfl fun a S => ?_
   refine sPickT (.bool true) S (wN rfl) rfl rfl hc26 rfl rfl (lb rfl) fun a S => ?_
   refine sMm S rfl rfl rfl rfl rfl fun a S => ?_
   refine sSkN 3 20 false 42 S rfl rfl rfl rfl fun a S => ?_
   refine sPickT (.bool true) S (wN rfl) rfl rfl rfl rfl rfl (lb rfl) fun a S => ?_
   refine sMm S rfl rfl rfl rfl rfl fun a S => ?_
   refine sSkN 2 25 false 47 S rfl rfl rfl rfl fun a S => ?_
   refine sPickT (.bool true) S (wN rfl) rfl rfl rfl rfl rfl (lb rfl) fun a S => ?_
   exact lT (⟨true, Option.some.inj h, S.fix [] [0, 1, 2] (by decide) rfl rfl rfl⟩)
  refine sMove (.slice ad3 p1.length cp4) S (wG 15 false 37 rfl rfl rfl hc26) (.inl rfl) rfl rfl (lb rfl) fun a S => ?_
  obtain ⟨r27, hx28, h⟩ := bindSome h
  have S1 := S.mem
  refine sCallQ (X := Unit) (f := 38) (vs := [.slice ad3 p1.length cp4]) (val := fun _ => iv r27) S (wG 15 false 37 rfl rfl rfl hc26) rfl callee38 rfl (S1.quiet [1] rfl) (fun E1 w1 S1 => c_raddleref25_All E1 w1 p1 (.slice ad3 p1.length cp4) r27 hx28 S1) rfl (lb rfl) fun _ a w S => ?_
  refine sBin _ S (wG 15 false 37 rfl rfl rfl hc26) rfl rfl rfl (bNe _ _ _ _ .i64 r27 0) rfl (lb rfl) fun a S => ?_
  refine sPickF (.bool (r27 != 0)) S (wN rfl) rfl rfl hc26 rfl rfl (lb rfl) fun a S => ?_
  refine sMm S rfl rfl rfl rfl rfl fun a S => ?_
  rcases iteSome h with ⟨hc29, h⟩ | ⟨hc29, h⟩
  ·refine sSkN 3 20 false 42 S rfl rfl hc29 rfl fun a S => ?_
   refine sPickT (.bool true) S (wN rfl) rfl rfl hc29 rfl rfl (lb rfl) fun a S => ?_
   refine sMm S rfl rfl rfl rfl rfl fun a S => ?_
   refine sSkN 2 25 false 47 S rfl rfl rfl rfl fun a S => ?_
   refine sPickT (.bool true) S (wN rfl) rfl rfl rfl rfl rfl (lb rfl) fun a S => ?_
   exact lT (⟨true, Option.some.inj h, S.fix [] [0, 1, 2] (by decide) rfl rfl rfl⟩)
  refine sMove (.slice ad5 p2.length cp6) S (wG 20 false 42 rfl rfl rfl hc29) (.inl rfl) rfl rfl (lb rfl) fun a S => ?_
  obtain ⟨r30, hx31, h⟩ := bindSome h
  have S1 := S.mem
  refine sCallQ (X := Unit) (f := 38) (vs := [.slice ad5 p2.length cp6]) (val := fun _ => iv r30) S (wG 20 false 42 rfl rfl rfl hc29) rfl callee38 rfl (S1.quiet [2] rfl) (fun E1 w1 S1 => c_raddleref25_All E1 w1 p2 (.slice ad5 p2.length cp6) r30 hx31 S1) rfl (lb rfl) fun _ a w S => ?_
  refine sBin _ S (wG 20 false 42 rfl rfl rfl hc29) rfl rfl rfl (bNe _ _ _ _ .i64 r30 0) rfl (lb rfl) fun a S => ?_
  refine sPickF (.bool (r30 != 0)) S (wN rfl) rfl rfl hc29 rfl rfl (lb rfl) fun a S => ?_
  refine sMm S rfl rfl rfl rfl rfl fun a S => ?_
  rcases iteSome h with ⟨hc32, h⟩ | ⟨hc32, h⟩
  ·refine sSkN 2 25 false 47 S rfl rfl hc32 rfl fun a S => ?_
   refine sPickT (.bool true) S (wN rfl) rfl rfl hc32 rfl rfl (lb rfl) fun a S => ?_
   exact lT (⟨true, Option.some.inj h, S.fix [] [0, 1, 2] (by decide) rfl rfl rfl⟩)
  refine sMove (.bool r9) S (wG 25 false 47 rfl rfl rfl hc32) (.inl rfl) rfl rfl (lb rfl) fun a S => ?_
  refine sNot (b := r9) S (wG 25 false 47 rfl rfl rfl hc32) rfl rfl rfl (lb rfl) fun a S => ?_
  refine sPickF (.bool (!r9)) S (wN rfl) rfl rfl hc32 rfl rfl (lb rfl) fun a S => ?_
  exact lT (⟨!r9, Option.some.inj h, S.fix [] [0, 1, 2] (by decide) rfl rfl rfl⟩)
 obtain ⟨o12, rfl, S⟩ := hI
 have h := g14
 clear g14
 try dsimp only at h
 rcases iteSome h with ⟨hc33, h⟩ | ⟨hc33, h⟩
 ·refine sCondT S rfl hc33 ?_
  refine sSeq (fun K34 hK34 => ?_)
  refine sRegion ?_
  refine sMm S rfl rfl rfl rfl rfl fun a S => ?_
  refine sMa S rfl rfl rfl rfl rfl fun a S => ?_
  refine lT (hK34 _ _ ?_)
  obtain rfl := Option.some.inj h
  exact wp_ret (rThen (sRet (.bool r9) S (rsl1 rfl (rvT (t := 6) (v := .bool r9) S rfl)) ⟨(), rfl, S.mem.sel [] [] (by decide) rfl rfl⟩))
 refine sCondF S rfl hc33 ?_
 refine wp_skip (leafT (hK11 _ _ ?_))
 refine sSeq (fun K35 hK35 => ?_)
 refine sRegion ?_
 refine sMm S rfl rfl rfl rfl rfl fun a S => ?_
 refine sMm S rfl rfl rfl rfl rfl fun a S => ?_
 obtain ⟨r36, hx37, h⟩ := bindSome h
 refine sCall (X := Value) (f := 23) (vs := [.slice ad1 p0.length cp2, .slice ad3 p1.length cp4]) (val := c_compare_Edits_val r36) (B' := fun _ => []) (D' := c_compare_Edits_D r36) [] [] [fRep (rL r_api_Stitch) (.slice ad1 p0.length cp2) p0, fRep (rL r_api_Stitch) (.slice ad3 p1.length cp4) p1] [] [0, 1] S (wN rfl) rfl callee23 rfl (by decide) rfl rfl (fun E1 w1 S1 => c_compare_Edits E1 w1 p0 (.slice ad1 p0.length cp2) p1 (.slice ad3 p1.length cp4) r36 hx37 S1) rfl (lb rfl) fun u38 a w S => ?_
 obtain ⟨ad39, cp40, _, rfl, _⟩ := S.mem.know (i := 0) (e := fRep (rL r_api_CellStep) (u38) r36.1) rfl
 refine sMm S rfl rfl rfl rfl rfl fun a S => ?_
 refine sExtract (vs := [.slice ad39 r36.1.length cp40, iv r36.2.1, iv r36.2.2]) (.slice ad39 r36.1.length cp40) S (wN rfl) rfl rfl rfl rfl (lb rfl) fun a S => ?_
 refine sExtract (vs := [.slice ad39 r36.1.length cp40, iv r36.2.1, iv r36.2.2]) (iv r36.2.1) S (wN rfl) rfl rfl rfl rfl (lb rfl) fun a S => ?_
 refine sExtract (vs := [.slice ad39 r36.1.length cp40, iv r36.2.1, iv r36.2.2]) (iv r36.2.2) S (wN rfl) rfl rfl rfl rfl (lb rfl) fun a S => ?_
 refine sMa S rfl rfl rfl rfl rfl fun a S => ?_
 refine sMa S rfl rfl rfl rfl rfl fun a S => ?_
 refine sMa S rfl rfl rfl rfl rfl fun a S => ?_
 refine lT (hK35 _ _ ?_)
 refine sSeq (fun K41 hK41 => ?_)
 refine sRegion ?_
 refine sMm S rfl rfl rfl rfl rfl fun a S => ?_
 refine sMm S rfl rfl rfl rfl rfl fun a S => ?_
 obtain ⟨r42, hx43, h⟩ := bindSome h
 refine sCall (X := Value) (f := 23) (vs := [.slice ad3 p1.length cp4, .slice ad5 p2.length cp6]) (val := c_compare_Edits_val r42) (B' := fun _ => []) (D' := c_compare_Edits_D r42) [] [] [fRep (rL r_api_Stitch) (.slice ad3 p1.length cp4) p1, fRep (rL r_api_Stitch) (.slice ad5 p2.length cp6) p2] [] [2, 3] S (wN rfl) rfl callee23 rfl (by decide) rfl rfl (fun E1 w1 S1 => c_compare_Edits E1 w1 p1 (.slice ad3 p1.length cp4) p2 (.slice ad5 p2.length cp6) r42 hx43 S1) rfl (lb rfl) fun u44 a w S => ?_
 obtain ⟨ad45, cp46, _, rfl, _⟩ := S.mem.know (i := 0) (e := fRep (rL r_api_CellStep) (u44) r42.1) rfl
 refine sMm S rfl rfl rfl rfl rfl fun a S => ?_
 refine sExtract (vs := [.slice ad45 r42.1.length cp46, iv r42.2.1, iv r42.2.2]) (.slice ad45 r42.1.length cp46) S (wN rfl) rfl rfl rfl rfl (lb rfl) fun a S => ?_
 refine sExtract (vs := [.slice ad45 r42.1.length cp46, iv r42.2.1, iv r42.2.2]) (iv r42.2.1) S (wN rfl) rfl rfl rfl rfl (lb rfl) fun a S => ?_
 refine sExtract (vs := [.slice ad45 r42.1.length cp46, iv r42.2.1, iv r42.2.2]) (iv r42.2.2) S (wN rfl) rfl rfl rfl rfl (lb rfl) fun a S => ?_
 refine sMa S rfl rfl rfl rfl rfl fun a S => ?_
 refine sMa S rfl rfl rfl rfl rfl fun a S => ?_
 refine sMa S rfl rfl rfl rfl rfl fun a S => ?_
 refine lT (hK41 _ _ ?_)
 refine sSeq (fun K47 hK47 => ?_)
 refine sRegion ?_
 refine sMm S rfl rfl rfl rfl rfl fun a S => ?_
 refine sMm S rfl rfl rfl rfl rfl fun a S => ?_
 obtain ⟨r48, hx49, h⟩ := bindSome h
 refine sCall (X := Value) (f := 23) (vs := [.slice ad1 p0.length cp2, .slice ad5 p2.length cp6]) (val := c_compare_Edits_val r48) (B' := fun _ => []) (D' := c_compare_Edits_D r48) [] [] [fRep (rL r_api_Stitch) (.slice ad1 p0.length cp2) p0, fRep (rL r_api_Stitch) (.slice ad5 p2.length cp6) p2] [] [2, 4] S (wN rfl) rfl callee23 rfl (by decide) rfl rfl (fun E1 w1 S1 => c_compare_Edits E1 w1 p0 (.slice ad1 p0.length cp2) p2 (.slice ad5 p2.length cp6) r48 hx49 S1) rfl (lb rfl) fun u50 a w S => ?_
 obtain ⟨ad51, cp52, _, rfl, _⟩ := S.mem.know (i := 0) (e := fRep (rL r_api_CellStep) (u50) r48.1) rfl
 refine sMm S rfl rfl rfl rfl rfl fun a S => ?_
 refine sExtract (vs := [.slice ad51 r48.1.length cp52, iv r48.2.1, iv r48.2.2]) (.slice ad51 r48.1.length cp52) S (wN rfl) rfl rfl rfl rfl (lb rfl) fun a S => ?_
 refine sExtract (vs := [.slice ad51 r48.1.length cp52, iv r48.2.1, iv r48.2.2]) (iv r48.2.1) S (wN rfl) rfl rfl rfl rfl (lb rfl) fun a S => ?_
 refine sExtract (vs := [.slice ad51 r48.1.length cp52, iv r48.2.1, iv r48.2.2]) (iv r48.2.2) S (wN rfl) rfl rfl rfl rfl (lb rfl) fun a S => ?_
 refine sMa S rfl rfl rfl rfl rfl fun a S => ?_
 refine sMa S rfl rfl rfl rfl rfl fun a S => ?_
 refine sMa S rfl rfl rfl rfl rfl fun a S => ?_
 refine lT (hK47 _ _ ?_)
 refine sSeq (fun K53 hK53 => ?_)
 refine sRegion ?_
 refine sMm S rfl rfl rfl rfl rfl fun a S => ?_
 refine sMm S rfl rfl rfl rfl rfl fun a S => ?_
 obtain ⟨r54, hx55, h⟩ := bindSome h
 refine sCall (X := Value) (f := 23) (vs := [.slice ad3 p1.length cp4, .slice ad1 p0.length cp2]) (val := c_compare_Edits_val r54) (B' := fun _ => []) (D' := c_compare_Edits_D r54) [] [] [fRep (rL r_api_Stitch) (.slice ad3 p1.length cp4) p1, fRep (rL r_api_Stitch) (.slice ad1 p0.length cp2) p0] [] [4, 3] S (wN rfl) rfl callee23 rfl (by decide) rfl rfl (fun E1 w1 S1 => c_compare_Edits E1 w1 p1 (.slice ad3 p1.length cp4) p0 (.slice ad1 p0.length cp2) r54 hx55 S1) rfl (lb rfl) fun u56 a w S => ?_
 obtain ⟨ad57, cp58, _, rfl, _⟩ := S.mem.know (i := 0) (e := fRep (rL r_api_CellStep) (u56) r54.1) rfl
 refine sMm S rfl rfl rfl rfl rfl fun a S => ?_
 refine sExtract (vs := [.slice ad57 r54.1.length cp58, iv r54.2.1, iv r54.2.2]) (.slice ad57 r54.1.length cp58) S (wN rfl) rfl rfl rfl rfl (lb rfl) fun a S => ?_
 refine sExtract (vs := [.slice ad57 r54.1.length cp58, iv r54.2.1, iv r54.2.2]) (iv r54.2.1) S (wN rfl) rfl rfl rfl rfl (lb rfl) fun a S => ?_
 refine sExtract (vs := [.slice ad57 r54.1.length cp58, iv r54.2.1, iv r54.2.2]) (iv r54.2.2) S (wN rfl) rfl rfl rfl rfl (lb rfl) fun a S => ?_
 refine sMa S rfl rfl rfl rfl rfl fun a S => ?_
 refine sMa S rfl rfl rfl rfl rfl fun a S => ?_
 refine sMa S rfl rfl rfl rfl rfl fun a S => ?_
 refine lT (hK53 _ _ ?_)
 refine sSeq (fun K59 hK59 => ?_)
 refine sRegion ?_
 refine sMm S rfl rfl rfl rfl rfl fun a S => ?_
 refine sLen S (wN rfl) rfl Try.underlying47 rfl rfl (lb rfl) fun a S => ?_
 refine sMm S rfl rfl rfl rfl rfl fun a S => ?_
 refine sLen S (wN rfl) rfl Try.underlying47 rfl rfl (lb rfl) fun a S => ?_
 refine sMax2 (p := (p0.length : Int)) (q := (p1.length : Int)) S (wN rfl) rfl rfl rfl rfl (lb rfl) fun a S => ?_
 refine sMa S rfl rfl rfl rfl rfl fun a S => ?_
 refine lT (hK59 _ _ ?_)
 obtain ⟨t61, h, g62⟩ := bindSome h
 refine sCut (fun a w => ∃ o60, o60 = t61 ∧ St [] E [] w0 138 a w [(6, .bool o60)] [] []) ?_ (fun a w hI => ?_)
 rotate_left
 ·obtain ⟨o60, rfl, S⟩ := hI
  have h := g62
  clear g62
  try dsimp only at h
  obtain rfl := Option.some.inj h
  exact wp_ret (sRet (.bool o60) S (rsl1 rfl (rvT (t := 6) (v := .bool o60) S rfl)) ⟨(), rfl, S.mem.sel [] [] (by decide) rfl rfl⟩)
 refine sRegion ?_
 refine sMm S rfl rfl rfl rfl rfl fun a S => ?_
 refine sMm S rfl rfl rfl rfl rfl fun a S => ?_
 rcases iteSome h with ⟨hc63, h⟩ | ⟨hc63, h⟩
 rotate_left
 ·refine sSkN 2 1 true 86 S rfl rfl hc63 rfl fun a S => ?_
  refine sPickF (.bool false) S (wN rfl) rfl rfl hc63 rfl rfl (lb rfl) fun a S => ?_
  refine sMm S rfl rfl rfl rfl rfl fun a S => ?_
  refine sSkN 2 5 true 90 S rfl rfl rfl rfl fun a S => ?_
  refine sPickF (.bool false) S (wN rfl) rfl rfl rfl rfl rfl (lb rfl) fun a S => ?_
  refine sMm S rfl rfl rfl rfl rfl fun a S => ?_
  refine sSkN 2 9 true 94 S rfl rfl rfl rfl fun a S => ?_
  refine sPickF (.bool false) S (wN rfl) rfl rfl rfl rfl rfl (lb rfl) fun a S => ?_
  refine sMm S rfl rfl rfl rfl rfl fun a S => ?_
  refine sSkN 2 13 true 98 S rfl rfl rfl rfl fun a S => ?_
  refine sPickF (.bool false) S (wN rfl) rfl rfl rfl rfl rfl (lb rfl) fun a S => ?_
  refine sMm S rfl rfl rfl rfl rfl fun a S => ?_
  refine sSkN 3 17 true 102 S rfl rfl rfl rfl fun a S => ?_
  refine sPickF (.bool false) S (wN rfl) rfl rfl rfl rfl rfl (lb rfl) fun a S => ?_
  refine sMm S rfl rfl rfl rfl rfl fun a S => ?_
  refine sSkN 5 22 true 107 S rfl rfl rfl rfl fun a S => ?_
  refine sPickF (.bool false) S (wN rfl) rfl rfl rfl rfl rfl (lb rfl) fun a S => ?_
  refine sMm S rfl rfl rfl rfl rfl fun a S => ?_
  refine sSkN 6 29 true 114 S rfl rfl rfl rfl fun a S => ?_
  refine sPickF (.bool false) S (wN rfl) rfl rfl rfl rfl rfl (lb rfl) fun a S => ?_
  refine sMm S rfl rfl rfl rfl rfl fun a S => ?_
  refine sSkN 3 37 true 122 S rfl rfl rfl rfl fun a S => ?_
  refine sPickF (.bool false) S (wN rfl) rfl rfl rfl rfl rfl (lb rfl) fun a S => ?_
  refine sMm S rfl rfl rfl rfl rfl fun a S => ?_
  refine sSkN 9 42 true 127 S rfl rfl rfl rfl fun a S => ?_
  refine sPickF (.bool false) S (wN rfl) rfl rfl rfl rfl rfl (lb rfl) fun a S => ?_
  refine sMa S rfl rfl rfl rfl rfl fun a S => ?_
  exact lT (⟨false, Option.some.inj h, S.fix [] [] (by decide) rfl rfl rfl⟩)
 refine sMove (iv r36.2.2) S (wG 1 true 86 rfl rfl rfl hc63) (.inl rfl) rfl rfl (lb rfl) fun a S => ?_
 refine sBin _ S (wG 1 true 86 rfl rfl rfl hc63) rfl rfl rfl (bEq _ _ _ _ .i64 r36.2.2 0) rfl (lb rfl) fun a S => ?_
 refine sPickT (.bool (r36.2.2 == 0)) S (wN rfl) rfl rfl hc63 rfl rfl (lb rfl) fun a S => ?_
 refine sMm S rfl rfl rfl rfl rfl fun a S => ?_
 rcases iteSome h with ⟨hc64, h⟩ | ⟨hc64, h⟩
 rotate_left
 ·refine sSkN 2 5 true 90 S rfl rfl hc64 rfl fun a S => ?_
  refine sPickF (.bool false) S (wN rfl) rfl rfl hc64 rfl rfl (lb rfl) fun a S => ?_
  refine sMm S rfl rfl rfl rfl rfl fun a S => ?_
  refine sSkN 2 9 true 94 S rfl rfl rfl rfl fun a S => ?_
  refine sPickF (.bool false) S (wN rfl) rfl rfl rfl rfl rfl (lb rfl) fun a S => ?_
  refine sMm S rfl rfl rfl rfl rfl fun a S => ?_
  refine sSkN 2 13 true 98 S rfl rfl rfl rfl fun a S => ?_
  refine sPickF (.bool false) S (wN rfl) rfl rfl rfl rfl rfl (lb rfl) fun a S => ?_
  refine sMm S rfl rfl rfl rfl rfl fun a S => ?_
  refine sSkN 3 17 true 102 S rfl rfl rfl rfl fun a S => ?_
  refine sPickF (.bool false) S (wN rfl) rfl rfl rfl rfl rfl (lb rfl) fun a S => ?_
  refine sMm S rfl rfl rfl rfl rfl fun a S => ?_
  refine sSkN 5 22 true 107 S rfl rfl rfl rfl fun a S => ?_
  refine sPickF (.bool false) S (wN rfl) rfl rfl rfl rfl rfl (lb rfl) fun a S => ?_
  refine sMm S rfl rfl rfl rfl rfl fun a S => ?_
  refine sSkN 6 29 true 114 S rfl rfl rfl rfl fun a S => ?_
  refine sPickF (.bool false) S (wN rfl) rfl rfl rfl rfl rfl (lb rfl) fun a S => ?_
  refine sMm S rfl rfl rfl rfl rfl fun a S => ?_
  refine sSkN 3 37 true 122 S rfl rfl rfl rfl fun a S => ?_
  refine sPickF (.bool false) S (wN rfl) rfl rfl rfl rfl rfl (lb rfl) fun a S => ?_
  refine sMm S rfl rfl rfl rfl rfl fun a S => ?_
  refine sSkN 9 42 true 127 S rfl rfl rfl rfl fun a S => ?_
  refine sPickF (.bool false) S (wN rfl) rfl rfl rfl rfl rfl (lb rfl) fun a S => ?_
  refine sMa S rfl rfl rfl rfl rfl fun a S => ?_
  exact lT (⟨false, Option.some.inj h, S.fix [] [] (by decide) rfl rfl rfl⟩)
 refine sMove (iv r42.2.2) S (wG 5 true 90 rfl rfl rfl hc64) (.inl rfl) rfl rfl (lb rfl) fun a S => ?_
 refine sBin _ S (wG 5 true 90 rfl rfl rfl hc64) rfl rfl rfl (bEq _ _ _ _ .i64 r42.2.2 0) rfl (lb rfl) fun a S => ?_
 refine sPickT (.bool (r42.2.2 == 0)) S (wN rfl) rfl rfl hc64 rfl rfl (lb rfl) fun a S => ?_
 refine sMm S rfl rfl rfl rfl rfl fun a S => ?_
 rcases iteSome h with ⟨hc65, h⟩ | ⟨hc65, h⟩
 rotate_left
 ·refine sSkN 2 9 true 94 S rfl rfl hc65 rfl fun a S => ?_
  refine sPickF (.bool false) S (wN rfl) rfl rfl hc65 rfl rfl (lb rfl) fun a S => ?_
  refine sMm S rfl rfl rfl rfl rfl fun a S => ?_
  refine sSkN 2 13 true 98 S rfl rfl rfl rfl fun a S => ?_
  refine sPickF (.bool false) S (wN rfl) rfl rfl rfl rfl rfl (lb rfl) fun a S => ?_
  refine sMm S rfl rfl rfl rfl rfl fun a S => ?_
  refine sSkN 3 17 true 102 S rfl rfl rfl rfl fun a S => ?_
  refine sPickF (.bool false) S (wN rfl) rfl rfl rfl rfl rfl (lb rfl) fun a S => ?_
  refine sMm S rfl rfl rfl rfl rfl fun a S => ?_
  refine sSkN 5 22 true 107 S rfl rfl rfl rfl fun a S => ?_
  refine sPickF (.bool false) S (wN rfl) rfl rfl rfl rfl rfl (lb rfl) fun a S => ?_
  refine sMm S rfl rfl rfl rfl rfl fun a S => ?_
  refine sSkN 6 29 true 114 S rfl rfl rfl rfl fun a S => ?_
  refine sPickF (.bool false) S (wN rfl) rfl rfl rfl rfl rfl (lb rfl) fun a S => ?_
  refine sMm S rfl rfl rfl rfl rfl fun a S => ?_
  refine sSkN 3 37 true 122 S rfl rfl rfl rfl fun a S => ?_
  refine sPickF (.bool false) S (wN rfl) rfl rfl rfl rfl rfl (lb rfl) fun a S => ?_
  refine sMm S rfl rfl rfl rfl rfl fun a S => ?_
  refine sSkN 9 42 true 127 S rfl rfl rfl rfl fun a S => ?_
  refine sPickF (.bool false) S (wN rfl) rfl rfl rfl rfl rfl (lb rfl) fun a S => ?_
  refine sMa S rfl rfl rfl rfl rfl fun a S => ?_
  exact lT (⟨false, Option.some.inj h, S.fix [] [] (by decide) rfl rfl rfl⟩)
 refine sMove (iv r48.2.2) S (wG 9 true 94 rfl rfl rfl hc65) (.inl rfl) rfl rfl (lb rfl) fun a S => ?_
 refine sBin _ S (wG 9 true 94 rfl rfl rfl hc65) rfl rfl rfl (bEq _ _ _ _ .i64 r48.2.2 0) rfl (lb rfl) fun a S => ?_
 refine sPickT (.bool (r48.2.2 == 0)) S (wN rfl) rfl rfl hc65 rfl rfl (lb rfl) fun a S => ?_
 refine sMm S rfl rfl rfl rfl rfl fun a S => ?_
 rcases iteSome h with ⟨hc66, h⟩ | ⟨hc66, h⟩
 rotate_left
 ·refine sSkN 2 13 true 98 S rfl rfl hc66 rfl fun a S => ?_
  refine sPickF (.bool false) S (wN rfl) rfl rfl hc66 rfl rfl (lb rfl) fun a S => ?_
  refine sMm S rfl rfl rfl rfl rfl fun a S => ?_
  refine sSkN 3 17 true 102 S rfl rfl rfl rfl fun a S => ?_
  refine sPickF (.bool false) S (wN rfl) rfl rfl rfl rfl rfl (lb rfl) fun a S => ?_
  refine sMm S rfl rfl rfl rfl rfl fun a S => ?_
  refine sSkN 5 22 true 107 S rfl rfl rfl rfl fun a S => ?_
  refine sPickF (.bool false) S (wN rfl) rfl rfl rfl rfl rfl (lb rfl) fun a S => ?_
  refine sMm S rfl rfl rfl rfl rfl fun a S => ?_
  refine sSkN 6 29 true 114 S rfl rfl rfl rfl fun a S => ?_
  refine sPickF (.bool false) S (wN rfl) rfl rfl rfl rfl rfl (lb rfl) fun a S => ?_
  refine sMm S rfl rfl rfl rfl rfl fun a S => ?_
  refine sSkN 3 37 true 122 S rfl rfl rfl rfl fun a S => ?_
  refine sPickF (.bool false) S (wN rfl) rfl rfl rfl rfl rfl (lb rfl) fun a S => ?_
  refine sMm S rfl rfl rfl rfl rfl fun a S => ?_
  refine sSkN 9 42 true 127 S rfl rfl rfl rfl fun a S => ?_
  refine sPickF (.bool false) S (wN rfl) rfl rfl rfl rfl rfl (lb rfl) fun a S => ?_
  refine sMa S rfl rfl rfl rfl rfl fun a S => ?_
  exact lT (⟨false, Option.some.inj h, S.fix [] [] (by decide) rfl rfl rfl⟩)
 refine sMove (iv r54.2.2) S (wG 13 true 98 rfl rfl rfl hc66) (.inl rfl) rfl rfl (lb rfl) fun a S => ?_
 refine sBin _ S (wG 13 true 98 rfl rfl rfl hc66) rfl rfl rfl (bEq _ _ _ _ .i64 r54.2.2 0) rfl (lb rfl) fun a S => ?_
 refine sPickT (.bool (r54.2.2 == 0)) S (wN rfl) rfl rfl hc66 rfl rfl (lb rfl) fun a S => ?_
 refine sMm S rfl rfl rfl rfl rfl fun a S => ?_
 rcases iteSome h with ⟨hc67, h⟩ | ⟨hc67, h⟩
 rotate_left
 ·refine sSkN 3 17 true 102 S rfl rfl hc67 rfl fun a S => ?_
  refine sPickF (.bool false) S (wN rfl) rfl rfl hc67 rfl rfl (lb rfl) fun a S => ?_
  refine sMm S rfl rfl rfl rfl rfl fun a S => ?_
  refine sSkN 5 22 true 107 S rfl rfl rfl rfl fun a S => ?_
  refine sPickF (.bool false) S (wN rfl) rfl rfl rfl rfl rfl (lb rfl) fun a S => ?_
  refine sMm S rfl rfl rfl rfl rfl fun a S => ?_
  refine sSkN 6 29 true 114 S rfl rfl rfl rfl fun a S => ?_
  refine sPickF (.bool false) S (wN rfl) rfl rfl rfl rfl rfl (lb rfl) fun a S => ?_
  refine sMm S rfl rfl rfl rfl rfl fun a S => ?_
  refine sSkN 3 37 true 122 S rfl rfl rfl rfl fun a S => ?_
  refine sPickF (.bool false) S (wN rfl) rfl rfl rfl rfl rfl (lb rfl) fun a S => ?_
  refine sMm S rfl rfl rfl rfl rfl fun a S => ?_
  refine sSkN 9 42 true 127 S rfl rfl rfl rfl fun a S => ?_
  refine sPickF (.bool false) S (wN rfl) rfl rfl rfl rfl rfl (lb rfl) fun a S => ?_
  refine sMa S rfl rfl rfl rfl rfl fun a S => ?_
  exact lT (⟨false, Option.some.inj h, S.fix [] [] (by decide) rfl rfl rfl⟩)
 refine sMove (iv r36.2.1) S (wG 17 true 102 rfl rfl rfl hc67) (.inl rfl) rfl rfl (lb rfl) fun a S => ?_
 refine sMove (iv r54.2.1) S (wG 17 true 102 rfl rfl rfl hc67) (.inl rfl) rfl rfl (lb rfl) fun a S => ?_
 refine sBin _ S (wG 17 true 102 rfl rfl rfl hc67) rfl rfl rfl (bEq _ _ _ _ .i64 r36.2.1 r54.2.1) rfl (lb rfl) fun a S => ?_
 refine sPickT (.bool (r36.2.1 == r54.2.1)) S (wN rfl) rfl rfl hc67 rfl rfl (lb rfl) fun a S => ?_
 refine sMm S rfl rfl rfl rfl rfl fun a S => ?_
 rcases iteSome h with ⟨hc68, h⟩ | ⟨hc68, h⟩
 rotate_left
 ·refine sSkN 5 22 true 107 S rfl rfl hc68 rfl fun a S => ?_
  refine sPickF (.bool false) S (wN rfl) rfl rfl hc68 rfl rfl (lb rfl) fun a S => ?_
  refine sMm S rfl rfl rfl rfl rfl fun a S => ?_
  refine sSkN 6 29 true 114 S rfl rfl rfl rfl fun a S => ?_
  refine sPickF (.bool false) S (wN rfl) rfl rfl rfl rfl rfl (lb rfl) fun a S => ?_
  refine sMm S rfl rfl rfl rfl rfl fun a S => ?_
  refine sSkN 3 37 true 122 S rfl rfl rfl rfl fun a S => ?_
  refine sPickF (.bool false) S (wN rfl) rfl rfl rfl rfl rfl (lb rfl) fun a S => ?_
  refine sMm S rfl rfl rfl rfl rfl fun a S => ?_
  refine sSkN 9 42 true 127 S rfl rfl rfl rfl fun a S => ?_
  refine sPickF (.bool false) S (wN rfl) rfl rfl rfl rfl rfl (lb rfl) fun a S => ?_
  refine sMa S rfl rfl rfl rfl rfl fun a S => ?_
  exact lT (⟨false, Option.some.inj h, S.fix [] [] (by decide) rfl rfl rfl⟩)
 refine sMove (iv r48.2.1) S (wG 22 true 107 rfl rfl rfl hc68) (.inl rfl) rfl rfl (lb rfl) fun a S => ?_
 refine sMove (iv r36.2.1) S (wG 22 true 107 rfl rfl rfl hc68) (.inl rfl) rfl rfl (lb rfl) fun a S => ?_
 refine sMove (iv r42.2.1) S (wG 22 true 107 rfl rfl rfl hc68) (.inl rfl) rfl rfl (lb rfl) fun a S => ?_
 refine sBin _ S (wG 22 true 107 rfl rfl rfl hc68) rfl rfl rfl (bAdd _ _ _ _ r36.2.1 r42.2.1) rfl (lb rfl) fun a S => ?_
 refine sBin _ S (wG 22 true 107 rfl rfl rfl hc68) rfl rfl rfl (bLe _ _ _ _ .i64 r48.2.1 (w64 (r36.2.1 + r42.2.1))) rfl (lb rfl) fun a S => ?_
 refine sPickT (.bool (decide (r48.2.1 ≤ (w64 (r36.2.1 + r42.2.1))))) S (wN rfl) rfl rfl hc68 rfl rfl (lb rfl) fun a S => ?_
 refine sMm S rfl rfl rfl rfl rfl fun a S => ?_
 rcases iteSome h with ⟨hc69, h⟩ | ⟨hc69, h⟩
 rotate_left
 ·refine sSkN 6 29 true 114 S rfl rfl hc69 rfl fun a S => ?_
  refine sPickF (.bool false) S (wN rfl) rfl rfl hc69 rfl rfl (lb rfl) fun a S => ?_
  refine sMm S rfl rfl rfl rfl rfl fun a S => ?_
  refine sSkN 3 37 true 122 S rfl rfl rfl rfl fun a S => ?_
  refine sPickF (.bool false) S (wN rfl) rfl rfl rfl rfl rfl (lb rfl) fun a S => ?_
  refine sMm S rfl rfl rfl rfl rfl fun a S => ?_
  refine sSkN 9 42 true 127 S rfl rfl rfl rfl fun a S => ?_
  refine sPickF (.bool false) S (wN rfl) rfl rfl rfl rfl rfl (lb rfl) fun a S => ?_
  refine sMa S rfl rfl rfl rfl rfl fun a S => ?_
  exact lT (⟨false, Option.some.inj h, S.fix [] [] (by decide) rfl rfl rfl⟩)
 refine sMove (iv r36.2.1) S (wG 29 true 114 rfl rfl rfl hc69) (.inl rfl) rfl rfl (lb rfl) fun a S => ?_
 refine sBin _ S (wG 29 true 114 rfl rfl rfl hc69) rfl rfl rfl (bEq _ _ _ _ .i64 r36.2.1 0) rfl (lb rfl) fun a S => ?_
 refine sMove (.slice ad1 p0.length cp2) S (wG 29 true 114 rfl rfl rfl hc69) (.inl rfl) rfl rfl (lb rfl) fun a S => ?_
 refine sMove (.slice ad3 p1.length cp4) S (wG 29 true 114 rfl rfl rfl hc69) (.inl rfl) rfl rfl (lb rfl) fun a S => ?_
 obtain ⟨r70, hx71, h⟩ := bindSome h
 have S1 := S.mem
 refine sCallQ (X := Unit) (f := 30) (vs := [.slice ad1 p0.length cp2, .slice ad3 p1.length cp4]) (val := fun _ => .bool r70) S (wG 29 true 114 rfl rfl rfl hc69) rfl callee30 rfl (S1.quiet [4, 5] rfl) (fun E1 w1 S1 => c_raddleref25_Same E1 w1 p0 (.slice ad1 p0.length cp2) p1 (.slice ad3 p1.length cp4) r70 hx71 S1) rfl (lb rfl) fun _ a w S => ?_
 refine sBin _ S (wG 29 true 114 rfl rfl rfl hc69) rfl rfl rfl (bEqB _ _ _ _ Try.underlying4 (r36.2.1 == 0) r70) rfl (lb rfl) fun a S => ?_
 refine sPickT (.bool ((r36.2.1 == 0) == r70)) S (wN rfl) rfl rfl hc69 rfl rfl (lb rfl) fun a S => ?_
 refine sMm S rfl rfl rfl rfl rfl fun a S => ?_
 rcases iteSome h with ⟨hc72, h⟩ | ⟨hc72, h⟩
 rotate_left
 ·refine sSkN 3 37 true 122 S rfl rfl hc72 rfl fun a S => ?_
  refine sPickF (.bool false) S (wN rfl) rfl rfl hc72 rfl rfl (lb rfl) fun a S => ?_
  refine sMm S rfl rfl rfl rfl rfl fun a S => ?_
  refine sSkN 9 42 true 127 S rfl rfl rfl rfl fun a S => ?_
  refine sPickF (.bool false) S (wN rfl) rfl rfl rfl rfl rfl (lb rfl) fun a S => ?_
  refine sMa S rfl rfl rfl rfl rfl fun a S => ?_
  exact lT (⟨false, Option.some.inj h, S.fix [] [] (by decide) rfl rfl rfl⟩)
 refine sMove (iv r36.2.1) S (wG 37 true 122 rfl rfl rfl hc72) (.inl rfl) rfl rfl (lb rfl) fun a S => ?_
 refine sMove (iv (if (p0.length : Int) < (p1.length : Int) then (p1.length : Int) else (p0.length : Int))) S (wG 37 true 122 rfl rfl rfl hc72) (.inl rfl) rfl rfl (lb rfl) fun a S => ?_
 refine sBin _ S (wG 37 true 122 rfl rfl rfl hc72) rfl rfl rfl (bLe _ _ _ _ .i64 r36.2.1 (if (p0.length : Int) < (p1.length : Int) then (p1.length : Int) else (p0.length : Int))) rfl (lb rfl) fun a S => ?_
 refine sPickT (.bool (decide (r36.2.1 ≤ (if (p0.length : Int) < (p1.length : Int) then (p1.length : Int) else (p0.length : Int))))) S (wN rfl) rfl rfl hc72 rfl rfl (lb rfl) fun a S => ?_
 refine sMm S rfl rfl rfl rfl rfl fun a S => ?_
 rcases iteSome h with ⟨hc73, h⟩ | ⟨hc73, h⟩
 rotate_left
 ·refine sSkN 9 42 true 127 S rfl rfl hc73 rfl fun a S => ?_
  refine sPickF (.bool false) S (wN rfl) rfl rfl hc73 rfl rfl (lb rfl) fun a S => ?_
  refine sMa S rfl rfl rfl rfl rfl fun a S => ?_
  exact lT (⟨false, Option.some.inj h, S.fix [] [] (by decide) rfl rfl rfl⟩)
 refine sMove (iv r36.2.1) S (wG 42 true 127 rfl rfl rfl hc73) (.inl rfl) rfl rfl (lb rfl) fun a S => ?_
 refine sMove (iv (if (p0.length : Int) < (p1.length : Int) then (p1.length : Int) else (p0.length : Int))) S (wG 42 true 127 rfl rfl rfl hc73) (.inl rfl) rfl rfl (lb rfl) fun a S => ?_
 refine sMove (.slice ad1 p0.length cp2) S (wG 42 true 127 rfl rfl rfl hc73) (.inl rfl) rfl rfl (lb rfl) fun a S => ?_
 refine sLen S (wG 42 true 127 rfl rfl rfl hc73) rfl Try.underlying47 rfl rfl (lb rfl) fun a S => ?_
 refine sMove (.slice ad3 p1.length cp4) S (wG 42 true 127 rfl rfl rfl hc73) (.inl rfl) rfl rfl (lb rfl) fun a S => ?_
 refine sLen S (wG 42 true 127 rfl rfl rfl hc73) rfl Try.underlying47 rfl rfl (lb rfl) fun a S => ?_
 refine sMin2 (p := (p0.length : Int)) (q := (p1.length : Int)) S (wG 42 true 127 rfl rfl rfl hc73) rfl rfl rfl rfl (lb rfl) fun a S => ?_
 refine sBin _ S (wG 42 true 127 rfl rfl rfl hc73) rfl rfl rfl (bSub _ _ _ _ (if (p0.length : Int) < (p1.length : Int) then (p1.length : Int) else (p0.length : Int)) (if (p1.length : Int) < (p0.length : Int) then (p1.length : Int) else (p0.length : Int))) rfl (lb rfl) fun a S => ?_
 refine sBin _ S (wG 42 true 127 rfl rfl rfl hc73) rfl rfl rfl (bGe _ _ _ _ .i64 r36.2.1 (w64 ((if (p0.length : Int) < (p1.length : Int) then (p1.length : Int) else (p0.length : Int)) - (if (p1.length : Int) < (p0.length : Int) then (p1.length : Int) else (p0.length : Int))))) rfl (lb rfl) fun a S => ?_
 refine sPickT (.bool (decide ((w64 ((if (p0.length : Int) < (p1.length : Int) then (p1.length : Int) else (p0.length : Int)) - (if (p1.length : Int) < (p0.length : Int) then (p1.length : Int) else (p0.length : Int)))) ≤ r36.2.1))) S (wN rfl) rfl rfl hc73 rfl rfl (lb rfl) fun a S => ?_
 refine sMa S rfl rfl rfl rfl rfl fun a S => ?_
 exact lT (⟨decide ((w64 ((if (p0.length : Int) < (p1.length : Int) then (p1.length : Int) else (p0.length : Int)) - (if (p1.length : Int) < (p0.length : Int) then (p1.length : Int) else (p0.length : Int)))) ≤ r36.2.1), Option.some.inj h, S.fix [] [] (by decide) rfl rfl rfl⟩)
end Go.Proofs.Ytffikfajljbmnaa
namespace Go.Proofs.Ytffikfajljbmnaa
open Go.RowKit
theorem editsS_ok {a b : List api_Stitch} (ha : allS a = 0) (hb : allS b = 0) : editsS a b = (eds (a.length + b.length) a b, ((D1 a b : Nat) : Int), 0) := by
 unfold editsS
 rw [if_pos ha, if_pos hb]
theorem law_CompareRows' (hal : F_raddlelaw46_alive = some true) (a b c : List api_Stitch) (wa : Wl wf_api_Stitch a) (wb : Wl wf_api_Stitch b) (wc : Wl wf_api_Stitch c) : F_raddlelaw46_CompareRows a b c = some true := by
 unfold F_raddlelaw46_CompareRows
 obtain ⟨b1, h1⟩ := rgreat25_eq a
 obtain ⟨b2, h2⟩ := rgreat25_eq b
 obtain ⟨b3, h3⟩ := rgreat25_eq c
 rw [hal, h1, h2, h3]
 cases b1 with
 | true => rfl
 | false =>
 cases b2 with
 | true => rfl
 | false =>
 cases b3 with
 | true => rfl
 | false =>
 simp only [Bool.false_eq_true, if_false, Option.bind_some, rall_eq]
 by_cases e1 : allS a = 0
 case neg => simp only [nT e1, if_true, Option.bind_some]
 by_cases e2 : allS b = 0
 case neg => simp only [nF e1, nT e2, Bool.false_eq_true, if_false, if_true, Option.bind_some]
 by_cases e3 : allS c = 0
 case neg => simp only [nF e1, nF e2, nT e3, Bool.false_eq_true, if_false, if_true, Option.bind_some]
 have la := (allS_ok e1).1
 have lb := (allS_ok e2).1
 have lc := (allS_ok e3).1
 have wa := wf_st wa
 have wb := wf_st wb
 have wc := wf_st wc
 have d1 := D1_max a b
 have d2 := D1_max b c
 have t1 := D1_tri a b c
 have s1 := D1_sym a b
 have l1 := D1_low a b
 have l2 := D1_low b a
 have z1 := D1_zero a b
 simp only [nF e1, nF e2, nF e3, Bool.false_eq_true, if_false, Bool.not_true, Option.bind_some, edits_eq wa wb, edits_eq wb wc, edits_eq wa wc, edits_eq wb wa, editsS_ok e1 e2, editsS_ok e2 e3, editsS_ok e1 e3, editsS_ok e2 e1, if_true, beq_self_eq_true, rsame25_eq a b (by omega)]
 rw [← s1] at l2 ⊢
 generalize D1 a b = x at *
 generalize D1 b c = y at *
 generalize D1 a c = z at *
 have hz : (((x : Nat) : Int) == 0) = decide (a = b) := by
  by_cases e : a = b
  ·rw [dT e, bT (by have := z1.2 e; omega)]
  ·rw [dF e, bF (fun q => e (z1.1 (by omega)))]
 rw [hz, wadd (by omega)]
 simp only [beq_self_eq_true, if_true, dT (show (z : Int) ≤ ((x + y : Nat) : Int) by omega), Option.bind_some]
 have hm : (x : Int) ≤ (if (a.length : Int) < (b.length : Int) then (b.length : Int) else (a.length : Int)) := by split <;> omega
 have hw : w64 ((if (a.length : Int) < (b.length : Int) then (b.length : Int) else (a.length : Int)) - (if (b.length : Int) < (a.length : Int) then (b.length : Int) else (a.length : Int))) ≤ (x : Int) := by
  rw [w64_of (by split <;> split <;> omega) (by split <;> split <;> omega)]
  split <;> split <;> omega
 simp only [dT hm, dT hw, if_true, Option.bind_some]
end Go.Proofs.Ytffikfajljbmnaa
namespace Go.Proofs.Ytffikfajljbmnaa
open Go.RowKit
theorem law_CompareRows (a b c : List api_Stitch) (wa : Wl wf_api_Stitch a) (wb : Wl wf_api_Stitch b) (wc : Wl wf_api_Stitch c) : F_raddlelaw46_CompareRows a b c = some true := law_CompareRows' k_raddlelaw46_alive a b c wa wb wc
end Go.Proofs.Ytffikfajljbmnaa
namespace Go.Proofs.Ytffikfajljbmnaa
open Go.RowKit
namespace frameCompareRows
open Go.ChangeShapes Go.WideShapes Go.ChangeAt Go.Joins
theorem own : ownKnob Try.prog.godebug = none := by kernel_rfl
theorem laidOut : laidOutB Try.prog = true := by kernel_rfl
set_option maxRecDepth 100000 in
theorem lifted (os : Os) (started : os.Started) (H : Type) (enc : TypeId × Value → H) :
 ReturnsInHanded {} Try.checked os 8 .any (Rows.compareRowsSpec.pre6 enc Try.prog Try.f8 Rows.compareRowsRow.domain false) (Rows.compareRowsSpec.post enc Try.prog Try.f8 false true false false) := by
 refine returnsInHanded_of_change (C := Try.checked) own started (by kernel_rfl) Try.func8
  (ChangeSpec.witness6 (enc := enc) (C := Try.checked) false ⟨#[], #[.slice none 0 0, .slice none 0 0, .slice none 0 0], []⟩ 8 (by kernel_rfl) (by kernel_rfl) (by kernel_rfl) (by kernel_rfl)) ?_
 intro W base args ds gs before hval0 hW hcnd _
 have hval : ∀ (j : Nat) t v, Try.f8.params[j]? = some t → args[j]? = some v → Value.okWide Try.prog W .any base t v := hval0
 have hW' := hW
 obtain ⟨p, q, hA0, hV, rfl, hfz, hnd⟩ := hW
 have hA : DataW.TrodAll enc Try.prog W 0 (fun _ => true) true Try.f8.params.toList args.toList ds p := hA0
 rw [Try.params8] at hA hval
 obtain ⟨v0, vs0, d0, ds0, p0, q0, hargs, rfl, rfl, h0, r0⟩ := trodAll_cons hA
 obtain ⟨v1, vs1, d1, ds1, p1, q1, rfl, rfl, rfl, h1, r1⟩ := trodAll_cons r0
 obtain ⟨v2, vs2, d2, ds2, p2, q2, rfl, rfl, rfl, h2, r2⟩ := trodAll_cons r1
 obtain ⟨rfl, rfl, rfl⟩ := trodAll_nil r2
 obtain rfl : args = #[v0, v1, v2] := by cases args; simp_all
 obtain ⟨rfl, rfl⟩ := trodVars_none hV
 have k0 := h0
 have lt0 : ∀ x ∈ p0, x.block < W.heap.size := by obtain ⟨m, hm⟩ := k0; exact DataW.trod_lt m _ _ _ hm
 have k1 := h1
 have lt1 : ∀ x ∈ p1, x.block < W.heap.size := by obtain ⟨m, hm⟩ := k1; exact DataW.trod_lt m _ _ _ hm
 have k2 := h2
 have lt2 : ∀ x ∈ p2, x.block < W.heap.size := by obtain ⟨m, hm⟩ := k2; exact DataW.trod_lt m _ _ _ hm
 obtain ⟨x0, rep0, wf0⟩ := top_slice Try.underlying47 (op_slice (r := r_api_Stitch) Try.underlying47 (by kernel_rfl) op_api_Stitch) (hval 0 _ v0 rfl rfl) h0
 obtain ⟨x1, rep1, wf1⟩ := top_slice Try.underlying47 (op_slice (r := r_api_Stitch) Try.underlying47 (by kernel_rfl) op_api_Stitch) (hval 1 _ v1 rfl rfl) h1
 obtain ⟨x2, rep2, wf2⟩ := top_slice Try.underlying47 (op_slice (r := r_api_Stitch) Try.underlying47 (by kernel_rfl) op_api_Stitch) (hval 2 _ v2 rfl rfl) h2
 clear hA0 hval0
 refine (c_raddlelaw46_CompareRows (fun _ => False) W x0 v0 x1 v1 x2 v2 true (law_CompareRows x0 x1 x2 wf0 wf1 wf2) (St0.start (by intro d hd; simp only [List.mem_cons, List.not_mem_nil, or_false] at hd; rcases hd with rfl | rfl | rfl; exact rep0; exact rep1; exact rep2))).mono fun e W' hr => ?_
 obtain ⟨_, he, hS⟩ := hr
 have bel := hS.chg.below
 subst he
 exact ⟨_, rfl, _, _, _, [], _, [], hW', trodAll_mk1 (shut_bool Try.underlying4 _), (trodAll_cons_mk (Below.trod laidOut (by kernel_rfl) (of_decide_eq_true (by kernel_rfl)) k0 bel lt0) (trodAll_cons_mk (Below.trod laidOut (by kernel_rfl) (of_decide_eq_true (by kernel_rfl)) k1 bel lt1) (trodAll_cons_mk (Below.trod laidOut (by kernel_rfl) (of_decide_eq_true (by kernel_rfl)) k2 bel lt2) trodAll_mk0))), rfl, bel.frame _, fun h => by cases h⟩
theorem over : Rows.compareRowsRow.holds Try.pinned (OpenSpec.ofChange Rows.compareRowsSpec) :=
 OpenClaim.holds_of_wide 8 Try.f8 rfl rfl rfl rfl rfl rfl rfl ⟨rfl, rfl, rfl, rfl, rfl⟩ rfl rfl rfl rfl rfl (by kernel_rfl) Try.func8 (by kernel_rfl)
  (of_decide_eq_true (by kernel_rfl)) (by unfold Func.isWrapper; first | (rw [if_pos (by decide +kernel)]; kernel_rfl) | (rw [if_neg (by decide +kernel)]; exact ⟨rfl, rfl⟩))
  (fun os started H enc _ => lifted os started H enc)
end frameCompareRows
theorem compareRows_holds : Rows.CompareRowsSaid := frameCompareRows.over
end Go.Proofs.Ytffikfajljbmnaa
