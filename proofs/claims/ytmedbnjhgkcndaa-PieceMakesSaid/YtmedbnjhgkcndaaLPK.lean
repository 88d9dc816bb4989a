/- The plain law behind PieceMakes: Check, Make, Changes and Mirror compute what the reference computes. -/
import Derived.Test.YtmedbnjhgkcndaaGOp
import Derived.Test.YtmedbnjhgkcndaaPlB
import Derived.Test.YtmedbnjhgkcndaaG4
namespace Go.Proofs.Ytmedbnjhgkcndaa
open Go.RowKit
set_option linter.unusedVariables false

/-- a side, as the program asks -/
theorem col_eq (x : Int) : F_piece_column x = some (decide (-500 ≤ x) && decide (x ≤ 500)) ∧ F_raddleref37_in x = some (decide (-500 ≤ x) && decide (x ≤ 500)) := by
  unfold F_piece_column F_raddleref37_in
  by_cases h : -500 ≤ x <;> simp [h]
def up (l : List api_Point) (k : Nat) : Prop := ∀ (h : k < l.length), 0 < k → (l[k - 1]'(by omega)).Y < l[k].Y
def good1 (l : List api_Point) (k : Nat) : Prop := ∀ (h : k < l.length), (-500 ≤ l[k].X ∧ l[k].X ≤ 500) ∧ up l k
def good2 (l : List api_Point) (k : Nat) : Prop := ∀ (h : k < l.length), (-500 ≤ l[k].X ∧ l[k].X ≤ 500) ∧ (0 ≤ l[k].Y ∧ l[k].Y ≤ 99) ∧ up l k
theorem side_loop1 (l : List api_Point) (hl : l.length ≤ 50) : ∃ t, whileO (piece_side_l1 l) 0 = some t ∧ ((t = .inr () ∧ ∀ k, k < l.length → good1 l k) ∨ (t = .inl false ∧ ∃ k, k < l.length ∧ ¬ good1 l k)) := by
  refine loop_ix l.length (fun k => ∀ j, j < k → good1 l j) _ (fun j h => absurd h (Nat.not_lt_zero j)) ?_ ?_
  · intro k hk hI
    have hx := idxO_nat hk
    have hkk : decide ((k : Int) < (l.length : Int)) = true := by simp; omega
    have hsucc : w64 ((k : Int) + 1) = ((k + 1 : Nat) : Int) := w64_succ (by omega)
    by_cases hc : -500 ≤ l[k].X ∧ l[k].X ≤ 500
    · have hcb : (decide (-500 ≤ l[k].X) && decide (l[k].X ≤ 500)) = true := by simpa using hc
      by_cases h0 : 0 < k
      · have hd : decide ((0 : Int) < (k : Int)) = true := by simp; omega
        have hp : idxO l (w64 ((k : Int) - 1)) = some (l[k - 1]'(by omega)) := idxO_of (by rw [w64_of (by omega) (by omega)]; omega) (by omega)
        by_cases hy : (l[k]).Y ≤ (l[k - 1]'(by omega)).Y
        · refine .inr ⟨.inl false, ?_, .inr ⟨rfl, k, hk, fun hg => ?_⟩⟩
          · unfold piece_side_l1
            simp only [if_true, if_false, Option.bind_some, Bool.not_true, Bool.not_false, Bool.false_eq_true, hkk, hx, (col_eq _).1, hcb, hd, hp, hy, decide_true]
          · have := (hg hk).2 hk h0; omega
        · refine .inl ⟨?_, fun j hj => ?_⟩
          · unfold piece_side_l1
            simp only [if_true, if_false, Option.bind_some, Bool.not_true, Bool.not_false, Bool.false_eq_true, hkk, hx, (col_eq _).1, hcb, hd, hp, hy, decide_false, hsucc]
          · by_cases e : j = k
            · subst e; exact fun _ => ⟨hc, fun _ _ => by omega⟩
            · exact hI j (by omega)
      · obtain rfl : k = 0 := by omega
        refine .inl ⟨?_, fun j hj => ?_⟩
        · unfold piece_side_l1
          simp only [if_true, if_false, Option.bind_some, Bool.not_true, Bool.not_false, Bool.false_eq_true, hkk, hx, (col_eq _).1, hcb, hsucc, show decide ((0 : Int) < ((0 : Nat) : Int)) = false from rfl]
        · obtain rfl : j = 0 := by omega
          exact fun _ => ⟨hc, fun _ h => absurd h (by omega)⟩
    · have hcb : (decide (-500 ≤ l[k].X) && decide (l[k].X ≤ 500)) = false := by simpa using hc
      refine .inr ⟨.inl false, ?_, .inr ⟨rfl, k, hk, fun hg => hc (hg hk).1⟩⟩
      unfold piece_side_l1
      simp only [if_true, if_false, Option.bind_some, Bool.not_true, Bool.not_false, Bool.false_eq_true, hkk, hx, (col_eq _).1, hcb]
  · intro hI
    refine ⟨.inr (), ?_, .inl ⟨rfl, hI⟩⟩
    unfold piece_side_l1
    simp
theorem side_loop2 (l : List api_Point) (hl : l.length ≤ 50) : ∃ t, whileO (raddleref37_side_l1 l) 0 = some t ∧ ((t = .inr () ∧ ∀ k, k < l.length → good2 l k) ∨ (t = .inl false ∧ ∃ k, k < l.length ∧ ¬ good2 l k)) := by
  refine loop_ix l.length (fun k => ∀ j, j < k → good2 l j) _ (fun j h => absurd h (Nat.not_lt_zero j)) ?_ ?_
  · intro k hk hI
    have hx := idxO_nat hk
    have hkk : decide ((k : Int) < (l.length : Int)) = true := by simp; omega
    have hsucc : w64 ((k : Int) + 1) = ((k + 1 : Nat) : Int) := w64_succ (by omega)
    by_cases hc : -500 ≤ l[k].X ∧ l[k].X ≤ 500
    · have hcb : (decide (-500 ≤ l[k].X) && decide (l[k].X ≤ 500)) = true := by simpa using hc
      by_cases hy0 : l[k].Y < 0
      · refine .inr ⟨.inl false, ?_, .inr ⟨rfl, k, hk, fun hg => by have := (hg hk).2.1; omega⟩⟩
        unfold raddleref37_side_l1
        simp only [if_true, if_false, Option.bind_some, Bool.not_true, Bool.not_false, Bool.false_eq_true, hkk, hx, (col_eq _).2, hcb, hy0, decide_true]
      by_cases hy1 : 99 < l[k].Y
      · refine .inr ⟨.inl false, ?_, .inr ⟨rfl, k, hk, fun hg => by have := (hg hk).2.1; omega⟩⟩
        unfold raddleref37_side_l1
        simp only [if_true, if_false, Option.bind_some, Bool.not_true, Bool.not_false, Bool.false_eq_true, hkk, hx, (col_eq _).2, hcb, hy0, hy1, decide_true, decide_false]
      by_cases h0 : 0 < k
      · have hd : decide ((0 : Int) < (k : Int)) = true := by simp; omega
        have hp : idxO l (w64 ((k : Int) - 1)) = some (l[k - 1]'(by omega)) := idxO_of (by rw [w64_of (by omega) (by omega)]; omega) (by omega)
        by_cases hy : (l[k]).Y ≤ (l[k - 1]'(by omega)).Y
        · refine .inr ⟨.inl false, ?_, .inr ⟨rfl, k, hk, fun hg => ?_⟩⟩
          · unfold raddleref37_side_l1
            simp only [if_true, if_false, Option.bind_some, Bool.not_true, Bool.not_false, Bool.false_eq_true, hkk, hx, (col_eq _).2, hcb, hy0, hy1, hd, hp, hy, decide_true, decide_false]
          · have := (hg hk).2.2 hk h0; omega
        · refine .inl ⟨?_, fun j hj => ?_⟩
          · unfold raddleref37_side_l1
            simp only [if_true, if_false, Option.bind_some, Bool.not_true, Bool.not_false, Bool.false_eq_true, hkk, hx, (col_eq _).2, hcb, hy0, hy1, hd, hp, hy, decide_false, hsucc]
          · by_cases e : j = k
            · subst e; exact fun _ => ⟨hc, ⟨by omega, by omega⟩, fun _ _ => by omega⟩
            · exact hI j (by omega)
      · obtain rfl : k = 0 := by omega
        refine .inl ⟨?_, fun j hj => ?_⟩
        · unfold raddleref37_side_l1
          simp only [if_true, if_false, Option.bind_some, Bool.not_true, Bool.not_false, Bool.false_eq_true, hkk, hx, (col_eq _).2, hcb, hy0, hy1, decide_false, hsucc, show decide ((0 : Int) < ((0 : Nat) : Int)) = false from rfl]
        · obtain rfl : j = 0 := by omega
          exact fun _ => ⟨hc, ⟨by omega, by omega⟩, fun _ h => absurd h (by omega)⟩
    · have hcb : (decide (-500 ≤ l[k].X) && decide (l[k].X ≤ 500)) = false := by simpa using hc
      refine .inr ⟨.inl false, ?_, .inr ⟨rfl, k, hk, fun hg => hc (hg hk).1⟩⟩
      unfold raddleref37_side_l1
      simp only [if_true, if_false, Option.bind_some, Bool.not_true, Bool.not_false, Bool.false_eq_true, hkk, hx, (col_eq _).2, hcb]
  · intro hI
    refine ⟨.inr (), ?_, .inl ⟨rfl, hI⟩⟩
    unfold raddleref37_side_l1
    simp
/-- numbers that grow lie between the first and the last -/
theorem up_le {l : List api_Point} (h : ∀ k, k < l.length → up l k) : ∀ (k j : Nat) (hk : k < l.length) (hj : j ≤ k), (l[j]'(by omega)).Y ≤ l[k].Y := by
  intro k
  induction k with
  | zero =>
    intro j hk hj
    obtain rfl : j = 0 := by omega
    exact Int.le_refl _
  | succ k ih =>
    intro j hk hj
    by_cases e : j = k + 1
    · subst e; exact Int.le_refl _
    · have h1 := ih j (by omega) (by omega)
      have h2 := h (k + 1) hk hk (by omega)
      simp only [Nat.add_sub_cancel] at h2
      omega
theorem side_eq (l : List api_Point) (hl : l.length ≤ 1000) : ∃ b, F_piece_side l = some b ∧ F_raddleref37_side l = some b ∧ (b = true → 0 < l.length ∧ l.length ≤ 50 ∧ ∀ k, k < l.length → good2 l k) := by
  unfold F_piece_side F_raddleref37_side
  by_cases h0 : l.length = 0
  · refine ⟨false, ?_, ?_, by simp⟩
    · have : ((l.length : Int) == 0) = true := by simp [h0]
      simp only [this, if_true, Option.bind_some]
    · have : decide ((l.length : Int) < 1) = true := by simp; omega
      simp only [this, if_true, Option.bind_some]
  have e0 : ((l.length : Int) == 0) = false := by simp; intro h; exact h0 (by simp [h])
  have e1 : decide ((l.length : Int) < 1) = false := by simp; omega
  by_cases h1 : 50 < l.length
  · have e2 : decide ((50 : Int) < (l.length : Int)) = true := by simp; omega
    exact ⟨false, by simp only [e0, e2, if_true, if_false, Bool.false_eq_true, Option.bind_some], by simp only [e1, e2, if_true, if_false, Bool.false_eq_true, Option.bind_some], by simp⟩
  have e2 : decide ((50 : Int) < (l.length : Int)) = false := by simp; omega
  have hx0 : idxO l 0 = some (l[0]'(by omega)) := idxO_of (k := 0) rfl (by omega)
  by_cases h2 : (l[0]'(by omega)).Y = 0
  case neg =>
    have e3 : ((l[0]'(by omega)).Y != 0) = true := by simpa using h2
    exact ⟨false, by simp only [e0, e2, hx0, e3, if_true, if_false, Bool.false_eq_true, Option.bind_some], by simp only [e1, e2, hx0, e3, if_true, if_false, Bool.false_eq_true, Option.bind_some], by simp⟩
  have e3 : ((l[0]'(by omega)).Y != 0) = false := by simpa using h2
  have hxl : idxO l (w64 ((l.length : Int) - 1)) = some (l[l.length - 1]'(by omega)) := idxO_of (by rw [w64_of (by omega) (by omega)]; omega) (by omega)
  obtain ⟨t, t1, t2⟩ := side_loop1 l (by omega)
  obtain ⟨u, u1, u2⟩ := side_loop2 l (by omega)
  by_cases h3 : 100 ≤ (l[l.length - 1]'(by omega)).Y
  · have e4 : decide (100 ≤ (l[l.length - 1]'(by omega)).Y) = true := by simpa using h3
    refine ⟨false, by simp only [e0, e2, hx0, e3, hxl, e4, if_true, if_false, Bool.false_eq_true, Option.bind_some], ?_, by simp⟩
    rcases u2 with ⟨rfl, hg⟩ | ⟨rfl, _⟩
    · have := (hg (l.length - 1) (by omega) (by omega)).2.1; omega
    · simp only [e1, e2, hx0, e3, u1, if_false, Bool.false_eq_true, Option.bind_some]
  · have e4 : decide (100 ≤ (l[l.length - 1]'(by omega)).Y) = false := by simpa using h3
    have hiff : (∀ k, k < l.length → good1 l k) ↔ (∀ k, k < l.length → good2 l k) := by
      constructor
      · intro h k hk _
        have hu : ∀ k, k < l.length → up l k := fun k hk => (h k hk hk).2
        have a := up_le hu k 0 hk (Nat.zero_le _)
        have b := up_le hu (l.length - 1) k (by omega) (by omega)
        exact ⟨(h k hk hk).1, ⟨by omega, by omega⟩, hu k hk⟩
      · exact fun h k hk _ => ⟨(h k hk hk).1, (h k hk hk).2.2⟩
    rcases t2 with ⟨rfl, hg⟩ | ⟨rfl, j, hj, hg⟩
    · rcases u2 with ⟨rfl, _⟩ | ⟨rfl, j, hj, hn⟩
      · exact ⟨true, by simp only [e0, e2, hx0, e3, hxl, e4, t1, if_false, Bool.false_eq_true, Option.bind_some], by simp only [e1, e2, hx0, e3, u1, if_false, Bool.false_eq_true, Option.bind_some], fun _ => ⟨by omega, by omega, hiff.1 hg⟩⟩
      · exact absurd (hiff.1 hg j hj) hn
    · rcases u2 with ⟨rfl, hn⟩ | ⟨rfl, _⟩
      · exact absurd (hiff.2 hn j hj) hg
      · exact ⟨false, by simp only [e0, e2, hx0, e3, hxl, e4, t1, if_false, Bool.false_eq_true, Option.bind_some], by simp only [e1, e2, hx0, e3, u1, if_false, Bool.false_eq_true, Option.bind_some], by simp⟩
theorem shape_eq (s : api_Shape) (h1 : s.Left.length ≤ 1000) (h2 : s.Right.length ≤ 1000) : ∃ e, F_piece_shape s = some e ∧ F_raddleref37_Shape s = some e ∧ (e = 0 ∨ e = 8) ∧
    (e = 0 → (0 < s.Left.length ∧ s.Left.length ≤ 50 ∧ ∀ k, k < s.Left.length → good2 s.Left k) ∧ (0 < s.Right.length ∧ s.Right.length ≤ 50 ∧ ∀ k, k < s.Right.length → good2 s.Right k)) := by
  obtain ⟨a, a1, a2, a3⟩ := side_eq s.Left h1
  obtain ⟨b, b1, b2, b3⟩ := side_eq s.Right h2
  unfold F_piece_shape F_raddleref37_Shape
  rw [a1, a2, b1, b2]
  cases a with
  | false => exact ⟨8, rfl, rfl, .inr rfl, fun h => by cases h⟩
  | true =>
    cases b with
    | false => exact ⟨8, rfl, rfl, .inr rfl, fun h => by cases h⟩
    | true =>
      have c1 := a3 rfl
      have c2 := b3 rfl
      have x1 : idxO s.Left (w64 ((s.Left.length : Int) - 1)) = some (s.Left[s.Left.length - 1]'(by omega)) := idxO_of (by rw [w64_of (by omega) (by omega)]; omega) (by omega)
      have x2 : idxO s.Right (w64 ((s.Right.length : Int) - 1)) = some (s.Right[s.Right.length - 1]'(by omega)) := idxO_of (by rw [w64_of (by omega) (by omega)]; omega) (by omega)
      simp only [Option.bind_some, Bool.not_true, Bool.false_eq_true, if_false, x1, x2]
      cases ((s.Left[s.Left.length - 1]'(by omega)).Y != (s.Right[s.Right.length - 1]'(by omega)).Y)
      · exact ⟨0, rfl, rfl, .inl rfl, fun _ => ⟨c1, c2⟩⟩
      · exact ⟨8, rfl, rfl, .inr rfl, fun h => by cases h⟩

/-- P37.1 -/
def col (x : Int) : Bool := decide (-500 ≤ x) && decide (x ≤ 500)
def pokAt (p : api_Piece) (k : Nat) : Bool := col (p.Left.getD k 0) && (col (p.Right.getD k 0) && (decide (p.Left.getD k 0 < p.Right.getD k 0) && decide (p.Right.getD k 0 - p.Left.getD k 0 ≤ 200)))
def pok (p : api_Piece) : Bool := decide (p.Left.length = p.Right.length) && (decide (1 ≤ p.Left.length) && (decide (p.Left.length ≤ 100) && (List.range p.Left.length).all (pokAt p)))
theorem col_spec {x : Int} : col x = true ↔ -500 ≤ x ∧ x ≤ 500 := by simp [col]
theorem check_eq (p : api_Piece) (h1 : p.Left.length ≤ 1000000) (h2 : p.Right.length ≤ 1000000) : F_piece_Check p = some (if pok p = true then 0 else 8) ∧ F_raddleref37_Check p = some (if pok p = true then 0 else 8) := by
  unfold F_piece_Check F_raddleref37_Check
  by_cases e1 : p.Left.length = p.Right.length
  case neg =>
    have hb : ((p.Left.length : Int) != (p.Right.length : Int)) = true := nT (by omega)
    have hp : pok p = false := by simp [pok, e1]
    simp [hb, hp]
  have hb : ((p.Left.length : Int) != (p.Right.length : Int)) = false := nF (by omega)
  by_cases e2 : 1 ≤ p.Left.length
  case neg =>
    have hc : ((p.Left.length : Int) == 0) = true := bT (by omega)
    have hd : decide ((p.Left.length : Int) < 1) = true := dT (by omega)
    have hp : pok p = false := by simp [pok, e2]
    simp [hb, hc, hd, hp]
  have hc : ((p.Left.length : Int) == 0) = false := bF (by omega)
  have hd : decide ((p.Left.length : Int) < 1) = false := dF (by omega)
  by_cases e3 : p.Left.length ≤ 100
  case neg =>
    have he : decide (100 < (p.Left.length : Int)) = true := dT (by omega)
    have hp : pok p = false := by simp [pok, e3]
    simp [hb, hc, hd, he, hp]
  have he : decide (100 < (p.Left.length : Int)) = false := dF (by omega)
  have hp : pok p = (List.range p.Left.length).all (pokAt p) := by simp only [pok, e1, e2, e3, decide_true, Bool.true_and]; rw [← e1]; simp [e2, e3]
  have hl1 : whileO (piece_Check_l1 p) 0 = some (if (List.range p.Left.length).all (pokAt p) = true then .inr () else .inl 8) := by
    refine loop_all _ _ _ _ (fun k hk => ?_) ?_
    · have hx := idxO_D (0 : Int) hk
      have hy := idxO_D (0 : Int) (show k < p.Right.length by omega)
      have hs : w64 ((k : Int) + 1) = ((k + 1 : Nat) : Int) := w64_succ (by omega)
      have hk' : decide ((k : Int) < (p.Left.length : Int)) = true := dT (by omega)
      unfold piece_Check_l1 pokAt
      simp only [hk', if_true, hx, hy, hs, Option.bind_some, (col_eq _).1, ← col.eq_1]
      generalize p.Left.getD k 0 = x
      generalize p.Right.getD k 0 = y
      cases hcx : col x with
      | false => simp
      | true =>
        cases hcy : col y with
        | false => simp
        | true =>
          rw [col_spec] at hcx hcy
          have hw : w64 (y - x) = y - x := w64_of (by omega) (by omega)
          by_cases g1 : x < y
          · by_cases g2 : y - x ≤ 200
            · simp [g1, g2, hw, show ¬ y ≤ x by omega, show ¬ 200 < y - x by omega]
            · simp [g1, g2, hw, show ¬ y ≤ x by omega, show 200 < y - x by omega]
          · simp [g1, hw, show y ≤ x by omega]
    · unfold piece_Check_l1; simp
  have hl2 : whileO (raddleref37_Check_l1 p) 0 = some (if (List.range p.Left.length).all (pokAt p) = true then .inr () else .inl 8) := by
    refine loop_all _ _ _ _ (fun k hk => ?_) ?_
    · have hx := idxO_D (0 : Int) hk
      have hy := idxO_D (0 : Int) (show k < p.Right.length by omega)
      have hs : w64 ((k : Int) + 1) = ((k + 1 : Nat) : Int) := w64_succ (by omega)
      have hk' : decide ((k : Int) < (p.Left.length : Int)) = true := dT (by omega)
      unfold raddleref37_Check_l1 pokAt
      simp only [hk', if_true, hx, hy, hs, Option.bind_some, (col_eq _).2, ← col.eq_1]
      generalize p.Left.getD k 0 = x
      generalize p.Right.getD k 0 = y
      cases hcx : col x with
      | false => simp
      | true =>
        cases hcy : col y with
        | false => simp
        | true =>
          rw [col_spec] at hcx hcy
          have hw : w64 (y - x) = y - x := w64_of (by omega) (by omega)
          by_cases g1 : x < y
          · by_cases g2 : y - x ≤ 200
            · simp [g1, g2, hw, show ¬ y ≤ x by omega, show ¬ 200 < y - x by omega]
            · simp [g1, g2, hw, show ¬ y ≤ x by omega, show 200 < y - x by omega]
          · simp [g1, hw, show y ≤ x by omega]
    · unfold raddleref37_Check_l1; simp
  rw [hl1, hl2, ← hp]
  cases pok p <;> simp [hb, hc, hd, he]
/-- P36.1: a number of a line -/
def lin (a b n i : Int) : Int := a + (2 * (b - a) * i + n) / (2 * n)
theorem down_eq {p q : Int} (h0 : 0 < q) (h1 : q ≤ 1000000) (h2 : -1000000000 ≤ p) (h3 : p ≤ 1000000000) : F_raddleref36_down p q = some (p / q) := by
  unfold F_raddleref36_down
  have hq : ¬ q = 0 := by omega
  have hm := Int.emod_add_mul_ediv p q
  have hr0 := Int.emod_nonneg p hq
  have hr1 := Int.emod_lt_of_pos p h0
  simp only [quoI, hq, if_false, Option.bind_some]
  by_cases hp : 0 ≤ p
  · rw [Int.tdiv_eq_ediv_of_nonneg hp]
    have b0 : 0 ≤ p / q := Int.ediv_nonneg hp (by omega)
    have b1 : p / q ≤ p := Int.ediv_le_self _ hp
    have hz : w64 (p / q) = p / q := w64_of (by omega) (by omega)
    have : ¬ p < 0 := by omega
    simp [this, hz]
  · have b1 : p / q < 0 := Int.ediv_neg_of_neg_of_pos (by omega) h0
    have b0 : p - q ≤ q * (p / q) := by omega
    have b2 : p - q ≤ p / q := by
      have := Int.mul_nonneg (show (0 : Int) ≤ q - 1 by omega) (show 0 ≤ -(p / q) by omega)
      rw [Int.sub_mul, Int.one_mul, Int.mul_neg] at this
      omega
    have hp' : p < 0 := by omega
    rw [Int.tdiv_eq_ediv]
    by_cases hd : q ∣ p
    · have hc : (0 ≤ p ∨ q ∣ p) := .inr hd
      simp only [hc, if_true, Int.add_zero]
      have e := Int.ediv_mul_cancel hd
      have hz : w64 (p / q) = p / q := w64_of (by omega) (by omega)
      have hz2 : w64 p = p := w64_of (by omega) (by omega)
      simp [hp', hz, e, hz2]
    · have hc : ¬ (0 ≤ p ∨ q ∣ p) := by
        rintro (h | h)
        · omega
        · exact hd h
      have hs : q.sign = 1 := Int.sign_eq_one_of_pos h0
      simp only [hc, if_false, hs]
      have hne : (p / q + 1) * q ≠ p := fun h => hd ⟨p / q + 1, by rw [Int.mul_comm]; exact h.symm⟩
      have e1 : w64 (p / q + 1) = p / q + 1 := w64_of (by omega) (by omega)
      have hb : (p / q + 1) * q = q * (p / q) + q := by rw [Int.add_mul, Int.one_mul, Int.mul_comm]
      have e2 : w64 ((p / q + 1) * q) = (p / q + 1) * q := by
        rw [hb]
        exact w64_of (by omega) (by omega)
      have e3 : w64 (p / q + 1 - 1) = p / q := by rw [w64_of (by omega) (by omega)]; omega
      simp only [e1, e2, e3, dT hp', if_true, Option.bind_some, nT hne]
theorem swithin_eq (x a b : Int) : F_slope_within x a b = some (decide (a ≤ x) && decide (x ≤ b)) := by
  unfold F_slope_within
  by_cases h : a ≤ x <;> simp [h]
theorem rin_eq (x : Int) : F_raddleref36_in x = some (decide (-1000 ≤ x) && decide (x ≤ 1000)) := by
  unfold F_raddleref36_in
  by_cases h : -1000 ≤ x <;> simp [h]
theorem at_eq {a b n i : Int} (a0 : -500 ≤ a) (a1 : a ≤ 500) (b0 : -500 ≤ b) (b1 : b ≤ 500) (n0 : 1 ≤ n) (n1 : n ≤ 100) (i0 : 0 ≤ i) (i1 : i ≤ n) :
    F_slope_at a b n i = some (lin a b n i) ∧ F_raddleref36_down (w64 ((w64 ((w64 (2 * (w64 (b - a)))) * i)) + n)) (w64 (2 * n)) = some (lin a b n i - a) ∧ -100000000 ≤ lin a b n i ∧ lin a b n i ≤ 100000000 := by
  have e1 : w64 (b - a) = b - a := w64_of (by omega) (by omega)
  have e2 : w64 (2 * (b - a)) = 2 * (b - a) := w64_of (by omega) (by omega)
  have e3 : w64 (2 * n) = 2 * n := w64_of (by omega) (by omega)
  have m1 := mul_bd (u := a + 1000) (v := n - i) (a := 1500) (b := 100) (by omega) (by omega) (by omega) (by omega)
  have m2 := mul_bd (u := b + 1000) (v := i) (a := 1500) (b := 100) (by omega) (by omega) (by omega) (by omega)
  have m3 := mul_bd (u := 2 * (b - a) + 2000) (v := i) (a := 4000) (b := 100) (by omega) (by omega) (by omega) (by omega)
  have m4 : (2 * (b - a) + 2000) * i = 2 * (b - a) * i + 2000 * i := Int.add_mul _ _ _
  have m5 := mul_bd (u := n) (v := a + 1000) (a := 100) (b := 1500) (by omega) (by omega) (by omega) (by omega)
  have key : 2 * ((a + 1000) * (n - i) + (b + 1000) * i) + n = (2 * (b - a) * i + n) + 2 * n * (a + 1000) := by
    have k1 : (a + 1000) * (n - i) = n * (a + 1000) - (a * i + 1000 * i) := by rw [Int.mul_sub, Int.mul_comm (a + 1000) n, Int.add_mul]
    have k2 : (b + 1000) * i = b * i + 1000 * i := Int.add_mul _ _ _
    have k3 : 2 * (b - a) * i = 2 * (b * i) - 2 * (a * i) := by rw [Int.mul_assoc, Int.sub_mul, Int.mul_sub]
    have k4 : 2 * n * (a + 1000) = 2 * (n * (a + 1000)) := Int.mul_assoc _ _ _
    rw [k1, k2, k3, k4]
    omega
  have hn : (2 * n : Int) ≠ 0 := by omega
  have hd := Int.add_mul_ediv_left (2 * (b - a) * i + n) (a + 1000) hn
  rw [← key] at hd
  have hdn := down_eq (p := 2 * (b - a) * i + n) (q := 2 * n) (by omega) (by omega) (by omega) (by omega)
  have f0 : 0 ≤ (2 * ((a + 1000) * (n - i) + (b + 1000) * i) + n) / (2 * n) := Int.ediv_nonneg (by omega) (by omega)
  have f1 : (2 * ((a + 1000) * (n - i) + (b + 1000) * i) + n) / (2 * n) ≤ 2 * ((a + 1000) * (n - i) + (b + 1000) * i) + n := Int.ediv_le_self _ (by omega)
  refine ⟨?_, ?_, ?_⟩
  · unfold F_slope_at lin
    have g1 : w64 (a + 1000) = a + 1000 := w64_of (by omega) (by omega)
    have g2 : w64 (n - i) = n - i := w64_of (by omega) (by omega)
    have g3 : w64 (b + 1000) = b + 1000 := w64_of (by omega) (by omega)
    have g4 : w64 ((a + 1000) * (n - i)) = (a + 1000) * (n - i) := w64_of (by omega) (by omega)
    have g5 : w64 ((b + 1000) * i) = (b + 1000) * i := w64_of (by omega) (by omega)
    have g6 : w64 ((a + 1000) * (n - i) + (b + 1000) * i) = (a + 1000) * (n - i) + (b + 1000) * i := w64_of (by omega) (by omega)
    have g7 : w64 (2 * ((a + 1000) * (n - i) + (b + 1000) * i)) = 2 * ((a + 1000) * (n - i) + (b + 1000) * i) := w64_of (by omega) (by omega)
    have g8 : w64 (2 * ((a + 1000) * (n - i) + (b + 1000) * i) + n) = 2 * ((a + 1000) * (n - i) + (b + 1000) * i) + n := w64_of (by omega) (by omega)
    simp only [g1, g2, g3, g4, g5, g6, g7, g8, e3, quoI, hn, if_false, Option.bind_some]
    have g9 : w64 ((2 * ((a + 1000) * (n - i) + (b + 1000) * i) + n) / (2 * n)) = (2 * ((a + 1000) * (n - i) + (b + 1000) * i) + n) / (2 * n) := w64_of (by omega) (by omega)
    rw [Int.tdiv_eq_ediv_of_nonneg (by omega), g9, w64_of (by omega) (by omega)]
    congr 1
    omega
  · have g1 : w64 (2 * (b - a) * i) = 2 * (b - a) * i := w64_of (by omega) (by omega)
    have g2 : w64 (2 * (b - a) * i + n) = 2 * (b - a) * i + n := w64_of (by omega) (by omega)
    rw [e1, e2, e3, g1, g2, hdn]
    unfold lin
    congr 1
    omega
  · unfold lin
    omega

def lnL (a b n : Int) : List Int := (List.range (n.toNat + 1)).map (fun i : Nat => lin a b n (i : Int))
theorem line_eq {a b n : Int} (a0 : -500 ≤ a) (a1 : a ≤ 500) (b0 : -500 ≤ b) (b1 : b ≤ 500) (n0 : 1 ≤ n) (n1 : n ≤ 100) :
    F_slope_Line_s0 a b n = some (lnL a b n, 0) ∧ F_raddleref36_Line_s0 a b n = some (lnL a b n, 0) := by
  obtain ⟨N, rfl⟩ : ∃ N : Nat, n = N := ⟨n.toNat, by omega⟩
  have hN : ((N : Int)).toNat = N := by omega
  constructor
  · have hc : F_slope_check a b N = some 0 := by
      unfold F_slope_check
      simp [swithin_eq, show -1000 ≤ a by omega, show a ≤ 1000 by omega, show -1000 ≤ b by omega, show b ≤ 1000 by omega, show (1 : Int) ≤ N by omega, show (N : Int) ≤ 1000 by omega]
    have hl : whileO (slope_list_int__s1_l1 (((N + 1 : Nat) : Int)) a b N) (List.replicate (N + 1) 0, 0) = some (lnL a b N) := by
      refine loop_set (N + 1) (fun i : Nat => lin a b N (i : Int)) (0 : Int) (fun k s hk hs => ?_) ?_
      · unfold slope_list_int__s1_l1 F_slope_Line_1_s0
        simp only [dT (show (k : Int) < ((N + 1 : Nat) : Int) by omega), if_true, (at_eq a0 a1 b0 b1 n0 n1 (show (0 : Int) ≤ k by omega) (show (k : Int) ≤ N by omega)).1, Option.bind_some, idxO_nat (show k < s.length by omega), setO_nat (show k < s.length by omega), w64_succ (show k < 9223372036854775807 by omega)]
      · unfold slope_list_int__s1_l1 lnL
        rw [hN]
        simp
    have hm : makeO (((N + 1 : Nat) : Int)) (0 : Int) = some (List.replicate (N + 1) 0) := makeO_of rfl (by omega)
    unfold F_slope_Line_s0 F_slope_list_int__s1
    rw [hc]
    simp only [Option.bind_some, w64_succ (show N < 9223372036854775807 by omega), hm, hl, nF (rfl : (0 : Int) = 0), Bool.false_eq_true, if_false]
  · have hl : whileO (raddleref36_Line_s0_l1 N b a) (([] : List Int), 0) = some (lnL a b N) := by
      refine loop_map (N + 1) (fun i : Nat => lin a b N (i : Int)) (fun k s hk hs => ?_) ?_
      · have ha := at_eq a0 a1 b0 b1 n0 n1 (show (0 : Int) ≤ k by omega) (show (k : Int) ≤ N by omega)
        have hs' : s.length = k := by rw [hs]; simp
        have e : w64 (a + (lin a b N k - a)) = lin a b N k := by rw [w64_of (by omega) (by omega)]; omega
        unfold raddleref36_Line_s0_l1
        simp only [dT (show (k : Int) ≤ N by omega), if_true, ha.2.1, Option.bind_some, e, appO_of (show s.length + [lin a b N k].length ≤ 68719476736 by simp; omega), w64_succ (show k < 9223372036854775807 by omega)]
      · unfold raddleref36_Line_s0_l1 lnL
        simp only [hN, dF (show ¬ ((N + 1 : Nat) : Int) ≤ N by omega), Bool.false_eq_true, if_false]
    unfold F_raddleref36_Line_s0
    rw [hl]
    simp [rin_eq, show -1000 ≤ a by omega, show a ≤ 1000 by omega, show -1000 ≤ b by omega, show b ≤ 1000 by omega, show ¬ (N : Int) < 1 by omega, show ¬ 1000 < (N : Int) by omega]
def pz : api_Point := ⟨0, 0⟩
def seg (l : List api_Point) (k : Nat) : List Int := (lnL (l.getD k pz).X (l.getD (k + 1) pz).X ((l.getD (k + 1) pz).Y - (l.getD k pz).Y)).drop 1
def colsTo (l : List api_Point) (k : Nat) : List Int := (List.range k).foldl (fun acc k => acc ++ seg l k) [(l.getD 0 pz).X]
theorem colsTo_succ (l : List api_Point) (k : Nat) : colsTo l (k + 1) = colsTo l k ++ seg l k := by
  unfold colsTo; rw [List.range_succ, List.foldl_append]; rfl
theorem step_ok {l : List api_Point} (hg : ∀ k, k < l.length → good2 l k) {k : Nat} (hk : k + 1 < l.length) :
    -500 ≤ (l.getD k pz).X ∧ (l.getD k pz).X ≤ 500 ∧ -500 ≤ (l.getD (k + 1) pz).X ∧ (l.getD (k + 1) pz).X ≤ 500 ∧ 1 ≤ (l.getD (k + 1) pz).Y - (l.getD k pz).Y ∧ (l.getD (k + 1) pz).Y - (l.getD k pz).Y ≤ 100 ∧
    0 ≤ (l.getD k pz).Y ∧ (l.getD k pz).Y ≤ 99 ∧ (l.getD (k + 1) pz).Y ≤ 99 := by
  have h1 := hg k (by omega) (by omega)
  have h2 := hg (k + 1) hk hk
  have h3 := h2.2.2 hk (by omega)
  have e1 : l.getD k pz = l[k]'(by omega) := by simp [show k < l.length by omega]
  have e2 : l.getD (k + 1) pz = l[k + 1]'hk := by simp [hk]
  simp only [Nat.add_sub_cancel] at h3
  rw [e1, e2]
  omega
theorem seg_len {l : List api_Point} (hg : ∀ k, k < l.length → good2 l k) {k : Nat} (hk : k + 1 < l.length) : (seg l k).length ≤ 100 := by
  have := step_ok hg hk
  unfold seg lnL
  simp only [List.length_drop, List.length_map, List.length_range]
  omega
theorem colsTo_len {l : List api_Point} (hg : ∀ k, k < l.length → good2 l k) : ∀ {k : Nat}, k < l.length → (colsTo l k).length ≤ 1 + 100 * k := by
  intro k
  induction k with
  | zero => intro _; simp [colsTo]
  | succ k ih =>
    intro hk
    have h1 := ih (by omega)
    have h2 := seg_len hg hk
    rw [colsTo_succ, List.length_append]
    omega
theorem columns_eq (l : List api_Point) (h0 : 0 < l.length) (h1 : l.length ≤ 50) (hg : ∀ k, k < l.length → good2 l k) :
    F_piece_columns_s0 l = some (colsTo l (l.length - 1)) ∧ F_raddleref37_columns_s0 l = some (colsTo l (l.length - 1)) := by
  have hx0 : idxO l 0 = some (l.getD 0 pz) := idxO_D (k := 0) pz h0
  have hsl : sliceO l 1 (l.length : Int) = some (l.drop 1) := sliceO_all (k := 1) h0
  have hL : ∀ k, k + 1 < l.length → ∀ s : List Int, s.length ≤ 1 + 100 * k → Option.bind (sliceO (lnL (l.getD k pz).X (l.getD (k + 1) pz).X ((l.getD (k + 1) pz).Y - (l.getD k pz).Y)) 1 ((lnL (l.getD k pz).X (l.getD (k + 1) pz).X ((l.getD (k + 1) pz).Y - (l.getD k pz).Y)).length : Int)) (fun y => appO s y) = some (s ++ seg l k) := by
    intro k hk s hs
    have := seg_len hg hk
    have e : sliceO (lnL (l.getD k pz).X (l.getD (k + 1) pz).X ((l.getD (k + 1) pz).Y - (l.getD k pz).Y)) 1 ((lnL (l.getD k pz).X (l.getD (k + 1) pz).X ((l.getD (k + 1) pz).Y - (l.getD k pz).Y)).length : Int) = some (seg l k) := sliceO_all (k := 1) (by unfold lnL; simp)
    rw [e, Option.bind_some, appO_of (by omega)]
  constructor
  · unfold F_piece_columns_s0
    have hw : whileO (piece_columns_s0_l1 (l.drop 1) l) ([(l.getD 0 pz).X], 0) = some (colsTo l (l.length - 1)) := by
      refine loop_fold (l.length - 1) (fun acc k => acc ++ seg l k) _ (fun k s hk hs => ?_) ?_
      · have hk1 : k + 1 < l.length := by omega
        have hst := step_ok hg hk1
        have hy := idxO_D (xs := l.drop 1) (k := k) pz (by simp; omega)
        rw [getD_drop] at hy
        have hs' : s.length ≤ 1 + 100 * k := by rw [hs]; exact colsTo_len hg (by omega)
        have hw : w64 ((l.getD (k + 1) pz).Y - (l.getD k pz).Y) = (l.getD (k + 1) pz).Y - (l.getD k pz).Y := w64_of (by omega) (by omega)
        have hln := (line_eq hst.1 hst.2.1 hst.2.2.1 hst.2.2.2.1 hst.2.2.2.2.1 hst.2.2.2.2.2.1).1
        have hf := hL k hk1 s hs'
        unfold piece_columns_s0_l1
        simp only [dT (show (k : Int) < ((l.drop 1).length : Int) by simp; omega), if_true, hy, idxO_D pz (show k < l.length by omega), Option.bind_some, hw, hln]
        rw [← Option.bind_assoc, hf]
        simp only [Option.bind_some, w64_succ (show k < 9223372036854775807 by omega)]
      · unfold piece_columns_s0_l1 colsTo
        have : decide (((l.length - 1 : Nat) : Int) < ((l.drop 1).length : Int)) = false := dF (by simp)
        simp only [this, Bool.false_eq_true, if_false]
    simp only [hx0, Option.bind_some, hsl, hw]
  · unfold F_raddleref37_columns_s0
    have hw : ∃ t, whileO (raddleref37_columns_s0_l1 l) ([(l.getD 0 pz).X], ((1 : Nat) : Int)) = some t ∧ t = colsTo l (l.length - 1) := by
      refine loop_fr 1 l.length h0 (fun k s => s = colsTo l (k - 1)) _ rfl ?_ ?_
      · rintro k s hk1 hk rfl
        obtain ⟨j, rfl⟩ : ∃ j, k = j + 1 := ⟨k - 1, by omega⟩
        have hst := step_ok hg hk
        have hs' := colsTo_len hg (show j < l.length by omega)
        have hy : idxO l (w64 (((j + 1 : Nat) : Int) - 1)) = some (l.getD j pz) := by
          rw [w64_of (by omega) (by omega), show ((j + 1 : Nat) : Int) - 1 = (j : Int) by omega]
          exact idxO_D pz (by omega)
        have hw : w64 ((l.getD (j + 1) pz).Y - (l.getD j pz).Y) = (l.getD (j + 1) pz).Y - (l.getD j pz).Y := w64_of (by omega) (by omega)
        have hln := (line_eq hst.1 hst.2.1 hst.2.2.1 hst.2.2.2.1 hst.2.2.2.2.1 hst.2.2.2.2.2.1).2
        have hf := hL j hk _ hs'
        refine .inl ⟨colsTo l (j + 1), ?_, rfl⟩
        unfold raddleref37_columns_s0_l1
        simp only [Nat.add_sub_cancel, dT (show ((j + 1 : Nat) : Int) < (l.length : Int) by omega), if_true, hy, idxO_D pz hk, Option.bind_some, hw, hln]
        rw [← Option.bind_assoc, hf]
        simp only [Option.bind_some, w64_succ (show j + 1 < 9223372036854775807 by omega), colsTo_succ]
      · rintro s rfl
        refine ⟨_, ?_, rfl⟩
        unfold raddleref37_columns_s0_l1
        simp
    obtain ⟨t, t1, rfl⟩ := hw
    have t1 : whileO (raddleref37_columns_s0_l1 l) ([(l.getD 0 pz).X], 1) = some (colsTo l (l.length - 1)) := t1
    simp only [hx0, Option.bind_some, t1]
theorem make_eq (s : api_Shape) (h1 : s.Left.length ≤ 1000) (h2 : s.Right.length ≤ 1000) :
    ∃ x : api_Piece × Int, F_piece_Make_s0 s = some x ∧ F_raddleref37_Make_s0 s = some x ∧ x.1.Left.length ≤ 1000000 ∧ x.1.Right.length ≤ 1000000 := by
  obtain ⟨e, e1, e2, e3, e4⟩ := shape_eq s h1 h2
  unfold F_piece_Make_s0 F_raddleref37_Make_s0
  rw [e1, e2]
  rcases e3 with rfl | rfl
  · obtain ⟨⟨l0, l1, lg⟩, ⟨r0, r1, rg⟩⟩ := e4 rfl
    have hl := columns_eq s.Left l0 l1 lg
    have hr := columns_eq s.Right r0 r1 rg
    have nl := colsTo_len lg (show s.Left.length - 1 < s.Left.length by omega)
    have nr := colsTo_len rg (show s.Right.length - 1 < s.Right.length by omega)
    have hc := check_eq (api_Piece.mk (colsTo s.Left (s.Left.length - 1)) (colsTo s.Right (s.Right.length - 1))) (by show (colsTo _ _).length ≤ _; omega) (by show (colsTo _ _).length ≤ _; omega)
    simp only [Option.bind_some, nF (rfl : (0 : Int) = 0), Bool.false_eq_true, if_false, hl.1, hl.2, hr.1, hr.2, hc.1, hc.2]
    generalize colsTo s.Left (s.Left.length - 1) = cl at *
    generalize colsTo s.Right (s.Right.length - 1) = cr at *
    cases pok (api_Piece.mk cl cr)
    · exact ⟨_, rfl, rfl, by simp, by simp⟩
    · exact ⟨_, rfl, rfl, by show cl.length ≤ _; omega, by show cr.length ≤ _; omega⟩
  · exact ⟨_, rfl, rfl, by simp, by simp⟩
theorem pok_len {p : api_Piece} (h : pok p = true) : p.Left.length = p.Right.length ∧ p.Left.length ≤ 100 := by
  simp only [pok, Bool.and_eq_true, decide_eq_true_eq] at h
  exact ⟨h.1, h.2.2.1⟩
theorem changes_eq (p : api_Piece) (h1 : p.Left.length ≤ 1000000) (h2 : p.Right.length ≤ 1000000) :
    ∃ x : (List (Int × Int)) × Int, F_piece_Changes_s0 p = some x ∧ F_raddleref37_Changes_s0 p = some x ∧ x.1.length ≤ 1000 := by
  obtain ⟨c1, c2⟩ := check_eq p h1 h2
  unfold F_piece_Changes_s0 F_raddleref37_Changes_s0
  rw [c1, c2]
  cases hp : pok p with
  | false => exact ⟨_, rfl, rfl, by simp⟩
  | true =>
    obtain ⟨n1, n2⟩ := pok_len hp
    have hc : capO (p.Left.length : Int) = some () := capO_of rfl (by omega)
    have hw : ∃ t, whileO (piece_Changes_s0_l1 p) (([] : List (Int × Int)), ((1 : Nat) : Int)) = some t ∧ t.length ≤ 1000 := by
      have h0 : 1 ≤ p.Left.length := by
        simp only [pok, Bool.and_eq_true, decide_eq_true_eq] at hp
        exact hp.2.1
      refine loop_fr 1 p.Left.length h0 (fun k s => s.length + 1 = k) _ rfl ?_ ?_
      · rintro k s hk1 hk hs
        obtain ⟨j, rfl⟩ : ∃ j, k = j + 1 := ⟨k - 1, by omega⟩
        have hj : w64 (((j + 1 : Nat) : Int) - 1) = (j : Int) := by rw [w64_of (by omega) (by omega)]; omega
        refine .inl ⟨s ++ [(w64 (p.Left.getD (j + 1) 0 - p.Left.getD j 0), w64 (p.Right.getD (j + 1) 0 - p.Right.getD j 0))], ?_, by simp; omega⟩
        unfold piece_Changes_s0_l1
        simp only [dT (show ((j + 1 : Nat) : Int) < (p.Left.length : Int) by omega), if_true, hj, idxO_D (0 : Int) hk, idxO_D (0 : Int) (show j < p.Left.length by omega), idxO_D (0 : Int) (show j + 1 < p.Right.length by omega), idxO_D (0 : Int) (show j < p.Right.length by omega), Option.bind_some]
        rw [appO_of (by simp; omega)]
        simp only [Option.bind_some, w64_succ (show j + 1 < 9223372036854775807 by omega)]
      · intro s hs
        refine ⟨s, ?_, by omega⟩
        unfold piece_Changes_s0_l1
        simp
    obtain ⟨t, t1, t2⟩ := hw
    have t1 : whileO (piece_Changes_s0_l1 p) (([] : List (Int × Int)), 1) = some t := t1
    have hrf : raddleref37_Changes_s0_l1 p = piece_Changes_s0_l1 p := rfl
    simp only [Option.bind_some, if_true, nF (rfl : (0 : Int) = 0), Bool.false_eq_true, if_false, hc, hrf, t1]
    exact ⟨_, rfl, rfl, t2⟩
def mirL (p : api_Piece) (k : Nat) : Int := w64 (0 - p.Right.getD k 0)
def mirR (p : api_Piece) (k : Nat) : Int := w64 (0 - p.Left.getD k 0)
theorem mirror_eq (p : api_Piece) (h1 : p.Left.length ≤ 1000000) (h2 : p.Right.length ≤ 1000000) :
    ∃ x : api_Piece × Int, F_piece_Mirror_s0 p = some x ∧ F_raddleref37_Mirror_s0 p = some x ∧ x.1.Left.length ≤ 1000 ∧ x.1.Right.length = x.1.Left.length := by
  obtain ⟨c1, c2⟩ := check_eq p h1 h2
  unfold F_piece_Mirror_s0 F_raddleref37_Mirror_s0
  rw [c1, c2]
  cases hp : pok p with
  | false => exact ⟨_, rfl, rfl, by simp, by simp⟩
  | true =>
    obtain ⟨n1, n2⟩ := pok_len hp
    have hm : makeO (p.Left.length : Int) (0 : Int) = some (List.replicate p.Left.length 0) := makeO_of rfl (by omega)
    have hw : ∃ t, whileO (piece_Mirror_s0_l1 p) (0, List.replicate p.Left.length 0, List.replicate p.Left.length 0) = some t ∧ t = ((List.range p.Left.length).map (mirL p), (List.range p.Left.length).map (mirR p)) := by
      refine loop_ts p.Left.length (fun k s => Fill p.Left.length (mirL p) k s.1 ∧ Fill p.Left.length (mirR p) k s.2) _ ⟨Fill.zero _ _ _, Fill.zero _ _ _⟩ ?_ ?_
      · rintro k ⟨a, b⟩ hk ⟨ha, hb⟩
        dsimp only at ha hb
        refine .inl ⟨(a.set k (mirL p k), b.set k (mirR p k)), ?_, ha.set hk, hb.set hk⟩
        have na := ha.1
        have nb := hb.1
        unfold piece_Mirror_s0_l1
        simp only [dT (show (k : Int) < (p.Left.length : Int) by omega), if_true, idxO_D (0 : Int) hk, idxO_D (0 : Int) (show k < p.Right.length by omega), idxO_nat (show k < a.length by omega), idxO_nat (show k < b.length by omega), setO_nat (show k < a.length by omega), setO_nat (show k < b.length by omega), Option.bind_some, w64_succ (show k < 9223372036854775807 by omega)]
        rfl
      · rintro ⟨a, b⟩ ⟨ha, hb⟩
        dsimp only at ha hb
        refine ⟨(a, b), ?_, by rw [ha.all, hb.all]⟩
        unfold piece_Mirror_s0_l1
        simp
    have hv : ∃ t, whileO (raddleref37_Mirror_s0_l1 p) (0, ([] : List Int), ([] : List Int)) = some t ∧ t = ((List.range p.Left.length).map (mirL p), (List.range p.Left.length).map (mirR p)) := by
      refine loop_ts p.Left.length (fun k s => s.1 = (List.range k).map (mirL p) ∧ s.2 = (List.range k).map (mirR p)) _ ⟨rfl, rfl⟩ ?_ ?_
      · rintro k ⟨a, b⟩ hk ⟨ha, hb⟩
        dsimp only at ha hb
        have na : a.length = k := by rw [ha]; simp
        have nb : b.length = k := by rw [hb]; simp
        refine .inl ⟨(a ++ [mirL p k], b ++ [mirR p k]), ?_, ?_, ?_⟩
        · unfold raddleref37_Mirror_s0_l1
          simp only [dT (show (k : Int) < (p.Left.length : Int) by omega), if_true, idxO_D (0 : Int) hk, idxO_D (0 : Int) (show k < p.Right.length by omega), appO_of (show a.length + [w64 (0 - p.Right.getD k 0)].length ≤ 68719476736 by simp; omega), appO_of (show b.length + [w64 (0 - p.Left.getD k 0)].length ≤ 68719476736 by simp; omega), Option.bind_some, w64_succ (show k < 9223372036854775807 by omega)]
          rfl
        · rw [List.range_succ, List.map_append, ← ha]; rfl
        · rw [List.range_succ, List.map_append, ← hb]; rfl
      · rintro ⟨a, b⟩ ⟨ha, hb⟩
        dsimp only at ha hb
        refine ⟨(a, b), ?_, by rw [ha, hb]⟩
        unfold raddleref37_Mirror_s0_l1
        simp
    obtain ⟨t, t1, rfl⟩ := hw
    obtain ⟨u, u1, rfl⟩ := hv
    simp only [Option.bind_some, if_true, nF (rfl : (0 : Int) = 0), Bool.false_eq_true, if_false, hm, t1, u1]
    exact ⟨_, rfl, rfl, by simp; omega, by simp⟩
theorem same_self (l : List Int) (hl : l.length ≤ 1000000) : F_raddleref36_Same l l = some true := by
  have hw : whileO (raddleref36_Same_l1 l l) 0 = some (if (List.range l.length).all (fun _ => true) = true then .inr () else .inl false) := by
    refine loop_all _ _ _ _ (fun k hk => ?_) ?_
    · unfold raddleref36_Same_l1
      simp only [dT (show (k : Int) < (l.length : Int) by omega), if_true, idxO_nat hk, Option.bind_some, bne_self_eq_false, Bool.false_eq_true, if_false, w64_succ (show k < 9223372036854775807 by omega)]
    · unfold raddleref36_Same_l1; simp
  have : (List.range l.length).all (fun _ => true) = true := by simp
  rw [this] at hw
  unfold F_raddleref36_Same
  simp [hw]
theorem samep_self (p : api_Piece) (h1 : p.Left.length ≤ 1000000) (h2 : p.Right.length ≤ 1000000) : F_raddleref37_Same p p = some true := by
  unfold F_raddleref37_Same
  simp [same_self _ h1, same_self _ h2]
theorem great_eq (p : api_Piece) (h1 : p.Left.length ≤ 9223372036854775807) (h2 : p.Right.length ≤ 9223372036854775807) : ∃ b, F_raddleref37_Great p = some b ∧ (b = false → p.Left.length ≤ 1000 ∧ p.Right.length ≤ 1000) := by
  have hw : ∃ t, whileO (raddleref37_Great_l1 p) 0 = some t ∧ (t = .inl true ∨ t = .inr ()) := by
    refine loop_ix (min p.Left.length p.Right.length) (fun _ => True) _ trivial ?_ ?_
    · intro k hk _
      have ha : decide ((k : Int) < (p.Left.length : Int)) = true := dT (by omega)
      have hb : decide ((k : Int) < (p.Right.length : Int)) = true := dT (by omega)
      have hs : w64 ((k : Int) + 1) = ((k + 1 : Nat) : Int) := w64_succ (by omega)
      have hst : raddleref37_Great_l1 p (k : Int) = (if (decide (40 < w64 (p.Right.getD k 0 - p.Left.getD k 0)) && decide (w64 (p.Right.getD k 0 - p.Left.getD k 0) ≤ 200)) = true then some (.inr (.inl true)) else some (.inl ((k + 1 : Nat) : Int))) := by
        unfold raddleref37_Great_l1
        simp only [ha, hb, if_true, Option.bind_some, idxO_D (0 : Int) (show k < p.Left.length by omega), idxO_D (0 : Int) (show k < p.Right.length by omega), hs]
        generalize w64 (p.Right.getD k 0 - p.Left.getD k 0) = d
        by_cases g1 : 40 < d
        · simp [g1]
        · simp [g1]
      rw [hst]
      split
      · exact .inr ⟨_, rfl, .inl rfl⟩
      · exact .inl ⟨rfl, trivial⟩
    · intro _
      refine ⟨.inr (), ?_, .inr rfl⟩
      unfold raddleref37_Great_l1
      by_cases g : p.Left.length ≤ p.Right.length
      · have ha : decide (((min p.Left.length p.Right.length : Nat) : Int) < (p.Left.length : Int)) = false := dF (by omega)
        simp only [ha, Bool.false_eq_true, if_false, Option.bind_some]
      · have ha : decide (((min p.Left.length p.Right.length : Nat) : Int) < (p.Left.length : Int)) = true := dT (by omega)
        have hb : decide (((min p.Left.length p.Right.length : Nat) : Int) < (p.Right.length : Int)) = false := dF (by omega)
        simp only [ha, hb, Bool.false_eq_true, if_true, if_false, Option.bind_some]
  obtain ⟨t, t1, t2⟩ := hw
  unfold F_raddleref37_Great
  rw [t1]
  rcases t2 with rfl | rfl
  · exact ⟨true, rfl, fun h => by cases h⟩
  · simp only [Option.bind_some]
    by_cases g1 : 110 < p.Left.length
    · refine ⟨true, ?_, fun h => by cases h⟩
      simp [show (20 : Int) < (p.Left.length : Int) by omega, show ¬ (p.Left.length : Int) ≤ 100 by omega, show (110 : Int) < (p.Left.length : Int) by omega]
    by_cases g2 : 110 < p.Right.length
    · by_cases g3 : 20 < p.Left.length
      · by_cases g4 : p.Left.length ≤ 100
        · exact ⟨true, by simp [show (20 : Int) < (p.Left.length : Int) by omega, show (p.Left.length : Int) ≤ 100 by omega], fun h => by cases h⟩
        · exact ⟨true, by simp [show (20 : Int) < (p.Left.length : Int) by omega, show ¬ (p.Left.length : Int) ≤ 100 by omega, show ¬ (110 : Int) < (p.Left.length : Int) by omega, show (110 : Int) < (p.Right.length : Int) by omega], fun h => by cases h⟩
      · exact ⟨true, by simp [show ¬ (20 : Int) < (p.Left.length : Int) by omega, show ¬ (110 : Int) < (p.Left.length : Int) by omega, show (110 : Int) < (p.Right.length : Int) by omega], fun h => by cases h⟩
    · by_cases g3 : 20 < p.Left.length
      · by_cases g4 : p.Left.length ≤ 100
        · exact ⟨true, by simp [show (20 : Int) < (p.Left.length : Int) by omega, show (p.Left.length : Int) ≤ 100 by omega], fun h => by cases h⟩
        · exact ⟨false, by simp [show (20 : Int) < (p.Left.length : Int) by omega, show ¬ (p.Left.length : Int) ≤ 100 by omega, show ¬ (110 : Int) < (p.Left.length : Int) by omega, show ¬ (110 : Int) < (p.Right.length : Int) by omega], fun _ => ⟨by omega, by omega⟩⟩
      · exact ⟨false, by simp [show ¬ (20 : Int) < (p.Left.length : Int) by omega, show ¬ (110 : Int) < (p.Left.length : Int) by omega, show ¬ (110 : Int) < (p.Right.length : Int) by omega], fun _ => ⟨by omega, by omega⟩⟩
theorem law_PieceMakes (s : api_Shape) (p : api_Piece) (ws : wf_api_Shape s) (wp : wf_api_Piece p) : F_raddlelaw37_PieceMakes s p = some true := by
  obtain ⟨gb, g1, g2⟩ := great_eq p wp.1.1 wp.2.1
  unfold F_raddlelaw37_PieceMakes
  by_cases a1 : s.Left.length ≤ 55 ∧ s.Right.length ≤ 55
  case neg =>
    have : F_raddleref37_GreatShape s = some true := by
      unfold F_raddleref37_GreatShape
      by_cases a2 : s.Left.length ≤ 55
      · simp [show ¬ (55 : Int) < (s.Left.length : Int) by omega, show (55 : Int) < (s.Right.length : Int) by omega]
      · simp [show (55 : Int) < (s.Left.length : Int) by omega]
    simp [this]
  have hgs : F_raddleref37_GreatShape s = some false := by
    unfold F_raddleref37_GreatShape
    simp [show ¬ (55 : Int) < (s.Left.length : Int) by omega, show ¬ (55 : Int) < (s.Right.length : Int) by omega]
  cases gb with
  | true => simp [hgs, g1]
  | false =>
    obtain ⟨n1, n2⟩ := g2 rfl
    obtain ⟨x, x1, x2, x3, x4⟩ := make_eq s (by omega) (by omega)
    obtain ⟨y, y1, y2, y3⟩ := changes_eq p (by omega) (by omega)
    obtain ⟨z, z1, z2, z3, z4⟩ := mirror_eq p (by omega) (by omega)
    obtain ⟨c1, c2⟩ := check_eq p (by omega) (by omega)
    have ha : appO ([] : List Int) p.Left = some p.Left := by rw [appO_of (by simp; omega)]; rfl
    have hb : appO ([] : List Int) p.Right = some p.Right := by rw [appO_of (by simp; omega)]; rfl
    have hl1 : whileO (raddlelaw37_PieceMakes_l1 y y) 0 = some (if (List.range y.1.length).all (fun _ => true) = true then .inr () else .inl false) := by
      refine loop_all _ _ _ _ (fun k hk => ?_) ?_
      · unfold raddlelaw37_PieceMakes_l1
        simp only [dT (show (k : Int) < (y.1.length : Int) by omega), if_true, idxO_nat hk, Option.bind_some, beq_self_eq_true, Bool.and_self, Bool.not_true, Bool.false_eq_true, if_false, w64_succ (show k < 9223372036854775807 by omega)]
      · unfold raddlelaw37_PieceMakes_l1; simp
    have hl2 : ∃ t, whileO raddlelaw37_PieceMakes_l2 (0, z.1.Left, z.1.Right) = some t ∧ t = () := by
      refine loop_ts z.1.Left.length (fun k s => s.1.length = z.1.Left.length ∧ s.2.length = z.1.Left.length) _ ⟨rfl, z4⟩ ?_ ?_
      · rintro k ⟨a, b⟩ hk ⟨ha, hb⟩
        dsimp only at ha hb
        refine .inl ⟨(a.set k 7, b.set k 7), ?_, by simp [ha], by simp [hb]⟩
        unfold raddlelaw37_PieceMakes_l2
        simp only [dT (show (k : Int) < (a.length : Int) by omega), dT (show (k : Int) < (b.length : Int) by omega), if_true, idxO_nat (show k < a.length by omega), idxO_nat (show k < b.length by omega), setO_nat (show k < a.length by omega), setO_nat (show k < b.length by omega), Option.bind_some, w64_succ (show k < 9223372036854775807 by omega)]
      · rintro ⟨a, b⟩ ⟨ha, hb⟩
        dsimp only at ha hb
        refine ⟨(), ?_, rfl⟩
        unfold raddlelaw37_PieceMakes_l2
        simp only [dF (show ¬ ((z.1.Left.length : Nat) : Int) < (a.length : Int) by omega), Bool.false_eq_true, if_false, Option.bind_some]
    have : (List.range y.1.length).all (fun _ => true) = true := by simp
    rw [this] at hl1
    obtain ⟨_, t1, rfl⟩ := hl2
    simp only [hgs, g1, Bool.false_eq_true, if_false, Option.bind_some, ha, hb, x1, x2, y1, y2, z1, z2, c1, c2, bne_self_eq_false, samep_self _ x3 x4, samep_self z.1 (by omega) (by omega), Bool.not_true, hl1, if_true, t1, same_self _ (show p.Left.length ≤ 1000000 by omega), same_self _ (show p.Right.length ≤ 1000000 by omega)]

end Go.Proofs.Ytmedbnjhgkcndaa
