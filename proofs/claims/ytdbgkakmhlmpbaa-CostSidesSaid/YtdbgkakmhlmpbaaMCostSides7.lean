/- Several texts in one: PlN G14 G15 G19 G20 G21 G4 LCN G7 LCD LCDv FrCostSides -/
import Derived.WalkKit
import Derived.Maps.AppendAt
import Derived.Deep.AppendLies
import Derived.KernelRfl
import Derived.Laws.OwnMore
import Derived.Great.BuildSlice
import Derived.Orders
import Derived.Laws.StructEq
import Derived.ChangeKeysEq
import Derived.Defers
import Derived.Laws.BytesString
import Derived.RangeFuncNested
import Derived.RangeFuncBound
import Derived.RangeFuncCalls
import Derived.RangeFuncLeaves
import Derived.OrdersIn
import Derived.LoopNIn
import Derived.Test.YtdbgkakmhlmpbaaProg
import Derived.ProofKit
import Derived.OpenShut
import Derived.ChangeOld
import Derived.Deep.Slices
import Derived.Lib.SmallJoins
import Derived.JoinedOf
import Derived.JoinedAt
import Derived.Below
import Derived.Test.YtdbgkakmhlmpbaaRows
import Derived.Test.YtdbgkakmhlmpbaaMCostSides6
namespace Go.Proofs.Ytdbgkakmhlmpbaa
open Go.RowKit
set_option linter.unusedVariables false

abbrev C11 := Int × Int × Int × Int × Int × Int × Int × Int × Int × Int × Int
def dot (t v : C11) : Int := t.1 * v.1 + (t.2.1 * v.2.1 + (t.2.2.1 * v.2.2.1 + (t.2.2.2.1 * v.2.2.2.1 + (t.2.2.2.2.1 * v.2.2.2.2.1 + (t.2.2.2.2.2.1 * v.2.2.2.2.2.1 + (t.2.2.2.2.2.2.1 * v.2.2.2.2.2.2.1 + (t.2.2.2.2.2.2.2.1 * v.2.2.2.2.2.2.2.1 + (t.2.2.2.2.2.2.2.2.1 * v.2.2.2.2.2.2.2.2.1 + (t.2.2.2.2.2.2.2.2.2.1 * v.2.2.2.2.2.2.2.2.2.1 + t.2.2.2.2.2.2.2.2.2.2 * v.2.2.2.2.2.2.2.2.2.2)))))))))
def l11 (t : C11) : List Int := [t.1, t.2.1, t.2.2.1, t.2.2.2.1, t.2.2.2.2.1, t.2.2.2.2.2.1, t.2.2.2.2.2.2.1, t.2.2.2.2.2.2.2.1, t.2.2.2.2.2.2.2.2.1, t.2.2.2.2.2.2.2.2.2.1, t.2.2.2.2.2.2.2.2.2.2]
def bd11 (b : Int) (v : C11) : Prop := (0 ≤ v.1 ∧ v.1 ≤ b) ∧ (0 ≤ v.2.1 ∧ v.2.1 ≤ b) ∧ (0 ≤ v.2.2.1 ∧ v.2.2.1 ≤ b) ∧ (0 ≤ v.2.2.2.1 ∧ v.2.2.2.1 ≤ b) ∧ (0 ≤ v.2.2.2.2.1 ∧ v.2.2.2.2.1 ≤ b) ∧ (0 ≤ v.2.2.2.2.2.1 ∧ v.2.2.2.2.2.1 ≤ b) ∧ (0 ≤ v.2.2.2.2.2.2.1 ∧ v.2.2.2.2.2.2.1 ≤ b) ∧ (0 ≤ v.2.2.2.2.2.2.2.1 ∧ v.2.2.2.2.2.2.2.1 ≤ b) ∧ (0 ≤ v.2.2.2.2.2.2.2.2.1 ∧ v.2.2.2.2.2.2.2.2.1 ≤ b) ∧ (0 ≤ v.2.2.2.2.2.2.2.2.2.1 ∧ v.2.2.2.2.2.2.2.2.2.1 ≤ b) ∧ (0 ≤ v.2.2.2.2.2.2.2.2.2.2 ∧ v.2.2.2.2.2.2.2.2.2.2 ≤ b)
/-- what a tuple says of a kind -/
def at11 (t : C11) (k : Int) : Int := if k = 0 then t.1 else if k = 1 then t.2.1 else if k = 2 then t.2.2.1 else if k = 3 then t.2.2.2.1 else if k = 4 then t.2.2.2.2.1 else if k = 5 then t.2.2.2.2.2.1 else if k = 6 then t.2.2.2.2.2.2.1 else if k = 7 then t.2.2.2.2.2.2.2.1 else if k = 8 then t.2.2.2.2.2.2.2.2.1 else if k = 9 then t.2.2.2.2.2.2.2.2.2.1 else t.2.2.2.2.2.2.2.2.2.2
theorem idx11 (t : C11) {k : Int} (h : 0 ≤ k ∧ k ≤ 10) : idxO (l11 t) k = some (at11 t k) := by
  rcases kinds (x := k) (by omega) with h | h | h | h | h | h | h | h | h | h | h | h <;> first | omega | (subst h; rfl)
theorem at11_bd {b : Int} {t : C11} (h : bd11 b t) (k : Int) : 0 ≤ at11 t k ∧ at11 t k ≤ b := by
  obtain ⟨h0, h1, h2, h3, h4, h5, h6, h7, h8, h9, h10⟩ := h
  unfold at11
  repeat' split
  all_goals assumption
/-- two loops side by side -/
theorem loop_two {S S' σ τ τ' : Type} {B : S → Option (S ⊕ τ)} {B' : S' → Option (S' ⊕ τ')} (n : Nat) (st : Nat → σ → S) (st' : Nat → σ → S') (I : Nat → σ → Prop) (Pt : τ → τ' → Prop) {s0 : σ} (h0 : I 0 s0)
    (step : ∀ k s, k < n → I k s → (∃ s', B (st k s) = some (.inl (st (k + 1) s')) ∧ B' (st' k s) = some (.inl (st' (k + 1) s')) ∧ I (k + 1) s') ∨ (∃ t t', B (st k s) = some (.inr t) ∧ B' (st' k s) = some (.inr t') ∧ Pt t t'))
    (last : ∀ s, I n s → ∃ t t', B (st n s) = some (.inr t) ∧ B' (st' n s) = some (.inr t') ∧ Pt t t') : ∃ t t', whileO B (st 0 s0) = some t ∧ whileO B' (st' 0 s0) = some t' ∧ Pt t t' := by
  have key : ∀ j k s, j + k = n → I k s → ∃ t t', whileO B (st k s) = some t ∧ whileO B' (st' k s) = some t' ∧ Pt t t' := by
    intro j
    induction j with
    | zero =>
      intro k s hk hI
      obtain rfl : k = n := by omega
      obtain ⟨t, t', h1, h2, h3⟩ := last s hI
      exact ⟨t, t', whileO_done h1, whileO_done h2, h3⟩
    | succ j ih =>
      intro k s hk hI
      rcases step k s (by omega) hI with ⟨s', h1, h2, h3⟩ | ⟨t, t', h1, h2, h3⟩
      · rw [whileO_step h1, whileO_step h2]; exact ih _ _ (by omega) h3
      · exact ⟨t, t', whileO_done h1, whileO_done h2, h3⟩
  exact key n 0 s0 (by omega) h0
/-- one cell more -/
theorem cnt_step (t v : C11) (b : Int) (hb : bd11 b v) (hb1 : b ≤ 1000000000) {p : api_Stitch} (hp : okS p) :
    ∃ v', bd11 (b + 1) v' ∧ dot t v' = dot t v + at11 t p.Kind ∧ ∀ i : Nat,
      (some (Sum.inl (((i + 1 : Nat) : Int), (if p.Kind = 0 then w64 (at11 v p.Kind + 1) else v.1), (if p.Kind = 1 then w64 (at11 v p.Kind + 1) else v.2.1), (if p.Kind = 2 then w64 (at11 v p.Kind + 1) else v.2.2.1), (if p.Kind = 3 then w64 (at11 v p.Kind + 1) else v.2.2.2.1), (if p.Kind = 4 then w64 (at11 v p.Kind + 1) else v.2.2.2.2.1), (if p.Kind = 5 then w64 (at11 v p.Kind + 1) else v.2.2.2.2.2.1), (if p.Kind = 6 then w64 (at11 v p.Kind + 1) else v.2.2.2.2.2.2.1), (if p.Kind = 7 then w64 (at11 v p.Kind + 1) else v.2.2.2.2.2.2.2.1), (if p.Kind = 8 then w64 (at11 v p.Kind + 1) else v.2.2.2.2.2.2.2.2.1), (if p.Kind = 9 then w64 (at11 v p.Kind + 1) else v.2.2.2.2.2.2.2.2.2.1), (if p.Kind = 10 then w64 (at11 v p.Kind + 1) else v.2.2.2.2.2.2.2.2.2.2))) : Option ((Int × C11) ⊕ C11)) = some (.inl (((i + 1 : Nat) : Int), v')) := by
  have hk := okS_bd hp
  have ha := at11_bd hb p.Kind
  have hw : w64 (at11 v p.Kind + 1) = at11 v p.Kind + 1 := w64_of (by omega) (by omega)
  rw [hw]
  refine ⟨_, ?_, ?_, fun i => rfl⟩
  · obtain ⟨h0, h1, h2, h3, h4, h5, h6, h7, h8, h9, h10⟩ := hb
    refine ⟨?_, ?_, ?_, ?_, ?_, ?_, ?_, ?_, ?_, ?_, ?_⟩ <;> (dsimp only; split <;> omega)
  · rcases kinds (x := p.Kind) (by omega) with h | h | h | h | h | h | h | h | h | h | h | h <;> first | omega | (simp only [h, at11, dot]; simp [Int.mul_add]; omega)
def rowT (f : api_Stitch → Int) (r : api_Row) : Int := sm f r.Cells
/-- the counts of a chart -/
theorem count_loop (t : C11) (c : api_Chart) (hk : chk c = 0) : ∃ v : C11, whileO (cost_Count_l2 c) (0, 0, 0, 0, 0, 0, 0, 0, 0, 0, 0, 0) = some v ∧ whileO (raddleref45_Count_l2 c) (0, 0, 0, 0, 0, 0, 0, 0, 0, 0, 0, 0) = some v ∧ bd11 20000 v ∧ dot t v = sm (rowT fun p => at11 t p.Kind) c.Rows := by
  obtain ⟨hl, _, _, hr⟩ := chk_ok hk
  have hinner : ∀ (i : Nat) (hi : i < c.Rows.length) (v : C11), bd11 (200 * i) v → ∃ v' : C11, whileO (cost_Count_l1 c.Rows[i]) (0, v) = some v' ∧ whileO (raddleref45_Count_l1 c (i : Int)) (0, v) = some v' ∧ bd11 (200 * (i + 1)) v' ∧ dot t v' = dot t v + rowT (fun p => at11 t p.Kind) c.Rows[i] := by
    intro i hi v hv
    have hal := allS_ok (chkR_mem hr _ (List.getElem_mem hi))
    have hn := hal.1
    have key : ∃ t1 t2, whileO (cost_Count_l1 c.Rows[i]) (0, v) = some t1 ∧ whileO (raddleref45_Count_l1 c (i : Int)) (0, v) = some t2 ∧ (t1 = t2 ∧ bd11 (200 * (i + 1)) t1 ∧ dot t t1 = dot t v + rowT (fun p => at11 t p.Kind) c.Rows[i]) := by
      refine loop_two (σ := C11) c.Rows[i].Cells.length (fun k v => ((k : Int), v)) (fun k v => ((k : Int), v)) (fun k s => bd11 (200 * i + k) s ∧ dot t s = dot t v + sm (fun p => at11 t p.Kind) (c.Rows[i].Cells.take k)) _ (s0 := v) ⟨by simpa using hv, by simp [sm]⟩ ?_ ?_
      · rintro k s hk2 ⟨hs, hd⟩
        have hp := hal.2.1 _ (List.getElem_mem hk2)
        have hkd := okS_bd hp
        obtain ⟨v', h1, h2, h3⟩ := cnt_step t s _ hs (by omega) hp
        have hix := idx11 s (k := c.Rows[i].Cells[k].Kind) (by omega)
        obtain ⟨s0, s1, s2, s3, s4, s5, s6, s7, s8, s9, s10⟩ := s
        simp only [l11] at hix
        refine .inl ⟨v', ?_, ?_, ?_, ?_⟩
        · unfold cost_Count_l1
          simp only [dT (show (k : Int) < (c.Rows[i].Cells.length : Int) by omega), if_true, idxO_nat hk2, Option.bind_some, hix, w64_succ (show k < 9223372036854775807 by omega)]
          exact h3 k
        · unfold raddleref45_Count_l1
          simp only [idxO_nat hi, Option.bind_some, dT (show (k : Int) < (c.Rows[i].Cells.length : Int) by omega), if_true, idxO_nat hk2, hix, w64_succ (show k < 9223372036854775807 by omega)]
          exact h3 k
        · have e : (200 : Int) * i + ((k + 1 : Nat) : Int) = 200 * i + k + 1 := by omega
          rw [e]; exact h1
        · rw [h2, hd, sm_take _ _ hk2]; omega
      · rintro s ⟨hs, hd⟩
        obtain ⟨s0, s1, s2, s3, s4, s5, s6, s7, s8, s9, s10⟩ := s
        refine ⟨(s0, s1, s2, s3, s4, s5, s6, s7, s8, s9, s10), (s0, s1, s2, s3, s4, s5, s6, s7, s8, s9, s10), ?_, ?_, rfl, ?_, ?_⟩
        · unfold cost_Count_l1
          simp only [dF (show ¬ (c.Rows[i].Cells.length : Int) < (c.Rows[i].Cells.length : Int) by omega), Bool.false_eq_true, if_false]
        · unfold raddleref45_Count_l1
          simp only [idxO_nat hi, Option.bind_some, dF (show ¬ (c.Rows[i].Cells.length : Int) < (c.Rows[i].Cells.length : Int) by omega), Bool.false_eq_true, if_false]
        · simp only [bd11] at hs ⊢
          omega
        · rw [hd, List.take_length]; rfl
    obtain ⟨t1, t2, h1, h2, rfl, h3, h4⟩ := key
    exact ⟨t1, h1, h2, h3, h4⟩
  have key : ∃ t1 t2, whileO (cost_Count_l2 c) (0, 0, 0, 0, 0, 0, 0, 0, 0, 0, 0, 0) = some t1 ∧ whileO (raddleref45_Count_l2 c) (0, 0, 0, 0, 0, 0, 0, 0, 0, 0, 0, 0) = some t2 ∧ (t1 = t2 ∧ bd11 20000 t1 ∧ dot t t1 = sm (rowT fun p => at11 t p.Kind) c.Rows) := by
    refine loop_two (σ := C11) c.Rows.length (fun k v => ((k : Int), v)) (fun k v => ((k : Int), v)) (fun k s => bd11 (200 * k) s ∧ dot t s = sm (rowT fun p => at11 t p.Kind) (c.Rows.take k)) _ (s0 := (0, 0, 0, 0, 0, 0, 0, 0, 0, 0, 0)) ⟨by simp [bd11], by simp [sm, dot]⟩ ?_ ?_
    · rintro k s hk2 ⟨hs, hd⟩
      obtain ⟨v', h1, h2, h3, h4⟩ := hinner k hk2 s hs
      obtain ⟨s0, s1, s2, s3, s4, s5, s6, s7, s8, s9, s10⟩ := s
      refine .inl ⟨v', ?_, ?_, ?_, ?_⟩
      · unfold cost_Count_l2
        simp only [dT (show (k : Int) < (c.Rows.length : Int) by omega), if_true, idxO_nat hk2, Option.bind_some, h1, w64_succ (show k < 9223372036854775807 by omega)]
      · unfold raddleref45_Count_l2
        simp only [dT (show (k : Int) < (c.Rows.length : Int) by omega), if_true, Option.bind_some, h2, w64_succ (show k < 9223372036854775807 by omega)]
      · have e : (200 : Int) * ((k + 1 : Nat) : Int) = 200 * (k + 1) := by omega
        rw [e]; exact h3
      · rw [h4, hd, sm_take _ _ hk2]
    · rintro s ⟨hs, hd⟩
      obtain ⟨s0, s1, s2, s3, s4, s5, s6, s7, s8, s9, s10⟩ := s
      refine ⟨(s0, s1, s2, s3, s4, s5, s6, s7, s8, s9, s10), (s0, s1, s2, s3, s4, s5, s6, s7, s8, s9, s10), ?_, ?_, rfl, ?_, ?_⟩
      · unfold cost_Count_l2
        simp only [dF (show ¬ (c.Rows.length : Int) < (c.Rows.length : Int) by omega), Bool.false_eq_true, if_false]
      · unfold raddleref45_Count_l2
        simp only [dF (show ¬ (c.Rows.length : Int) < (c.Rows.length : Int) by omega), Bool.false_eq_true, if_false]
      · simp only [bd11] at hs ⊢
        omega
      · rw [hd, List.take_length]
  obtain ⟨t1, t2, h1, h2, rfl, h3, h4⟩ := key
  exact ⟨t1, h1, h2, h3, h4⟩
theorem sm_nn {α : Type} {f : α → Int} {l : List α} (h : ∀ x, x ∈ l → 0 ≤ f x) : 0 ≤ sm f l := by
  induction l with
  | nil => simp [sm]
  | cons x l ih =>
    have h1 := h x (by simp)
    have h2 := ih fun y hy => h y (by simp [hy])
    simp only [sm]; omega
theorem sm_take_le {α : Type} {f : α → Int} {l : List α} (h : ∀ x, x ∈ l → 0 ≤ f x) (k : Nat) : sm f (l.take k) ≤ sm f l := by
  have e : sm f l = sm f (l.take k) + sm f (l.drop k) := by rw [← sm_append, List.take_append_drop]
  have := sm_nn (l := l.drop k) fun x hx => h x (List.mem_of_mem_drop hx)
  omega
/-- a loop that sums -/
theorem loop_acc {α τ : Type} {B : Int × Int → Option ((Int × Int) ⊕ τ)} (l : List α) (f : α → Int) (a0 : Int) {t : τ} (hf : ∀ x, x ∈ l → 0 ≤ f x)
    (h : ∀ k (hk : k < l.length) (a : Int), a0 ≤ a → a + f l[k] ≤ a0 + sm f l → B ((k : Int), a) = some (.inl (((k + 1 : Nat) : Int), a + f l[k]))) (hn : B ((l.length : Int), a0 + sm f l) = some (.inr t)) : whileO B (0, a0) = some t := by
  have key : ∃ u, whileO B ((fun (k : Nat) (_ : Unit) => ((k : Int), a0 + sm f (l.take k))) 0 ()) = some u ∧ u = t := by
    refine loop_at (σ := Unit) l.length (fun k _ => ((k : Int), a0 + sm f (l.take k))) (fun _ _ => True) _ (s0 := ()) trivial ?_ ?_
    · intro k _ hk _
      refine .inl ⟨(), ?_, trivial⟩
      have h1 := sm_take_le hf (k + 1)
      have h2 := sm_nn (l := l.take k) fun x hx => hf x (List.mem_of_mem_take hx)
      rw [sm_take _ _ hk] at h1
      rw [h k hk _ (by omega) (by omega), sm_take _ _ hk, Int.add_assoc]
    · intro _ _
      exact ⟨t, by rw [List.take_length]; exact hn, rfl⟩
  obtain ⟨u, h1, rfl⟩ := key
  simpa [sm] using h1
/-- rates -/
def okR (r : api_Rates) : Prop := bd11 1000000 r.Length ∧ bd11 1000000 r.Time ∧ 0 ≤ r.Turn ∧ r.Turn ≤ 1000000 ∧ r.Length.1 = 0 ∧ r.Time.1 = 0
instance (b : Int) (v : C11) : Decidable (bd11 b v) := by unfold bd11; infer_instance
instance (r : api_Rates) : Decidable (okR r) := by unfold okR; infer_instance
theorem rate_eq (x : Int) : F_cost_rate x = some (decide (0 ≤ x ∧ x ≤ 1000000)) := by
  unfold F_cost_rate
  by_cases h : 0 ≤ x <;> simp [h]
theorem rin_eq (x : Int) : F_raddleref45_in x = some (decide (0 ≤ x ∧ x ≤ 1000000)) := by
  unfold F_raddleref45_in
  by_cases h : 0 ≤ x <;> simp [h]
theorem range11 (r : api_Rates) : (List.range 11).all (fun k => decide ((0 ≤ at11 r.Length (k : Int) ∧ at11 r.Length (k : Int) ≤ 1000000) ∧ (0 ≤ at11 r.Time (k : Int) ∧ at11 r.Time (k : Int) ≤ 1000000))) = true ↔ bd11 1000000 r.Length ∧ bd11 1000000 r.Time := by
  rw [List.all_eq_true]
  constructor
  · intro h
    have g : ∀ k : Nat, k < 11 → (0 ≤ at11 r.Length (k : Int) ∧ at11 r.Length (k : Int) ≤ 1000000) ∧ (0 ≤ at11 r.Time (k : Int) ∧ at11 r.Time (k : Int) ≤ 1000000) := fun k hk => by simpa using h k (List.mem_range.2 hk)
    have g0 := g 0 (by decide)
    have g1 := g 1 (by decide)
    have g2 := g 2 (by decide)
    have g3 := g 3 (by decide)
    have g4 := g 4 (by decide)
    have g5 := g 5 (by decide)
    have g6 := g 6 (by decide)
    have g7 := g 7 (by decide)
    have g8 := g 8 (by decide)
    have g9 := g 9 (by decide)
    have g10 := g 10 (by decide)
    exact ⟨⟨g0.1, g1.1, g2.1, g3.1, g4.1, g5.1, g6.1, g7.1, g8.1, g9.1, g10.1⟩, ⟨g0.2, g1.2, g2.2, g3.2, g4.2, g5.2, g6.2, g7.2, g8.2, g9.2, g10.2⟩⟩
  · rintro ⟨h1, h2⟩ k _
    simpa using ⟨at11_bd h1 (k : Int), at11_bd h2 (k : Int)⟩
theorem rcheck_tail (r : api_Rates) (b : Bool) (hb : b = true ↔ bd11 1000000 r.Length ∧ bd11 1000000 r.Time) : (if b = true then (if (0 ≤ r.Turn ∧ r.Turn ≤ 1000000) ∧ r.Length.1 = 0 ∧ r.Time.1 = 0 then (0 : Int) else 8) else 8) = if okR r then 0 else 8 := by
  cases b with
  | true =>
    obtain ⟨h1, h2⟩ := hb.1 rfl
    rw [if_pos rfl]
    exact ifc ⟨fun h => ⟨h1, h2, h.1.1, h.1.2, h.2.1, h.2.2⟩, fun h => ⟨⟨h.2.2.1, h.2.2.2.1⟩, h.2.2.2.2.1, h.2.2.2.2.2⟩⟩
  | false =>
    have hn : ¬ okR r := fun h => by have := hb.2 ⟨h.1, h.2.1⟩; cases this
    rw [if_neg (by simp), if_neg hn]
theorem rates_eq (r : api_Rates) : F_cost_Check r = some (if okR r then 0 else 8) := by
  have hloop : whileO (cost_Check_l1 r) 0 = some (if (List.range 11).all (fun k => decide ((0 ≤ at11 r.Length (k : Int) ∧ at11 r.Length (k : Int) ≤ 1000000) ∧ (0 ≤ at11 r.Time (k : Int) ∧ at11 r.Time (k : Int) ≤ 1000000))) = true then .inr () else .inl 8) := by
    refine loop_all 11 _ _ _ ?_ rfl
    intro k hk
    have e1 := idx11 r.Length (k := (k : Int)) (by omega)
    have e2 := idx11 r.Time (k := (k : Int)) (by omega)
    simp only [l11] at e1 e2
    unfold cost_Check_l1
    simp only [dT (show (k : Int) < 11 by omega), if_true, e1, e2, Option.bind_some, rate_eq, w64_succ (show k < 9223372036854775807 by omega)]
    by_cases c1 : 0 ≤ at11 r.Length (k : Int) ∧ at11 r.Length (k : Int) ≤ 1000000 <;> by_cases c2 : 0 ≤ at11 r.Time (k : Int) ∧ at11 r.Time (k : Int) ≤ 1000000 <;> simp [c1, c2]
  unfold F_cost_Check
  rw [hloop, ← rcheck_tail r _ (range11 r)]
  cases (List.range 11).all (fun k => decide ((0 ≤ at11 r.Length (k : Int) ∧ at11 r.Length (k : Int) ≤ 1000000) ∧ (0 ≤ at11 r.Time (k : Int) ∧ at11 r.Time (k : Int) ≤ 1000000))) with
  | true =>
    simp only [if_true, Option.bind_some, rate_eq]
    by_cases c1 : 0 ≤ r.Turn ∧ r.Turn ≤ 1000000 <;> by_cases c2 : r.Length.1 = 0 <;> by_cases c3 : r.Time.1 = 0 <;> simp [c1, c2, c3]
  | false => simp
theorem rrates_eq (r : api_Rates) : F_raddleref45_Check r = some (if okR r then 0 else 8) := by
  have hloop : whileO (raddleref45_Check_l1 r) 0 = some (if (List.range 11).all (fun k => decide ((0 ≤ at11 r.Length (k : Int) ∧ at11 r.Length (k : Int) ≤ 1000000) ∧ (0 ≤ at11 r.Time (k : Int) ∧ at11 r.Time (k : Int) ≤ 1000000))) = true then .inr () else .inl 8) := by
    refine loop_all 11 _ _ _ ?_ rfl
    intro k hk
    have e1 := idx11 r.Length (k := (k : Int)) (by omega)
    have e2 := idx11 r.Time (k := (k : Int)) (by omega)
    simp only [l11] at e1 e2
    unfold raddleref45_Check_l1
    simp only [dT (show (k : Int) < 11 by omega), if_true, e1, e2, Option.bind_some, rin_eq, w64_succ (show k < 9223372036854775807 by omega)]
    by_cases c1 : 0 ≤ at11 r.Length (k : Int) ∧ at11 r.Length (k : Int) ≤ 1000000 <;> by_cases c2 : 0 ≤ at11 r.Time (k : Int) ∧ at11 r.Time (k : Int) ≤ 1000000 <;> simp [c1, c2]
  unfold F_raddleref45_Check
  rw [hloop, ← rcheck_tail r _ (range11 r)]
  cases (List.range 11).all (fun k => decide ((0 ≤ at11 r.Length (k : Int) ∧ at11 r.Length (k : Int) ≤ 1000000) ∧ (0 ≤ at11 r.Time (k : Int) ∧ at11 r.Time (k : Int) ≤ 1000000))) with
  | true =>
    simp only [if_true, Option.bind_some, rin_eq]
    by_cases c1 : 0 ≤ r.Turn ∧ r.Turn ≤ 1000000 <;> by_cases c2 : r.Length.1 = 0 <;> by_cases c3 : r.Time.1 = 0 <;> simp [c1, c2, c3]
  | false => simp
def lenS (r : api_Rates) (p : api_Stitch) : Int := at11 r.Length p.Kind * (if (1 : Int) < madeS p then madeS p else 1)
def timS (r : api_Rates) (p : api_Stitch) : Int := at11 r.Time p.Kind
def billOf (c : api_Chart) (r : api_Rates) : api_Bill := ⟨sm (rowT (lenS r)) c.Rows, r.Turn * (c.Rows.length : Int) + sm (rowT (timS r)) c.Rows⟩
def needOf (c : api_Chart) (r : api_Rates) : api_Bill × Int := if chk c = 0 then (if okR r then (billOf c r, 0) else (⟨0, 0⟩, 8)) else (⟨0, 0⟩, chk c)
theorem lenS_bd {r : api_Rates} (h : okR r) {p : api_Stitch} (hp : okS p) : 0 ≤ lenS r p ∧ lenS r p ≤ 200000000 := by
  have h1 := at11_bd h.1 p.Kind
  have h2 := madeS_bd hp
  exact mul_bd h1.1 h1.2 (b := 200) (by split <;> omega) (by split <;> omega)
theorem rowT_bd {f : api_Stitch → Int} {b : Int} {r : api_Row} (hb : 0 ≤ b) (hr : allS r.Cells = 0) (hf : ∀ p, okS p → 0 ≤ f p ∧ f p ≤ b) : 0 ≤ rowT f r ∧ rowT f r ≤ b * 200 := by
  have h := allS_ok hr
  have h1 := sm_bd (f := f) (b := b) (l := r.Cells) fun p hp => hf p (h.2.1 p hp)
  have h2 : b * (r.Cells.length : Int) ≤ b * 200 := Int.mul_le_mul_of_nonneg_left (by omega) hb
  exact ⟨h1.1, by unfold rowT; omega⟩
theorem rows_bd {f : api_Stitch → Int} {b : Int} {c : api_Chart} (hb : 0 ≤ b) (hc : chk c = 0) (hf : ∀ p, okS p → 0 ≤ f p ∧ f p ≤ b) : 0 ≤ sm (rowT f) c.Rows ∧ sm (rowT f) c.Rows ≤ b * 20000 := by
  have h := chk_ok hc
  have h1 := sm_bd (f := rowT f) (b := b * 200) (l := c.Rows) fun r hr => rowT_bd hb (chkR_mem h.2.2.2 r hr) hf
  have h2 : b * 200 * (c.Rows.length : Int) ≤ b * 200 * 100 := Int.mul_le_mul_of_nonneg_left (by omega) (by omega)
  exact ⟨h1.1, by omega⟩
/-- the sum of the counts' times -/
def pd (t v : C11) : Nat → Int
  | 0 => 0
  | k + 1 => pd t v k + at11 t (k : Int) * at11 v (k : Int)
theorem pd_dot (t v : C11) : pd t v 11 = dot t v := by
  simp only [pd]
  simp [at11, dot]
  omega
theorem need_times (c : api_Chart) (r : api_Rates) (v : C11) (hr : okR r) (hv : bd11 20000 v) (e : Int) (a0 : Int) (ha : 0 ≤ a0 ∧ a0 ≤ 1000000000) : whileO (cost_Need_l1 (v, e) r) (0, a0) = some (a0 + dot r.Time v) := by
  have hb : ∀ k : Nat, 0 ≤ pd r.Time v k ∧ pd r.Time v k ≤ 20000000000 * k := by
    intro k
    induction k with
    | zero => simp [pd]
    | succ k ih =>
      have h1 := at11_bd hr.2.1 (k : Int)
      have h2 := at11_bd hv (k : Int)
      have h3 := mul_bd h1.1 h1.2 h2.1 h2.2
      simp only [pd]
      omega
  have key : ∃ u, whileO (cost_Need_l1 (v, e) r) ((fun (k : Nat) (_ : Unit) => ((k : Int), a0 + pd r.Time v k)) 0 ()) = some u ∧ u = a0 + dot r.Time v := by
    refine loop_at (σ := Unit) 11 (fun k _ => ((k : Int), a0 + pd r.Time v k)) (fun _ _ => True) _ (s0 := ()) trivial ?_ ?_
    · intro k _ hk _
      refine .inl ⟨(), ?_, trivial⟩
      have e1 := idx11 r.Time (k := (k : Int)) (by omega)
      have e2 := idx11 v (k := (k : Int)) (by omega)
      simp only [l11] at e1 e2
      have h1 := at11_bd hr.2.1 (k : Int)
      have h2 := at11_bd hv (k : Int)
      have h3 := mul_bd h1.1 h1.2 h2.1 h2.2
      have h4 := hb k
      have w1 : w64 (at11 r.Time (k : Int) * at11 v (k : Int)) = at11 r.Time (k : Int) * at11 v (k : Int) := w64_of (by omega) (by omega)
      have w2 : w64 (a0 + pd r.Time v k + at11 r.Time (k : Int) * at11 v (k : Int)) = a0 + pd r.Time v (k + 1) := by
        rw [w64_of (by omega) (by omega)]; simp only [pd]; omega
      unfold cost_Need_l1
      simp only [dT (show (k : Int) < 11 by omega), if_true, e1, e2, Option.bind_some, w1, w2, w64_succ (show k < 9223372036854775807 by omega)]
    · intro _ _
      refine ⟨_, ?_, rfl⟩
      rw [← pd_dot]
      rfl
  obtain ⟨u, h1, rfl⟩ := key
  simpa [pd] using h1
theorem makes_one {p : api_Stitch} (hp : okS p) : F_stitch_Makes [p] = some (madeS p, 0) := by
  have hb := okS_bd hp
  have h0 : allS [p] = 0 := by
    have h1 := usedS_bd hp
    have h2 := madeS_bd hp
    have ho : allOk [p] := fun q hq => by simp at hq; subst hq; exact hp
    unfold allS
    rw [if_neg (by simp), if_pos ho, if_neg (by simp [sm]; omega)]
  rw [makes_eq (l := [p]) (fun q hq => by simp at hq; subst hq; unfold wfS; omega), if_pos h0]
  simp [sm]
theorem need_eq (c : api_Chart) (r : api_Rates) (hw : wfR c.Rows) : F_cost_Need c r = some (needOf c r) := by
  unfold F_cost_Need needOf F_cost_Count
  rw [chart_check_eq c hw]
  by_cases hc : chk c = 0
  case neg => simp only [Option.bind_some, nT hc, if_true, if_neg hc]
  obtain ⟨v, h1, h2, h3, h4⟩ := count_loop r.Time c hc
  obtain ⟨v0, v1, v2, v3, v4, v5, v6, v7, v8, v9, v10⟩ := v
  simp only [Option.bind_some, nF hc, Bool.false_eq_true, if_false, h1, bne_self_eq_false, rates_eq, if_pos hc]
  by_cases hr : okR r
  case neg => simp only [if_neg hr, nT (show ¬ (8 : Int) = 0 by omega), if_true]
  simp only [if_pos hr, bne_self_eq_false, Bool.false_eq_true, if_false]
  obtain ⟨hl, _, _, hcr⟩ := chk_ok hc
  have ht : 0 ≤ r.Turn * (c.Rows.length : Int) ∧ r.Turn * (c.Rows.length : Int) ≤ 1000000 * 100 := mul_bd hr.2.2.1 hr.2.2.2.1 (by omega) (by omega)
  rw [w64_of (by omega) (by omega), need_times c r _ hr h3 0 _ (by omega)]
  have hinner : ∀ (x : api_Row), x ∈ c.Rows → ∀ a, 0 ≤ a → a + rowT (lenS r) x ≤ 4000000000000 → whileO (cost_Need_l2 x r) (0, a) = some (a + rowT (lenS r) x) := by
    intro x hx a ha hb
    have hal := allS_ok (chkR_mem hcr x hx)
    refine loop_acc x.Cells (lenS r) a (fun p hp => (lenS_bd hr (hal.2.1 p hp)).1) ?_ ?_
    · intro k hk a' ha1 ha2
      have hp := hal.2.1 _ (List.getElem_mem hk)
      have hkd := okS_bd hp
      have e1 := idx11 r.Length (k := x.Cells[k].Kind) (by omega)
      simp only [l11] at e1
      have hb2 := lenS_bd hr hp
      have hb3 : sm (lenS r) x.Cells = rowT (lenS r) x := rfl
      unfold lenS at hb2
      have w1 : w64 (at11 r.Length x.Cells[k].Kind * (if (1 : Int) < madeS x.Cells[k] then madeS x.Cells[k] else 1)) = lenS r x.Cells[k] := w64_of (by omega) (by omega)
      have w2 : w64 (a' + lenS r x.Cells[k]) = a' + lenS r x.Cells[k] := w64_of (by unfold lenS; omega) (by omega)
      unfold cost_Need_l2
      simp only [dT (show (k : Int) < (x.Cells.length : Int) by omega), if_true, idxO_nat hk, Option.bind_some, makes_one hp, e1, w1, w2, w64_succ (show k < 9223372036854775807 by omega)]
    · unfold cost_Need_l2
      simp only [dF (show ¬ (x.Cells.length : Int) < (x.Cells.length : Int) by omega), Bool.false_eq_true, if_false]
      rfl
  have hrb := rows_bd (f := lenS r) (b := 200000000) (by omega) hc fun p hp => lenS_bd hr hp
  have houter : whileO (cost_Need_l3 c r) (0, 0) = some (0 + sm (rowT (lenS r)) c.Rows) := by
    refine loop_acc c.Rows (rowT (lenS r)) 0 (fun x hx => (rowT_bd (b := 200000000) (by omega) (chkR_mem hcr x hx) fun p hp => lenS_bd hr hp).1) ?_ ?_
    · intro k hk a ha1 ha2
      unfold cost_Need_l3
      simp only [dT (show (k : Int) < (c.Rows.length : Int) by omega), if_true, idxO_nat hk, Option.bind_some, hinner _ (List.getElem_mem hk) a ha1 (by omega), w64_succ (show k < 9223372036854775807 by omega)]
    · unfold cost_Need_l3
      simp only [dF (show ¬ (c.Rows.length : Int) < (c.Rows.length : Int) by omega), Bool.false_eq_true, if_false]
  simp only [Option.bind_some, houter, h4, Int.zero_add]
  rfl

end Go.Proofs.Ytdbgkakmhlmpbaa
namespace Go.Proofs.Ytdbgkakmhlmpbaa
open Go.RowKit
set_option linter.unusedVariables false

noncomputable def raddleref45_Great_l1 (p0 : api_Chart) : Int → Option (Int ⊕ (Bool ⊕ Unit)) := fun s0 => match s0 with
  | s10 =>
    if decide (s10 < (p0.Rows.length : Int)) then
      Option.bind (idxO p0.Rows s10) fun x19 =>
      if decide (60 < (x19.Cells.length : Int)) then
        some (.inr (.inl true))
      else
        some (.inl (w64 (s10 + 1)))
    else
      some (.inr (.inr ()))
noncomputable def F_raddleref45_Great (p0 : api_Chart) : Option Bool :=
  Option.bind (α := Unit ⊕ Bool) (
    Option.bind (whileO (raddleref45_Great_l1 p0) 0) fun z0 => match z0 with
      | .inl z =>
        some (.inr z)
      | .inr _ =>
        some (.inl ())) fun z0 => match z0 with
    | .inl _ =>
      Option.bind (α := Bool) (
        if decide (20 < (p0.Rows.length : Int)) then
          if decide ((p0.Rows.length : Int) ≤ 100) then
            some true
          else
            some (decide (110 < (p0.Rows.length : Int)))
        else
          some (decide (110 < (p0.Rows.length : Int)))) fun o30 =>
      some o30
    | .inr z =>
      some z
set_option maxHeartbeats 4000000 in
set_option maxRecDepth 100000 in
theorem c_raddleref45_Great (E : Nat → Prop) (w0 : World) (p0 : api_Chart) (v0 : Value) (r : Bool) (h : F_raddleref45_Great p0 = some r) (S : St0 E [] w0 w0 [] [fRep r_api_Chart (v0) p0]) :
    Calls Try.prog 14 #[v0] w0 (Ret (X := Unit) E [] w0 (fun _ => .bool r) (fun _ => []) (fun _ => [])) := by
  unfold F_raddleref45_Great at h
  obtain ⟨u1, rfl, hu2⟩ := S.know (i := 0) (e := fRep r_api_Chart (v0) p0) rfl
  have S := S.learn (fRep (rL r_api_Row) u1 p0.Rows) hu2
  obtain ⟨ad3, cp4, _, rfl, _⟩ := hu2
  refine sEnter (args := [.agg #[iv p0.Start, .slice ad3 p0.Rows.length cp4]]) 35 Try.func14 rfl rfl (by simp) S (fun a S => ?_)
  refine sSeq (fun K5 hK5 => ?_)
  refine sRegion ?_
  refine sBox (v := .agg #[iv p0.Start, .slice ad3 p0.Rows.length cp4]) S (wN rfl) rfl rfl [iv p0.Start, .slice ad3 p0.Rows.length cp4] rfl rfl (lb rfl) fun a b6 w S => ?_
  refine sMove (.bool false) S (wN rfl) (.inr rfl) rfl rfl (lb rfl) fun a S => ?_
  refine leafL (leafT (hK5 _ _ ?_))
  obtain ⟨t7, h, g8⟩ := bindSome h
  refine sCut (fun a w => .inl () = t7 ∧ St [] E [] w0 35 a w [(1, .pointer (some ⟨b6, 0, none⟩))] [eBox b6 41 [iv p0.Start, .slice ad3 p0.Rows.length cp4]] [fRep (rL r_api_Row) (.slice ad3 p0.Rows.length cp4) p0.Rows]) ?_ (fun a w hI => ?_)
  · refine sSeq (fun K9 hK9 => ?_)
    refine sRegion ?_
    refine sMove (iv 0) S (wN rfl) (.inr rfl) rfl rfl (lb rfl) fun a S => ?_
    refine leafL (leafT (hK9 _ _ ?_))
    refine wp_block ?_
    obtain ⟨t13, hl, g12⟩ := bindSome h
    refine sLoop hl (fun s0 a w => match s0 with | s10 => St [] E [] w0 35 a w [(1, .pointer (some ⟨b6, 0, none⟩)), (3, iv s10)] [eBox b6 41 [iv p0.Start, .slice ad3 p0.Rows.length cp4]] [fRep (rL r_api_Row) (.slice ad3 p0.Rows.length cp4) p0.Rows]) (S.fix [0] [0] (by decide) rfl rfl rfl) ?_
    clear hl h
    intro s10 a w c0 hI h hu11
    unfold raddleref45_Great_l1 at h
    dsimp only at h hI
    have S := hI
    refine sSeq (fun K14 hK14 => ?_)
    refine sSeq (fun K15 hK15 => ?_)
    refine sRegion ?_
    refine sMove (iv s10) S (wN rfl) (.inl rfl) rfl rfl (lb rfl) fun a S => ?_
    refine sField (b := b6) (off := 0) 1 1 S (wN rfl) rfl rfl rfl rfl rfl (lb rfl) fun a S => ?_
    refine sLoad1 (p := b6) (off := 1) (T := 41) (vs := [iv p0.Start, .slice ad3 p0.Rows.length cp4]) 0 (.slice ad3 p0.Rows.length cp4) S (wN rfl) rfl rfl rfl rfl rfl rfl (lb rfl) fun a S => ?_
    refine sLen (ad := ad3) (m := p0.Rows.length) (c := cp4) S (wN rfl) rfl Try.underlying39 rfl rfl (lb rfl) fun a S => ?_
    refine sBin (.bool (decide (s10 < (p0.Rows.length : Int)))) S (wN rfl) rfl rfl rfl (bLt _ _ _ _ .i64 s10 (p0.Rows.length : Int)) rfl (lb rfl) fun a S => ?_
    refine leafL (leafT (hK15 _ _ ?_))
    rcases iteSome h with ⟨hc16, h⟩ | ⟨hc16, h⟩
    rotate_left
    · refine sCondF S rfl hc16 ?_
      obtain rfl := Option.some.inj h
      obtain rfl := hu11 _ rfl
      have h := g12
      clear g12
      try dsimp only at h
      exact wp_exit (xThen (xThen (xHit (leafT (⟨Option.some.inj h, S.fix [0] [0] (by decide) rfl rfl rfl⟩)))))
    refine sCondT S rfl hc16 ?_
    refine wp_skip (leafT (hK14 _ _ ?_))
    refine sSeq (fun K17 hK17 => ?_)
    refine wp_block ?_
    refine sSeq (fun K18 hK18 => ?_)
    refine sRegion ?_
    refine sField (b := b6) (off := 0) 1 1 S (wN rfl) rfl rfl rfl rfl rfl (lb rfl) fun a S => ?_
    refine sLoad1 (p := b6) (off := 1) (T := 41) (vs := [iv p0.Start, .slice ad3 p0.Rows.length cp4]) 0 (.slice ad3 p0.Rows.length cp4) S (wN rfl) rfl rfl rfl rfl rfl rfl (lb rfl) fun a S => ?_
    refine sMove (iv s10) S (wN rfl) (.inl rfl) rfl rfl (lb rfl) fun a S => ?_
    obtain ⟨x19, hx20, h⟩ := bindSome h
    obtain ⟨q21, hq22, S⟩ := pIdx (P := Try.prog) (r := r_api_Row) (v := .slice ad3 p0.Rows.length cp4) (xs := p0.Rows) (j := s10) 39 72 0 S Try.underlying39 rfl rfl hx20
    refine sIdxV (v := .slice ad3 p0.Rows.length cp4) (k := .i64) (j := s10) S (wN rfl) rfl rfl rfl hq22 rfl (lb rfl) fun a S => ?_
    obtain ⟨q23, hq24, S⟩ := pFld (P := Try.prog) (r := r_api_Row) (s2 := (rL r_api_Stitch)) (g := (·.Cells)) (q := q21) (z := x19) 72 1 0 1 S rfl rfl comp_api_Row_Cells
    refine sFldV (q := q21) S (wN rfl) rfl rfl hq24 rfl (lb rfl) fun a S => ?_
    obtain ⟨u25, S⟩ := pLoad (r := (rL r_api_Stitch)) (q := q23) (x := x19.Cells) 0 S rfl
    obtain ⟨ad26, cp27, _, rfl, _⟩ := S.mem.know (i := 1) (e := fRep (rL r_api_Stitch) (u25) x19.Cells) rfl
    refine sLoadV1 (vq := q23) 0 (.slice ad26 x19.Cells.length cp27) S (wN rfl) rfl rfl rfl rfl rfl (lb rfl) fun a S => ?_
    refine sLen (ad := ad26) (m := x19.Cells.length) (c := cp27) S (wN rfl) rfl Try.underlying70 rfl rfl (lb rfl) fun a S => ?_
    refine sBin (.bool (decide (60 < (x19.Cells.length : Int)))) S (wN rfl) rfl rfl rfl (bGt _ _ _ _ .i64 (x19.Cells.length : Int) 60) rfl (lb rfl) fun a S => ?_
    refine leafL (leafT (hK18 _ _ ?_))
    rcases iteSome h with ⟨hc28, h⟩ | ⟨hc28, h⟩
    rotate_left
    · refine sCondF S rfl hc28 ?_
      refine wp_skip (leafB (leafT (hK17 _ _ ?_)))
      refine sRegion ?_
      refine sMove (iv s10) S (wN rfl) (.inl rfl) rfl rfl (lb rfl) fun a S => ?_
      refine sBin (iv (w64 (s10 + 1))) S (wN rfl) rfl rfl rfl (bAdd _ _ _ _ s10 1) rfl (lb rfl) fun a S => ?_
      refine sMove (iv (w64 (s10 + 1))) S (wN rfl) (.inr rfl) rfl rfl (lb rfl) fun a S => ?_
      exact leafL (leafT (⟨w64 (s10 + 1), (Option.some.inj h).symm, (S.fix [0] [4] (by decide) rfl rfl rfl)⟩))
    refine sCondT S rfl hc28 ?_
    refine sSeq (fun K29 hK29 => ?_)
    refine sRegion ?_
    refine sMove (.bool true) S (wN rfl) (.inr rfl) rfl rfl (lb rfl) fun a S => ?_
    refine leafL (leafT (hK29 _ _ ?_))
    obtain rfl := Option.some.inj h
    obtain rfl := hu11 _ rfl
    have h := g12
    clear g12
    try dsimp only at h
    obtain rfl := Option.some.inj h
    have h := g8
    clear g8
    try dsimp only at h
    obtain rfl := Option.some.inj h
    exact wp_ret (rBlock (rThen (rThen (rBlock (rThen (sRet (.bool true) S (rsl1 rfl (rvT (t := 2) (v := .bool true) S rfl)) ⟨(), rfl, S.mem.sel [] [] (by decide) rfl rfl⟩))))))
  obtain ⟨rfl, S⟩ := hI
  have h := g8
  clear g8
  try dsimp only at h
  obtain ⟨t31, h, g32⟩ := bindSome h
  refine sCut (fun a w => ∃ o30, o30 = t31 ∧ St [] E [] w0 35 a w [(2, .bool o30)] [] []) ?_ (fun a w hI => ?_)
  rotate_left
  · obtain ⟨o30, rfl, S⟩ := hI
    have h := g32
    clear g32
    try dsimp only at h
    obtain rfl := Option.some.inj h
    exact wp_ret (sRet (.bool o30) S (rsl1 rfl (rvT (t := 2) (v := .bool o30) S rfl)) ⟨(), rfl, S.mem.sel [] [] (by decide) rfl rfl⟩)
  refine sRegion ?_
  refine sField (b := b6) (off := 0) 1 1 S (wN rfl) rfl rfl rfl rfl rfl (lb rfl) fun a S => ?_
  refine sLoad1 (p := b6) (off := 1) (T := 41) (vs := [iv p0.Start, .slice ad3 p0.Rows.length cp4]) 0 (.slice ad3 p0.Rows.length cp4) S (wN rfl) rfl rfl rfl rfl rfl rfl (lb rfl) fun a S => ?_
  refine sLen (ad := ad3) (m := p0.Rows.length) (c := cp4) S (wN rfl) rfl Try.underlying39 rfl rfl (lb rfl) fun a S => ?_
  refine sBin (.bool (decide (20 < (p0.Rows.length : Int)))) S (wN rfl) rfl rfl rfl (bGt _ _ _ _ .i64 (p0.Rows.length : Int) 20) rfl (lb rfl) fun a S => ?_
  refine sMove (.bool (decide (20 < (p0.Rows.length : Int)))) S (wN rfl) (.inl rfl) rfl rfl (lb rfl) fun a S => ?_
  rcases iteSome h with ⟨hc33, h⟩ | ⟨hc33, h⟩
  rotate_left
  · refine sSkip 4 true 23 24 S rfl rfl rfl hc33 rfl (lb rfl) fun a S => ?_
    refine sSkip 4 true 23 25 S rfl rfl rfl hc33 rfl (lb rfl) fun a S => ?_
    refine sSkip 4 true 23 26 S rfl rfl rfl hc33 rfl (lb rfl) fun a S => ?_
    refine sSkip 4 true 23 27 S rfl rfl rfl hc33 rfl (lb rfl) fun a S => ?_
    refine sPickF (.bool false) S (wN rfl) rfl rfl hc33 rfl rfl (lb rfl) fun a S => ?_
    refine sMove (.bool false) S (wN rfl) (.inl rfl) rfl rfl (lb rfl) fun a S => ?_
    refine sField (b := b6) (off := 0) 1 1 S (wG 10 false 29 rfl rfl rfl rfl) rfl rfl rfl rfl rfl (lb rfl) fun a S => ?_
    refine sLoad1 (p := b6) (off := 1) (T := 41) (vs := [iv p0.Start, .slice ad3 p0.Rows.length cp4]) 0 (.slice ad3 p0.Rows.length cp4) S (wG 10 false 29 rfl rfl rfl rfl) rfl rfl rfl rfl rfl rfl (lb rfl) fun a S => ?_
    refine sLen (ad := ad3) (m := p0.Rows.length) (c := cp4) S (wG 10 false 29 rfl rfl rfl rfl) rfl Try.underlying39 rfl rfl (lb rfl) fun a S => ?_
    refine sBin (.bool (decide (110 < (p0.Rows.length : Int)))) S (wG 10 false 29 rfl rfl rfl rfl) rfl rfl rfl (bGt _ _ _ _ .i64 (p0.Rows.length : Int) 110) rfl (lb rfl) fun a S => ?_
    refine sPickF (.bool (decide (110 < (p0.Rows.length : Int)))) S (wN rfl) rfl rfl rfl rfl rfl (lb rfl) fun a S => ?_
    refine sMove (.bool (decide (110 < (p0.Rows.length : Int)))) S (wN rfl) (.inr rfl) rfl rfl (lb rfl) fun a S => ?_
    exact leafL (leafT (⟨decide (110 < (p0.Rows.length : Int)), Option.some.inj h, S.fix [] [] (by decide) rfl rfl rfl⟩))
  refine sField (b := b6) (off := 0) 1 1 S (wG 4 true 23 rfl rfl rfl hc33) rfl rfl rfl rfl rfl (lb rfl) fun a S => ?_
  refine sLoad1 (p := b6) (off := 1) (T := 41) (vs := [iv p0.Start, .slice ad3 p0.Rows.length cp4]) 0 (.slice ad3 p0.Rows.length cp4) S (wG 4 true 23 rfl rfl rfl hc33) rfl rfl rfl rfl rfl rfl (lb rfl) fun a S => ?_
  refine sLen (ad := ad3) (m := p0.Rows.length) (c := cp4) S (wG 4 true 23 rfl rfl rfl hc33) rfl Try.underlying39 rfl rfl (lb rfl) fun a S => ?_
  refine sBin (.bool (decide ((p0.Rows.length : Int) ≤ 100))) S (wG 4 true 23 rfl rfl rfl hc33) rfl rfl rfl (bLe _ _ _ _ .i64 (p0.Rows.length : Int) 100) rfl (lb rfl) fun a S => ?_
  refine sPickT (.bool (decide ((p0.Rows.length : Int) ≤ 100))) S (wN rfl) rfl rfl hc33 rfl rfl (lb rfl) fun a S => ?_
  refine sMove (.bool (decide ((p0.Rows.length : Int) ≤ 100))) S (wN rfl) (.inl rfl) rfl rfl (lb rfl) fun a S => ?_
  rcases iteSome h with ⟨hc34, h⟩ | ⟨hc34, h⟩
  · refine sSkip 10 false 29 30 S rfl rfl rfl hc34 rfl (lb rfl) fun a S => ?_
    refine sSkip 10 false 29 31 S rfl rfl rfl hc34 rfl (lb rfl) fun a S => ?_
    refine sSkip 10 false 29 32 S rfl rfl rfl hc34 rfl (lb rfl) fun a S => ?_
    refine sSkip 10 false 29 33 S rfl rfl rfl hc34 rfl (lb rfl) fun a S => ?_
    refine sPickT (.bool true) S (wN rfl) rfl rfl hc34 rfl rfl (lb rfl) fun a S => ?_
    refine sMove (.bool true) S (wN rfl) (.inr rfl) rfl rfl (lb rfl) fun a S => ?_
    exact leafL (leafT (⟨true, Option.some.inj h, S.fix [] [] (by decide) rfl rfl rfl⟩))
  refine sField (b := b6) (off := 0) 1 1 S (wG 10 false 29 rfl rfl rfl hc34) rfl rfl rfl rfl rfl (lb rfl) fun a S => ?_
  refine sLoad1 (p := b6) (off := 1) (T := 41) (vs := [iv p0.Start, .slice ad3 p0.Rows.length cp4]) 0 (.slice ad3 p0.Rows.length cp4) S (wG 10 false 29 rfl rfl rfl hc34) rfl rfl rfl rfl rfl rfl (lb rfl) fun a S => ?_
  refine sLen (ad := ad3) (m := p0.Rows.length) (c := cp4) S (wG 10 false 29 rfl rfl rfl hc34) rfl Try.underlying39 rfl rfl (lb rfl) fun a S => ?_
  refine sBin (.bool (decide (110 < (p0.Rows.length : Int)))) S (wG 10 false 29 rfl rfl rfl hc34) rfl rfl rfl (bGt _ _ _ _ .i64 (p0.Rows.length : Int) 110) rfl (lb rfl) fun a S => ?_
  refine sPickF (.bool (decide (110 < (p0.Rows.length : Int)))) S (wN rfl) rfl rfl hc34 rfl rfl (lb rfl) fun a S => ?_
  refine sMove (.bool (decide (110 < (p0.Rows.length : Int)))) S (wN rfl) (.inr rfl) rfl rfl (lb rfl) fun a S => ?_
  exact leafL (leafT (⟨decide (110 < (p0.Rows.length : Int)), Option.some.inj h, S.fix [] [] (by decide) rfl rfl rfl⟩))

end Go.Proofs.Ytdbgkakmhlmpbaa
namespace Go.Proofs.Ytdbgkakmhlmpbaa
open Go.RowKit
set_option linter.unusedVariables false

end Go.Proofs.Ytdbgkakmhlmpbaa
namespace Go.Proofs.Ytdbgkakmhlmpbaa
open Go.RowKit
set_option linter.unusedVariables false

end Go.Proofs.Ytdbgkakmhlmpbaa
namespace Go.Proofs.Ytdbgkakmhlmpbaa
open Go.RowKit
set_option linter.unusedVariables false

end Go.Proofs.Ytdbgkakmhlmpbaa
namespace Go.Proofs.Ytdbgkakmhlmpbaa
open Go.RowKit
set_option linter.unusedVariables false

end Go.Proofs.Ytdbgkakmhlmpbaa
namespace Go.Proofs.Ytdbgkakmhlmpbaa
open Go.RowKit
set_option linter.unusedVariables false

end Go.Proofs.Ytdbgkakmhlmpbaa
namespace Go.Proofs.Ytdbgkakmhlmpbaa
open Go.RowKit
set_option linter.unusedVariables false

theorem great_some (c : api_Chart) (hl : c.Rows.length ≤ 9223372036854775807) : ∃ b, F_raddleref45_Great c = some b := by
  have hloop : whileO (raddleref45_Great_l1 c) 0 = some (if (List.range c.Rows.length).all (fun k => decide ((c.Rows.getD k ⟨false, []⟩).Cells.length ≤ 60)) = true then .inr () else .inl true) := by
    refine loop_all c.Rows.length _ _ _ ?_ ?_
    · intro k hk
      unfold raddleref45_Great_l1
      simp only [dT (show (k : Int) < (c.Rows.length : Int) by omega), if_true, idxO_nat hk, Option.bind_some, w64_succ (show k < 9223372036854775807 by omega), getD_of _ hk]
      by_cases hc : c.Rows[k].Cells.length ≤ 60
      · simp only [dF (show ¬ (60 : Int) < (c.Rows[k].Cells.length : Int) by omega), Bool.false_eq_true, if_false, dT hc, if_true]
      · simp only [dT (show (60 : Int) < (c.Rows[k].Cells.length : Int) by omega), if_true, dF hc, Bool.false_eq_true, if_false]
    · unfold raddleref45_Great_l1
      simp only [dF (show ¬ (c.Rows.length : Int) < (c.Rows.length : Int) by omega), Bool.false_eq_true, if_false]
  unfold F_raddleref45_Great
  rw [hloop]
  cases (List.range c.Rows.length).all (fun k => decide ((c.Rows.getD k ⟨false, []⟩).Cells.length ≤ 60)) with
  | false => exact ⟨_, rfl⟩
  | true =>
    simp only [if_true, Option.bind_some]
    by_cases c1 : (20 : Int) < (c.Rows.length : Int)
    · by_cases c2 : (c.Rows.length : Int) ≤ 100
      · simp only [dT c1, dT c2, if_true, Option.bind_some]; exact ⟨_, rfl⟩
      · simp only [dT c1, dF c2, if_true, Bool.false_eq_true, if_false, Option.bind_some]; exact ⟨_, rfl⟩
    · simp only [dF c1, Bool.false_eq_true, if_false, Option.bind_some]; exact ⟨_, rfl⟩
end Go.Proofs.Ytdbgkakmhlmpbaa
namespace Go.Proofs.Ytdbgkakmhlmpbaa
open Go.RowKit
set_option linter.unusedVariables false

def anc_raddlelaw45_CostSides_0 : List (List Nat) := [[], [0], [0, 1], [0, 1, 2], [0, 1], [0, 1, 4], [0, 1, 2, 3, 4, 5], [0, 1], [0, 1], [0, 1, 7, 8], [0, 1, 2, 3, 4, 5, 6, 7, 8, 9], [0, 1, 2, 3, 4, 5, 6, 7, 8, 9, 10], [0, 1, 2, 3, 4, 5, 6, 7, 8, 9, 10, 11], [0, 1, 2, 3, 4, 5, 6, 7, 8, 9, 10, 11, 12], [0, 1, 2, 3, 4, 5, 6, 7, 8, 9, 10, 11, 12, 13], [0, 1, 2, 3, 4, 5, 6, 7, 8, 9, 10, 11, 12], [0, 1, 2, 3, 4, 5, 6, 7, 8, 9, 10, 11, 12, 15], [0, 1, 2, 3, 4, 5, 6, 7, 8, 9, 10, 11, 12, 13, 14, 15, 16], [0, 1, 2, 3, 4, 5, 6, 7, 8, 9, 10, 11, 12], [0, 1, 2, 3, 4, 5, 6, 7, 8, 9, 10, 11, 12, 18], [0, 1, 2, 3, 4, 5, 6, 7, 8, 9, 10, 11, 12, 18, 19], [0, 1, 2, 3, 4, 5, 6, 7, 8, 9, 10, 11, 12], [0, 1, 2, 3, 4, 5, 6, 7, 8, 9, 10, 11, 12, 18, 19, 20, 21], [0, 1, 2, 3, 4, 5, 6, 7, 8, 9, 10, 11, 12, 13, 14, 15, 16, 17, 18, 19, 20, 21, 22], [0, 1, 2, 3, 4, 5, 6, 7, 8, 9, 10, 11, 12, 13, 14, 15, 16, 17, 18, 19, 20, 21, 22, 23], [0, 1, 2, 3, 4, 5, 6, 7, 8, 9, 10, 11, 12, 13, 14, 15, 16, 17, 18, 19, 20, 21, 22, 23, 24]]
noncomputable def raddlelaw45_CostSides_l1 (x93 : api_Row) (p2 : Int) : (Int × Int) → Option ((Int × Int) ⊕ Int) := fun s0 => match s0 with
  | (s103, s104) =>
    if decide (s104 < (x93.Cells.length : Int)) then
      Option.bind (α := Int) (
        Option.bind (idxO x93.Cells s104) fun x130 =>
        if (IntKind.i64.wrap x130.Kind) == p2 then
          Option.bind (F_raddleref25_Gives x130) fun r138 =>
          some (w64 (s103 + (if (1 : Int) < r138 then r138 else 1)))
        else
          some s103) fun o119 =>
      some (.inl (o119, w64 (s104 + 1)))
    else
      some (.inr s103)
noncomputable def raddlelaw45_CostSides_l2 (p0 : api_Chart) (p2 : Int) : (Int × Int × Int) → Option ((Int × Int × Int) ⊕ (Int × Int)) := fun s0 => match s0 with
  | (s77, s78, s79) =>
    if decide (s79 < (p0.Rows.length : Int)) then
      Option.bind (α := (Int × Int)) (
        Option.bind (idxO p0.Rows s79) fun x93 =>
        Option.bind (whileO (raddlelaw45_CostSides_l1 x93 p2) (s78, 0)) fun e108 =>
          some (w64 (s77 + (x93.Cells.length : Int)), e108)) fun (o88, o89) =>
      some (.inl (o88, o89, w64 (s79 + 1)))
    else
      some (.inr (s77, s78))
noncomputable def raddlelaw45_CostSides_l3 (r40 : ((Int × Int × Int × Int × Int × Int × Int × Int × Int × Int × Int) × Int)) : (Int × Int) → Option ((Int × Int) ⊕ Int) := fun s0 => match s0 with
  | (s144, s145) =>
    if decide (s145 < 11) then
      Option.bind (idxO ([r40.1.1, r40.1.2.1, r40.1.2.2.1, r40.1.2.2.2.1, r40.1.2.2.2.2.1, r40.1.2.2.2.2.2.1, r40.1.2.2.2.2.2.2.1, r40.1.2.2.2.2.2.2.2.1, r40.1.2.2.2.2.2.2.2.2.1, r40.1.2.2.2.2.2.2.2.2.2.1, r40.1.2.2.2.2.2.2.2.2.2.2] : List Int) s145) fun x154 =>
      some (.inl (w64 (s144 + x154), w64 (s145 + 1)))
    else
      some (.inr s144)
noncomputable def F_raddlelaw45_CostSides (p0 : api_Chart) (p1 : api_Rates) (p2 : Int) (p3 : Int) : Option Bool :=
  Option.bind (F_raddlelaw45_alive) fun r9 =>
  Option.bind (α := Bool) (
    Option.bind (F_raddleref45_Great p0) fun r15 =>
    if r15 then
      some true
    else
      Option.bind (F_raddleref26_Check p0) fun r18 =>
      if r18 != 0 then
        some true
      else
        Option.bind (F_raddleref45_Check p1) fun r21 =>
        if r21 != 0 then
          some true
        else
          if decide (p2 < 1) then
            some true
          else
            if decide (10 < p2) then
              some true
            else
              if decide (p3 < 0) then
                some true
              else
                if decide (1000 < p3) then
                  some true
                else
                  some (!r9)) fun o12 =>
  if o12 then
    some r9
  else
    Option.bind (F_chart_Flip p0) fun r31 =>
    Option.bind (F_cost_Count p0) fun r40 =>
    Option.bind (F_cost_Count r31.1) fun r45 =>
    Option.bind (F_cost_Need p0 p1) fun r50 =>
    Option.bind (F_cost_Need r31.1 p1) fun r55 =>
    Option.bind (α := Bool) (
      if r31.2 != 0 then
        some true
      else
        if r40.2 != 0 then
          some true
        else
          if r45.2 != 0 then
            some true
          else
            if r50.2 != 0 then
              some true
            else
              if r55.2 != 0 then
                some true
              else
                if !((r40.1.1 == r45.1.1) && ((r40.1.2.1 == r45.1.2.1) && ((r40.1.2.2.1 == r45.1.2.2.1) && ((r40.1.2.2.2.1 == r45.1.2.2.2.1) && ((r40.1.2.2.2.2.1 == r45.1.2.2.2.2.1) && ((r40.1.2.2.2.2.2.1 == r45.1.2.2.2.2.2.1) && ((r40.1.2.2.2.2.2.2.1 == r45.1.2.2.2.2.2.2.1) && ((r40.1.2.2.2.2.2.2.2.1 == r45.1.2.2.2.2.2.2.2.1) && ((r40.1.2.2.2.2.2.2.2.2.1 == r45.1.2.2.2.2.2.2.2.2.1) && ((r40.1.2.2.2.2.2.2.2.2.2.1 == r45.1.2.2.2.2.2.2.2.2.2.1) && ((r40.1.2.2.2.2.2.2.2.2.2.2 == r45.1.2.2.2.2.2.2.2.2.2.2) && true))))))))))) then
                  some true
                else
                  some (!((r50.1.Length == r55.1.Length) && ((r50.1.Time == r55.1.Time) && true)))) fun o60 =>
    if o60 then
      some false
    else
      Option.bind (α := (Int × Int)) (
        Option.bind (whileO (raddlelaw45_CostSides_l2 p0 p2) (0, 0, 0)) fun (e83, e84) =>
          some (e83, e84)) fun (o72, o73) =>
      Option.bind (α := Int) (
        Option.bind (whileO (raddlelaw45_CostSides_l3 r40) (0, 0)) fun e149 =>
          some e149) fun o140 =>
      if o140 != o72 then
        some false
      else
        Option.bind (idxO ([p1.Length.1, p1.Length.2.1, p1.Length.2.2.1, p1.Length.2.2.2.1, p1.Length.2.2.2.2.1, p1.Length.2.2.2.2.2.1, p1.Length.2.2.2.2.2.2.1, p1.Length.2.2.2.2.2.2.2.1, p1.Length.2.2.2.2.2.2.2.2.1, p1.Length.2.2.2.2.2.2.2.2.2.1, p1.Length.2.2.2.2.2.2.2.2.2.2] : List Int) p2) fun x163 =>
        Option.bind (idxO ([p1.Time.1, p1.Time.2.1, p1.Time.2.2.1, p1.Time.2.2.2.1, p1.Time.2.2.2.2.1, p1.Time.2.2.2.2.2.1, p1.Time.2.2.2.2.2.2.1, p1.Time.2.2.2.2.2.2.2.1, p1.Time.2.2.2.2.2.2.2.2.1, p1.Time.2.2.2.2.2.2.2.2.2.1, p1.Time.2.2.2.2.2.2.2.2.2.2] : List Int) p2) fun x167 =>
        Option.bind (F_cost_Need p0 (api_Rates.mk ((if p2 = 0 then w64 (x163 + p3) else p1.Length.1), (if p2 = 1 then w64 (x163 + p3) else p1.Length.2.1), (if p2 = 2 then w64 (x163 + p3) else p1.Length.2.2.1), (if p2 = 3 then w64 (x163 + p3) else p1.Length.2.2.2.1), (if p2 = 4 then w64 (x163 + p3) else p1.Length.2.2.2.2.1), (if p2 = 5 then w64 (x163 + p3) else p1.Length.2.2.2.2.2.1), (if p2 = 6 then w64 (x163 + p3) else p1.Length.2.2.2.2.2.2.1), (if p2 = 7 then w64 (x163 + p3) else p1.Length.2.2.2.2.2.2.2.1), (if p2 = 8 then w64 (x163 + p3) else p1.Length.2.2.2.2.2.2.2.2.1), (if p2 = 9 then w64 (x163 + p3) else p1.Length.2.2.2.2.2.2.2.2.2.1), (if p2 = 10 then w64 (x163 + p3) else p1.Length.2.2.2.2.2.2.2.2.2.2)) ((if p2 = 0 then w64 (x167 + p3) else p1.Time.1), (if p2 = 1 then w64 (x167 + p3) else p1.Time.2.1), (if p2 = 2 then w64 (x167 + p3) else p1.Time.2.2.1), (if p2 = 3 then w64 (x167 + p3) else p1.Time.2.2.2.1), (if p2 = 4 then w64 (x167 + p3) else p1.Time.2.2.2.2.1), (if p2 = 5 then w64 (x167 + p3) else p1.Time.2.2.2.2.2.1), (if p2 = 6 then w64 (x167 + p3) else p1.Time.2.2.2.2.2.2.1), (if p2 = 7 then w64 (x167 + p3) else p1.Time.2.2.2.2.2.2.2.1), (if p2 = 8 then w64 (x167 + p3) else p1.Time.2.2.2.2.2.2.2.2.1), (if p2 = 9 then w64 (x167 + p3) else p1.Time.2.2.2.2.2.2.2.2.2.1), (if p2 = 10 then w64 (x167 + p3) else p1.Time.2.2.2.2.2.2.2.2.2.2)) p1.Turn)) fun r171 =>
        if r171.2 != 0 then
          Option.bind (α := Bool) (
            if r9 then
              if r171.2 == 8 then
                Option.bind (F_raddleref45_Check (api_Rates.mk ((if p2 = 0 then w64 (x163 + p3) else p1.Length.1), (if p2 = 1 then w64 (x163 + p3) else p1.Length.2.1), (if p2 = 2 then w64 (x163 + p3) else p1.Length.2.2.1), (if p2 = 3 then w64 (x163 + p3) else p1.Length.2.2.2.1), (if p2 = 4 then w64 (x163 + p3) else p1.Length.2.2.2.2.1), (if p2 = 5 then w64 (x163 + p3) else p1.Length.2.2.2.2.2.1), (if p2 = 6 then w64 (x163 + p3) else p1.Length.2.2.2.2.2.2.1), (if p2 = 7 then w64 (x163 + p3) else p1.Length.2.2.2.2.2.2.2.1), (if p2 = 8 then w64 (x163 + p3) else p1.Length.2.2.2.2.2.2.2.2.1), (if p2 = 9 then w64 (x163 + p3) else p1.Length.2.2.2.2.2.2.2.2.2.1), (if p2 = 10 then w64 (x163 + p3) else p1.Length.2.2.2.2.2.2.2.2.2.2)) ((if p2 = 0 then w64 (x167 + p3) else p1.Time.1), (if p2 = 1 then w64 (x167 + p3) else p1.Time.2.1), (if p2 = 2 then w64 (x167 + p3) else p1.Time.2.2.1), (if p2 = 3 then w64 (x167 + p3) else p1.Time.2.2.2.1), (if p2 = 4 then w64 (x167 + p3) else p1.Time.2.2.2.2.1), (if p2 = 5 then w64 (x167 + p3) else p1.Time.2.2.2.2.2.1), (if p2 = 6 then w64 (x167 + p3) else p1.Time.2.2.2.2.2.2.1), (if p2 = 7 then w64 (x167 + p3) else p1.Time.2.2.2.2.2.2.2.1), (if p2 = 8 then w64 (x167 + p3) else p1.Time.2.2.2.2.2.2.2.2.1), (if p2 = 9 then w64 (x167 + p3) else p1.Time.2.2.2.2.2.2.2.2.2.1), (if p2 = 10 then w64 (x167 + p3) else p1.Time.2.2.2.2.2.2.2.2.2.2)) p1.Turn)) fun r183 =>
                some (r183 != 0)
              else
                some false
            else
              some false) fun o178 =>
          some o178
        else
          Option.bind (α := Bool) (
            if r9 then
              if (w64 (r171.1.Length - r50.1.Length)) == (w64 (o73 * p3)) then
                Option.bind (idxO ([r40.1.1, r40.1.2.1, r40.1.2.2.1, r40.1.2.2.2.1, r40.1.2.2.2.2.1, r40.1.2.2.2.2.2.1, r40.1.2.2.2.2.2.2.1, r40.1.2.2.2.2.2.2.2.1, r40.1.2.2.2.2.2.2.2.2.1, r40.1.2.2.2.2.2.2.2.2.2.1, r40.1.2.2.2.2.2.2.2.2.2.2] : List Int) p2) fun x190 =>
                some ((w64 (r171.1.Time - r50.1.Time)) == (w64 (x190 * p3)))
              else
                some false
            else
              some false) fun o185 =>
          some o185
set_option maxHeartbeats 4000000 in
set_option maxRecDepth 100000 in
theorem c_raddlelaw45_CostSides (E : Nat → Prop) (w0 : World) (p0 : api_Chart) (v0 : Value) (p1 : api_Rates) (v1 : Value) (p2 : Int) (p3 : Int) (r : Bool) (h : F_raddlelaw45_CostSides p0 p1 p2 p3 = some r) (S : St0 E [] w0 w0 [] [fRep r_api_Chart (v0) p0, fRep r_api_Rates (v1) p1]) :
    Calls Try.prog 7 #[v0, v1, iv p2, iv p3] w0 (Ret (X := Unit) E [] w0 (fun _ => .bool r) (fun _ => []) (fun _ => [])) := by
  unfold F_raddlelaw45_CostSides at h
  obtain ⟨u1, rfl, hu2⟩ := S.know (i := 0) (e := fRep r_api_Chart (v0) p0) rfl
  have S := S.learn (fRep (rL r_api_Row) u1 p0.Rows) hu2
  obtain ⟨ad3, cp4, _, rfl, _⟩ := hu2
  obtain rfl : v1 = gv_api_Rates p1 := S.know (i := 2) (e := fRep r_api_Rates (v1) p1) rfl
  refine sEnter (args := [.agg #[iv p0.Start, .slice ad3 p0.Rows.length cp4], gv_api_Rates p1, iv p2, iv p3]) 237 Try.func7 rfl rfl (by simp) S (fun a S => ?_)
  refine sSeq (fun K5 hK5 => ?_)
  refine sRegion ?_
  refine sBox (v := .agg #[iv p0.Start, .slice ad3 p0.Rows.length cp4]) S (wN rfl) rfl rfl [iv p0.Start, .slice ad3 p0.Rows.length cp4] rfl rfl (lb rfl) fun a b6 w S => ?_
  refine sBox (v := gv_api_Rates p1) S (wN rfl) rfl rfl (gl_api_Rates p1) rfl rfl (lb rfl) fun a b7 w S => ?_
  refine sMove (.bool false) S (wN rfl) (.inr rfl) rfl rfl (lb rfl) fun a S => ?_
  refine leafL (leafT (hK5 _ _ ?_))
  refine sSeq (fun K8 hK8 => ?_)
  refine sRegion ?_
  obtain ⟨r9, hx10, h⟩ := bindSome h
  have S1 := S.mem
  refine sCallQ (X := Unit) (f := 24) (vs := []) (val := fun _ => .bool r9) S (wN rfl) rfl callee24 rfl (S1.quiet [] rfl) (fun E1 w1 S1 => c_raddlelaw45_alive E1 w1  r9 hx10 S1) rfl (lb rfl) fun _ a w S => ?_
  refine sMove (.bool r9) S (wN rfl) (.inr rfl) rfl rfl (lb rfl) fun a S => ?_
  refine leafL (leafT (hK8 _ _ ?_))
  refine sSeq (fun K11 hK11 => ?_)
  obtain ⟨t13, h, g14⟩ := bindSome h
  refine sCut (fun a w => ∃ o12, o12 = t13 ∧ St [] E [] w0 237 a w [(2, iv p2), (3, iv p3), (4, .pointer (some ⟨b6, 0, none⟩)), (5, .pointer (some ⟨b7, 0, none⟩)), (9, .bool r9), (62, .bool o12)] [eBox b6 41 [iv p0.Start, .slice ad3 p0.Rows.length cp4], eBox b7 44 (gl_api_Rates p1)] [fRep (rL r_api_Row) (.slice ad3 p0.Rows.length cp4) p0.Rows]) ?_ (fun a w hI => ?_)
  · refine sRegion ?_
    refine sLoadN (p := b6) (off := 0) (T := 41) (vs := [iv p0.Start, .slice ad3 p0.Rows.length cp4]) 1 [iv p0.Start, .slice ad3 p0.Rows.length cp4] S (wN rfl) rfl rfl rfl rfl rfl rfl rfl (lb rfl) fun a S => ?_
    obtain ⟨r15, hx16, h⟩ := bindSome h
    have S1 := S.mem
    refine sCallQ (X := Unit) (f := 14) (vs := [.agg #[iv p0.Start, .slice ad3 p0.Rows.length cp4]]) (val := fun _ => .bool r15) S (wN rfl) rfl callee14 rfl (S1.quiet [1] rfl) (fun E1 w1 S1 => c_raddleref45_Great E1 w1 p0 (.agg #[iv p0.Start, .slice ad3 p0.Rows.length cp4]) r15 hx16 S1) rfl (lb rfl) fun _ a w S => ?_
    refine sMove (.bool r15) S (wN rfl) (.inl rfl) rfl rfl (lb rfl) fun a S => ?_
    rcases iteSome h with ⟨hc17, h⟩ | ⟨hc17, h⟩
    · refine sSkip 2 false 33 34 S rfl rfl rfl hc17 rfl (lb rfl) fun a S => ?_
      refine sSkip 2 false 33 35 S rfl rfl rfl hc17 rfl (lb rfl) fun a S => ?_
      refine sSkip 2 false 33 36 S rfl rfl rfl hc17 rfl (lb rfl) fun a S => ?_
      refine sPickT (.bool true) S (wN rfl) rfl rfl hc17 rfl rfl (lb rfl) fun a S => ?_
      refine sMove (.bool true) S (wN rfl) (.inl rfl) rfl rfl (lb rfl) fun a S => ?_
      refine sSkip 7 false 38 39 S rfl rfl rfl rfl rfl (lb rfl) fun a S => ?_
      refine sSkip 7 false 38 40 S rfl rfl rfl rfl rfl (lb rfl) fun a S => ?_
      refine sSkip 7 false 38 41 S rfl rfl rfl rfl rfl (lb rfl) fun a S => ?_
      refine sPickT (.bool true) S (wN rfl) rfl rfl rfl rfl rfl (lb rfl) fun a S => ?_
      refine sMove (.bool true) S (wN rfl) (.inl rfl) rfl rfl (lb rfl) fun a S => ?_
      refine sSkip 12 false 43 44 S rfl rfl rfl rfl rfl (lb rfl) fun a S => ?_
      refine sSkip 12 false 43 45 S rfl rfl rfl rfl rfl (lb rfl) fun a S => ?_
      refine sPickT (.bool true) S (wN rfl) rfl rfl rfl rfl rfl (lb rfl) fun a S => ?_
      refine sMove (.bool true) S (wN rfl) (.inl rfl) rfl rfl (lb rfl) fun a S => ?_
      refine sSkip 16 false 47 48 S rfl rfl rfl rfl rfl (lb rfl) fun a S => ?_
      refine sSkip 16 false 47 49 S rfl rfl rfl rfl rfl (lb rfl) fun a S => ?_
      refine sPickT (.bool true) S (wN rfl) rfl rfl rfl rfl rfl (lb rfl) fun a S => ?_
      refine sMove (.bool true) S (wN rfl) (.inl rfl) rfl rfl (lb rfl) fun a S => ?_
      refine sSkip 20 false 51 52 S rfl rfl rfl rfl rfl (lb rfl) fun a S => ?_
      refine sSkip 20 false 51 53 S rfl rfl rfl rfl rfl (lb rfl) fun a S => ?_
      refine sPickT (.bool true) S (wN rfl) rfl rfl rfl rfl rfl (lb rfl) fun a S => ?_
      refine sMove (.bool true) S (wN rfl) (.inl rfl) rfl rfl (lb rfl) fun a S => ?_
      refine sSkip 24 false 55 56 S rfl rfl rfl rfl rfl (lb rfl) fun a S => ?_
      refine sSkip 24 false 55 57 S rfl rfl rfl rfl rfl (lb rfl) fun a S => ?_
      refine sPickT (.bool true) S (wN rfl) rfl rfl rfl rfl rfl (lb rfl) fun a S => ?_
      refine sMove (.bool true) S (wN rfl) (.inl rfl) rfl rfl (lb rfl) fun a S => ?_
      refine sSkip 28 false 59 60 S rfl rfl rfl rfl rfl (lb rfl) fun a S => ?_
      refine sSkip 28 false 59 61 S rfl rfl rfl rfl rfl (lb rfl) fun a S => ?_
      refine sPickT (.bool true) S (wN rfl) rfl rfl rfl rfl rfl (lb rfl) fun a S => ?_
      exact leafL (leafT (⟨true, Option.some.inj h, S.fix [1, 0] [0] (by decide) rfl rfl rfl⟩))
    refine sLoadN (p := b6) (off := 0) (T := 41) (vs := [iv p0.Start, .slice ad3 p0.Rows.length cp4]) 1 [iv p0.Start, .slice ad3 p0.Rows.length cp4] S (wG 2 false 33 rfl rfl rfl hc17) rfl rfl rfl rfl rfl rfl rfl (lb rfl) fun a S => ?_
    obtain ⟨r18, hx19, h⟩ := bindSome h
    have S1 := S.mem
    refine sCallQ (X := Unit) (f := 30) (vs := [.agg #[iv p0.Start, .slice ad3 p0.Rows.length cp4]]) (val := fun _ => iv r18) S (wG 2 false 33 rfl rfl rfl hc17) rfl callee30 rfl (S1.quiet [1] rfl) (fun E1 w1 S1 => c_raddleref26_Check E1 w1 p0 (.agg #[iv p0.Start, .slice ad3 p0.Rows.length cp4]) r18 hx19 S1) rfl (lb rfl) fun _ a w S => ?_
    refine sBin (.bool (r18 != 0)) S (wG 2 false 33 rfl rfl rfl hc17) rfl rfl rfl (bNe _ _ _ _ .i64 r18 0) rfl (lb rfl) fun a S => ?_
    refine sPickF (.bool (r18 != 0)) S (wN rfl) rfl rfl hc17 rfl rfl (lb rfl) fun a S => ?_
    refine sMove (.bool (r18 != 0)) S (wN rfl) (.inl rfl) rfl rfl (lb rfl) fun a S => ?_
    rcases iteSome h with ⟨hc20, h⟩ | ⟨hc20, h⟩
    · refine sSkip 7 false 38 39 S rfl rfl rfl hc20 rfl (lb rfl) fun a S => ?_
      refine sSkip 7 false 38 40 S rfl rfl rfl hc20 rfl (lb rfl) fun a S => ?_
      refine sSkip 7 false 38 41 S rfl rfl rfl hc20 rfl (lb rfl) fun a S => ?_
      refine sPickT (.bool true) S (wN rfl) rfl rfl hc20 rfl rfl (lb rfl) fun a S => ?_
      refine sMove (.bool true) S (wN rfl) (.inl rfl) rfl rfl (lb rfl) fun a S => ?_
      refine sSkip 12 false 43 44 S rfl rfl rfl rfl rfl (lb rfl) fun a S => ?_
      refine sSkip 12 false 43 45 S rfl rfl rfl rfl rfl (lb rfl) fun a S => ?_
      refine sPickT (.bool true) S (wN rfl) rfl rfl rfl rfl rfl (lb rfl) fun a S => ?_
      refine sMove (.bool true) S (wN rfl) (.inl rfl) rfl rfl (lb rfl) fun a S => ?_
      refine sSkip 16 false 47 48 S rfl rfl rfl rfl rfl (lb rfl) fun a S => ?_
      refine sSkip 16 false 47 49 S rfl rfl rfl rfl rfl (lb rfl) fun a S => ?_
      refine sPickT (.bool true) S (wN rfl) rfl rfl rfl rfl rfl (lb rfl) fun a S => ?_
      refine sMove (.bool true) S (wN rfl) (.inl rfl) rfl rfl (lb rfl) fun a S => ?_
      refine sSkip 20 false 51 52 S rfl rfl rfl rfl rfl (lb rfl) fun a S => ?_
      refine sSkip 20 false 51 53 S rfl rfl rfl rfl rfl (lb rfl) fun a S => ?_
      refine sPickT (.bool true) S (wN rfl) rfl rfl rfl rfl rfl (lb rfl) fun a S => ?_
      refine sMove (.bool true) S (wN rfl) (.inl rfl) rfl rfl (lb rfl) fun a S => ?_
      refine sSkip 24 false 55 56 S rfl rfl rfl rfl rfl (lb rfl) fun a S => ?_
      refine sSkip 24 false 55 57 S rfl rfl rfl rfl rfl (lb rfl) fun a S => ?_
      refine sPickT (.bool true) S (wN rfl) rfl rfl rfl rfl rfl (lb rfl) fun a S => ?_
      refine sMove (.bool true) S (wN rfl) (.inl rfl) rfl rfl (lb rfl) fun a S => ?_
      refine sSkip 28 false 59 60 S rfl rfl rfl rfl rfl (lb rfl) fun a S => ?_
      refine sSkip 28 false 59 61 S rfl rfl rfl rfl rfl (lb rfl) fun a S => ?_
      refine sPickT (.bool true) S (wN rfl) rfl rfl rfl rfl rfl (lb rfl) fun a S => ?_
      exact leafL (leafT (⟨true, Option.some.inj h, S.fix [1, 0] [0] (by decide) rfl rfl rfl⟩))
    refine sLoadN (p := b7) (off := 0) (T := 44) (vs := (gl_api_Rates p1)) 0 (gl_api_Rates p1) S (wG 7 false 38 rfl rfl rfl hc20) rfl rfl rfl rfl rfl rfl rfl (lb rfl) fun a S => ?_
    obtain ⟨r21, hx22, h⟩ := bindSome h
    have S1 := S.mem
    refine sCallQ (X := Unit) (f := 23) (vs := [gv_api_Rates p1]) (val := fun _ => iv r21) S (wG 7 false 38 rfl rfl rfl hc20) rfl callee23 rfl (S1.quiet [2] rfl) (fun E1 w1 S1 => c_raddleref45_Check E1 w1 p1 (gv_api_Rates p1) r21 hx22 S1) rfl (lb rfl) fun _ a w S => ?_
    refine sBin (.bool (r21 != 0)) S (wG 7 false 38 rfl rfl rfl hc20) rfl rfl rfl (bNe _ _ _ _ .i64 r21 0) rfl (lb rfl) fun a S => ?_
    refine sPickF (.bool (r21 != 0)) S (wN rfl) rfl rfl hc20 rfl rfl (lb rfl) fun a S => ?_
    refine sMove (.bool (r21 != 0)) S (wN rfl) (.inl rfl) rfl rfl (lb rfl) fun a S => ?_
    rcases iteSome h with ⟨hc23, h⟩ | ⟨hc23, h⟩
    · refine sSkip 12 false 43 44 S rfl rfl rfl hc23 rfl (lb rfl) fun a S => ?_
      refine sSkip 12 false 43 45 S rfl rfl rfl hc23 rfl (lb rfl) fun a S => ?_
      refine sPickT (.bool true) S (wN rfl) rfl rfl hc23 rfl rfl (lb rfl) fun a S => ?_
      refine sMove (.bool true) S (wN rfl) (.inl rfl) rfl rfl (lb rfl) fun a S => ?_
      refine sSkip 16 false 47 48 S rfl rfl rfl rfl rfl (lb rfl) fun a S => ?_
      refine sSkip 16 false 47 49 S rfl rfl rfl rfl rfl (lb rfl) fun a S => ?_
      refine sPickT (.bool true) S (wN rfl) rfl rfl rfl rfl rfl (lb rfl) fun a S => ?_
      refine sMove (.bool true) S (wN rfl) (.inl rfl) rfl rfl (lb rfl) fun a S => ?_
      refine sSkip 20 false 51 52 S rfl rfl rfl rfl rfl (lb rfl) fun a S => ?_
      refine sSkip 20 false 51 53 S rfl rfl rfl rfl rfl (lb rfl) fun a S => ?_
      refine sPickT (.bool true) S (wN rfl) rfl rfl rfl rfl rfl (lb rfl) fun a S => ?_
      refine sMove (.bool true) S (wN rfl) (.inl rfl) rfl rfl (lb rfl) fun a S => ?_
      refine sSkip 24 false 55 56 S rfl rfl rfl rfl rfl (lb rfl) fun a S => ?_
      refine sSkip 24 false 55 57 S rfl rfl rfl rfl rfl (lb rfl) fun a S => ?_
      refine sPickT (.bool true) S (wN rfl) rfl rfl rfl rfl rfl (lb rfl) fun a S => ?_
      refine sMove (.bool true) S (wN rfl) (.inl rfl) rfl rfl (lb rfl) fun a S => ?_
      refine sSkip 28 false 59 60 S rfl rfl rfl rfl rfl (lb rfl) fun a S => ?_
      refine sSkip 28 false 59 61 S rfl rfl rfl rfl rfl (lb rfl) fun a S => ?_
      refine sPickT (.bool true) S (wN rfl) rfl rfl rfl rfl rfl (lb rfl) fun a S => ?_
      exact leafL (leafT (⟨true, Option.some.inj h, S.fix [1, 0] [0] (by decide) rfl rfl rfl⟩))
    refine sMove (iv p2) S (wG 12 false 43 rfl rfl rfl hc23) (.inl rfl) rfl rfl (lb rfl) fun a S => ?_
    refine sBin (.bool (decide (p2 < 1))) S (wG 12 false 43 rfl rfl rfl hc23) rfl rfl rfl (bLt _ _ _ _ .i64 p2 1) rfl (lb rfl) fun a S => ?_
    refine sPickF (.bool (decide (p2 < 1))) S (wN rfl) rfl rfl hc23 rfl rfl (lb rfl) fun a S => ?_
    refine sMove (.bool (decide (p2 < 1))) S (wN rfl) (.inl rfl) rfl rfl (lb rfl) fun a S => ?_
    rcases iteSome h with ⟨hc24, h⟩ | ⟨hc24, h⟩
    · refine sSkip 16 false 47 48 S rfl rfl rfl hc24 rfl (lb rfl) fun a S => ?_
      refine sSkip 16 false 47 49 S rfl rfl rfl hc24 rfl (lb rfl) fun a S => ?_
      refine sPickT (.bool true) S (wN rfl) rfl rfl hc24 rfl rfl (lb rfl) fun a S => ?_
      refine sMove (.bool true) S (wN rfl) (.inl rfl) rfl rfl (lb rfl) fun a S => ?_
      refine sSkip 20 false 51 52 S rfl rfl rfl rfl rfl (lb rfl) fun a S => ?_
      refine sSkip 20 false 51 53 S rfl rfl rfl rfl rfl (lb rfl) fun a S => ?_
      refine sPickT (.bool true) S (wN rfl) rfl rfl rfl rfl rfl (lb rfl) fun a S => ?_
      refine sMove (.bool true) S (wN rfl) (.inl rfl) rfl rfl (lb rfl) fun a S => ?_
      refine sSkip 24 false 55 56 S rfl rfl rfl rfl rfl (lb rfl) fun a S => ?_
      refine sSkip 24 false 55 57 S rfl rfl rfl rfl rfl (lb rfl) fun a S => ?_
      refine sPickT (.bool true) S (wN rfl) rfl rfl rfl rfl rfl (lb rfl) fun a S => ?_
      refine sMove (.bool true) S (wN rfl) (.inl rfl) rfl rfl (lb rfl) fun a S => ?_
      refine sSkip 28 false 59 60 S rfl rfl rfl rfl rfl (lb rfl) fun a S => ?_
      refine sSkip 28 false 59 61 S rfl rfl rfl rfl rfl (lb rfl) fun a S => ?_
      refine sPickT (.bool true) S (wN rfl) rfl rfl rfl rfl rfl (lb rfl) fun a S => ?_
      exact leafL (leafT (⟨true, Option.some.inj h, S.fix [1, 0] [0] (by decide) rfl rfl rfl⟩))
    refine sMove (iv p2) S (wG 16 false 47 rfl rfl rfl hc24) (.inl rfl) rfl rfl (lb rfl) fun a S => ?_
    refine sBin (.bool (decide (10 < p2))) S (wG 16 false 47 rfl rfl rfl hc24) rfl rfl rfl (bGt _ _ _ _ .i64 p2 10) rfl (lb rfl) fun a S => ?_
    refine sPickF (.bool (decide (10 < p2))) S (wN rfl) rfl rfl hc24 rfl rfl (lb rfl) fun a S => ?_
    refine sMove (.bool (decide (10 < p2))) S (wN rfl) (.inl rfl) rfl rfl (lb rfl) fun a S => ?_
    rcases iteSome h with ⟨hc25, h⟩ | ⟨hc25, h⟩
    · refine sSkip 20 false 51 52 S rfl rfl rfl hc25 rfl (lb rfl) fun a S => ?_
      refine sSkip 20 false 51 53 S rfl rfl rfl hc25 rfl (lb rfl) fun a S => ?_
      refine sPickT (.bool true) S (wN rfl) rfl rfl hc25 rfl rfl (lb rfl) fun a S => ?_
      refine sMove (.bool true) S (wN rfl) (.inl rfl) rfl rfl (lb rfl) fun a S => ?_
      refine sSkip 24 false 55 56 S rfl rfl rfl rfl rfl (lb rfl) fun a S => ?_
      refine sSkip 24 false 55 57 S rfl rfl rfl rfl rfl (lb rfl) fun a S => ?_
      refine sPickT (.bool true) S (wN rfl) rfl rfl rfl rfl rfl (lb rfl) fun a S => ?_
      refine sMove (.bool true) S (wN rfl) (.inl rfl) rfl rfl (lb rfl) fun a S => ?_
      refine sSkip 28 false 59 60 S rfl rfl rfl rfl rfl (lb rfl) fun a S => ?_
      refine sSkip 28 false 59 61 S rfl rfl rfl rfl rfl (lb rfl) fun a S => ?_
      refine sPickT (.bool true) S (wN rfl) rfl rfl rfl rfl rfl (lb rfl) fun a S => ?_
      exact leafL (leafT (⟨true, Option.some.inj h, S.fix [1, 0] [0] (by decide) rfl rfl rfl⟩))
    refine sMove (iv p3) S (wG 20 false 51 rfl rfl rfl hc25) (.inl rfl) rfl rfl (lb rfl) fun a S => ?_
    refine sBin (.bool (decide (p3 < 0))) S (wG 20 false 51 rfl rfl rfl hc25) rfl rfl rfl (bLt _ _ _ _ .i64 p3 0) rfl (lb rfl) fun a S => ?_
    refine sPickF (.bool (decide (p3 < 0))) S (wN rfl) rfl rfl hc25 rfl rfl (lb rfl) fun a S => ?_
    refine sMove (.bool (decide (p3 < 0))) S (wN rfl) (.inl rfl) rfl rfl (lb rfl) fun a S => ?_
    rcases iteSome h with ⟨hc26, h⟩ | ⟨hc26, h⟩
    · refine sSkip 24 false 55 56 S rfl rfl rfl hc26 rfl (lb rfl) fun a S => ?_
      refine sSkip 24 false 55 57 S rfl rfl rfl hc26 rfl (lb rfl) fun a S => ?_
      refine sPickT (.bool true) S (wN rfl) rfl rfl hc26 rfl rfl (lb rfl) fun a S => ?_
      refine sMove (.bool true) S (wN rfl) (.inl rfl) rfl rfl (lb rfl) fun a S => ?_
      refine sSkip 28 false 59 60 S rfl rfl rfl rfl rfl (lb rfl) fun a S => ?_
      refine sSkip 28 false 59 61 S rfl rfl rfl rfl rfl (lb rfl) fun a S => ?_
      refine sPickT (.bool true) S (wN rfl) rfl rfl rfl rfl rfl (lb rfl) fun a S => ?_
      exact leafL (leafT (⟨true, Option.some.inj h, S.fix [1, 0] [0] (by decide) rfl rfl rfl⟩))
    refine sMove (iv p3) S (wG 24 false 55 rfl rfl rfl hc26) (.inl rfl) rfl rfl (lb rfl) fun a S => ?_
    refine sBin (.bool (decide (1000 < p3))) S (wG 24 false 55 rfl rfl rfl hc26) rfl rfl rfl (bGt _ _ _ _ .i64 p3 1000) rfl (lb rfl) fun a S => ?_
    refine sPickF (.bool (decide (1000 < p3))) S (wN rfl) rfl rfl hc26 rfl rfl (lb rfl) fun a S => ?_
    refine sMove (.bool (decide (1000 < p3))) S (wN rfl) (.inl rfl) rfl rfl (lb rfl) fun a S => ?_
    rcases iteSome h with ⟨hc27, h⟩ | ⟨hc27, h⟩
    · refine sSkip 28 false 59 60 S rfl rfl rfl hc27 rfl (lb rfl) fun a S => ?_
      refine sSkip 28 false 59 61 S rfl rfl rfl hc27 rfl (lb rfl) fun a S => ?_
      refine sPickT (.bool true) S (wN rfl) rfl rfl hc27 rfl rfl (lb rfl) fun a S => ?_
      exact leafL (leafT (⟨true, Option.some.inj h, S.fix [1, 0] [0] (by decide) rfl rfl rfl⟩))
    refine sMove (.bool r9) S (wG 28 false 59 rfl rfl rfl hc27) (.inl rfl) rfl rfl (lb rfl) fun a S => ?_
    refine sNot (b := r9) S (wG 28 false 59 rfl rfl rfl hc27) rfl rfl rfl (lb rfl) fun a S => ?_
    refine sPickF (.bool (!r9)) S (wN rfl) rfl rfl hc27 rfl rfl (lb rfl) fun a S => ?_
    exact leafL (leafT (⟨!r9, Option.some.inj h, S.fix [1, 0] [0] (by decide) rfl rfl rfl⟩))
  obtain ⟨o12, rfl, S⟩ := hI
  have h := g14
  clear g14
  try dsimp only at h
  rcases iteSome h with ⟨hc28, h⟩ | ⟨hc28, h⟩
  · refine sCondT S rfl hc28 ?_
    refine sSeq (fun K29 hK29 => ?_)
    refine sRegion ?_
    refine sMove (.bool r9) S (wN rfl) (.inl rfl) rfl rfl (lb rfl) fun a S => ?_
    refine sMove (.bool r9) S (wN rfl) (.inr rfl) rfl rfl (lb rfl) fun a S => ?_
    refine leafL (leafT (hK29 _ _ ?_))
    obtain rfl := Option.some.inj h
    exact wp_ret (rThen (sRet (.bool r9) S (rsl1 rfl (rvT (t := 8) (v := .bool r9) S rfl)) ⟨(), rfl, S.mem.sel [] [] (by decide) rfl rfl⟩))
  refine sCondF S rfl hc28 ?_
  refine wp_skip (leafT (hK11 _ _ ?_))
  refine sSeq (fun K30 hK30 => ?_)
  refine sRegion ?_
  refine sLoadN (p := b6) (off := 0) (T := 41) (vs := [iv p0.Start, .slice ad3 p0.Rows.length cp4]) 0 [iv p0.Start, .slice ad3 p0.Rows.length cp4] S (wN rfl) rfl rfl rfl rfl rfl rfl rfl (lb rfl) fun a S => ?_
  obtain ⟨r31, hx32, h⟩ := bindSome h
  have S := S.learn (fRep r_api_Chart (.agg #[iv p0.Start, .slice ad3 p0.Rows.length cp4]) p0) ⟨_, rfl, S.mem.know (i := 0) (e := fRep (rL r_api_Row) (.slice ad3 p0.Rows.length cp4) p0.Rows) rfl⟩
  refine sCall (X := Value) (f := 31) (vs := [.agg #[iv p0.Start, .slice ad3 p0.Rows.length cp4]]) (val := c_chart_Flip_val r31) (B' := fun _ => []) (D' := c_chart_Flip_D r31) [] [eBox b6 41 [iv p0.Start, .slice ad3 p0.Rows.length cp4], eBox b7 44 (gl_api_Rates p1)] [fRep r_api_Chart (.agg #[iv p0.Start, .slice ad3 p0.Rows.length cp4]) p0] [0, 1] [0] S (wN rfl) rfl callee31 rfl (by decide) rfl rfl (fun E1 w1 S1 => c_chart_Flip E1 w1 p0 (.agg #[iv p0.Start, .slice ad3 p0.Rows.length cp4]) r31 hx32 S1) rfl (lb rfl) fun u33 a w S => ?_
  obtain ⟨u34, rfl, hu35⟩ := S.mem.know (i := 0) (e := fRep r_api_Chart (u33) r31.1) rfl
  have S := S.learn (fRep (rL r_api_Row) u34 r31.1.Rows) hu35
  obtain ⟨ad36, cp37, _, rfl, _⟩ := hu35
  refine sMove (.tuple #[.agg #[iv r31.1.Start, .slice ad36 r31.1.Rows.length cp37], iv r31.2]) S (wN rfl) (.inl rfl) rfl rfl (lb rfl) fun a S => ?_
  refine sExtract (vs := [.agg #[iv r31.1.Start, .slice ad36 r31.1.Rows.length cp37], iv r31.2]) (.agg #[iv r31.1.Start, .slice ad36 r31.1.Rows.length cp37]) S (wN rfl) rfl rfl rfl rfl (lb rfl) fun a S => ?_
  refine sExtract (vs := [.agg #[iv r31.1.Start, .slice ad36 r31.1.Rows.length cp37], iv r31.2]) (iv r31.2) S (wN rfl) rfl rfl rfl rfl (lb rfl) fun a S => ?_
  refine sAlloc (.agg #[iv 0, .slice none 0 0]) S (wN rfl) rfl rfl [iv 0, .slice none 0 0] rfl rfl (lb rfl) fun a b38 w S => ?_
  refine sStore (p := b38) (off := 0) (T := 41) (vs := [iv 0, .slice none 0 0]) (v := .agg #[iv r31.1.Start, .slice ad36 r31.1.Rows.length cp37]) 0 [iv r31.1.Start, .slice ad36 r31.1.Rows.length cp37] S (wN rfl) rfl rfl rfl rfl rfl rfl rfl (by simp) rfl fun a w S => ?_
  refine sMove (iv r31.2) S (wN rfl) (.inr rfl) rfl rfl (lb rfl) fun a S => ?_
  refine leafL (leafT (hK30 _ _ ?_))
  refine sSeq (fun K39 hK39 => ?_)
  refine sRegion ?_
  refine sLoadN (p := b6) (off := 0) (T := 41) (vs := [iv p0.Start, .slice ad3 p0.Rows.length cp4]) 1 [iv p0.Start, .slice ad3 p0.Rows.length cp4] S (wN rfl) rfl rfl rfl rfl rfl rfl rfl (lb rfl) fun a S => ?_
  obtain ⟨r40, hx41, h⟩ := bindSome h
  refine sCall (X := Value) (f := 16) (vs := [.agg #[iv p0.Start, .slice ad3 p0.Rows.length cp4]]) (val := c_cost_Count_val r40) (B' := fun _ => []) (D' := c_cost_Count_D r40) [] [eBox b38 41 [iv r31.1.Start, .slice ad36 r31.1.Rows.length cp37], eBox b6 41 [iv p0.Start, .slice ad3 p0.Rows.length cp4], eBox b7 44 (gl_api_Rates p1)] [fRep r_api_Chart (.agg #[iv p0.Start, .slice ad3 p0.Rows.length cp4]) p0] [0, 1, 2] [2] S (wN rfl) rfl callee16 rfl (by decide) rfl rfl (fun E1 w1 S1 => c_cost_Count E1 w1 p0 (.agg #[iv p0.Start, .slice ad3 p0.Rows.length cp4]) r40 hx41 S1) rfl (lb rfl) fun u42 a w S => ?_
  obtain rfl : u42 = gv_A11_Int r40.1 := S.mem.know (i := 0) (e := fRep r_A11_Int (u42) r40.1) rfl
  refine sMove (.tuple #[gv_A11_Int r40.1, iv r40.2]) S (wN rfl) (.inl rfl) rfl rfl (lb rfl) fun a S => ?_
  refine sExtract (vs := [gv_A11_Int r40.1, iv r40.2]) (gv_A11_Int r40.1) S (wN rfl) rfl rfl rfl rfl (lb rfl) fun a S => ?_
  refine sExtract (vs := [gv_A11_Int r40.1, iv r40.2]) (iv r40.2) S (wN rfl) rfl rfl rfl rfl (lb rfl) fun a S => ?_
  refine sAlloc (gv_A11_Int (0, 0, 0, 0, 0, 0, 0, 0, 0, 0, 0)) S (wN rfl) rfl rfl (gl_A11_Int (0, 0, 0, 0, 0, 0, 0, 0, 0, 0, 0)) rfl rfl (lb rfl) fun a b43 w S => ?_
  refine sStore (p := b43) (off := 0) (T := 42) (vs := [iv 0, iv 0, iv 0, iv 0, iv 0, iv 0, iv 0, iv 0, iv 0, iv 0, iv 0]) (v := gv_A11_Int r40.1) 0 [iv r40.1.1, iv r40.1.2.1, iv r40.1.2.2.1, iv r40.1.2.2.2.1, iv r40.1.2.2.2.2.1, iv r40.1.2.2.2.2.2.1, iv r40.1.2.2.2.2.2.2.1, iv r40.1.2.2.2.2.2.2.2.1, iv r40.1.2.2.2.2.2.2.2.2.1, iv r40.1.2.2.2.2.2.2.2.2.2.1, iv r40.1.2.2.2.2.2.2.2.2.2.2] S (wN rfl) rfl rfl rfl rfl rfl rfl rfl (by simp) rfl fun a w S => ?_
  refine sMove (iv r40.2) S (wN rfl) (.inr rfl) rfl rfl (lb rfl) fun a S => ?_
  refine leafL (leafT (hK39 _ _ ?_))
  refine sSeq (fun K44 hK44 => ?_)
  refine sRegion ?_
  refine sLoadN (p := b38) (off := 0) (T := 41) (vs := [iv r31.1.Start, .slice ad36 r31.1.Rows.length cp37]) 1 [iv r31.1.Start, .slice ad36 r31.1.Rows.length cp37] S (wN rfl) rfl rfl rfl rfl rfl rfl rfl (lb rfl) fun a S => ?_
  obtain ⟨r45, hx46, h⟩ := bindSome h
  refine sCall (X := Value) (f := 16) (vs := [.agg #[iv r31.1.Start, .slice ad36 r31.1.Rows.length cp37]]) (val := c_cost_Count_val r45) (B' := fun _ => []) (D' := c_cost_Count_D r45) [] [eBox b43 42 (gl_A11_Int r40.1), eBox b38 41 [iv r31.1.Start, .slice ad36 r31.1.Rows.length cp37], eBox b6 41 [iv p0.Start, .slice ad3 p0.Rows.length cp4], eBox b7 44 (gl_api_Rates p1)] [fRep r_api_Chart (.agg #[iv r31.1.Start, .slice ad36 r31.1.Rows.length cp37]) r31.1] [0, 1, 2, 3] [2] S (wN rfl) rfl callee16 rfl (by decide) rfl rfl (fun E1 w1 S1 => c_cost_Count E1 w1 r31.1 (.agg #[iv r31.1.Start, .slice ad36 r31.1.Rows.length cp37]) r45 hx46 S1) rfl (lb rfl) fun u47 a w S => ?_
  obtain rfl : u47 = gv_A11_Int r45.1 := S.mem.know (i := 0) (e := fRep r_A11_Int (u47) r45.1) rfl
  refine sMove (.tuple #[gv_A11_Int r45.1, iv r45.2]) S (wN rfl) (.inl rfl) rfl rfl (lb rfl) fun a S => ?_
  refine sExtract (vs := [gv_A11_Int r45.1, iv r45.2]) (gv_A11_Int r45.1) S (wN rfl) rfl rfl rfl rfl (lb rfl) fun a S => ?_
  refine sExtract (vs := [gv_A11_Int r45.1, iv r45.2]) (iv r45.2) S (wN rfl) rfl rfl rfl rfl (lb rfl) fun a S => ?_
  refine sAlloc (gv_A11_Int (0, 0, 0, 0, 0, 0, 0, 0, 0, 0, 0)) S (wN rfl) rfl rfl (gl_A11_Int (0, 0, 0, 0, 0, 0, 0, 0, 0, 0, 0)) rfl rfl (lb rfl) fun a b48 w S => ?_
  refine sStore (p := b48) (off := 0) (T := 42) (vs := [iv 0, iv 0, iv 0, iv 0, iv 0, iv 0, iv 0, iv 0, iv 0, iv 0, iv 0]) (v := gv_A11_Int r45.1) 0 [iv r45.1.1, iv r45.1.2.1, iv r45.1.2.2.1, iv r45.1.2.2.2.1, iv r45.1.2.2.2.2.1, iv r45.1.2.2.2.2.2.1, iv r45.1.2.2.2.2.2.2.1, iv r45.1.2.2.2.2.2.2.2.1, iv r45.1.2.2.2.2.2.2.2.2.1, iv r45.1.2.2.2.2.2.2.2.2.2.1, iv r45.1.2.2.2.2.2.2.2.2.2.2] S (wN rfl) rfl rfl rfl rfl rfl rfl rfl (by simp) rfl fun a w S => ?_
  refine sMove (iv r45.2) S (wN rfl) (.inr rfl) rfl rfl (lb rfl) fun a S => ?_
  refine leafL (leafT (hK44 _ _ ?_))
  refine sSeq (fun K49 hK49 => ?_)
  refine sRegion ?_
  refine sLoadN (p := b6) (off := 0) (T := 41) (vs := [iv p0.Start, .slice ad3 p0.Rows.length cp4]) 3 [iv p0.Start, .slice ad3 p0.Rows.length cp4] S (wN rfl) rfl rfl rfl rfl rfl rfl rfl (lb rfl) fun a S => ?_
  refine sLoadN (p := b7) (off := 0) (T := 44) (vs := (gl_api_Rates p1)) 4 (gl_api_Rates p1) S (wN rfl) rfl rfl rfl rfl rfl rfl rfl (lb rfl) fun a S => ?_
  obtain ⟨r50, hx51, h⟩ := bindSome h
  have S := S.learn (fRep r_api_Rates (gv_api_Rates p1) p1) rfl
  refine sCall (X := Value) (f := 18) (vs := [.agg #[iv p0.Start, .slice ad3 p0.Rows.length cp4], gv_api_Rates p1]) (val := c_cost_Need_val r50) (B' := fun _ => []) (D' := c_cost_Need_D r50) [] [eBox b48 42 (gl_A11_Int r45.1), eBox b43 42 (gl_A11_Int r40.1), eBox b38 41 [iv r31.1.Start, .slice ad36 r31.1.Rows.length cp37], eBox b6 41 [iv p0.Start, .slice ad3 p0.Rows.length cp4], eBox b7 44 (gl_api_Rates p1)] [fRep r_api_Chart (.agg #[iv p0.Start, .slice ad3 p0.Rows.length cp4]) p0, fRep r_api_Rates (gv_api_Rates p1) p1] [0, 1, 2, 3, 4] [5, 0] S (wN rfl) rfl callee18 rfl (by decide) rfl rfl (fun E1 w1 S1 => c_cost_Need E1 w1 p0 (.agg #[iv p0.Start, .slice ad3 p0.Rows.length cp4]) p1 (gv_api_Rates p1) r50 hx51 S1) rfl (lb rfl) fun u52 a w S => ?_
  obtain rfl : u52 = .agg #[iv r50.1.Length, iv r50.1.Time] := S.mem.know (i := 0) (e := fRep r_api_Bill (u52) r50.1) rfl
  refine sMove (.tuple #[.agg #[iv r50.1.Length, iv r50.1.Time], iv r50.2]) S (wN rfl) (.inl rfl) rfl rfl (lb rfl) fun a S => ?_
  refine sExtract (vs := [.agg #[iv r50.1.Length, iv r50.1.Time], iv r50.2]) (.agg #[iv r50.1.Length, iv r50.1.Time]) S (wN rfl) rfl rfl rfl rfl (lb rfl) fun a S => ?_
  refine sExtract (vs := [.agg #[iv r50.1.Length, iv r50.1.Time], iv r50.2]) (iv r50.2) S (wN rfl) rfl rfl rfl rfl (lb rfl) fun a S => ?_
  refine sAlloc (.agg #[iv 0, iv 0]) S (wN rfl) rfl rfl [iv 0, iv 0] rfl rfl (lb rfl) fun a b53 w S => ?_
  refine sStore (p := b53) (off := 0) (T := 23) (vs := [iv 0, iv 0]) (v := .agg #[iv r50.1.Length, iv r50.1.Time]) 0 [iv r50.1.Length, iv r50.1.Time] S (wN rfl) rfl rfl rfl rfl rfl rfl rfl (by simp) rfl fun a w S => ?_
  refine sMove (iv r50.2) S (wN rfl) (.inr rfl) rfl rfl (lb rfl) fun a S => ?_
  refine leafL (leafT (hK49 _ _ ?_))
  refine sSeq (fun K54 hK54 => ?_)
  refine sRegion ?_
  refine sLoadN (p := b38) (off := 0) (T := 41) (vs := [iv r31.1.Start, .slice ad36 r31.1.Rows.length cp37]) 3 [iv r31.1.Start, .slice ad36 r31.1.Rows.length cp37] S (wN rfl) rfl rfl rfl rfl rfl rfl rfl (lb rfl) fun a S => ?_
  refine sLoadN (p := b7) (off := 0) (T := 44) (vs := (gl_api_Rates p1)) 5 (gl_api_Rates p1) S (wN rfl) rfl rfl rfl rfl rfl rfl rfl (lb rfl) fun a S => ?_
  obtain ⟨r55, hx56, h⟩ := bindSome h
  refine sCall (X := Value) (f := 18) (vs := [.agg #[iv r31.1.Start, .slice ad36 r31.1.Rows.length cp37], gv_api_Rates p1]) (val := c_cost_Need_val r55) (B' := fun _ => []) (D' := c_cost_Need_D r55) [] [eBox b53 23 [iv r50.1.Length, iv r50.1.Time], eBox b48 42 (gl_A11_Int r45.1), eBox b43 42 (gl_A11_Int r40.1), eBox b38 41 [iv r31.1.Start, .slice ad36 r31.1.Rows.length cp37], eBox b6 41 [iv p0.Start, .slice ad3 p0.Rows.length cp4], eBox b7 44 (gl_api_Rates p1)] [fRep r_api_Chart (.agg #[iv r31.1.Start, .slice ad36 r31.1.Rows.length cp37]) r31.1, fRep r_api_Rates (gv_api_Rates p1) p1] [0, 1, 2, 3, 4, 5] [5, 1] S (wN rfl) rfl callee18 rfl (by decide) rfl rfl (fun E1 w1 S1 => c_cost_Need E1 w1 r31.1 (.agg #[iv r31.1.Start, .slice ad36 r31.1.Rows.length cp37]) p1 (gv_api_Rates p1) r55 hx56 S1) rfl (lb rfl) fun u57 a w S => ?_
  obtain rfl : u57 = .agg #[iv r55.1.Length, iv r55.1.Time] := S.mem.know (i := 0) (e := fRep r_api_Bill (u57) r55.1) rfl
  refine sMove (.tuple #[.agg #[iv r55.1.Length, iv r55.1.Time], iv r55.2]) S (wN rfl) (.inl rfl) rfl rfl (lb rfl) fun a S => ?_
  refine sExtract (vs := [.agg #[iv r55.1.Length, iv r55.1.Time], iv r55.2]) (.agg #[iv r55.1.Length, iv r55.1.Time]) S (wN rfl) rfl rfl rfl rfl (lb rfl) fun a S => ?_
  refine sExtract (vs := [.agg #[iv r55.1.Length, iv r55.1.Time], iv r55.2]) (iv r55.2) S (wN rfl) rfl rfl rfl rfl (lb rfl) fun a S => ?_
  refine sAlloc (.agg #[iv 0, iv 0]) S (wN rfl) rfl rfl [iv 0, iv 0] rfl rfl (lb rfl) fun a b58 w S => ?_
  refine sStore (p := b58) (off := 0) (T := 23) (vs := [iv 0, iv 0]) (v := .agg #[iv r55.1.Length, iv r55.1.Time]) 0 [iv r55.1.Length, iv r55.1.Time] S (wN rfl) rfl rfl rfl rfl rfl rfl rfl (by simp) rfl fun a w S => ?_
  refine sMove (iv r55.2) S (wN rfl) (.inr rfl) rfl rfl (lb rfl) fun a S => ?_
  refine leafL (leafT (hK54 _ _ ?_))
  refine sSeq (fun K59 hK59 => ?_)
  obtain ⟨t61, h, g62⟩ := bindSome h
  refine sCut (fun a w => ∃ o60, o60 = t61 ∧ St [] E [] w0 237 a w [(2, iv p2), (3, iv p3), (4, .pointer (some ⟨b6, 0, none⟩)), (5, .pointer (some ⟨b7, 0, none⟩)), (9, .bool r9), (12, .pointer (some ⟨b43, 0, none⟩)), (16, .pointer (some ⟨b53, 0, none⟩)), (118, .bool o60)] [eBox b6 41 [iv p0.Start, .slice ad3 p0.Rows.length cp4], eBox b7 44 (gl_api_Rates p1), eBox b43 42 (gl_A11_Int r40.1), eBox b53 23 [iv r50.1.Length, iv r50.1.Time]] [fRep (rL r_api_Row) (.slice ad3 p0.Rows.length cp4) p0.Rows]) ?_ (fun a w hI => ?_)
  · refine sRegion ?_
    refine sMove (iv r31.2) S (wN rfl) (.inl rfl) rfl rfl (lb rfl) fun a S => ?_
    refine sBin (.bool (r31.2 != 0)) S (wN rfl) rfl rfl rfl (bNe _ _ _ _ .i64 r31.2 0) rfl (lb rfl) fun a S => ?_
    refine sMove (.bool (r31.2 != 0)) S (wN rfl) (.inl rfl) rfl rfl (lb rfl) fun a S => ?_
    rcases iteSome h with ⟨hc63, h⟩ | ⟨hc63, h⟩
    · refine sSkip 2 false 93 94 S rfl rfl rfl hc63 rfl (lb rfl) fun a S => ?_
      refine sSkip 2 false 93 95 S rfl rfl rfl hc63 rfl (lb rfl) fun a S => ?_
      refine sPickT (.bool true) S (wN rfl) rfl rfl hc63 rfl rfl (lb rfl) fun a S => ?_
      refine sMove (.bool true) S (wN rfl) (.inl rfl) rfl rfl (lb rfl) fun a S => ?_
      refine sSkip 6 false 97 98 S rfl rfl rfl rfl rfl (lb rfl) fun a S => ?_
      refine sSkip 6 false 97 99 S rfl rfl rfl rfl rfl (lb rfl) fun a S => ?_
      refine sPickT (.bool true) S (wN rfl) rfl rfl rfl rfl rfl (lb rfl) fun a S => ?_
      refine sMove (.bool true) S (wN rfl) (.inl rfl) rfl rfl (lb rfl) fun a S => ?_
      refine sSkip 10 false 101 102 S rfl rfl rfl rfl rfl (lb rfl) fun a S => ?_
      refine sSkip 10 false 101 103 S rfl rfl rfl rfl rfl (lb rfl) fun a S => ?_
      refine sPickT (.bool true) S (wN rfl) rfl rfl rfl rfl rfl (lb rfl) fun a S => ?_
      refine sMove (.bool true) S (wN rfl) (.inl rfl) rfl rfl (lb rfl) fun a S => ?_
      refine sSkip 14 false 105 106 S rfl rfl rfl rfl rfl (lb rfl) fun a S => ?_
      refine sSkip 14 false 105 107 S rfl rfl rfl rfl rfl (lb rfl) fun a S => ?_
      refine sPickT (.bool true) S (wN rfl) rfl rfl rfl rfl rfl (lb rfl) fun a S => ?_
      refine sMove (.bool true) S (wN rfl) (.inl rfl) rfl rfl (lb rfl) fun a S => ?_
      refine sSkip 18 false 109 110 S rfl rfl rfl rfl rfl (lb rfl) fun a S => ?_
      refine sSkip 18 false 109 111 S rfl rfl rfl rfl rfl (lb rfl) fun a S => ?_
      refine sSkip 18 false 109 112 S rfl rfl rfl rfl rfl (lb rfl) fun a S => ?_
      refine sPickT (.bool true) S (wN rfl) rfl rfl rfl rfl rfl (lb rfl) fun a S => ?_
      refine sMove (.bool true) S (wN rfl) (.inl rfl) rfl rfl (lb rfl) fun a S => ?_
      refine sSkip 23 false 114 115 S rfl rfl rfl rfl rfl (lb rfl) fun a S => ?_
      refine sSkip 23 false 114 116 S rfl rfl rfl rfl rfl (lb rfl) fun a S => ?_
      refine sSkip 23 false 114 117 S rfl rfl rfl rfl rfl (lb rfl) fun a S => ?_
      refine sPickT (.bool true) S (wN rfl) rfl rfl rfl rfl rfl (lb rfl) fun a S => ?_
      exact leafL (leafT (⟨true, Option.some.inj h, S.fix [5, 6, 3, 1] [8] (by decide) rfl rfl rfl⟩))
    refine sMove (iv r40.2) S (wG 2 false 93 rfl rfl rfl hc63) (.inl rfl) rfl rfl (lb rfl) fun a S => ?_
    refine sBin (.bool (r40.2 != 0)) S (wG 2 false 93 rfl rfl rfl hc63) rfl rfl rfl (bNe _ _ _ _ .i64 r40.2 0) rfl (lb rfl) fun a S => ?_
    refine sPickF (.bool (r40.2 != 0)) S (wN rfl) rfl rfl hc63 rfl rfl (lb rfl) fun a S => ?_
    refine sMove (.bool (r40.2 != 0)) S (wN rfl) (.inl rfl) rfl rfl (lb rfl) fun a S => ?_
    rcases iteSome h with ⟨hc64, h⟩ | ⟨hc64, h⟩
    · refine sSkip 6 false 97 98 S rfl rfl rfl hc64 rfl (lb rfl) fun a S => ?_
      refine sSkip 6 false 97 99 S rfl rfl rfl hc64 rfl (lb rfl) fun a S => ?_
      refine sPickT (.bool true) S (wN rfl) rfl rfl hc64 rfl rfl (lb rfl) fun a S => ?_
      refine sMove (.bool true) S (wN rfl) (.inl rfl) rfl rfl (lb rfl) fun a S => ?_
      refine sSkip 10 false 101 102 S rfl rfl rfl rfl rfl (lb rfl) fun a S => ?_
      refine sSkip 10 false 101 103 S rfl rfl rfl rfl rfl (lb rfl) fun a S => ?_
      refine sPickT (.bool true) S (wN rfl) rfl rfl rfl rfl rfl (lb rfl) fun a S => ?_
      refine sMove (.bool true) S (wN rfl) (.inl rfl) rfl rfl (lb rfl) fun a S => ?_
      refine sSkip 14 false 105 106 S rfl rfl rfl rfl rfl (lb rfl) fun a S => ?_
      refine sSkip 14 false 105 107 S rfl rfl rfl rfl rfl (lb rfl) fun a S => ?_
      refine sPickT (.bool true) S (wN rfl) rfl rfl rfl rfl rfl (lb rfl) fun a S => ?_
      refine sMove (.bool true) S (wN rfl) (.inl rfl) rfl rfl (lb rfl) fun a S => ?_
      refine sSkip 18 false 109 110 S rfl rfl rfl rfl rfl (lb rfl) fun a S => ?_
      refine sSkip 18 false 109 111 S rfl rfl rfl rfl rfl (lb rfl) fun a S => ?_
      refine sSkip 18 false 109 112 S rfl rfl rfl rfl rfl (lb rfl) fun a S => ?_
      refine sPickT (.bool true) S (wN rfl) rfl rfl rfl rfl rfl (lb rfl) fun a S => ?_
      refine sMove (.bool true) S (wN rfl) (.inl rfl) rfl rfl (lb rfl) fun a S => ?_
      refine sSkip 23 false 114 115 S rfl rfl rfl rfl rfl (lb rfl) fun a S => ?_
      refine sSkip 23 false 114 116 S rfl rfl rfl rfl rfl (lb rfl) fun a S => ?_
      refine sSkip 23 false 114 117 S rfl rfl rfl rfl rfl (lb rfl) fun a S => ?_
      refine sPickT (.bool true) S (wN rfl) rfl rfl rfl rfl rfl (lb rfl) fun a S => ?_
      exact leafL (leafT (⟨true, Option.some.inj h, S.fix [5, 6, 3, 1] [8] (by decide) rfl rfl rfl⟩))
    refine sMove (iv r45.2) S (wG 6 false 97 rfl rfl rfl hc64) (.inl rfl) rfl rfl (lb rfl) fun a S => ?_
    refine sBin (.bool (r45.2 != 0)) S (wG 6 false 97 rfl rfl rfl hc64) rfl rfl rfl (bNe _ _ _ _ .i64 r45.2 0) rfl (lb rfl) fun a S => ?_
    refine sPickF (.bool (r45.2 != 0)) S (wN rfl) rfl rfl hc64 rfl rfl (lb rfl) fun a S => ?_
    refine sMove (.bool (r45.2 != 0)) S (wN rfl) (.inl rfl) rfl rfl (lb rfl) fun a S => ?_
    rcases iteSome h with ⟨hc65, h⟩ | ⟨hc65, h⟩
    · refine sSkip 10 false 101 102 S rfl rfl rfl hc65 rfl (lb rfl) fun a S => ?_
      refine sSkip 10 false 101 103 S rfl rfl rfl hc65 rfl (lb rfl) fun a S => ?_
      refine sPickT (.bool true) S (wN rfl) rfl rfl hc65 rfl rfl (lb rfl) fun a S => ?_
      refine sMove (.bool true) S (wN rfl) (.inl rfl) rfl rfl (lb rfl) fun a S => ?_
      refine sSkip 14 false 105 106 S rfl rfl rfl rfl rfl (lb rfl) fun a S => ?_
      refine sSkip 14 false 105 107 S rfl rfl rfl rfl rfl (lb rfl) fun a S => ?_
      refine sPickT (.bool true) S (wN rfl) rfl rfl rfl rfl rfl (lb rfl) fun a S => ?_
      refine sMove (.bool true) S (wN rfl) (.inl rfl) rfl rfl (lb rfl) fun a S => ?_
      refine sSkip 18 false 109 110 S rfl rfl rfl rfl rfl (lb rfl) fun a S => ?_
      refine sSkip 18 false 109 111 S rfl rfl rfl rfl rfl (lb rfl) fun a S => ?_
      refine sSkip 18 false 109 112 S rfl rfl rfl rfl rfl (lb rfl) fun a S => ?_
      refine sPickT (.bool true) S (wN rfl) rfl rfl rfl rfl rfl (lb rfl) fun a S => ?_
      refine sMove (.bool true) S (wN rfl) (.inl rfl) rfl rfl (lb rfl) fun a S => ?_
      refine sSkip 23 false 114 115 S rfl rfl rfl rfl rfl (lb rfl) fun a S => ?_
      refine sSkip 23 false 114 116 S rfl rfl rfl rfl rfl (lb rfl) fun a S => ?_
      refine sSkip 23 false 114 117 S rfl rfl rfl rfl rfl (lb rfl) fun a S => ?_
      refine sPickT (.bool true) S (wN rfl) rfl rfl rfl rfl rfl (lb rfl) fun a S => ?_
      exact leafL (leafT (⟨true, Option.some.inj h, S.fix [5, 6, 3, 1] [8] (by decide) rfl rfl rfl⟩))
    refine sMove (iv r50.2) S (wG 10 false 101 rfl rfl rfl hc65) (.inl rfl) rfl rfl (lb rfl) fun a S => ?_
    refine sBin (.bool (r50.2 != 0)) S (wG 10 false 101 rfl rfl rfl hc65) rfl rfl rfl (bNe _ _ _ _ .i64 r50.2 0) rfl (lb rfl) fun a S => ?_
    refine sPickF (.bool (r50.2 != 0)) S (wN rfl) rfl rfl hc65 rfl rfl (lb rfl) fun a S => ?_
    refine sMove (.bool (r50.2 != 0)) S (wN rfl) (.inl rfl) rfl rfl (lb rfl) fun a S => ?_
    rcases iteSome h with ⟨hc66, h⟩ | ⟨hc66, h⟩
    · refine sSkip 14 false 105 106 S rfl rfl rfl hc66 rfl (lb rfl) fun a S => ?_
      refine sSkip 14 false 105 107 S rfl rfl rfl hc66 rfl (lb rfl) fun a S => ?_
      refine sPickT (.bool true) S (wN rfl) rfl rfl hc66 rfl rfl (lb rfl) fun a S => ?_
      refine sMove (.bool true) S (wN rfl) (.inl rfl) rfl rfl (lb rfl) fun a S => ?_
      refine sSkip 18 false 109 110 S rfl rfl rfl rfl rfl (lb rfl) fun a S => ?_
      refine sSkip 18 false 109 111 S rfl rfl rfl rfl rfl (lb rfl) fun a S => ?_
      refine sSkip 18 false 109 112 S rfl rfl rfl rfl rfl (lb rfl) fun a S => ?_
      refine sPickT (.bool true) S (wN rfl) rfl rfl rfl rfl rfl (lb rfl) fun a S => ?_
      refine sMove (.bool true) S (wN rfl) (.inl rfl) rfl rfl (lb rfl) fun a S => ?_
      refine sSkip 23 false 114 115 S rfl rfl rfl rfl rfl (lb rfl) fun a S => ?_
      refine sSkip 23 false 114 116 S rfl rfl rfl rfl rfl (lb rfl) fun a S => ?_
      refine sSkip 23 false 114 117 S rfl rfl rfl rfl rfl (lb rfl) fun a S => ?_
      refine sPickT (.bool true) S (wN rfl) rfl rfl rfl rfl rfl (lb rfl) fun a S => ?_
      exact leafL (leafT (⟨true, Option.some.inj h, S.fix [5, 6, 3, 1] [8] (by decide) rfl rfl rfl⟩))
    refine sMove (iv r55.2) S (wG 14 false 105 rfl rfl rfl hc66) (.inl rfl) rfl rfl (lb rfl) fun a S => ?_
    refine sBin (.bool (r55.2 != 0)) S (wG 14 false 105 rfl rfl rfl hc66) rfl rfl rfl (bNe _ _ _ _ .i64 r55.2 0) rfl (lb rfl) fun a S => ?_
    refine sPickF (.bool (r55.2 != 0)) S (wN rfl) rfl rfl hc66 rfl rfl (lb rfl) fun a S => ?_
    refine sMove (.bool (r55.2 != 0)) S (wN rfl) (.inl rfl) rfl rfl (lb rfl) fun a S => ?_
    rcases iteSome h with ⟨hc67, h⟩ | ⟨hc67, h⟩
    · refine sSkip 18 false 109 110 S rfl rfl rfl hc67 rfl (lb rfl) fun a S => ?_
      refine sSkip 18 false 109 111 S rfl rfl rfl hc67 rfl (lb rfl) fun a S => ?_
      refine sSkip 18 false 109 112 S rfl rfl rfl hc67 rfl (lb rfl) fun a S => ?_
      refine sPickT (.bool true) S (wN rfl) rfl rfl hc67 rfl rfl (lb rfl) fun a S => ?_
      refine sMove (.bool true) S (wN rfl) (.inl rfl) rfl rfl (lb rfl) fun a S => ?_
      refine sSkip 23 false 114 115 S rfl rfl rfl rfl rfl (lb rfl) fun a S => ?_
      refine sSkip 23 false 114 116 S rfl rfl rfl rfl rfl (lb rfl) fun a S => ?_
      refine sSkip 23 false 114 117 S rfl rfl rfl rfl rfl (lb rfl) fun a S => ?_
      refine sPickT (.bool true) S (wN rfl) rfl rfl rfl rfl rfl (lb rfl) fun a S => ?_
      exact leafL (leafT (⟨true, Option.some.inj h, S.fix [5, 6, 3, 1] [8] (by decide) rfl rfl rfl⟩))
    refine sLoadN (p := b43) (off := 0) (T := 42) (vs := (gl_A11_Int r40.1)) 3 (gl_A11_Int r40.1) S (wG 18 false 109 rfl rfl rfl hc67) rfl rfl rfl rfl rfl rfl rfl (lb rfl) fun a S => ?_
    refine sLoadN (p := b48) (off := 0) (T := 42) (vs := (gl_A11_Int r45.1)) 2 (gl_A11_Int r45.1) S (wG 18 false 109 rfl rfl rfl hc67) rfl rfl rfl rfl rfl rfl rfl (lb rfl) fun a S => ?_
    refine sBin (.bool (!((r40.1.1 == r45.1.1) && ((r40.1.2.1 == r45.1.2.1) && ((r40.1.2.2.1 == r45.1.2.2.1) && ((r40.1.2.2.2.1 == r45.1.2.2.2.1) && ((r40.1.2.2.2.2.1 == r45.1.2.2.2.2.1) && ((r40.1.2.2.2.2.2.1 == r45.1.2.2.2.2.2.1) && ((r40.1.2.2.2.2.2.2.1 == r45.1.2.2.2.2.2.2.1) && ((r40.1.2.2.2.2.2.2.2.1 == r45.1.2.2.2.2.2.2.2.1) && ((r40.1.2.2.2.2.2.2.2.2.1 == r45.1.2.2.2.2.2.2.2.2.1) && ((r40.1.2.2.2.2.2.2.2.2.2.1 == r45.1.2.2.2.2.2.2.2.2.2.1) && ((r40.1.2.2.2.2.2.2.2.2.2.2 == r45.1.2.2.2.2.2.2.2.2.2.2) && true))))))))))))) S (wG 18 false 109 rfl rfl rfl hc67) rfl rfl rfl (bNeV _ _ _ _ #[iv r40.1.1, iv r40.1.2.1, iv r40.1.2.2.1, iv r40.1.2.2.2.1, iv r40.1.2.2.2.2.1, iv r40.1.2.2.2.2.2.1, iv r40.1.2.2.2.2.2.2.1, iv r40.1.2.2.2.2.2.2.2.1, iv r40.1.2.2.2.2.2.2.2.2.1, iv r40.1.2.2.2.2.2.2.2.2.2.1, iv r40.1.2.2.2.2.2.2.2.2.2.2] #[iv r45.1.1, iv r45.1.2.1, iv r45.1.2.2.1, iv r45.1.2.2.2.1, iv r45.1.2.2.2.2.1, iv r45.1.2.2.2.2.2.1, iv r45.1.2.2.2.2.2.2.1, iv r45.1.2.2.2.2.2.2.2.1, iv r45.1.2.2.2.2.2.2.2.2.1, iv r45.1.2.2.2.2.2.2.2.2.2.1, iv r45.1.2.2.2.2.2.2.2.2.2.2] ((r40.1.1 == r45.1.1) && ((r40.1.2.1 == r45.1.2.1) && ((r40.1.2.2.1 == r45.1.2.2.1) && ((r40.1.2.2.2.1 == r45.1.2.2.2.1) && ((r40.1.2.2.2.2.1 == r45.1.2.2.2.2.1) && ((r40.1.2.2.2.2.2.1 == r45.1.2.2.2.2.2.1) && ((r40.1.2.2.2.2.2.2.1 == r45.1.2.2.2.2.2.2.1) && ((r40.1.2.2.2.2.2.2.2.1 == r45.1.2.2.2.2.2.2.2.1) && ((r40.1.2.2.2.2.2.2.2.2.1 == r45.1.2.2.2.2.2.2.2.2.1) && ((r40.1.2.2.2.2.2.2.2.2.2.1 == r45.1.2.2.2.2.2.2.2.2.2.1) && ((r40.1.2.2.2.2.2.2.2.2.2.2 == r45.1.2.2.2.2.2.2.2.2.2.2) && true))))))))))) (by kernel_rfl) (eqlV_of (by kernel_rfl))) rfl (lb rfl) fun a S => ?_
    refine sPickF (.bool (!((r40.1.1 == r45.1.1) && ((r40.1.2.1 == r45.1.2.1) && ((r40.1.2.2.1 == r45.1.2.2.1) && ((r40.1.2.2.2.1 == r45.1.2.2.2.1) && ((r40.1.2.2.2.2.1 == r45.1.2.2.2.2.1) && ((r40.1.2.2.2.2.2.1 == r45.1.2.2.2.2.2.1) && ((r40.1.2.2.2.2.2.2.1 == r45.1.2.2.2.2.2.2.1) && ((r40.1.2.2.2.2.2.2.2.1 == r45.1.2.2.2.2.2.2.2.1) && ((r40.1.2.2.2.2.2.2.2.2.1 == r45.1.2.2.2.2.2.2.2.2.1) && ((r40.1.2.2.2.2.2.2.2.2.2.1 == r45.1.2.2.2.2.2.2.2.2.2.1) && ((r40.1.2.2.2.2.2.2.2.2.2.2 == r45.1.2.2.2.2.2.2.2.2.2.2) && true))))))))))))) S (wN rfl) rfl rfl hc67 rfl rfl (lb rfl) fun a S => ?_
    refine sMove (.bool (!((r40.1.1 == r45.1.1) && ((r40.1.2.1 == r45.1.2.1) && ((r40.1.2.2.1 == r45.1.2.2.1) && ((r40.1.2.2.2.1 == r45.1.2.2.2.1) && ((r40.1.2.2.2.2.1 == r45.1.2.2.2.2.1) && ((r40.1.2.2.2.2.2.1 == r45.1.2.2.2.2.2.1) && ((r40.1.2.2.2.2.2.2.1 == r45.1.2.2.2.2.2.2.1) && ((r40.1.2.2.2.2.2.2.2.1 == r45.1.2.2.2.2.2.2.2.1) && ((r40.1.2.2.2.2.2.2.2.2.1 == r45.1.2.2.2.2.2.2.2.2.1) && ((r40.1.2.2.2.2.2.2.2.2.2.1 == r45.1.2.2.2.2.2.2.2.2.2.1) && ((r40.1.2.2.2.2.2.2.2.2.2.2 == r45.1.2.2.2.2.2.2.2.2.2.2) && true))))))))))))) S (wN rfl) (.inl rfl) rfl rfl (lb rfl) fun a S => ?_
    rcases iteSome h with ⟨hc68, h⟩ | ⟨hc68, h⟩
    · refine sSkip 23 false 114 115 S rfl rfl rfl hc68 rfl (lb rfl) fun a S => ?_
      refine sSkip 23 false 114 116 S rfl rfl rfl hc68 rfl (lb rfl) fun a S => ?_
      refine sSkip 23 false 114 117 S rfl rfl rfl hc68 rfl (lb rfl) fun a S => ?_
      refine sPickT (.bool true) S (wN rfl) rfl rfl hc68 rfl rfl (lb rfl) fun a S => ?_
      exact leafL (leafT (⟨true, Option.some.inj h, S.fix [5, 6, 3, 1] [8] (by decide) rfl rfl rfl⟩))
    refine sLoadN (p := b53) (off := 0) (T := 23) (vs := [iv r50.1.Length, iv r50.1.Time]) 1 [iv r50.1.Length, iv r50.1.Time] S (wG 23 false 114 rfl rfl rfl hc68) rfl rfl rfl rfl rfl rfl rfl (lb rfl) fun a S => ?_
    refine sLoadN (p := b58) (off := 0) (T := 23) (vs := [iv r55.1.Length, iv r55.1.Time]) 0 [iv r55.1.Length, iv r55.1.Time] S (wG 23 false 114 rfl rfl rfl hc68) rfl rfl rfl rfl rfl rfl rfl (lb rfl) fun a S => ?_
    refine sBin (.bool (!((r50.1.Length == r55.1.Length) && ((r50.1.Time == r55.1.Time) && true)))) S (wG 23 false 114 rfl rfl rfl hc68) rfl rfl rfl (bNeV _ _ _ _ #[iv r50.1.Length, iv r50.1.Time] #[iv r55.1.Length, iv r55.1.Time] ((r50.1.Length == r55.1.Length) && ((r50.1.Time == r55.1.Time) && true)) (by kernel_rfl) (eqlV_of (by kernel_rfl))) rfl (lb rfl) fun a S => ?_
    refine sPickF (.bool (!((r50.1.Length == r55.1.Length) && ((r50.1.Time == r55.1.Time) && true)))) S (wN rfl) rfl rfl hc68 rfl rfl (lb rfl) fun a S => ?_
    exact leafL (leafT (⟨!((r50.1.Length == r55.1.Length) && ((r50.1.Time == r55.1.Time) && true)), Option.some.inj h, S.fix [5, 6, 3, 1] [8] (by decide) rfl rfl rfl⟩))
  obtain ⟨o60, rfl, S⟩ := hI
  have h := g62
  clear g62
  try dsimp only at h
  rcases iteSome h with ⟨hc69, h⟩ | ⟨hc69, h⟩
  · refine sCondT S rfl hc69 ?_
    refine sSeq (fun K70 hK70 => ?_)
    refine sRegion ?_
    refine sMove (.bool false) S (wN rfl) (.inr rfl) rfl rfl (lb rfl) fun a S => ?_
    refine leafL (leafT (hK70 _ _ ?_))
    obtain rfl := Option.some.inj h
    exact wp_ret (rThen (sRet (.bool false) S (rsl1 rfl (rvT (t := 8) (v := .bool false) S rfl)) ⟨(), rfl, S.mem.sel [] [] (by decide) rfl rfl⟩))
  refine sCondF S rfl hc69 ?_
  refine wp_skip (leafT (hK59 _ _ ?_))
  refine sSeq (fun K71 hK71 => ?_)
  refine sRegion ?_
  refine sMove (iv 0) S (wN rfl) (.inr rfl) rfl rfl (lb rfl) fun a S => ?_
  refine sMove (iv 0) S (wN rfl) (.inr rfl) rfl rfl (lb rfl) fun a S => ?_
  refine sMove (iv 0) S (wN rfl) (.inr rfl) rfl rfl (lb rfl) fun a S => ?_
  refine leafL (leafT (hK71 _ _ ?_))
  obtain ⟨t74, h, g75⟩ := bindSome h
  refine sCut (fun a w => ∃ o72, ∃ o73, (o72, o73) = t74 ∧ St [] E [] w0 237 a w [(2, iv p2), (3, iv p3), (4, .pointer (some ⟨b6, 0, none⟩)), (5, .pointer (some ⟨b7, 0, none⟩)), (9, .bool r9), (12, .pointer (some ⟨b43, 0, none⟩)), (16, .pointer (some ⟨b53, 0, none⟩)), (20, iv o72), (21, iv 0), (22, iv o73)] [eBox b6 41 [iv p0.Start, .slice ad3 p0.Rows.length cp4], eBox b7 44 (gl_api_Rates p1), eBox b43 42 (gl_A11_Int r40.1), eBox b53 23 [iv r50.1.Length, iv r50.1.Time]] [fRep (rL r_api_Row) (.slice ad3 p0.Rows.length cp4) p0.Rows]) ?_ (fun a w hI => ?_)
  · refine sSeq (fun K76 hK76 => ?_)
    refine sRegion ?_
    refine sMove (iv 0) S (wN rfl) (.inr rfl) rfl rfl (lb rfl) fun a S => ?_
    refine leafL (leafT (hK76 _ _ ?_))
    refine wp_block ?_
    obtain ⟨t82, hl, g81⟩ := bindSome h
    refine sLoop hl (fun s0 a w => match s0 with | (s77, s78, s79) => St [] E [] w0 237 a w [(2, iv p2), (3, iv p3), (4, .pointer (some ⟨b6, 0, none⟩)), (5, .pointer (some ⟨b7, 0, none⟩)), (9, .bool r9), (12, .pointer (some ⟨b43, 0, none⟩)), (16, .pointer (some ⟨b53, 0, none⟩)), (20, iv s77), (21, iv 0), (22, iv s78), (23, iv s79)] [eBox b6 41 [iv p0.Start, .slice ad3 p0.Rows.length cp4], eBox b7 44 (gl_api_Rates p1), eBox b43 42 (gl_A11_Int r40.1), eBox b53 23 [iv r50.1.Length, iv r50.1.Time]] [fRep (rL r_api_Row) (.slice ad3 p0.Rows.length cp4) p0.Rows]) (S.fix [0, 1, 2, 3] [0] (by decide) rfl rfl rfl) ?_
    clear hl h
    intro s0 a w c0 hI h hu80
    obtain ⟨s77, s78, s79⟩ := s0
    unfold raddlelaw45_CostSides_l2 at h
    dsimp only at h hI
    have S := hI
    refine sSeq (fun K85 hK85 => ?_)
    refine sSeq (fun K86 hK86 => ?_)
    refine sRegion ?_
    refine sMove (iv s79) S (wN rfl) (.inl rfl) rfl rfl (lb rfl) fun a S => ?_
    refine sField (b := b6) (off := 0) 1 1 S (wN rfl) rfl rfl rfl rfl rfl (lb rfl) fun a S => ?_
    refine sLoad1 (p := b6) (off := 1) (T := 41) (vs := [iv p0.Start, .slice ad3 p0.Rows.length cp4]) 0 (.slice ad3 p0.Rows.length cp4) S (wN rfl) rfl rfl rfl rfl rfl rfl (lb rfl) fun a S => ?_
    refine sLen (ad := ad3) (m := p0.Rows.length) (c := cp4) S (wN rfl) rfl Try.underlying39 rfl rfl (lb rfl) fun a S => ?_
    refine sBin (.bool (decide (s79 < (p0.Rows.length : Int)))) S (wN rfl) rfl rfl rfl (bLt _ _ _ _ .i64 s79 (p0.Rows.length : Int)) rfl (lb rfl) fun a S => ?_
    refine leafL (leafT (hK86 _ _ ?_))
    rcases iteSome h with ⟨hc87, h⟩ | ⟨hc87, h⟩
    rotate_left
    · refine sCondF S rfl hc87 ?_
      obtain rfl := Option.some.inj h
      obtain rfl := hu80 _ rfl
      have h := g81
      clear g81
      try dsimp only at h
      exact wp_exit (xThen (xThen (xHit (leafT (⟨s77, s78, Option.some.inj h, S.fix [0, 1, 2, 3] [0] (by decide) rfl rfl rfl⟩)))))
    refine sCondT S rfl hc87 ?_
    refine wp_skip (leafT (hK85 _ _ ?_))
    obtain ⟨t90, h, g91⟩ := bindSome h
    refine sCut (fun a w => ∃ o88, ∃ o89, (o88, o89) = t90 ∧ St [] E [] w0 237 a w [(2, iv p2), (3, iv p3), (4, .pointer (some ⟨b6, 0, none⟩)), (5, .pointer (some ⟨b7, 0, none⟩)), (9, .bool r9), (12, .pointer (some ⟨b43, 0, none⟩)), (16, .pointer (some ⟨b53, 0, none⟩)), (20, iv o88), (21, iv 0), (22, iv o89), (23, iv s79)] [eBox b6 41 [iv p0.Start, .slice ad3 p0.Rows.length cp4], eBox b7 44 (gl_api_Rates p1), eBox b43 42 (gl_A11_Int r40.1), eBox b53 23 [iv r50.1.Length, iv r50.1.Time]] [fRep (rL r_api_Row) (.slice ad3 p0.Rows.length cp4) p0.Rows]) ?_ (fun a w hI => ?_)
    rotate_left
    · obtain ⟨o88, o89, rfl, S⟩ := hI
      have h := g91
      clear g91
      try dsimp only at h
      refine sRegion ?_
      refine sMove (iv s79) S (wN rfl) (.inl rfl) rfl rfl (lb rfl) fun a S => ?_
      refine sBin (iv (w64 (s79 + 1))) S (wN rfl) rfl rfl rfl (bAdd _ _ _ _ s79 1) rfl (lb rfl) fun a S => ?_
      refine sMove (iv (w64 (s79 + 1))) S (wN rfl) (.inr rfl) rfl rfl (lb rfl) fun a S => ?_
      exact leafL (leafT (⟨(o88, o89, w64 (s79 + 1)), (Option.some.inj h).symm, (S.fix [0, 1, 2, 3] [0] (by decide) rfl rfl rfl)⟩))
    refine wp_block ?_
    refine sSeq (fun K92 hK92 => ?_)
    refine sRegion ?_
    refine sMove (iv s77) S (wN rfl) (.inl rfl) rfl rfl (lb rfl) fun a S => ?_
    refine sField (b := b6) (off := 0) 1 1 S (wN rfl) rfl rfl rfl rfl rfl (lb rfl) fun a S => ?_
    refine sLoad1 (p := b6) (off := 1) (T := 41) (vs := [iv p0.Start, .slice ad3 p0.Rows.length cp4]) 0 (.slice ad3 p0.Rows.length cp4) S (wN rfl) rfl rfl rfl rfl rfl rfl (lb rfl) fun a S => ?_
    refine sMove (iv s79) S (wN rfl) (.inl rfl) rfl rfl (lb rfl) fun a S => ?_
    obtain ⟨x93, hx94, h⟩ := bindSome h
    obtain ⟨q95, hq96, S⟩ := pIdx (P := Try.prog) (r := r_api_Row) (v := .slice ad3 p0.Rows.length cp4) (xs := p0.Rows) (j := s79) 39 72 0 S Try.underlying39 rfl rfl hx94
    refine sIdxV (v := .slice ad3 p0.Rows.length cp4) (k := .i64) (j := s79) S (wN rfl) rfl rfl rfl hq96 rfl (lb rfl) fun a S => ?_
    obtain ⟨q97, hq98, S⟩ := pFld (P := Try.prog) (r := r_api_Row) (s2 := (rL r_api_Stitch)) (g := (·.Cells)) (q := q95) (z := x93) 72 1 0 1 S rfl rfl comp_api_Row_Cells
    refine sFldV (q := q95) S (wN rfl) rfl rfl hq98 rfl (lb rfl) fun a S => ?_
    obtain ⟨u99, S⟩ := pLoad (r := (rL r_api_Stitch)) (q := q97) (x := x93.Cells) 0 S rfl
    obtain ⟨ad100, cp101, _, rfl, _⟩ := S.mem.know (i := 1) (e := fRep (rL r_api_Stitch) (u99) x93.Cells) rfl
    refine sLoadV1 (vq := q97) 0 (.slice ad100 x93.Cells.length cp101) S (wN rfl) rfl rfl rfl rfl rfl (lb rfl) fun a S => ?_
    refine sLen (ad := ad100) (m := x93.Cells.length) (c := cp101) S (wN rfl) rfl Try.underlying70 rfl rfl (lb rfl) fun a S => ?_
    refine sBin (iv (w64 (s77 + (x93.Cells.length : Int)))) S (wN rfl) rfl rfl rfl (bAdd _ _ _ _ s77 (x93.Cells.length : Int)) rfl (lb rfl) fun a S => ?_
    refine sMove (iv (w64 (s77 + (x93.Cells.length : Int)))) S (wN rfl) (.inr rfl) rfl rfl (lb rfl) fun a S => ?_
    refine leafL (leafT (hK92 _ _ ?_))
    refine sSeq (fun K102 hK102 => ?_)
    refine sRegion ?_
    refine sMove (iv 0) S (wN rfl) (.inr rfl) rfl rfl (lb rfl) fun a S => ?_
    refine leafL (leafT (hK102 _ _ ?_))
    refine wp_block ?_
    obtain ⟨t107, hl, g106⟩ := bindSome h
    refine sLoop hl (fun s0 a w => match s0 with | (s103, s104) => St [] E [] w0 237 a w [(2, iv p2), (3, iv p3), (4, .pointer (some ⟨b6, 0, none⟩)), (5, .pointer (some ⟨b7, 0, none⟩)), (9, .bool r9), (12, .pointer (some ⟨b43, 0, none⟩)), (16, .pointer (some ⟨b53, 0, none⟩)), (20, iv (w64 (s77 + (x93.Cells.length : Int)))), (21, iv 0), (22, iv s103), (23, iv s79), (24, iv s104)] [eBox b6 41 [iv p0.Start, .slice ad3 p0.Rows.length cp4], eBox b7 44 (gl_api_Rates p1), eBox b43 42 (gl_A11_Int r40.1), eBox b53 23 [iv r50.1.Length, iv r50.1.Time]] [fRep (rL r_api_Row) (.slice ad3 p0.Rows.length cp4) p0.Rows]) (S.fix [0, 1, 2, 3] [4] (by decide) rfl rfl rfl) ?_
    clear hl h
    intro s0 a w c0 hI h hu105
    obtain ⟨s103, s104⟩ := s0
    unfold raddlelaw45_CostSides_l1 at h
    dsimp only at h hI
    have S := hI
    refine sSeq (fun K109 hK109 => ?_)
    refine sSeq (fun K110 hK110 => ?_)
    refine sRegion ?_
    refine sMove (iv s104) S (wN rfl) (.inl rfl) rfl rfl (lb rfl) fun a S => ?_
    refine sField (b := b6) (off := 0) 1 1 S (wN rfl) rfl rfl rfl rfl rfl (lb rfl) fun a S => ?_
    refine sLoad1 (p := b6) (off := 1) (T := 41) (vs := [iv p0.Start, .slice ad3 p0.Rows.length cp4]) 0 (.slice ad3 p0.Rows.length cp4) S (wN rfl) rfl rfl rfl rfl rfl rfl (lb rfl) fun a S => ?_
    refine sMove (iv s79) S (wN rfl) (.inl rfl) rfl rfl (lb rfl) fun a S => ?_
    obtain ⟨q111, hq112, S⟩ := pIdx (P := Try.prog) (r := r_api_Row) (v := .slice ad3 p0.Rows.length cp4) (xs := p0.Rows) (j := s79) 39 72 0 S Try.underlying39 rfl rfl hx94
    refine sIdxV (v := .slice ad3 p0.Rows.length cp4) (k := .i64) (j := s79) S (wN rfl) rfl rfl rfl hq112 rfl (lb rfl) fun a S => ?_
    obtain ⟨q113, hq114, S⟩ := pFld (P := Try.prog) (r := r_api_Row) (s2 := (rL r_api_Stitch)) (g := (·.Cells)) (q := q111) (z := x93) 72 1 0 1 S rfl rfl comp_api_Row_Cells
    refine sFldV (q := q111) S (wN rfl) rfl rfl hq114 rfl (lb rfl) fun a S => ?_
    obtain ⟨u115, S⟩ := pLoad (r := (rL r_api_Stitch)) (q := q113) (x := x93.Cells) 0 S rfl
    obtain ⟨ad116, cp117, _, rfl, _⟩ := S.mem.know (i := 1) (e := fRep (rL r_api_Stitch) (u115) x93.Cells) rfl
    refine sLoadV1 (vq := q113) 0 (.slice ad116 x93.Cells.length cp117) S (wN rfl) rfl rfl rfl rfl rfl (lb rfl) fun a S => ?_
    refine sLen (ad := ad116) (m := x93.Cells.length) (c := cp117) S (wN rfl) rfl Try.underlying70 rfl rfl (lb rfl) fun a S => ?_
    refine sBin (.bool (decide (s104 < (x93.Cells.length : Int)))) S (wN rfl) rfl rfl rfl (bLt _ _ _ _ .i64 s104 (x93.Cells.length : Int)) rfl (lb rfl) fun a S => ?_
    refine leafL (leafT (hK110 _ _ ?_))
    rcases iteSome h with ⟨hc118, h⟩ | ⟨hc118, h⟩
    rotate_left
    · refine sCondF S rfl hc118 ?_
      obtain rfl := Option.some.inj h
      obtain rfl := hu105 _ rfl
      have h := g106
      clear g106
      try dsimp only at h
      exact wp_exit (xThen (xThen (xHit (leafB (leafT (⟨w64 (s77 + (x93.Cells.length : Int)), s103, Option.some.inj h, S.fix [0, 1, 2, 3] [4] (by decide) rfl rfl rfl⟩))))))
    refine sCondT S rfl hc118 ?_
    refine wp_skip (leafT (hK109 _ _ ?_))
    obtain ⟨t120, h, g121⟩ := bindSome h
    refine sCut (fun a w => ∃ o119, o119 = t120 ∧ St [] E [] w0 237 a w [(2, iv p2), (3, iv p3), (4, .pointer (some ⟨b6, 0, none⟩)), (5, .pointer (some ⟨b7, 0, none⟩)), (9, .bool r9), (12, .pointer (some ⟨b43, 0, none⟩)), (16, .pointer (some ⟨b53, 0, none⟩)), (20, iv (w64 (s77 + (x93.Cells.length : Int)))), (21, iv 0), (22, iv o119), (23, iv s79), (24, iv s104)] [eBox b6 41 [iv p0.Start, .slice ad3 p0.Rows.length cp4], eBox b7 44 (gl_api_Rates p1), eBox b43 42 (gl_A11_Int r40.1), eBox b53 23 [iv r50.1.Length, iv r50.1.Time]] [fRep (rL r_api_Row) (.slice ad3 p0.Rows.length cp4) p0.Rows]) ?_ (fun a w hI => ?_)
    rotate_left
    · obtain ⟨o119, rfl, S⟩ := hI
      have h := g121
      clear g121
      try dsimp only at h
      refine sRegion ?_
      refine sMove (iv s104) S (wN rfl) (.inl rfl) rfl rfl (lb rfl) fun a S => ?_
      refine sBin (iv (w64 (s104 + 1))) S (wN rfl) rfl rfl rfl (bAdd _ _ _ _ s104 1) rfl (lb rfl) fun a S => ?_
      refine sMove (iv (w64 (s104 + 1))) S (wN rfl) (.inr rfl) rfl rfl (lb rfl) fun a S => ?_
      exact leafL (leafT (⟨(o119, w64 (s104 + 1)), (Option.some.inj h).symm, (S.fix [0, 1, 2, 3] [0] (by decide) rfl rfl rfl)⟩))
    refine wp_block ?_
    refine sSeq (fun K122 hK122 => ?_)
    refine sRegion ?_
    refine sField (b := b6) (off := 0) 1 1 S (wN rfl) rfl rfl rfl rfl rfl (lb rfl) fun a S => ?_
    refine sLoad1 (p := b6) (off := 1) (T := 41) (vs := [iv p0.Start, .slice ad3 p0.Rows.length cp4]) 0 (.slice ad3 p0.Rows.length cp4) S (wN rfl) rfl rfl rfl rfl rfl rfl (lb rfl) fun a S => ?_
    refine sMove (iv s79) S (wN rfl) (.inl rfl) rfl rfl (lb rfl) fun a S => ?_
    obtain ⟨q123, hq124, S⟩ := pIdx (P := Try.prog) (r := r_api_Row) (v := .slice ad3 p0.Rows.length cp4) (xs := p0.Rows) (j := s79) 39 72 4 S Try.underlying39 rfl rfl hx94
    refine sIdxV (v := .slice ad3 p0.Rows.length cp4) (k := .i64) (j := s79) S (wN rfl) rfl rfl rfl hq124 rfl (lb rfl) fun a S => ?_
    obtain ⟨q125, hq126, S⟩ := pFld (P := Try.prog) (r := r_api_Row) (s2 := (rL r_api_Stitch)) (g := (·.Cells)) (q := q123) (z := x93) 72 1 0 1 S rfl rfl comp_api_Row_Cells
    refine sFldV (q := q123) S (wN rfl) rfl rfl hq126 rfl (lb rfl) fun a S => ?_
    obtain ⟨u127, S⟩ := pLoad (r := (rL r_api_Stitch)) (q := q125) (x := x93.Cells) 0 S rfl
    obtain ⟨ad128, cp129, _, rfl, _⟩ := S.mem.know (i := 1) (e := fRep (rL r_api_Stitch) (u127) x93.Cells) rfl
    refine sLoadV1 (vq := q125) 0 (.slice ad128 x93.Cells.length cp129) S (wN rfl) rfl rfl rfl rfl rfl (lb rfl) fun a S => ?_
    refine sMove (iv s104) S (wN rfl) (.inl rfl) rfl rfl (lb rfl) fun a S => ?_
    obtain ⟨x130, hx131, h⟩ := bindSome h
    obtain ⟨q132, hq133, S⟩ := pIdx (P := Try.prog) (r := r_api_Stitch) (v := .slice ad128 x93.Cells.length cp129) (xs := x93.Cells) (j := s104) 70 74 1 S Try.underlying70 rfl rfl hx131
    refine sIdxV (v := .slice ad128 x93.Cells.length cp129) (k := .i64) (j := s104) S (wN rfl) rfl rfl rfl hq133 rfl (lb rfl) fun a S => ?_
    obtain ⟨u134, S⟩ := pLoad (r := r_api_Stitch) (q := q132) (x := x130) 0 S rfl
    obtain rfl : u134 = .agg #[.int .u8 x130.Kind, .bool x130.Purl, iv x130.A, iv x130.B] := S.mem.know (i := 1) (e := fRep r_api_Stitch (u134) x130) rfl
    refine sLoadVN (vq := q132) 0 [.int .u8 x130.Kind, .bool x130.Purl, iv x130.A, iv x130.B] S (wN rfl) rfl rfl rfl rfl rfl rfl (lb rfl) fun a S => ?_
    refine sAlloc (.agg #[.int .u8 0, .bool false, iv 0, iv 0]) S (wN rfl) rfl rfl [.int .u8 0, .bool false, iv 0, iv 0] rfl rfl (lb rfl) fun a b135 w S => ?_
    refine sStore (p := b135) (off := 0) (T := 74) (vs := [.int .u8 0, .bool false, iv 0, iv 0]) (v := .agg #[.int .u8 x130.Kind, .bool x130.Purl, iv x130.A, iv x130.B]) 0 [.int .u8 x130.Kind, .bool x130.Purl, iv x130.A, iv x130.B] S (wN rfl) rfl rfl rfl rfl rfl rfl rfl (by simp) rfl fun a w S => ?_
    refine leafL (leafT (hK122 _ _ ?_))
    refine sSeq (fun K136 hK136 => ?_)
    refine sRegion ?_
    refine sField (b := b135) (off := 0) 0 0 S (wN rfl) rfl rfl rfl rfl rfl (lb rfl) fun a S => ?_
    refine sLoad1 (p := b135) (off := 0) (T := 74) (vs := [.int .u8 x130.Kind, .bool x130.Purl, iv x130.A, iv x130.B]) 0 (.int .u8 x130.Kind) S (wN rfl) rfl rfl rfl rfl rfl rfl (lb rfl) fun a S => ?_
    refine sConv (k := .u8) (k2 := .i64) (b := x130.Kind) S (wN rfl) rfl Try.underlying5 Try.underlying3 rfl rfl (lb rfl) fun a S => ?_
    refine sMove (iv p2) S (wN rfl) (.inl rfl) rfl rfl (lb rfl) fun a S => ?_
    refine sBin (.bool ((IntKind.i64.wrap x130.Kind) == p2)) S (wN rfl) rfl rfl rfl (bEq _ _ _ _ .i64 (IntKind.i64.wrap x130.Kind) p2) rfl (lb rfl) fun a S => ?_
    refine leafL (leafT (hK136 _ _ ?_))
    rcases iteSome h with ⟨hc137, h⟩ | ⟨hc137, h⟩
    rotate_left
    · refine sCondF S rfl hc137 ?_
      exact wp_skip (leafB (leafT (⟨s103, Option.some.inj h, S.fix [1, 2, 3, 4] [11] (by decide) rfl rfl rfl⟩)))
    refine sCondT S rfl hc137 ?_
    refine sRegion ?_
    refine sMove (iv s103) S (wN rfl) (.inl rfl) rfl rfl (lb rfl) fun a S => ?_
    refine sLoadN (p := b135) (off := 0) (T := 74) (vs := [.int .u8 x130.Kind, .bool x130.Purl, iv x130.A, iv x130.B]) 0 [.int .u8 x130.Kind, .bool x130.Purl, iv x130.A, iv x130.B] S (wN rfl) rfl rfl rfl rfl rfl rfl rfl (lb rfl) fun a S => ?_
    obtain ⟨r138, hx139, h⟩ := bindSome h
    have S1 := S.mem
    refine sCallQ (X := Unit) (f := 32) (vs := [.agg #[.int .u8 x130.Kind, .bool x130.Purl, iv x130.A, iv x130.B]]) (val := fun _ => iv r138) S (wN rfl) rfl callee32 rfl (S1.quiet [1] rfl) (fun E1 w1 S1 => c_raddleref25_Gives E1 w1 x130 (.agg #[.int .u8 x130.Kind, .bool x130.Purl, iv x130.A, iv x130.B]) r138 hx139 S1) rfl (lb rfl) fun _ a w S => ?_
    refine sMax2 (p := 1) (q := r138) S (wN rfl) rfl rfl rfl rfl (lb rfl) fun a S => ?_
    refine sBin (iv (w64 (s103 + (if (1 : Int) < r138 then r138 else 1)))) S (wN rfl) rfl rfl rfl (bAdd _ _ _ _ s103 (if (1 : Int) < r138 then r138 else 1)) rfl (lb rfl) fun a S => ?_
    refine sMove (iv (w64 (s103 + (if (1 : Int) < r138 then r138 else 1)))) S (wN rfl) (.inr rfl) rfl rfl (lb rfl) fun a S => ?_
    exact leafL (leafB (leafT (⟨w64 (s103 + (if (1 : Int) < r138 then r138 else 1)), Option.some.inj h, S.fix [1, 2, 3, 4] [11] (by decide) rfl rfl rfl⟩)))
  obtain ⟨o72, o73, rfl, S⟩ := hI
  have h := g75
  clear g75
  try dsimp only at h
  obtain ⟨t141, h, g142⟩ := bindSome h
  refine sCut (fun a w => ∃ o140, o140 = t141 ∧ St [] E [] w0 237 a w [(2, iv p2), (3, iv p3), (4, .pointer (some ⟨b6, 0, none⟩)), (5, .pointer (some ⟨b7, 0, none⟩)), (9, .bool r9), (12, .pointer (some ⟨b43, 0, none⟩)), (16, .pointer (some ⟨b53, 0, none⟩)), (20, iv o72), (21, iv o140), (22, iv o73)] [eBox b6 41 [iv p0.Start, .slice ad3 p0.Rows.length cp4], eBox b7 44 (gl_api_Rates p1), eBox b43 42 (gl_A11_Int r40.1), eBox b53 23 [iv r50.1.Length, iv r50.1.Time]] [fRep (rL r_api_Row) (.slice ad3 p0.Rows.length cp4) p0.Rows]) ?_ (fun a w hI => ?_)
  · refine sSeq (fun K143 hK143 => ?_)
    refine sRegion ?_
    refine sMove (iv 0) S (wN rfl) (.inr rfl) rfl rfl (lb rfl) fun a S => ?_
    refine leafL (leafT (hK143 _ _ ?_))
    refine wp_block ?_
    obtain ⟨t148, hl, g147⟩ := bindSome h
    refine sLoop hl (fun s0 a w => match s0 with | (s144, s145) => St [] E [] w0 237 a w [(2, iv p2), (3, iv p3), (4, .pointer (some ⟨b6, 0, none⟩)), (5, .pointer (some ⟨b7, 0, none⟩)), (9, .bool r9), (12, .pointer (some ⟨b43, 0, none⟩)), (16, .pointer (some ⟨b53, 0, none⟩)), (20, iv o72), (21, iv s144), (22, iv o73), (26, iv s145)] [eBox b6 41 [iv p0.Start, .slice ad3 p0.Rows.length cp4], eBox b7 44 (gl_api_Rates p1), eBox b43 42 (gl_A11_Int r40.1), eBox b53 23 [iv r50.1.Length, iv r50.1.Time]] [fRep (rL r_api_Row) (.slice ad3 p0.Rows.length cp4) p0.Rows]) (S.fix [0, 1, 2, 3] [0] (by decide) rfl rfl rfl) ?_
    clear hl h
    intro s0 a w c0 hI h hu146
    obtain ⟨s144, s145⟩ := s0
    unfold raddlelaw45_CostSides_l3 at h
    dsimp only at h hI
    have S := hI
    refine sSeq (fun K150 hK150 => ?_)
    refine sSeq (fun K151 hK151 => ?_)
    refine sRegion ?_
    refine sMove (iv s145) S (wN rfl) (.inl rfl) rfl rfl (lb rfl) fun a S => ?_
    refine sBin (.bool (decide (s145 < 11))) S (wN rfl) rfl rfl rfl (bLt _ _ _ _ .i64 s145 11) rfl (lb rfl) fun a S => ?_
    refine leafL (leafT (hK151 _ _ ?_))
    rcases iteSome h with ⟨hc152, h⟩ | ⟨hc152, h⟩
    rotate_left
    · refine sCondF S rfl hc152 ?_
      obtain rfl := Option.some.inj h
      obtain rfl := hu146 _ rfl
      have h := g147
      clear g147
      try dsimp only at h
      exact wp_exit (xThen (xThen (xHit (leafT (⟨s144, Option.some.inj h, S.fix [0, 1, 2, 3] [0] (by decide) rfl rfl rfl⟩)))))
    refine sCondT S rfl hc152 ?_
    refine wp_skip (leafT (hK150 _ _ ?_))
    refine sSeq (fun K153 hK153 => ?_)
    refine wp_block ?_
    refine sRegion ?_
    refine sMove (iv s144) S (wN rfl) (.inl rfl) rfl rfl (lb rfl) fun a S => ?_
    refine sMove (iv s145) S (wN rfl) (.inl rfl) rfl rfl (lb rfl) fun a S => ?_
    obtain ⟨x154, hx155, h⟩ := bindSome h
    refine sIdxV (v := .pointer (some ⟨b43, 0, none⟩)) (k := .i64) (j := s145) (q := .pointer (some ⟨b43, 0 + (s145).toNat * 1, none⟩)) S (wN rfl) rfl rfl rfl (idxV_arr (m := 11) (sz := 1) Try.underlying42 rfl (idxO_rng (m := 11) hx155 rfl).1 (idxO_rng (m := 11) hx155 rfl).2 0) rfl (lb rfl) fun a S => ?_
    refine sLoad1 (p := b43) (off := 0 + (s145).toNat * 1) (T := 42) (vs := [iv r40.1.1, iv r40.1.2.1, iv r40.1.2.2.1, iv r40.1.2.2.2.1, iv r40.1.2.2.2.2.1, iv r40.1.2.2.2.2.2.1, iv r40.1.2.2.2.2.2.2.1, iv r40.1.2.2.2.2.2.2.2.1, iv r40.1.2.2.2.2.2.2.2.2.1, iv r40.1.2.2.2.2.2.2.2.2.2.1, iv r40.1.2.2.2.2.2.2.2.2.2.2]) 2 (iv x154) S (wN rfl) rfl rfl rfl rfl (box_at (g := (fun z => .int .i64 z)) [] [] 0 hx155 rfl rfl) rfl (lb rfl) fun a S => ?_
    refine sBin (iv (w64 (s144 + x154))) S (wN rfl) rfl rfl rfl (bAdd _ _ _ _ s144 x154) rfl (lb rfl) fun a S => ?_
    refine sMove (iv (w64 (s144 + x154))) S (wN rfl) (.inr rfl) rfl rfl (lb rfl) fun a S => ?_
    refine leafL (leafB (leafT (hK153 _ _ ?_)))
    refine sRegion ?_
    refine sMove (iv s145) S (wN rfl) (.inl rfl) rfl rfl (lb rfl) fun a S => ?_
    refine sBin (iv (w64 (s145 + 1))) S (wN rfl) rfl rfl rfl (bAdd _ _ _ _ s145 1) rfl (lb rfl) fun a S => ?_
    refine sMove (iv (w64 (s145 + 1))) S (wN rfl) (.inr rfl) rfl rfl (lb rfl) fun a S => ?_
    exact leafL (leafT (⟨(w64 (s144 + x154), w64 (s145 + 1)), (Option.some.inj h).symm, (S.fix [0, 1, 2, 3] [0] (by decide) rfl rfl rfl)⟩))
  obtain ⟨o140, rfl, S⟩ := hI
  have h := g142
  clear g142
  try dsimp only at h
  refine sSeq (fun K156 hK156 => ?_)
  refine sSeq (fun K157 hK157 => ?_)
  refine sRegion ?_
  refine sMove (iv o140) S (wN rfl) (.inl rfl) rfl rfl (lb rfl) fun a S => ?_
  refine sMove (iv o72) S (wN rfl) (.inl rfl) rfl rfl (lb rfl) fun a S => ?_
  refine sBin (.bool (o140 != o72)) S (wN rfl) rfl rfl rfl (bNe _ _ _ _ .i64 o140 o72) rfl (lb rfl) fun a S => ?_
  refine leafL (leafT (hK157 _ _ ?_))
  rcases iteSome h with ⟨hc158, h⟩ | ⟨hc158, h⟩
  · refine sCondT S rfl hc158 ?_
    refine sSeq (fun K159 hK159 => ?_)
    refine sRegion ?_
    refine sMove (.bool false) S (wN rfl) (.inr rfl) rfl rfl (lb rfl) fun a S => ?_
    refine leafL (leafT (hK159 _ _ ?_))
    obtain rfl := Option.some.inj h
    exact wp_ret (rThen (sRet (.bool false) S (rsl1 rfl (rvT (t := 8) (v := .bool false) S rfl)) ⟨(), rfl, S.mem.sel [] [] (by decide) rfl rfl⟩))
  refine sCondF S rfl hc158 ?_
  refine wp_skip (leafT (hK156 _ _ ?_))
  refine sSeq (fun K160 hK160 => ?_)
  refine sRegion ?_
  refine sLoadN (p := b7) (off := 0) (T := 44) (vs := (gl_api_Rates p1)) 1 (gl_api_Rates p1) S (wN rfl) rfl rfl rfl rfl rfl rfl rfl (lb rfl) fun a S => ?_
  refine sAlloc (gv_api_Rates (api_Rates.mk (0, 0, 0, 0, 0, 0, 0, 0, 0, 0, 0) (0, 0, 0, 0, 0, 0, 0, 0, 0, 0, 0) 0)) S (wN rfl) rfl rfl (gl_api_Rates (api_Rates.mk (0, 0, 0, 0, 0, 0, 0, 0, 0, 0, 0) (0, 0, 0, 0, 0, 0, 0, 0, 0, 0, 0) 0)) rfl rfl (lb rfl) fun a b161 w S => ?_
  refine sStore (p := b161) (off := 0) (T := 44) (vs := [iv 0, iv 0, iv 0, iv 0, iv 0, iv 0, iv 0, iv 0, iv 0, iv 0, iv 0, iv 0, iv 0, iv 0, iv 0, iv 0, iv 0, iv 0, iv 0, iv 0, iv 0, iv 0, iv 0]) (v := gv_api_Rates p1) 0 [iv p1.Length.1, iv p1.Length.2.1, iv p1.Length.2.2.1, iv p1.Length.2.2.2.1, iv p1.Length.2.2.2.2.1, iv p1.Length.2.2.2.2.2.1, iv p1.Length.2.2.2.2.2.2.1, iv p1.Length.2.2.2.2.2.2.2.1, iv p1.Length.2.2.2.2.2.2.2.2.1, iv p1.Length.2.2.2.2.2.2.2.2.2.1, iv p1.Length.2.2.2.2.2.2.2.2.2.2, iv p1.Time.1, iv p1.Time.2.1, iv p1.Time.2.2.1, iv p1.Time.2.2.2.1, iv p1.Time.2.2.2.2.1, iv p1.Time.2.2.2.2.2.1, iv p1.Time.2.2.2.2.2.2.1, iv p1.Time.2.2.2.2.2.2.2.1, iv p1.Time.2.2.2.2.2.2.2.2.1, iv p1.Time.2.2.2.2.2.2.2.2.2.1, iv p1.Time.2.2.2.2.2.2.2.2.2.2, iv p1.Turn] S (wN rfl) rfl rfl rfl rfl rfl rfl rfl (by simp) rfl fun a w S => ?_
  refine leafL (leafT (hK160 _ _ ?_))
  refine sSeq (fun K162 hK162 => ?_)
  refine sRegion ?_
  refine sMove (iv p2) S (wN rfl) (.inl rfl) rfl rfl (lb rfl) fun a S => ?_
  refine sField (b := b161) (off := 0) 0 0 S (wN rfl) rfl rfl rfl rfl rfl (lb rfl) fun a S => ?_
  obtain ⟨x163, hx164, h⟩ := bindSome h
  refine sIdxV (v := .pointer (some ⟨b161, 0, none⟩)) (k := .i64) (j := p2) (q := .pointer (some ⟨b161, 0 + (p2).toNat * 1, none⟩)) S (wN rfl) rfl rfl rfl (idxV_arr (m := 11) (sz := 1) Try.underlying42 rfl (idxO_rng (m := 11) hx164 rfl).1 (idxO_rng (m := 11) hx164 rfl).2 0) rfl (lb rfl) fun a S => ?_
  refine sLoad1 (p := b161) (off := 0 + (p2).toNat * 1) (T := 44) (vs := [iv p1.Length.1, iv p1.Length.2.1, iv p1.Length.2.2.1, iv p1.Length.2.2.2.1, iv p1.Length.2.2.2.2.1, iv p1.Length.2.2.2.2.2.1, iv p1.Length.2.2.2.2.2.2.1, iv p1.Length.2.2.2.2.2.2.2.1, iv p1.Length.2.2.2.2.2.2.2.2.1, iv p1.Length.2.2.2.2.2.2.2.2.2.1, iv p1.Length.2.2.2.2.2.2.2.2.2.2, iv p1.Time.1, iv p1.Time.2.1, iv p1.Time.2.2.1, iv p1.Time.2.2.2.1, iv p1.Time.2.2.2.2.1, iv p1.Time.2.2.2.2.2.1, iv p1.Time.2.2.2.2.2.2.1, iv p1.Time.2.2.2.2.2.2.2.1, iv p1.Time.2.2.2.2.2.2.2.2.1, iv p1.Time.2.2.2.2.2.2.2.2.2.1, iv p1.Time.2.2.2.2.2.2.2.2.2.2, iv p1.Turn]) 0 (iv x163) S (wN rfl) rfl rfl rfl rfl (box_at (g := (fun z => .int .i64 z)) [] [iv p1.Time.1, iv p1.Time.2.1, iv p1.Time.2.2.1, iv p1.Time.2.2.2.1, iv p1.Time.2.2.2.2.1, iv p1.Time.2.2.2.2.2.1, iv p1.Time.2.2.2.2.2.2.1, iv p1.Time.2.2.2.2.2.2.2.1, iv p1.Time.2.2.2.2.2.2.2.2.1, iv p1.Time.2.2.2.2.2.2.2.2.2.1, iv p1.Time.2.2.2.2.2.2.2.2.2.2, iv p1.Turn] 0 hx164 rfl rfl) rfl (lb rfl) fun a S => ?_
  refine sMove (iv p3) S (wN rfl) (.inl rfl) rfl rfl (lb rfl) fun a S => ?_
  refine sBin (iv (w64 (x163 + p3))) S (wN rfl) rfl rfl rfl (bAdd _ _ _ _ x163 p3) rfl (lb rfl) fun a S => ?_
  refine sField (b := b161) (off := 0) 0 0 S (wN rfl) rfl rfl rfl rfl rfl (lb rfl) fun a S => ?_
  refine sIdxV (v := .pointer (some ⟨b161, 0, none⟩)) (k := .i64) (j := p2) (q := .pointer (some ⟨b161, 0 + (p2).toNat * 1, none⟩)) S (wN rfl) rfl rfl rfl (idxV_arr (m := 11) (sz := 1) Try.underlying42 rfl (idxO_rng (m := 11) hx164 rfl).1 (idxO_rng (m := 11) hx164 rfl).2 0) rfl (lb rfl) fun a S => ?_
  refine sStore (p := b161) (off := 0 + (p2).toNat * 1) (T := 44) (vs := [iv p1.Length.1, iv p1.Length.2.1, iv p1.Length.2.2.1, iv p1.Length.2.2.2.1, iv p1.Length.2.2.2.2.1, iv p1.Length.2.2.2.2.2.1, iv p1.Length.2.2.2.2.2.2.1, iv p1.Length.2.2.2.2.2.2.2.1, iv p1.Length.2.2.2.2.2.2.2.2.1, iv p1.Length.2.2.2.2.2.2.2.2.2.1, iv p1.Length.2.2.2.2.2.2.2.2.2.2, iv p1.Time.1, iv p1.Time.2.1, iv p1.Time.2.2.1, iv p1.Time.2.2.2.1, iv p1.Time.2.2.2.2.1, iv p1.Time.2.2.2.2.2.1, iv p1.Time.2.2.2.2.2.2.1, iv p1.Time.2.2.2.2.2.2.2.1, iv p1.Time.2.2.2.2.2.2.2.2.1, iv p1.Time.2.2.2.2.2.2.2.2.2.1, iv p1.Time.2.2.2.2.2.2.2.2.2.2, iv p1.Turn]) (v := iv (w64 (x163 + p3))) 0 [iv (w64 (x163 + p3))] S (wN rfl) rfl rfl rfl rfl rfl rfl rfl (by have hq := idxO_rng (m := 11) hx164 rfl; simp; omega) rfl fun a w S => ?_
  have ho165 : over [iv p1.Length.1, iv p1.Length.2.1, iv p1.Length.2.2.1, iv p1.Length.2.2.2.1, iv p1.Length.2.2.2.2.1, iv p1.Length.2.2.2.2.2.1, iv p1.Length.2.2.2.2.2.2.1, iv p1.Length.2.2.2.2.2.2.2.1, iv p1.Length.2.2.2.2.2.2.2.2.1, iv p1.Length.2.2.2.2.2.2.2.2.2.1, iv p1.Length.2.2.2.2.2.2.2.2.2.2, iv p1.Time.1, iv p1.Time.2.1, iv p1.Time.2.2.1, iv p1.Time.2.2.2.1, iv p1.Time.2.2.2.2.1, iv p1.Time.2.2.2.2.2.1, iv p1.Time.2.2.2.2.2.2.1, iv p1.Time.2.2.2.2.2.2.2.1, iv p1.Time.2.2.2.2.2.2.2.2.1, iv p1.Time.2.2.2.2.2.2.2.2.2.1, iv p1.Time.2.2.2.2.2.2.2.2.2.2, iv p1.Turn] (0 + (p2).toNat * 1) [iv (w64 (x163 + p3))] = [iv (if p2 = 0 then w64 (x163 + p3) else p1.Length.1), iv (if p2 = 1 then w64 (x163 + p3) else p1.Length.2.1), iv (if p2 = 2 then w64 (x163 + p3) else p1.Length.2.2.1), iv (if p2 = 3 then w64 (x163 + p3) else p1.Length.2.2.2.1), iv (if p2 = 4 then w64 (x163 + p3) else p1.Length.2.2.2.2.1), iv (if p2 = 5 then w64 (x163 + p3) else p1.Length.2.2.2.2.2.1), iv (if p2 = 6 then w64 (x163 + p3) else p1.Length.2.2.2.2.2.2.1), iv (if p2 = 7 then w64 (x163 + p3) else p1.Length.2.2.2.2.2.2.2.1), iv (if p2 = 8 then w64 (x163 + p3) else p1.Length.2.2.2.2.2.2.2.2.1), iv (if p2 = 9 then w64 (x163 + p3) else p1.Length.2.2.2.2.2.2.2.2.2.1), iv (if p2 = 10 then w64 (x163 + p3) else p1.Length.2.2.2.2.2.2.2.2.2.2), iv p1.Time.1, iv p1.Time.2.1, iv p1.Time.2.2.1, iv p1.Time.2.2.2.1, iv p1.Time.2.2.2.2.1, iv p1.Time.2.2.2.2.2.1, iv p1.Time.2.2.2.2.2.2.1, iv p1.Time.2.2.2.2.2.2.2.1, iv p1.Time.2.2.2.2.2.2.2.2.1, iv p1.Time.2.2.2.2.2.2.2.2.2.1, iv p1.Time.2.2.2.2.2.2.2.2.2.2, iv p1.Turn] := over_at (g := (fun z => .int .i64 z)) (xs := ([p1.Length.1, p1.Length.2.1, p1.Length.2.2.1, p1.Length.2.2.2.1, p1.Length.2.2.2.2.1, p1.Length.2.2.2.2.2.1, p1.Length.2.2.2.2.2.2.1, p1.Length.2.2.2.2.2.2.2.1, p1.Length.2.2.2.2.2.2.2.2.1, p1.Length.2.2.2.2.2.2.2.2.2.1, p1.Length.2.2.2.2.2.2.2.2.2.2] : List Int)) (y := w64 (x163 + p3)) [] [iv p1.Time.1, iv p1.Time.2.1, iv p1.Time.2.2.1, iv p1.Time.2.2.2.1, iv p1.Time.2.2.2.2.1, iv p1.Time.2.2.2.2.2.1, iv p1.Time.2.2.2.2.2.2.1, iv p1.Time.2.2.2.2.2.2.2.1, iv p1.Time.2.2.2.2.2.2.2.2.1, iv p1.Time.2.2.2.2.2.2.2.2.2.1, iv p1.Time.2.2.2.2.2.2.2.2.2.2, iv p1.Turn] 0 hx164 rfl rfl rfl rfl
  rw [ho165] at S
  refine leafL (leafT (hK162 _ _ ?_))
  refine sSeq (fun K166 hK166 => ?_)
  refine sRegion ?_
  refine sMove (iv p2) S (wN rfl) (.inl rfl) rfl rfl (lb rfl) fun a S => ?_
  refine sField (b := b161) (off := 0) 11 11 S (wN rfl) rfl rfl rfl rfl rfl (lb rfl) fun a S => ?_
  obtain ⟨x167, hx168, h⟩ := bindSome h
  refine sIdxV (v := .pointer (some ⟨b161, 11, none⟩)) (k := .i64) (j := p2) (q := .pointer (some ⟨b161, 11 + (p2).toNat * 1, none⟩)) S (wN rfl) rfl rfl rfl (idxV_arr (m := 11) (sz := 1) Try.underlying42 rfl (idxO_rng (m := 11) hx168 rfl).1 (idxO_rng (m := 11) hx168 rfl).2 11) rfl (lb rfl) fun a S => ?_
  refine sLoad1 (p := b161) (off := 11 + (p2).toNat * 1) (T := 44) (vs := [iv (if p2 = 0 then w64 (x163 + p3) else p1.Length.1), iv (if p2 = 1 then w64 (x163 + p3) else p1.Length.2.1), iv (if p2 = 2 then w64 (x163 + p3) else p1.Length.2.2.1), iv (if p2 = 3 then w64 (x163 + p3) else p1.Length.2.2.2.1), iv (if p2 = 4 then w64 (x163 + p3) else p1.Length.2.2.2.2.1), iv (if p2 = 5 then w64 (x163 + p3) else p1.Length.2.2.2.2.2.1), iv (if p2 = 6 then w64 (x163 + p3) else p1.Length.2.2.2.2.2.2.1), iv (if p2 = 7 then w64 (x163 + p3) else p1.Length.2.2.2.2.2.2.2.1), iv (if p2 = 8 then w64 (x163 + p3) else p1.Length.2.2.2.2.2.2.2.2.1), iv (if p2 = 9 then w64 (x163 + p3) else p1.Length.2.2.2.2.2.2.2.2.2.1), iv (if p2 = 10 then w64 (x163 + p3) else p1.Length.2.2.2.2.2.2.2.2.2.2), iv p1.Time.1, iv p1.Time.2.1, iv p1.Time.2.2.1, iv p1.Time.2.2.2.1, iv p1.Time.2.2.2.2.1, iv p1.Time.2.2.2.2.2.1, iv p1.Time.2.2.2.2.2.2.1, iv p1.Time.2.2.2.2.2.2.2.1, iv p1.Time.2.2.2.2.2.2.2.2.1, iv p1.Time.2.2.2.2.2.2.2.2.2.1, iv p1.Time.2.2.2.2.2.2.2.2.2.2, iv p1.Turn]) 0 (iv x167) S (wN rfl) rfl rfl rfl rfl (box_at (g := (fun z => .int .i64 z)) [iv (if p2 = 0 then w64 (x163 + p3) else p1.Length.1), iv (if p2 = 1 then w64 (x163 + p3) else p1.Length.2.1), iv (if p2 = 2 then w64 (x163 + p3) else p1.Length.2.2.1), iv (if p2 = 3 then w64 (x163 + p3) else p1.Length.2.2.2.1), iv (if p2 = 4 then w64 (x163 + p3) else p1.Length.2.2.2.2.1), iv (if p2 = 5 then w64 (x163 + p3) else p1.Length.2.2.2.2.2.1), iv (if p2 = 6 then w64 (x163 + p3) else p1.Length.2.2.2.2.2.2.1), iv (if p2 = 7 then w64 (x163 + p3) else p1.Length.2.2.2.2.2.2.2.1), iv (if p2 = 8 then w64 (x163 + p3) else p1.Length.2.2.2.2.2.2.2.2.1), iv (if p2 = 9 then w64 (x163 + p3) else p1.Length.2.2.2.2.2.2.2.2.2.1), iv (if p2 = 10 then w64 (x163 + p3) else p1.Length.2.2.2.2.2.2.2.2.2.2)] [iv p1.Turn] 11 hx168 rfl rfl) rfl (lb rfl) fun a S => ?_
  refine sMove (iv p3) S (wN rfl) (.inl rfl) rfl rfl (lb rfl) fun a S => ?_
  refine sBin (iv (w64 (x167 + p3))) S (wN rfl) rfl rfl rfl (bAdd _ _ _ _ x167 p3) rfl (lb rfl) fun a S => ?_
  refine sField (b := b161) (off := 0) 11 11 S (wN rfl) rfl rfl rfl rfl rfl (lb rfl) fun a S => ?_
  refine sIdxV (v := .pointer (some ⟨b161, 11, none⟩)) (k := .i64) (j := p2) (q := .pointer (some ⟨b161, 11 + (p2).toNat * 1, none⟩)) S (wN rfl) rfl rfl rfl (idxV_arr (m := 11) (sz := 1) Try.underlying42 rfl (idxO_rng (m := 11) hx168 rfl).1 (idxO_rng (m := 11) hx168 rfl).2 11) rfl (lb rfl) fun a S => ?_
  refine sStore (p := b161) (off := 11 + (p2).toNat * 1) (T := 44) (vs := [iv (if p2 = 0 then w64 (x163 + p3) else p1.Length.1), iv (if p2 = 1 then w64 (x163 + p3) else p1.Length.2.1), iv (if p2 = 2 then w64 (x163 + p3) else p1.Length.2.2.1), iv (if p2 = 3 then w64 (x163 + p3) else p1.Length.2.2.2.1), iv (if p2 = 4 then w64 (x163 + p3) else p1.Length.2.2.2.2.1), iv (if p2 = 5 then w64 (x163 + p3) else p1.Length.2.2.2.2.2.1), iv (if p2 = 6 then w64 (x163 + p3) else p1.Length.2.2.2.2.2.2.1), iv (if p2 = 7 then w64 (x163 + p3) else p1.Length.2.2.2.2.2.2.2.1), iv (if p2 = 8 then w64 (x163 + p3) else p1.Length.2.2.2.2.2.2.2.2.1), iv (if p2 = 9 then w64 (x163 + p3) else p1.Length.2.2.2.2.2.2.2.2.2.1), iv (if p2 = 10 then w64 (x163 + p3) else p1.Length.2.2.2.2.2.2.2.2.2.2), iv p1.Time.1, iv p1.Time.2.1, iv p1.Time.2.2.1, iv p1.Time.2.2.2.1, iv p1.Time.2.2.2.2.1, iv p1.Time.2.2.2.2.2.1, iv p1.Time.2.2.2.2.2.2.1, iv p1.Time.2.2.2.2.2.2.2.1, iv p1.Time.2.2.2.2.2.2.2.2.1, iv p1.Time.2.2.2.2.2.2.2.2.2.1, iv p1.Time.2.2.2.2.2.2.2.2.2.2, iv p1.Turn]) (v := iv (w64 (x167 + p3))) 0 [iv (w64 (x167 + p3))] S (wN rfl) rfl rfl rfl rfl rfl rfl rfl (by have hq := idxO_rng (m := 11) hx168 rfl; simp; omega) rfl fun a w S => ?_
  have ho169 : over [iv (if p2 = 0 then w64 (x163 + p3) else p1.Length.1), iv (if p2 = 1 then w64 (x163 + p3) else p1.Length.2.1), iv (if p2 = 2 then w64 (x163 + p3) else p1.Length.2.2.1), iv (if p2 = 3 then w64 (x163 + p3) else p1.Length.2.2.2.1), iv (if p2 = 4 then w64 (x163 + p3) else p1.Length.2.2.2.2.1), iv (if p2 = 5 then w64 (x163 + p3) else p1.Length.2.2.2.2.2.1), iv (if p2 = 6 then w64 (x163 + p3) else p1.Length.2.2.2.2.2.2.1), iv (if p2 = 7 then w64 (x163 + p3) else p1.Length.2.2.2.2.2.2.2.1), iv (if p2 = 8 then w64 (x163 + p3) else p1.Length.2.2.2.2.2.2.2.2.1), iv (if p2 = 9 then w64 (x163 + p3) else p1.Length.2.2.2.2.2.2.2.2.2.1), iv (if p2 = 10 then w64 (x163 + p3) else p1.Length.2.2.2.2.2.2.2.2.2.2), iv p1.Time.1, iv p1.Time.2.1, iv p1.Time.2.2.1, iv p1.Time.2.2.2.1, iv p1.Time.2.2.2.2.1, iv p1.Time.2.2.2.2.2.1, iv p1.Time.2.2.2.2.2.2.1, iv p1.Time.2.2.2.2.2.2.2.1, iv p1.Time.2.2.2.2.2.2.2.2.1, iv p1.Time.2.2.2.2.2.2.2.2.2.1, iv p1.Time.2.2.2.2.2.2.2.2.2.2, iv p1.Turn] (11 + (p2).toNat * 1) [iv (w64 (x167 + p3))] = [iv (if p2 = 0 then w64 (x163 + p3) else p1.Length.1), iv (if p2 = 1 then w64 (x163 + p3) else p1.Length.2.1), iv (if p2 = 2 then w64 (x163 + p3) else p1.Length.2.2.1), iv (if p2 = 3 then w64 (x163 + p3) else p1.Length.2.2.2.1), iv (if p2 = 4 then w64 (x163 + p3) else p1.Length.2.2.2.2.1), iv (if p2 = 5 then w64 (x163 + p3) else p1.Length.2.2.2.2.2.1), iv (if p2 = 6 then w64 (x163 + p3) else p1.Length.2.2.2.2.2.2.1), iv (if p2 = 7 then w64 (x163 + p3) else p1.Length.2.2.2.2.2.2.2.1), iv (if p2 = 8 then w64 (x163 + p3) else p1.Length.2.2.2.2.2.2.2.2.1), iv (if p2 = 9 then w64 (x163 + p3) else p1.Length.2.2.2.2.2.2.2.2.2.1), iv (if p2 = 10 then w64 (x163 + p3) else p1.Length.2.2.2.2.2.2.2.2.2.2), iv (if p2 = 0 then w64 (x167 + p3) else p1.Time.1), iv (if p2 = 1 then w64 (x167 + p3) else p1.Time.2.1), iv (if p2 = 2 then w64 (x167 + p3) else p1.Time.2.2.1), iv (if p2 = 3 then w64 (x167 + p3) else p1.Time.2.2.2.1), iv (if p2 = 4 then w64 (x167 + p3) else p1.Time.2.2.2.2.1), iv (if p2 = 5 then w64 (x167 + p3) else p1.Time.2.2.2.2.2.1), iv (if p2 = 6 then w64 (x167 + p3) else p1.Time.2.2.2.2.2.2.1), iv (if p2 = 7 then w64 (x167 + p3) else p1.Time.2.2.2.2.2.2.2.1), iv (if p2 = 8 then w64 (x167 + p3) else p1.Time.2.2.2.2.2.2.2.2.1), iv (if p2 = 9 then w64 (x167 + p3) else p1.Time.2.2.2.2.2.2.2.2.2.1), iv (if p2 = 10 then w64 (x167 + p3) else p1.Time.2.2.2.2.2.2.2.2.2.2), iv p1.Turn] := over_at (g := (fun z => .int .i64 z)) (xs := ([p1.Time.1, p1.Time.2.1, p1.Time.2.2.1, p1.Time.2.2.2.1, p1.Time.2.2.2.2.1, p1.Time.2.2.2.2.2.1, p1.Time.2.2.2.2.2.2.1, p1.Time.2.2.2.2.2.2.2.1, p1.Time.2.2.2.2.2.2.2.2.1, p1.Time.2.2.2.2.2.2.2.2.2.1, p1.Time.2.2.2.2.2.2.2.2.2.2] : List Int)) (y := w64 (x167 + p3)) [iv (if p2 = 0 then w64 (x163 + p3) else p1.Length.1), iv (if p2 = 1 then w64 (x163 + p3) else p1.Length.2.1), iv (if p2 = 2 then w64 (x163 + p3) else p1.Length.2.2.1), iv (if p2 = 3 then w64 (x163 + p3) else p1.Length.2.2.2.1), iv (if p2 = 4 then w64 (x163 + p3) else p1.Length.2.2.2.2.1), iv (if p2 = 5 then w64 (x163 + p3) else p1.Length.2.2.2.2.2.1), iv (if p2 = 6 then w64 (x163 + p3) else p1.Length.2.2.2.2.2.2.1), iv (if p2 = 7 then w64 (x163 + p3) else p1.Length.2.2.2.2.2.2.2.1), iv (if p2 = 8 then w64 (x163 + p3) else p1.Length.2.2.2.2.2.2.2.2.1), iv (if p2 = 9 then w64 (x163 + p3) else p1.Length.2.2.2.2.2.2.2.2.2.1), iv (if p2 = 10 then w64 (x163 + p3) else p1.Length.2.2.2.2.2.2.2.2.2.2)] [iv p1.Turn] 11 hx168 rfl rfl rfl rfl
  rw [ho169] at S
  refine leafL (leafT (hK166 _ _ ?_))
  refine sSeq (fun K170 hK170 => ?_)
  refine sRegion ?_
  refine sLoadN (p := b6) (off := 0) (T := 41) (vs := [iv p0.Start, .slice ad3 p0.Rows.length cp4]) 1 [iv p0.Start, .slice ad3 p0.Rows.length cp4] S (wN rfl) rfl rfl rfl rfl rfl rfl rfl (lb rfl) fun a S => ?_
  refine sLoadN (p := b161) (off := 0) (T := 44) (vs := [iv (if p2 = 0 then w64 (x163 + p3) else p1.Length.1), iv (if p2 = 1 then w64 (x163 + p3) else p1.Length.2.1), iv (if p2 = 2 then w64 (x163 + p3) else p1.Length.2.2.1), iv (if p2 = 3 then w64 (x163 + p3) else p1.Length.2.2.2.1), iv (if p2 = 4 then w64 (x163 + p3) else p1.Length.2.2.2.2.1), iv (if p2 = 5 then w64 (x163 + p3) else p1.Length.2.2.2.2.2.1), iv (if p2 = 6 then w64 (x163 + p3) else p1.Length.2.2.2.2.2.2.1), iv (if p2 = 7 then w64 (x163 + p3) else p1.Length.2.2.2.2.2.2.2.1), iv (if p2 = 8 then w64 (x163 + p3) else p1.Length.2.2.2.2.2.2.2.2.1), iv (if p2 = 9 then w64 (x163 + p3) else p1.Length.2.2.2.2.2.2.2.2.2.1), iv (if p2 = 10 then w64 (x163 + p3) else p1.Length.2.2.2.2.2.2.2.2.2.2), iv (if p2 = 0 then w64 (x167 + p3) else p1.Time.1), iv (if p2 = 1 then w64 (x167 + p3) else p1.Time.2.1), iv (if p2 = 2 then w64 (x167 + p3) else p1.Time.2.2.1), iv (if p2 = 3 then w64 (x167 + p3) else p1.Time.2.2.2.1), iv (if p2 = 4 then w64 (x167 + p3) else p1.Time.2.2.2.2.1), iv (if p2 = 5 then w64 (x167 + p3) else p1.Time.2.2.2.2.2.1), iv (if p2 = 6 then w64 (x167 + p3) else p1.Time.2.2.2.2.2.2.1), iv (if p2 = 7 then w64 (x167 + p3) else p1.Time.2.2.2.2.2.2.2.1), iv (if p2 = 8 then w64 (x167 + p3) else p1.Time.2.2.2.2.2.2.2.2.1), iv (if p2 = 9 then w64 (x167 + p3) else p1.Time.2.2.2.2.2.2.2.2.2.1), iv (if p2 = 10 then w64 (x167 + p3) else p1.Time.2.2.2.2.2.2.2.2.2.2), iv p1.Turn]) 0 [iv (if p2 = 0 then w64 (x163 + p3) else p1.Length.1), iv (if p2 = 1 then w64 (x163 + p3) else p1.Length.2.1), iv (if p2 = 2 then w64 (x163 + p3) else p1.Length.2.2.1), iv (if p2 = 3 then w64 (x163 + p3) else p1.Length.2.2.2.1), iv (if p2 = 4 then w64 (x163 + p3) else p1.Length.2.2.2.2.1), iv (if p2 = 5 then w64 (x163 + p3) else p1.Length.2.2.2.2.2.1), iv (if p2 = 6 then w64 (x163 + p3) else p1.Length.2.2.2.2.2.2.1), iv (if p2 = 7 then w64 (x163 + p3) else p1.Length.2.2.2.2.2.2.2.1), iv (if p2 = 8 then w64 (x163 + p3) else p1.Length.2.2.2.2.2.2.2.2.1), iv (if p2 = 9 then w64 (x163 + p3) else p1.Length.2.2.2.2.2.2.2.2.2.1), iv (if p2 = 10 then w64 (x163 + p3) else p1.Length.2.2.2.2.2.2.2.2.2.2), iv (if p2 = 0 then w64 (x167 + p3) else p1.Time.1), iv (if p2 = 1 then w64 (x167 + p3) else p1.Time.2.1), iv (if p2 = 2 then w64 (x167 + p3) else p1.Time.2.2.1), iv (if p2 = 3 then w64 (x167 + p3) else p1.Time.2.2.2.1), iv (if p2 = 4 then w64 (x167 + p3) else p1.Time.2.2.2.2.1), iv (if p2 = 5 then w64 (x167 + p3) else p1.Time.2.2.2.2.2.1), iv (if p2 = 6 then w64 (x167 + p3) else p1.Time.2.2.2.2.2.2.1), iv (if p2 = 7 then w64 (x167 + p3) else p1.Time.2.2.2.2.2.2.2.1), iv (if p2 = 8 then w64 (x167 + p3) else p1.Time.2.2.2.2.2.2.2.2.1), iv (if p2 = 9 then w64 (x167 + p3) else p1.Time.2.2.2.2.2.2.2.2.2.1), iv (if p2 = 10 then w64 (x167 + p3) else p1.Time.2.2.2.2.2.2.2.2.2.2), iv p1.Turn] S (wN rfl) rfl rfl rfl rfl rfl rfl rfl (lb rfl) fun a S => ?_
  obtain ⟨r171, hx172, h⟩ := bindSome h
  have S := S.learn (fRep r_api_Chart (.agg #[iv p0.Start, .slice ad3 p0.Rows.length cp4]) p0) ⟨_, rfl, S.mem.know (i := 0) (e := fRep (rL r_api_Row) (.slice ad3 p0.Rows.length cp4) p0.Rows) rfl⟩
  have S := S.learn (fRep r_api_Rates (.agg #[iv (if p2 = 0 then w64 (x163 + p3) else p1.Length.1), iv (if p2 = 1 then w64 (x163 + p3) else p1.Length.2.1), iv (if p2 = 2 then w64 (x163 + p3) else p1.Length.2.2.1), iv (if p2 = 3 then w64 (x163 + p3) else p1.Length.2.2.2.1), iv (if p2 = 4 then w64 (x163 + p3) else p1.Length.2.2.2.2.1), iv (if p2 = 5 then w64 (x163 + p3) else p1.Length.2.2.2.2.2.1), iv (if p2 = 6 then w64 (x163 + p3) else p1.Length.2.2.2.2.2.2.1), iv (if p2 = 7 then w64 (x163 + p3) else p1.Length.2.2.2.2.2.2.2.1), iv (if p2 = 8 then w64 (x163 + p3) else p1.Length.2.2.2.2.2.2.2.2.1), iv (if p2 = 9 then w64 (x163 + p3) else p1.Length.2.2.2.2.2.2.2.2.2.1), iv (if p2 = 10 then w64 (x163 + p3) else p1.Length.2.2.2.2.2.2.2.2.2.2), iv (if p2 = 0 then w64 (x167 + p3) else p1.Time.1), iv (if p2 = 1 then w64 (x167 + p3) else p1.Time.2.1), iv (if p2 = 2 then w64 (x167 + p3) else p1.Time.2.2.1), iv (if p2 = 3 then w64 (x167 + p3) else p1.Time.2.2.2.1), iv (if p2 = 4 then w64 (x167 + p3) else p1.Time.2.2.2.2.1), iv (if p2 = 5 then w64 (x167 + p3) else p1.Time.2.2.2.2.2.1), iv (if p2 = 6 then w64 (x167 + p3) else p1.Time.2.2.2.2.2.2.1), iv (if p2 = 7 then w64 (x167 + p3) else p1.Time.2.2.2.2.2.2.2.1), iv (if p2 = 8 then w64 (x167 + p3) else p1.Time.2.2.2.2.2.2.2.2.1), iv (if p2 = 9 then w64 (x167 + p3) else p1.Time.2.2.2.2.2.2.2.2.2.1), iv (if p2 = 10 then w64 (x167 + p3) else p1.Time.2.2.2.2.2.2.2.2.2.2), iv p1.Turn]) (api_Rates.mk ((if p2 = 0 then w64 (x163 + p3) else p1.Length.1), (if p2 = 1 then w64 (x163 + p3) else p1.Length.2.1), (if p2 = 2 then w64 (x163 + p3) else p1.Length.2.2.1), (if p2 = 3 then w64 (x163 + p3) else p1.Length.2.2.2.1), (if p2 = 4 then w64 (x163 + p3) else p1.Length.2.2.2.2.1), (if p2 = 5 then w64 (x163 + p3) else p1.Length.2.2.2.2.2.1), (if p2 = 6 then w64 (x163 + p3) else p1.Length.2.2.2.2.2.2.1), (if p2 = 7 then w64 (x163 + p3) else p1.Length.2.2.2.2.2.2.2.1), (if p2 = 8 then w64 (x163 + p3) else p1.Length.2.2.2.2.2.2.2.2.1), (if p2 = 9 then w64 (x163 + p3) else p1.Length.2.2.2.2.2.2.2.2.2.1), (if p2 = 10 then w64 (x163 + p3) else p1.Length.2.2.2.2.2.2.2.2.2.2)) ((if p2 = 0 then w64 (x167 + p3) else p1.Time.1), (if p2 = 1 then w64 (x167 + p3) else p1.Time.2.1), (if p2 = 2 then w64 (x167 + p3) else p1.Time.2.2.1), (if p2 = 3 then w64 (x167 + p3) else p1.Time.2.2.2.1), (if p2 = 4 then w64 (x167 + p3) else p1.Time.2.2.2.2.1), (if p2 = 5 then w64 (x167 + p3) else p1.Time.2.2.2.2.2.1), (if p2 = 6 then w64 (x167 + p3) else p1.Time.2.2.2.2.2.2.1), (if p2 = 7 then w64 (x167 + p3) else p1.Time.2.2.2.2.2.2.2.1), (if p2 = 8 then w64 (x167 + p3) else p1.Time.2.2.2.2.2.2.2.2.1), (if p2 = 9 then w64 (x167 + p3) else p1.Time.2.2.2.2.2.2.2.2.2.1), (if p2 = 10 then w64 (x167 + p3) else p1.Time.2.2.2.2.2.2.2.2.2.2)) p1.Turn)) rfl
  refine sCall (X := Value) (f := 18) (vs := [.agg #[iv p0.Start, .slice ad3 p0.Rows.length cp4], .agg #[iv (if p2 = 0 then w64 (x163 + p3) else p1.Length.1), iv (if p2 = 1 then w64 (x163 + p3) else p1.Length.2.1), iv (if p2 = 2 then w64 (x163 + p3) else p1.Length.2.2.1), iv (if p2 = 3 then w64 (x163 + p3) else p1.Length.2.2.2.1), iv (if p2 = 4 then w64 (x163 + p3) else p1.Length.2.2.2.2.1), iv (if p2 = 5 then w64 (x163 + p3) else p1.Length.2.2.2.2.2.1), iv (if p2 = 6 then w64 (x163 + p3) else p1.Length.2.2.2.2.2.2.1), iv (if p2 = 7 then w64 (x163 + p3) else p1.Length.2.2.2.2.2.2.2.1), iv (if p2 = 8 then w64 (x163 + p3) else p1.Length.2.2.2.2.2.2.2.2.1), iv (if p2 = 9 then w64 (x163 + p3) else p1.Length.2.2.2.2.2.2.2.2.2.1), iv (if p2 = 10 then w64 (x163 + p3) else p1.Length.2.2.2.2.2.2.2.2.2.2), iv (if p2 = 0 then w64 (x167 + p3) else p1.Time.1), iv (if p2 = 1 then w64 (x167 + p3) else p1.Time.2.1), iv (if p2 = 2 then w64 (x167 + p3) else p1.Time.2.2.1), iv (if p2 = 3 then w64 (x167 + p3) else p1.Time.2.2.2.1), iv (if p2 = 4 then w64 (x167 + p3) else p1.Time.2.2.2.2.1), iv (if p2 = 5 then w64 (x167 + p3) else p1.Time.2.2.2.2.2.1), iv (if p2 = 6 then w64 (x167 + p3) else p1.Time.2.2.2.2.2.2.1), iv (if p2 = 7 then w64 (x167 + p3) else p1.Time.2.2.2.2.2.2.2.1), iv (if p2 = 8 then w64 (x167 + p3) else p1.Time.2.2.2.2.2.2.2.2.1), iv (if p2 = 9 then w64 (x167 + p3) else p1.Time.2.2.2.2.2.2.2.2.2.1), iv (if p2 = 10 then w64 (x167 + p3) else p1.Time.2.2.2.2.2.2.2.2.2.2), iv p1.Turn]]) (val := c_cost_Need_val r171) (B' := fun _ => []) (D' := c_cost_Need_D r171) [] [eBox b161 44 [iv (if p2 = 0 then w64 (x163 + p3) else p1.Length.1), iv (if p2 = 1 then w64 (x163 + p3) else p1.Length.2.1), iv (if p2 = 2 then w64 (x163 + p3) else p1.Length.2.2.1), iv (if p2 = 3 then w64 (x163 + p3) else p1.Length.2.2.2.1), iv (if p2 = 4 then w64 (x163 + p3) else p1.Length.2.2.2.2.1), iv (if p2 = 5 then w64 (x163 + p3) else p1.Length.2.2.2.2.2.1), iv (if p2 = 6 then w64 (x163 + p3) else p1.Length.2.2.2.2.2.2.1), iv (if p2 = 7 then w64 (x163 + p3) else p1.Length.2.2.2.2.2.2.2.1), iv (if p2 = 8 then w64 (x163 + p3) else p1.Length.2.2.2.2.2.2.2.2.1), iv (if p2 = 9 then w64 (x163 + p3) else p1.Length.2.2.2.2.2.2.2.2.2.1), iv (if p2 = 10 then w64 (x163 + p3) else p1.Length.2.2.2.2.2.2.2.2.2.2), iv (if p2 = 0 then w64 (x167 + p3) else p1.Time.1), iv (if p2 = 1 then w64 (x167 + p3) else p1.Time.2.1), iv (if p2 = 2 then w64 (x167 + p3) else p1.Time.2.2.1), iv (if p2 = 3 then w64 (x167 + p3) else p1.Time.2.2.2.1), iv (if p2 = 4 then w64 (x167 + p3) else p1.Time.2.2.2.2.1), iv (if p2 = 5 then w64 (x167 + p3) else p1.Time.2.2.2.2.2.1), iv (if p2 = 6 then w64 (x167 + p3) else p1.Time.2.2.2.2.2.2.1), iv (if p2 = 7 then w64 (x167 + p3) else p1.Time.2.2.2.2.2.2.2.1), iv (if p2 = 8 then w64 (x167 + p3) else p1.Time.2.2.2.2.2.2.2.2.1), iv (if p2 = 9 then w64 (x167 + p3) else p1.Time.2.2.2.2.2.2.2.2.2.1), iv (if p2 = 10 then w64 (x167 + p3) else p1.Time.2.2.2.2.2.2.2.2.2.2), iv p1.Turn], eBox b6 41 [iv p0.Start, .slice ad3 p0.Rows.length cp4], eBox b7 44 (gl_api_Rates p1), eBox b43 42 (gl_A11_Int r40.1), eBox b53 23 [iv r50.1.Length, iv r50.1.Time]] [fRep r_api_Chart (.agg #[iv p0.Start, .slice ad3 p0.Rows.length cp4]) p0, fRep r_api_Rates (.agg #[iv (if p2 = 0 then w64 (x163 + p3) else p1.Length.1), iv (if p2 = 1 then w64 (x163 + p3) else p1.Length.2.1), iv (if p2 = 2 then w64 (x163 + p3) else p1.Length.2.2.1), iv (if p2 = 3 then w64 (x163 + p3) else p1.Length.2.2.2.1), iv (if p2 = 4 then w64 (x163 + p3) else p1.Length.2.2.2.2.1), iv (if p2 = 5 then w64 (x163 + p3) else p1.Length.2.2.2.2.2.1), iv (if p2 = 6 then w64 (x163 + p3) else p1.Length.2.2.2.2.2.2.1), iv (if p2 = 7 then w64 (x163 + p3) else p1.Length.2.2.2.2.2.2.2.1), iv (if p2 = 8 then w64 (x163 + p3) else p1.Length.2.2.2.2.2.2.2.2.1), iv (if p2 = 9 then w64 (x163 + p3) else p1.Length.2.2.2.2.2.2.2.2.2.1), iv (if p2 = 10 then w64 (x163 + p3) else p1.Length.2.2.2.2.2.2.2.2.2.2), iv (if p2 = 0 then w64 (x167 + p3) else p1.Time.1), iv (if p2 = 1 then w64 (x167 + p3) else p1.Time.2.1), iv (if p2 = 2 then w64 (x167 + p3) else p1.Time.2.2.1), iv (if p2 = 3 then w64 (x167 + p3) else p1.Time.2.2.2.1), iv (if p2 = 4 then w64 (x167 + p3) else p1.Time.2.2.2.2.1), iv (if p2 = 5 then w64 (x167 + p3) else p1.Time.2.2.2.2.2.1), iv (if p2 = 6 then w64 (x167 + p3) else p1.Time.2.2.2.2.2.2.1), iv (if p2 = 7 then w64 (x167 + p3) else p1.Time.2.2.2.2.2.2.2.1), iv (if p2 = 8 then w64 (x167 + p3) else p1.Time.2.2.2.2.2.2.2.2.1), iv (if p2 = 9 then w64 (x167 + p3) else p1.Time.2.2.2.2.2.2.2.2.2.1), iv (if p2 = 10 then w64 (x167 + p3) else p1.Time.2.2.2.2.2.2.2.2.2.2), iv p1.Turn]) (api_Rates.mk ((if p2 = 0 then w64 (x163 + p3) else p1.Length.1), (if p2 = 1 then w64 (x163 + p3) else p1.Length.2.1), (if p2 = 2 then w64 (x163 + p3) else p1.Length.2.2.1), (if p2 = 3 then w64 (x163 + p3) else p1.Length.2.2.2.1), (if p2 = 4 then w64 (x163 + p3) else p1.Length.2.2.2.2.1), (if p2 = 5 then w64 (x163 + p3) else p1.Length.2.2.2.2.2.1), (if p2 = 6 then w64 (x163 + p3) else p1.Length.2.2.2.2.2.2.1), (if p2 = 7 then w64 (x163 + p3) else p1.Length.2.2.2.2.2.2.2.1), (if p2 = 8 then w64 (x163 + p3) else p1.Length.2.2.2.2.2.2.2.2.1), (if p2 = 9 then w64 (x163 + p3) else p1.Length.2.2.2.2.2.2.2.2.2.1), (if p2 = 10 then w64 (x163 + p3) else p1.Length.2.2.2.2.2.2.2.2.2.2)) ((if p2 = 0 then w64 (x167 + p3) else p1.Time.1), (if p2 = 1 then w64 (x167 + p3) else p1.Time.2.1), (if p2 = 2 then w64 (x167 + p3) else p1.Time.2.2.1), (if p2 = 3 then w64 (x167 + p3) else p1.Time.2.2.2.1), (if p2 = 4 then w64 (x167 + p3) else p1.Time.2.2.2.2.1), (if p2 = 5 then w64 (x167 + p3) else p1.Time.2.2.2.2.2.1), (if p2 = 6 then w64 (x167 + p3) else p1.Time.2.2.2.2.2.2.1), (if p2 = 7 then w64 (x167 + p3) else p1.Time.2.2.2.2.2.2.2.1), (if p2 = 8 then w64 (x167 + p3) else p1.Time.2.2.2.2.2.2.2.2.1), (if p2 = 9 then w64 (x167 + p3) else p1.Time.2.2.2.2.2.2.2.2.2.1), (if p2 = 10 then w64 (x167 + p3) else p1.Time.2.2.2.2.2.2.2.2.2.2)) p1.Turn)] [0, 1, 2, 3, 4] [1, 0] S (wN rfl) rfl callee18 rfl (by decide) rfl rfl (fun E1 w1 S1 => c_cost_Need E1 w1 p0 (.agg #[iv p0.Start, .slice ad3 p0.Rows.length cp4]) (api_Rates.mk ((if p2 = 0 then w64 (x163 + p3) else p1.Length.1), (if p2 = 1 then w64 (x163 + p3) else p1.Length.2.1), (if p2 = 2 then w64 (x163 + p3) else p1.Length.2.2.1), (if p2 = 3 then w64 (x163 + p3) else p1.Length.2.2.2.1), (if p2 = 4 then w64 (x163 + p3) else p1.Length.2.2.2.2.1), (if p2 = 5 then w64 (x163 + p3) else p1.Length.2.2.2.2.2.1), (if p2 = 6 then w64 (x163 + p3) else p1.Length.2.2.2.2.2.2.1), (if p2 = 7 then w64 (x163 + p3) else p1.Length.2.2.2.2.2.2.2.1), (if p2 = 8 then w64 (x163 + p3) else p1.Length.2.2.2.2.2.2.2.2.1), (if p2 = 9 then w64 (x163 + p3) else p1.Length.2.2.2.2.2.2.2.2.2.1), (if p2 = 10 then w64 (x163 + p3) else p1.Length.2.2.2.2.2.2.2.2.2.2)) ((if p2 = 0 then w64 (x167 + p3) else p1.Time.1), (if p2 = 1 then w64 (x167 + p3) else p1.Time.2.1), (if p2 = 2 then w64 (x167 + p3) else p1.Time.2.2.1), (if p2 = 3 then w64 (x167 + p3) else p1.Time.2.2.2.1), (if p2 = 4 then w64 (x167 + p3) else p1.Time.2.2.2.2.1), (if p2 = 5 then w64 (x167 + p3) else p1.Time.2.2.2.2.2.1), (if p2 = 6 then w64 (x167 + p3) else p1.Time.2.2.2.2.2.2.1), (if p2 = 7 then w64 (x167 + p3) else p1.Time.2.2.2.2.2.2.2.1), (if p2 = 8 then w64 (x167 + p3) else p1.Time.2.2.2.2.2.2.2.2.1), (if p2 = 9 then w64 (x167 + p3) else p1.Time.2.2.2.2.2.2.2.2.2.1), (if p2 = 10 then w64 (x167 + p3) else p1.Time.2.2.2.2.2.2.2.2.2.2)) p1.Turn) (.agg #[iv (if p2 = 0 then w64 (x163 + p3) else p1.Length.1), iv (if p2 = 1 then w64 (x163 + p3) else p1.Length.2.1), iv (if p2 = 2 then w64 (x163 + p3) else p1.Length.2.2.1), iv (if p2 = 3 then w64 (x163 + p3) else p1.Length.2.2.2.1), iv (if p2 = 4 then w64 (x163 + p3) else p1.Length.2.2.2.2.1), iv (if p2 = 5 then w64 (x163 + p3) else p1.Length.2.2.2.2.2.1), iv (if p2 = 6 then w64 (x163 + p3) else p1.Length.2.2.2.2.2.2.1), iv (if p2 = 7 then w64 (x163 + p3) else p1.Length.2.2.2.2.2.2.2.1), iv (if p2 = 8 then w64 (x163 + p3) else p1.Length.2.2.2.2.2.2.2.2.1), iv (if p2 = 9 then w64 (x163 + p3) else p1.Length.2.2.2.2.2.2.2.2.2.1), iv (if p2 = 10 then w64 (x163 + p3) else p1.Length.2.2.2.2.2.2.2.2.2.2), iv (if p2 = 0 then w64 (x167 + p3) else p1.Time.1), iv (if p2 = 1 then w64 (x167 + p3) else p1.Time.2.1), iv (if p2 = 2 then w64 (x167 + p3) else p1.Time.2.2.1), iv (if p2 = 3 then w64 (x167 + p3) else p1.Time.2.2.2.1), iv (if p2 = 4 then w64 (x167 + p3) else p1.Time.2.2.2.2.1), iv (if p2 = 5 then w64 (x167 + p3) else p1.Time.2.2.2.2.2.1), iv (if p2 = 6 then w64 (x167 + p3) else p1.Time.2.2.2.2.2.2.1), iv (if p2 = 7 then w64 (x167 + p3) else p1.Time.2.2.2.2.2.2.2.1), iv (if p2 = 8 then w64 (x167 + p3) else p1.Time.2.2.2.2.2.2.2.2.1), iv (if p2 = 9 then w64 (x167 + p3) else p1.Time.2.2.2.2.2.2.2.2.2.1), iv (if p2 = 10 then w64 (x167 + p3) else p1.Time.2.2.2.2.2.2.2.2.2.2), iv p1.Turn]) r171 hx172 S1) rfl (lb rfl) fun u173 a w S => ?_
  obtain rfl : u173 = .agg #[iv r171.1.Length, iv r171.1.Time] := S.mem.know (i := 0) (e := fRep r_api_Bill (u173) r171.1) rfl
  refine sMove (.tuple #[.agg #[iv r171.1.Length, iv r171.1.Time], iv r171.2]) S (wN rfl) (.inl rfl) rfl rfl (lb rfl) fun a S => ?_
  refine sExtract (vs := [.agg #[iv r171.1.Length, iv r171.1.Time], iv r171.2]) (.agg #[iv r171.1.Length, iv r171.1.Time]) S (wN rfl) rfl rfl rfl rfl (lb rfl) fun a S => ?_
  refine sExtract (vs := [.agg #[iv r171.1.Length, iv r171.1.Time], iv r171.2]) (iv r171.2) S (wN rfl) rfl rfl rfl rfl (lb rfl) fun a S => ?_
  refine sAlloc (.agg #[iv 0, iv 0]) S (wN rfl) rfl rfl [iv 0, iv 0] rfl rfl (lb rfl) fun a b174 w S => ?_
  refine sStore (p := b174) (off := 0) (T := 23) (vs := [iv 0, iv 0]) (v := .agg #[iv r171.1.Length, iv r171.1.Time]) 0 [iv r171.1.Length, iv r171.1.Time] S (wN rfl) rfl rfl rfl rfl rfl rfl rfl (by simp) rfl fun a w S => ?_
  refine sMove (iv r171.2) S (wN rfl) (.inr rfl) rfl rfl (lb rfl) fun a S => ?_
  refine leafL (leafT (hK170 _ _ ?_))
  refine sSeq (fun K175 hK175 => ?_)
  refine sSeq (fun K176 hK176 => ?_)
  refine sRegion ?_
  refine sMove (iv r171.2) S (wN rfl) (.inl rfl) rfl rfl (lb rfl) fun a S => ?_
  refine sBin (.bool (r171.2 != 0)) S (wN rfl) rfl rfl rfl (bNe _ _ _ _ .i64 r171.2 0) rfl (lb rfl) fun a S => ?_
  refine leafL (leafT (hK176 _ _ ?_))
  rcases iteSome h with ⟨hc177, h⟩ | ⟨hc177, h⟩
  · refine sCondT S rfl hc177 ?_
    obtain ⟨t179, h, g180⟩ := bindSome h
    refine sCut (fun a w => ∃ o178, o178 = t179 ∧ St [] E [] w0 237 a w [(8, .bool o178)] [] []) ?_ (fun a w hI => ?_)
    rotate_left
    · obtain ⟨o178, rfl, S⟩ := hI
      have h := g180
      clear g180
      try dsimp only at h
      obtain rfl := Option.some.inj h
      exact wp_ret (rThen (sRet (.bool o178) S (rsl1 rfl (rvT (t := 8) (v := .bool o178) S rfl)) ⟨(), rfl, S.mem.sel [] [] (by decide) rfl rfl⟩))
    refine sRegion ?_
    refine sMove (.bool r9) S (wN rfl) (.inl rfl) rfl rfl (lb rfl) fun a S => ?_
    refine sMove (.bool r9) S (wN rfl) (.inl rfl) rfl rfl (lb rfl) fun a S => ?_
    rcases iteSome h with ⟨hc181, h⟩ | ⟨hc181, h⟩
    rotate_left
    · refine sSkip 1 true 203 204 S rfl rfl rfl hc181 rfl (lb rfl) fun a S => ?_
      refine sSkip 1 true 203 205 S rfl rfl rfl hc181 rfl (lb rfl) fun a S => ?_
      refine sPickF (.bool false) S (wN rfl) rfl rfl hc181 rfl rfl (lb rfl) fun a S => ?_
      refine sMove (.bool false) S (wN rfl) (.inl rfl) rfl rfl (lb rfl) fun a S => ?_
      refine sSkip 5 true 207 208 S rfl rfl rfl rfl rfl (lb rfl) fun a S => ?_
      refine sSkip 5 true 207 209 S rfl rfl rfl rfl rfl (lb rfl) fun a S => ?_
      refine sSkip 5 true 207 210 S rfl rfl rfl rfl rfl (lb rfl) fun a S => ?_
      refine sPickF (.bool false) S (wN rfl) rfl rfl rfl rfl rfl (lb rfl) fun a S => ?_
      refine sMove (.bool false) S (wN rfl) (.inr rfl) rfl rfl (lb rfl) fun a S => ?_
      exact leafL (leafT (⟨false, Option.some.inj h, S.fix [] [] (by decide) rfl rfl rfl⟩))
    refine sMove (iv r171.2) S (wG 1 true 203 rfl rfl rfl hc181) (.inl rfl) rfl rfl (lb rfl) fun a S => ?_
    refine sBin (.bool (r171.2 == 8)) S (wG 1 true 203 rfl rfl rfl hc181) rfl rfl rfl (bEq _ _ _ _ .i64 r171.2 8) rfl (lb rfl) fun a S => ?_
    refine sPickT (.bool (r171.2 == 8)) S (wN rfl) rfl rfl hc181 rfl rfl (lb rfl) fun a S => ?_
    refine sMove (.bool (r171.2 == 8)) S (wN rfl) (.inl rfl) rfl rfl (lb rfl) fun a S => ?_
    rcases iteSome h with ⟨hc182, h⟩ | ⟨hc182, h⟩
    rotate_left
    · refine sSkip 5 true 207 208 S rfl rfl rfl hc182 rfl (lb rfl) fun a S => ?_
      refine sSkip 5 true 207 209 S rfl rfl rfl hc182 rfl (lb rfl) fun a S => ?_
      refine sSkip 5 true 207 210 S rfl rfl rfl hc182 rfl (lb rfl) fun a S => ?_
      refine sPickF (.bool false) S (wN rfl) rfl rfl hc182 rfl rfl (lb rfl) fun a S => ?_
      refine sMove (.bool false) S (wN rfl) (.inr rfl) rfl rfl (lb rfl) fun a S => ?_
      exact leafL (leafT (⟨false, Option.some.inj h, S.fix [] [] (by decide) rfl rfl rfl⟩))
    refine sLoadN (p := b161) (off := 0) (T := 44) (vs := [iv (if p2 = 0 then w64 (x163 + p3) else p1.Length.1), iv (if p2 = 1 then w64 (x163 + p3) else p1.Length.2.1), iv (if p2 = 2 then w64 (x163 + p3) else p1.Length.2.2.1), iv (if p2 = 3 then w64 (x163 + p3) else p1.Length.2.2.2.1), iv (if p2 = 4 then w64 (x163 + p3) else p1.Length.2.2.2.2.1), iv (if p2 = 5 then w64 (x163 + p3) else p1.Length.2.2.2.2.2.1), iv (if p2 = 6 then w64 (x163 + p3) else p1.Length.2.2.2.2.2.2.1), iv (if p2 = 7 then w64 (x163 + p3) else p1.Length.2.2.2.2.2.2.2.1), iv (if p2 = 8 then w64 (x163 + p3) else p1.Length.2.2.2.2.2.2.2.2.1), iv (if p2 = 9 then w64 (x163 + p3) else p1.Length.2.2.2.2.2.2.2.2.2.1), iv (if p2 = 10 then w64 (x163 + p3) else p1.Length.2.2.2.2.2.2.2.2.2.2), iv (if p2 = 0 then w64 (x167 + p3) else p1.Time.1), iv (if p2 = 1 then w64 (x167 + p3) else p1.Time.2.1), iv (if p2 = 2 then w64 (x167 + p3) else p1.Time.2.2.1), iv (if p2 = 3 then w64 (x167 + p3) else p1.Time.2.2.2.1), iv (if p2 = 4 then w64 (x167 + p3) else p1.Time.2.2.2.2.1), iv (if p2 = 5 then w64 (x167 + p3) else p1.Time.2.2.2.2.2.1), iv (if p2 = 6 then w64 (x167 + p3) else p1.Time.2.2.2.2.2.2.1), iv (if p2 = 7 then w64 (x167 + p3) else p1.Time.2.2.2.2.2.2.2.1), iv (if p2 = 8 then w64 (x167 + p3) else p1.Time.2.2.2.2.2.2.2.2.1), iv (if p2 = 9 then w64 (x167 + p3) else p1.Time.2.2.2.2.2.2.2.2.2.1), iv (if p2 = 10 then w64 (x167 + p3) else p1.Time.2.2.2.2.2.2.2.2.2.2), iv p1.Turn]) 1 [iv (if p2 = 0 then w64 (x163 + p3) else p1.Length.1), iv (if p2 = 1 then w64 (x163 + p3) else p1.Length.2.1), iv (if p2 = 2 then w64 (x163 + p3) else p1.Length.2.2.1), iv (if p2 = 3 then w64 (x163 + p3) else p1.Length.2.2.2.1), iv (if p2 = 4 then w64 (x163 + p3) else p1.Length.2.2.2.2.1), iv (if p2 = 5 then w64 (x163 + p3) else p1.Length.2.2.2.2.2.1), iv (if p2 = 6 then w64 (x163 + p3) else p1.Length.2.2.2.2.2.2.1), iv (if p2 = 7 then w64 (x163 + p3) else p1.Length.2.2.2.2.2.2.2.1), iv (if p2 = 8 then w64 (x163 + p3) else p1.Length.2.2.2.2.2.2.2.2.1), iv (if p2 = 9 then w64 (x163 + p3) else p1.Length.2.2.2.2.2.2.2.2.2.1), iv (if p2 = 10 then w64 (x163 + p3) else p1.Length.2.2.2.2.2.2.2.2.2.2), iv (if p2 = 0 then w64 (x167 + p3) else p1.Time.1), iv (if p2 = 1 then w64 (x167 + p3) else p1.Time.2.1), iv (if p2 = 2 then w64 (x167 + p3) else p1.Time.2.2.1), iv (if p2 = 3 then w64 (x167 + p3) else p1.Time.2.2.2.1), iv (if p2 = 4 then w64 (x167 + p3) else p1.Time.2.2.2.2.1), iv (if p2 = 5 then w64 (x167 + p3) else p1.Time.2.2.2.2.2.1), iv (if p2 = 6 then w64 (x167 + p3) else p1.Time.2.2.2.2.2.2.1), iv (if p2 = 7 then w64 (x167 + p3) else p1.Time.2.2.2.2.2.2.2.1), iv (if p2 = 8 then w64 (x167 + p3) else p1.Time.2.2.2.2.2.2.2.2.1), iv (if p2 = 9 then w64 (x167 + p3) else p1.Time.2.2.2.2.2.2.2.2.2.1), iv (if p2 = 10 then w64 (x167 + p3) else p1.Time.2.2.2.2.2.2.2.2.2.2), iv p1.Turn] S (wG 5 true 207 rfl rfl rfl hc182) rfl rfl rfl rfl rfl rfl rfl (lb rfl) fun a S => ?_
    obtain ⟨r183, hx184, h⟩ := bindSome h
    have S1 := S.mem
    refine sCallQ (X := Unit) (f := 23) (vs := [.agg #[iv (if p2 = 0 then w64 (x163 + p3) else p1.Length.1), iv (if p2 = 1 then w64 (x163 + p3) else p1.Length.2.1), iv (if p2 = 2 then w64 (x163 + p3) else p1.Length.2.2.1), iv (if p2 = 3 then w64 (x163 + p3) else p1.Length.2.2.2.1), iv (if p2 = 4 then w64 (x163 + p3) else p1.Length.2.2.2.2.1), iv (if p2 = 5 then w64 (x163 + p3) else p1.Length.2.2.2.2.2.1), iv (if p2 = 6 then w64 (x163 + p3) else p1.Length.2.2.2.2.2.2.1), iv (if p2 = 7 then w64 (x163 + p3) else p1.Length.2.2.2.2.2.2.2.1), iv (if p2 = 8 then w64 (x163 + p3) else p1.Length.2.2.2.2.2.2.2.2.1), iv (if p2 = 9 then w64 (x163 + p3) else p1.Length.2.2.2.2.2.2.2.2.2.1), iv (if p2 = 10 then w64 (x163 + p3) else p1.Length.2.2.2.2.2.2.2.2.2.2), iv (if p2 = 0 then w64 (x167 + p3) else p1.Time.1), iv (if p2 = 1 then w64 (x167 + p3) else p1.Time.2.1), iv (if p2 = 2 then w64 (x167 + p3) else p1.Time.2.2.1), iv (if p2 = 3 then w64 (x167 + p3) else p1.Time.2.2.2.1), iv (if p2 = 4 then w64 (x167 + p3) else p1.Time.2.2.2.2.1), iv (if p2 = 5 then w64 (x167 + p3) else p1.Time.2.2.2.2.2.1), iv (if p2 = 6 then w64 (x167 + p3) else p1.Time.2.2.2.2.2.2.1), iv (if p2 = 7 then w64 (x167 + p3) else p1.Time.2.2.2.2.2.2.2.1), iv (if p2 = 8 then w64 (x167 + p3) else p1.Time.2.2.2.2.2.2.2.2.1), iv (if p2 = 9 then w64 (x167 + p3) else p1.Time.2.2.2.2.2.2.2.2.2.1), iv (if p2 = 10 then w64 (x167 + p3) else p1.Time.2.2.2.2.2.2.2.2.2.2), iv p1.Turn]]) (val := fun _ => iv r183) S (wG 5 true 207 rfl rfl rfl hc182) rfl callee23 rfl (S1.quiet [1] rfl) (fun E1 w1 S1 => c_raddleref45_Check E1 w1 (api_Rates.mk ((if p2 = 0 then w64 (x163 + p3) else p1.Length.1), (if p2 = 1 then w64 (x163 + p3) else p1.Length.2.1), (if p2 = 2 then w64 (x163 + p3) else p1.Length.2.2.1), (if p2 = 3 then w64 (x163 + p3) else p1.Length.2.2.2.1), (if p2 = 4 then w64 (x163 + p3) else p1.Length.2.2.2.2.1), (if p2 = 5 then w64 (x163 + p3) else p1.Length.2.2.2.2.2.1), (if p2 = 6 then w64 (x163 + p3) else p1.Length.2.2.2.2.2.2.1), (if p2 = 7 then w64 (x163 + p3) else p1.Length.2.2.2.2.2.2.2.1), (if p2 = 8 then w64 (x163 + p3) else p1.Length.2.2.2.2.2.2.2.2.1), (if p2 = 9 then w64 (x163 + p3) else p1.Length.2.2.2.2.2.2.2.2.2.1), (if p2 = 10 then w64 (x163 + p3) else p1.Length.2.2.2.2.2.2.2.2.2.2)) ((if p2 = 0 then w64 (x167 + p3) else p1.Time.1), (if p2 = 1 then w64 (x167 + p3) else p1.Time.2.1), (if p2 = 2 then w64 (x167 + p3) else p1.Time.2.2.1), (if p2 = 3 then w64 (x167 + p3) else p1.Time.2.2.2.1), (if p2 = 4 then w64 (x167 + p3) else p1.Time.2.2.2.2.1), (if p2 = 5 then w64 (x167 + p3) else p1.Time.2.2.2.2.2.1), (if p2 = 6 then w64 (x167 + p3) else p1.Time.2.2.2.2.2.2.1), (if p2 = 7 then w64 (x167 + p3) else p1.Time.2.2.2.2.2.2.2.1), (if p2 = 8 then w64 (x167 + p3) else p1.Time.2.2.2.2.2.2.2.2.1), (if p2 = 9 then w64 (x167 + p3) else p1.Time.2.2.2.2.2.2.2.2.2.1), (if p2 = 10 then w64 (x167 + p3) else p1.Time.2.2.2.2.2.2.2.2.2.2)) p1.Turn) (.agg #[iv (if p2 = 0 then w64 (x163 + p3) else p1.Length.1), iv (if p2 = 1 then w64 (x163 + p3) else p1.Length.2.1), iv (if p2 = 2 then w64 (x163 + p3) else p1.Length.2.2.1), iv (if p2 = 3 then w64 (x163 + p3) else p1.Length.2.2.2.1), iv (if p2 = 4 then w64 (x163 + p3) else p1.Length.2.2.2.2.1), iv (if p2 = 5 then w64 (x163 + p3) else p1.Length.2.2.2.2.2.1), iv (if p2 = 6 then w64 (x163 + p3) else p1.Length.2.2.2.2.2.2.1), iv (if p2 = 7 then w64 (x163 + p3) else p1.Length.2.2.2.2.2.2.2.1), iv (if p2 = 8 then w64 (x163 + p3) else p1.Length.2.2.2.2.2.2.2.2.1), iv (if p2 = 9 then w64 (x163 + p3) else p1.Length.2.2.2.2.2.2.2.2.2.1), iv (if p2 = 10 then w64 (x163 + p3) else p1.Length.2.2.2.2.2.2.2.2.2.2), iv (if p2 = 0 then w64 (x167 + p3) else p1.Time.1), iv (if p2 = 1 then w64 (x167 + p3) else p1.Time.2.1), iv (if p2 = 2 then w64 (x167 + p3) else p1.Time.2.2.1), iv (if p2 = 3 then w64 (x167 + p3) else p1.Time.2.2.2.1), iv (if p2 = 4 then w64 (x167 + p3) else p1.Time.2.2.2.2.1), iv (if p2 = 5 then w64 (x167 + p3) else p1.Time.2.2.2.2.2.1), iv (if p2 = 6 then w64 (x167 + p3) else p1.Time.2.2.2.2.2.2.1), iv (if p2 = 7 then w64 (x167 + p3) else p1.Time.2.2.2.2.2.2.2.1), iv (if p2 = 8 then w64 (x167 + p3) else p1.Time.2.2.2.2.2.2.2.2.1), iv (if p2 = 9 then w64 (x167 + p3) else p1.Time.2.2.2.2.2.2.2.2.2.1), iv (if p2 = 10 then w64 (x167 + p3) else p1.Time.2.2.2.2.2.2.2.2.2.2), iv p1.Turn]) r183 hx184 S1) rfl (lb rfl) fun _ a w S => ?_
    refine sBin (.bool (r183 != 0)) S (wG 5 true 207 rfl rfl rfl hc182) rfl rfl rfl (bNe _ _ _ _ .i64 r183 0) rfl (lb rfl) fun a S => ?_
    refine sPickT (.bool (r183 != 0)) S (wN rfl) rfl rfl hc182 rfl rfl (lb rfl) fun a S => ?_
    refine sMove (.bool (r183 != 0)) S (wN rfl) (.inr rfl) rfl rfl (lb rfl) fun a S => ?_
    exact leafL (leafT (⟨r183 != 0, Option.some.inj h, S.fix [] [] (by decide) rfl rfl rfl⟩))
  refine sCondF S rfl hc177 ?_
  refine wp_skip (leafT (hK175 _ _ ?_))
  obtain ⟨t186, h, g187⟩ := bindSome h
  refine sCut (fun a w => ∃ o185, o185 = t186 ∧ St [] E [] w0 237 a w [(8, .bool o185)] [] []) ?_ (fun a w hI => ?_)
  rotate_left
  · obtain ⟨o185, rfl, S⟩ := hI
    have h := g187
    clear g187
    try dsimp only at h
    obtain rfl := Option.some.inj h
    exact wp_ret (sRet (.bool o185) S (rsl1 rfl (rvT (t := 8) (v := .bool o185) S rfl)) ⟨(), rfl, S.mem.sel [] [] (by decide) rfl rfl⟩)
  rcases iteSome h with ⟨hc188, h⟩ | ⟨hc188, h⟩
  rotate_left
  · refine sDraw (nf := []) (W := [(0, 212, .bool r9), (1, 213, .bool r9), (2, 214, undef), (3, 215, undef), (4, 216, undef), (5, 217, undef), (6, 218, undef), (7, 219, undef), (8, 220, undef), (9, 221, undef), (10, 222, undef), (11, 223, .bool false), (12, 224, .bool false), (13, 225, undef), (14, 226, undef), (15, 227, undef), (16, 228, undef), (17, 229, undef), (18, 230, undef), (19, 231, undef), (20, 232, undef), (21, 233, undef), (22, 234, undef), (23, 235, undef), (24, 236, .bool false), (25, 8, .bool false)]) rfl S ?_
    refine node_by (A := anc_raddlelaw45_CostSides_0) (nf := []) (Y := []) (W := [(0, 212, .bool r9), (1, 213, .bool r9), (2, 214, undef), (3, 215, undef), (4, 216, undef), (5, 217, undef), (6, 218, undef), (7, 219, undef), (8, 220, undef), (9, 221, undef), (10, 222, undef), (11, 223, .bool false), (12, 224, .bool false), (13, 225, undef), (14, 226, undef), (15, 227, undef), (16, 228, undef), (17, 229, undef), (18, 230, undef), (19, 231, undef), (20, 232, undef), (21, 233, undef), (22, 234, undef), (23, 235, undef), (24, 236, .bool false), (25, 8, .bool false)]) 26 (by kernel_rfl) (by kernel_rfl) (by kernel_rfl) (by kernel_rfl) (by kernel_rfl) [0, 1, 2, 3, 4, 5, 6, 7, 8, 9, 10, 11, 12, 13, 14, 15, 16, 17, 18, 19, 20, 21, 22, 23, 24, 25] (by kernel_rfl) (by decide) (by decide) (aF 0 25 (by decide) ?_ (aF 1 24 (by decide) ?_ (aF 2 23 (by decide) ?_ (aF 3 22 (by decide) ?_ (aF 4 21 (by decide) ?_ (aF 5 20 (by decide) ?_ (aF 6 19 (by decide) ?_ (aF 7 18 (by decide) ?_ (aF 8 17 (by decide) ?_ (aF 9 16 (by decide) ?_ (aF 10 15 (by decide) ?_ (aF 11 14 (by decide) ?_ (aF 12 13 (by decide) ?_ (aF 13 12 (by decide) ?_ (aF 14 11 (by decide) ?_ (aF 15 10 (by decide) ?_ (aF 16 9 (by decide) ?_ (aF 17 8 (by decide) ?_ (aF 18 7 (by decide) ?_ (aF 19 6 (by decide) ?_ (aF 20 5 (by decide) ?_ (aF 21 4 (by decide) ?_ (aF 22 3 (by decide) ?_ (aF 23 2 (by decide) ?_ (aF 24 1 (by decide) ?_ (aF 25 0 (by decide) ?_ (trivial))))))))))))))))))))))))))) [(8, .bool false)] (fin_of [some 25] rfl (by kernel_rfl) (by kernel_rfl)) (fun _ a w S => ?_)
    · refine fI 212 (.bool r9) [(9, .bool r9)] 0 [none] rfl rfl rfl rfl rfl rfl fun G a w S => ?_
      refine sMove (.bool r9) S (wN rfl) (.inl rfl) rfl rfl (lb rfl) fun a S => ?_
      exact leafL ⟨rfl, S⟩
    · refine fI 213 (.bool r9) [(212, .bool r9)] 1 [some 0] rfl rfl rfl rfl rfl rfl fun G a w S => ?_
      refine sMove (.bool r9) S (wN rfl) (.inl rfl) rfl rfl (lb rfl) fun a S => ?_
      exact leafL ⟨rfl, S⟩
    · refine fI 214 undef [(28, .pointer (some ⟨b174, 0, none⟩)), (213, .bool r9)] 2 [none, some 1] rfl rfl rfl rfl rfl rfl fun G a w S => ?_
      refine sSkip 1 true 213 214 S rfl rfl rfl hc188 rfl (lb rfl) fun a S => ?_
      exact leafL ⟨rfl, S⟩
    · refine fI 215 undef [(214, undef), (213, .bool r9)] 3 [some 2, some 1] rfl rfl rfl rfl rfl rfl fun G a w S => ?_
      refine sSkip 1 true 213 215 S rfl rfl rfl hc188 rfl (lb rfl) fun a S => ?_
      exact leafL ⟨rfl, S⟩
    · refine fI 216 undef [(16, .pointer (some ⟨b53, 0, none⟩)), (213, .bool r9)] 4 [none, some 1] rfl rfl rfl rfl rfl rfl fun G a w S => ?_
      refine sSkip 1 true 213 216 S rfl rfl rfl hc188 rfl (lb rfl) fun a S => ?_
      exact leafL ⟨rfl, S⟩
    · refine fI 217 undef [(216, undef), (213, .bool r9)] 5 [some 4, some 1] rfl rfl rfl rfl rfl rfl fun G a w S => ?_
      refine sSkip 1 true 213 217 S rfl rfl rfl hc188 rfl (lb rfl) fun a S => ?_
      exact leafL ⟨rfl, S⟩
    · refine fI 218 undef [(215, undef), (217, undef), (213, .bool r9)] 6 [some 3, some 5, some 1] rfl rfl rfl rfl rfl rfl fun G a w S => ?_
      refine sSkip 1 true 213 218 S rfl rfl rfl hc188 rfl (lb rfl) fun a S => ?_
      exact leafL ⟨rfl, S⟩
    · refine fI 219 undef [(22, iv o73), (213, .bool r9)] 7 [none, some 1] rfl rfl rfl rfl rfl rfl fun G a w S => ?_
      refine sSkip 1 true 213 219 S rfl rfl rfl hc188 rfl (lb rfl) fun a S => ?_
      exact leafL ⟨rfl, S⟩
    · refine fI 220 undef [(3, iv p3), (213, .bool r9)] 8 [none, some 1] rfl rfl rfl rfl rfl rfl fun G a w S => ?_
      refine sSkip 1 true 213 220 S rfl rfl rfl hc188 rfl (lb rfl) fun a S => ?_
      exact leafL ⟨rfl, S⟩
    · refine fI 221 undef [(219, undef), (220, undef), (213, .bool r9)] 9 [some 7, some 8, some 1] rfl rfl rfl rfl rfl rfl fun G a w S => ?_
      refine sSkip 1 true 213 221 S rfl rfl rfl hc188 rfl (lb rfl) fun a S => ?_
      exact leafL ⟨rfl, S⟩
    · refine fI 222 undef [(218, undef), (221, undef), (213, .bool r9)] 10 [some 6, some 9, some 1] rfl rfl rfl rfl rfl rfl fun G a w S => ?_
      refine sSkip 1 true 213 222 S rfl rfl rfl hc188 rfl (lb rfl) fun a S => ?_
      exact leafL ⟨rfl, S⟩
    · refine fI 223 (.bool false) [(213, .bool r9), (222, undef)] 11 [some 1, some 10] rfl rfl rfl rfl rfl rfl fun G a w S => ?_
      refine sPickF (.bool false) S (wN rfl) rfl rfl hc188 rfl rfl (lb rfl) fun a S => ?_
      exact leafL ⟨rfl, S⟩
    · refine fI 224 (.bool false) [(223, .bool false)] 12 [some 11] rfl rfl rfl rfl rfl rfl fun G a w S => ?_
      refine sMove (.bool false) S (wN rfl) (.inl rfl) rfl rfl (lb rfl) fun a S => ?_
      exact leafL ⟨rfl, S⟩
    · refine fI 225 undef [(28, .pointer (some ⟨b174, 0, none⟩)), (224, .bool false)] 13 [none, some 12] rfl rfl rfl rfl rfl rfl fun G a w S => ?_
      refine sSkip 12 true 224 225 S rfl rfl rfl rfl rfl (lb rfl) fun a S => ?_
      exact leafL ⟨rfl, S⟩
    · refine fI 226 undef [(225, undef), (224, .bool false)] 14 [some 13, some 12] rfl rfl rfl rfl rfl rfl fun G a w S => ?_
      refine sSkip 12 true 224 226 S rfl rfl rfl rfl rfl (lb rfl) fun a S => ?_
      exact leafL ⟨rfl, S⟩
    · refine fI 227 undef [(16, .pointer (some ⟨b53, 0, none⟩)), (224, .bool false)] 15 [none, some 12] rfl rfl rfl rfl rfl rfl fun G a w S => ?_
      refine sSkip 12 true 224 227 S rfl rfl rfl rfl rfl (lb rfl) fun a S => ?_
      exact leafL ⟨rfl, S⟩
    · refine fI 228 undef [(227, undef), (224, .bool false)] 16 [some 15, some 12] rfl rfl rfl rfl rfl rfl fun G a w S => ?_
      refine sSkip 12 true 224 228 S rfl rfl rfl rfl rfl (lb rfl) fun a S => ?_
      exact leafL ⟨rfl, S⟩
    · refine fI 229 undef [(226, undef), (228, undef), (224, .bool false)] 17 [some 14, some 16, some 12] rfl rfl rfl rfl rfl rfl fun G a w S => ?_
      refine sSkip 12 true 224 229 S rfl rfl rfl rfl rfl (lb rfl) fun a S => ?_
      exact leafL ⟨rfl, S⟩
    · refine fI 230 undef [(2, iv p2), (224, .bool false)] 18 [none, some 12] rfl rfl rfl rfl rfl rfl fun G a w S => ?_
      refine sSkip 12 true 224 230 S rfl rfl rfl rfl rfl (lb rfl) fun a S => ?_
      exact leafL ⟨rfl, S⟩
    · refine fI 231 undef [(12, .pointer (some ⟨b43, 0, none⟩)), (230, undef), (224, .bool false)] 19 [none, some 18, some 12] rfl rfl rfl rfl rfl rfl fun G a w S => ?_
      refine sSkip 12 true 224 231 S rfl rfl rfl rfl rfl (lb rfl) fun a S => ?_
      exact leafL ⟨rfl, S⟩
    · refine fI 232 undef [(231, undef), (224, .bool false)] 20 [some 19, some 12] rfl rfl rfl rfl rfl rfl fun G a w S => ?_
      refine sSkip 12 true 224 232 S rfl rfl rfl rfl rfl (lb rfl) fun a S => ?_
      exact leafL ⟨rfl, S⟩
    · refine fI 233 undef [(3, iv p3), (224, .bool false)] 21 [none, some 12] rfl rfl rfl rfl rfl rfl fun G a w S => ?_
      refine sSkip 12 true 224 233 S rfl rfl rfl rfl rfl (lb rfl) fun a S => ?_
      exact leafL ⟨rfl, S⟩
    · refine fI 234 undef [(232, undef), (233, undef), (224, .bool false)] 22 [some 20, some 21, some 12] rfl rfl rfl rfl rfl rfl fun G a w S => ?_
      refine sSkip 12 true 224 234 S rfl rfl rfl rfl rfl (lb rfl) fun a S => ?_
      exact leafL ⟨rfl, S⟩
    · refine fI 235 undef [(229, undef), (234, undef), (224, .bool false)] 23 [some 17, some 22, some 12] rfl rfl rfl rfl rfl rfl fun G a w S => ?_
      refine sSkip 12 true 224 235 S rfl rfl rfl rfl rfl (lb rfl) fun a S => ?_
      exact leafL ⟨rfl, S⟩
    · refine fI 236 (.bool false) [(224, .bool false), (235, undef)] 24 [some 12, some 23] rfl rfl rfl rfl rfl rfl fun G a w S => ?_
      refine sPickF (.bool false) S (wN rfl) rfl rfl rfl rfl rfl (lb rfl) fun a S => ?_
      exact leafL ⟨rfl, S⟩
    · refine fI 8 (.bool false) [(236, .bool false)] 25 [some 24] rfl rfl rfl rfl rfl rfl fun G a w S => ?_
      refine sMove (.bool false) S (wN rfl) (.inr rfl) rfl rfl (lb rfl) fun a S => ?_
      exact leafL ⟨rfl, S⟩
    exact leafT (⟨false, Option.some.inj h, S.fix [] [] (by decide) rfl rfl rfl⟩)
  rcases iteSome h with ⟨hc189, h⟩ | ⟨hc189, h⟩
  rotate_left
  · refine sDraw (nf := []) (W := [(0, 212, .bool r9), (1, 213, .bool r9), (2, 214, .pointer (some ⟨b174, 0, none⟩)), (3, 215, iv r171.1.Length), (4, 216, .pointer (some ⟨b53, 0, none⟩)), (5, 217, iv r50.1.Length), (6, 218, iv (w64 (r171.1.Length - r50.1.Length))), (7, 219, iv o73), (8, 220, iv p3), (9, 221, iv (w64 (o73 * p3))), (10, 222, .bool ((w64 (r171.1.Length - r50.1.Length)) == (w64 (o73 * p3)))), (11, 223, .bool ((w64 (r171.1.Length - r50.1.Length)) == (w64 (o73 * p3)))), (12, 224, .bool ((w64 (r171.1.Length - r50.1.Length)) == (w64 (o73 * p3)))), (13, 225, undef), (14, 226, undef), (15, 227, undef), (16, 228, undef), (17, 229, undef), (18, 230, undef), (19, 231, undef), (20, 232, undef), (21, 233, undef), (22, 234, undef), (23, 235, undef), (24, 236, .bool false), (25, 8, .bool false)]) rfl S ?_
    refine node_by (A := anc_raddlelaw45_CostSides_0) (nf := []) (Y := []) (W := [(0, 212, .bool r9), (1, 213, .bool r9), (2, 214, .pointer (some ⟨b174, 0, none⟩)), (3, 215, iv r171.1.Length), (4, 216, .pointer (some ⟨b53, 0, none⟩)), (5, 217, iv r50.1.Length), (6, 218, iv (w64 (r171.1.Length - r50.1.Length))), (7, 219, iv o73), (8, 220, iv p3), (9, 221, iv (w64 (o73 * p3))), (10, 222, .bool ((w64 (r171.1.Length - r50.1.Length)) == (w64 (o73 * p3)))), (11, 223, .bool ((w64 (r171.1.Length - r50.1.Length)) == (w64 (o73 * p3)))), (12, 224, .bool ((w64 (r171.1.Length - r50.1.Length)) == (w64 (o73 * p3)))), (13, 225, undef), (14, 226, undef), (15, 227, undef), (16, 228, undef), (17, 229, undef), (18, 230, undef), (19, 231, undef), (20, 232, undef), (21, 233, undef), (22, 234, undef), (23, 235, undef), (24, 236, .bool false), (25, 8, .bool false)]) 26 (by kernel_rfl) (by kernel_rfl) (by kernel_rfl) (by kernel_rfl) (by kernel_rfl) [0, 1, 2, 3, 4, 5, 6, 7, 8, 9, 10, 11, 12, 13, 14, 15, 16, 17, 18, 19, 20, 21, 22, 23, 24, 25] (by kernel_rfl) (by decide) (by decide) (aF 0 25 (by decide) ?_ (aF 1 24 (by decide) ?_ (aF 2 23 (by decide) ?_ (aF 3 22 (by decide) ?_ (aF 4 21 (by decide) ?_ (aF 5 20 (by decide) ?_ (aF 6 19 (by decide) ?_ (aF 7 18 (by decide) ?_ (aF 8 17 (by decide) ?_ (aF 9 16 (by decide) ?_ (aF 10 15 (by decide) ?_ (aF 11 14 (by decide) ?_ (aF 12 13 (by decide) ?_ (aF 13 12 (by decide) ?_ (aF 14 11 (by decide) ?_ (aF 15 10 (by decide) ?_ (aF 16 9 (by decide) ?_ (aF 17 8 (by decide) ?_ (aF 18 7 (by decide) ?_ (aF 19 6 (by decide) ?_ (aF 20 5 (by decide) ?_ (aF 21 4 (by decide) ?_ (aF 22 3 (by decide) ?_ (aF 23 2 (by decide) ?_ (aF 24 1 (by decide) ?_ (aF 25 0 (by decide) ?_ (trivial))))))))))))))))))))))))))) [(8, .bool false)] (fin_of [some 25] rfl (by kernel_rfl) (by kernel_rfl)) (fun _ a w S => ?_)
    · refine fI 212 (.bool r9) [(9, .bool r9)] 0 [none] rfl rfl rfl rfl rfl rfl fun G a w S => ?_
      refine sMove (.bool r9) S (wN rfl) (.inl rfl) rfl rfl (lb rfl) fun a S => ?_
      exact leafL ⟨rfl, S⟩
    · refine fI 213 (.bool r9) [(212, .bool r9)] 1 [some 0] rfl rfl rfl rfl rfl rfl fun G a w S => ?_
      refine sMove (.bool r9) S (wN rfl) (.inl rfl) rfl rfl (lb rfl) fun a S => ?_
      exact leafL ⟨rfl, S⟩
    · refine fI 214 (.pointer (some ⟨b174, 0, none⟩)) [(28, .pointer (some ⟨b174, 0, none⟩)), (213, .bool r9)] 2 [none, some 1] rfl rfl rfl rfl rfl rfl fun G a w S => ?_
      refine sField (b := b174) (off := 0) 0 0 S (wG 1 true 213 rfl rfl rfl hc188) rfl rfl rfl rfl rfl (lb rfl) fun a S => ?_
      exact leafL ⟨rfl, S⟩
    · refine fI 215 (iv r171.1.Length) [(214, .pointer (some ⟨b174, 0, none⟩)), (213, .bool r9)] 3 [some 2, some 1] rfl rfl rfl rfl rfl rfl fun G a w S => ?_
      refine sLoad1 (p := b174) (off := 0) (T := 23) (vs := [iv r171.1.Length, iv r171.1.Time]) 0 (iv r171.1.Length) S (wG 1 true 213 rfl rfl rfl hc188) rfl rfl rfl rfl rfl rfl (lb rfl) fun a S => ?_
      exact leafL ⟨rfl, S⟩
    · refine fI 216 (.pointer (some ⟨b53, 0, none⟩)) [(16, .pointer (some ⟨b53, 0, none⟩)), (213, .bool r9)] 4 [none, some 1] rfl rfl rfl rfl rfl rfl fun G a w S => ?_
      refine sField (b := b53) (off := 0) 0 0 S (wG 1 true 213 rfl rfl rfl hc188) rfl rfl rfl rfl rfl (lb rfl) fun a S => ?_
      exact leafL ⟨rfl, S⟩
    · refine fI 217 (iv r50.1.Length) [(216, .pointer (some ⟨b53, 0, none⟩)), (213, .bool r9)] 5 [some 4, some 1] rfl rfl rfl rfl rfl rfl fun G a w S => ?_
      refine sLoad1 (p := b53) (off := 0) (T := 23) (vs := [iv r50.1.Length, iv r50.1.Time]) 5 (iv r50.1.Length) S (wG 1 true 213 rfl rfl rfl hc188) rfl rfl rfl rfl rfl rfl (lb rfl) fun a S => ?_
      exact leafL ⟨rfl, S⟩
    · refine fI 218 (iv (w64 (r171.1.Length - r50.1.Length))) [(215, iv r171.1.Length), (217, iv r50.1.Length), (213, .bool r9)] 6 [some 3, some 5, some 1] rfl rfl rfl rfl rfl rfl fun G a w S => ?_
      refine sBin (iv (w64 (r171.1.Length - r50.1.Length))) S (wG 1 true 213 rfl rfl rfl hc188) rfl rfl rfl (bSub _ _ _ _ r171.1.Length r50.1.Length) rfl (lb rfl) fun a S => ?_
      exact leafL ⟨rfl, S⟩
    · refine fI 219 (iv o73) [(22, iv o73), (213, .bool r9)] 7 [none, some 1] rfl rfl rfl rfl rfl rfl fun G a w S => ?_
      refine sMove (iv o73) S (wG 1 true 213 rfl rfl rfl hc188) (.inl rfl) rfl rfl (lb rfl) fun a S => ?_
      exact leafL ⟨rfl, S⟩
    · refine fI 220 (iv p3) [(3, iv p3), (213, .bool r9)] 8 [none, some 1] rfl rfl rfl rfl rfl rfl fun G a w S => ?_
      refine sMove (iv p3) S (wG 1 true 213 rfl rfl rfl hc188) (.inl rfl) rfl rfl (lb rfl) fun a S => ?_
      exact leafL ⟨rfl, S⟩
    · refine fI 221 (iv (w64 (o73 * p3))) [(219, iv o73), (220, iv p3), (213, .bool r9)] 9 [some 7, some 8, some 1] rfl rfl rfl rfl rfl rfl fun G a w S => ?_
      refine sBin (iv (w64 (o73 * p3))) S (wG 1 true 213 rfl rfl rfl hc188) rfl rfl rfl (bMul _ _ _ _ o73 p3) rfl (lb rfl) fun a S => ?_
      exact leafL ⟨rfl, S⟩
    · refine fI 222 (.bool ((w64 (r171.1.Length - r50.1.Length)) == (w64 (o73 * p3)))) [(218, iv (w64 (r171.1.Length - r50.1.Length))), (221, iv (w64 (o73 * p3))), (213, .bool r9)] 10 [some 6, some 9, some 1] rfl rfl rfl rfl rfl rfl fun G a w S => ?_
      refine sBin (.bool ((w64 (r171.1.Length - r50.1.Length)) == (w64 (o73 * p3)))) S (wG 1 true 213 rfl rfl rfl hc188) rfl rfl rfl (bEq _ _ _ _ .i64 (w64 (r171.1.Length - r50.1.Length)) (w64 (o73 * p3))) rfl (lb rfl) fun a S => ?_
      exact leafL ⟨rfl, S⟩
    · refine fI 223 (.bool ((w64 (r171.1.Length - r50.1.Length)) == (w64 (o73 * p3)))) [(213, .bool r9), (222, .bool ((w64 (r171.1.Length - r50.1.Length)) == (w64 (o73 * p3))))] 11 [some 1, some 10] rfl rfl rfl rfl rfl rfl fun G a w S => ?_
      refine sPickT (.bool ((w64 (r171.1.Length - r50.1.Length)) == (w64 (o73 * p3)))) S (wN rfl) rfl rfl hc188 rfl rfl (lb rfl) fun a S => ?_
      exact leafL ⟨rfl, S⟩
    · refine fI 224 (.bool ((w64 (r171.1.Length - r50.1.Length)) == (w64 (o73 * p3)))) [(223, .bool ((w64 (r171.1.Length - r50.1.Length)) == (w64 (o73 * p3))))] 12 [some 11] rfl rfl rfl rfl rfl rfl fun G a w S => ?_
      refine sMove (.bool ((w64 (r171.1.Length - r50.1.Length)) == (w64 (o73 * p3)))) S (wN rfl) (.inl rfl) rfl rfl (lb rfl) fun a S => ?_
      exact leafL ⟨rfl, S⟩
    · refine fI 225 undef [(28, .pointer (some ⟨b174, 0, none⟩)), (224, .bool ((w64 (r171.1.Length - r50.1.Length)) == (w64 (o73 * p3))))] 13 [none, some 12] rfl rfl rfl rfl rfl rfl fun G a w S => ?_
      refine sSkip 12 true 224 225 S rfl rfl rfl hc189 rfl (lb rfl) fun a S => ?_
      exact leafL ⟨rfl, S⟩
    · refine fI 226 undef [(225, undef), (224, .bool ((w64 (r171.1.Length - r50.1.Length)) == (w64 (o73 * p3))))] 14 [some 13, some 12] rfl rfl rfl rfl rfl rfl fun G a w S => ?_
      refine sSkip 12 true 224 226 S rfl rfl rfl hc189 rfl (lb rfl) fun a S => ?_
      exact leafL ⟨rfl, S⟩
    · refine fI 227 undef [(16, .pointer (some ⟨b53, 0, none⟩)), (224, .bool ((w64 (r171.1.Length - r50.1.Length)) == (w64 (o73 * p3))))] 15 [none, some 12] rfl rfl rfl rfl rfl rfl fun G a w S => ?_
      refine sSkip 12 true 224 227 S rfl rfl rfl hc189 rfl (lb rfl) fun a S => ?_
      exact leafL ⟨rfl, S⟩
    · refine fI 228 undef [(227, undef), (224, .bool ((w64 (r171.1.Length - r50.1.Length)) == (w64 (o73 * p3))))] 16 [some 15, some 12] rfl rfl rfl rfl rfl rfl fun G a w S => ?_
      refine sSkip 12 true 224 228 S rfl rfl rfl hc189 rfl (lb rfl) fun a S => ?_
      exact leafL ⟨rfl, S⟩
    · refine fI 229 undef [(226, undef), (228, undef), (224, .bool ((w64 (r171.1.Length - r50.1.Length)) == (w64 (o73 * p3))))] 17 [some 14, some 16, some 12] rfl rfl rfl rfl rfl rfl fun G a w S => ?_
      refine sSkip 12 true 224 229 S rfl rfl rfl hc189 rfl (lb rfl) fun a S => ?_
      exact leafL ⟨rfl, S⟩
    · refine fI 230 undef [(2, iv p2), (224, .bool ((w64 (r171.1.Length - r50.1.Length)) == (w64 (o73 * p3))))] 18 [none, some 12] rfl rfl rfl rfl rfl rfl fun G a w S => ?_
      refine sSkip 12 true 224 230 S rfl rfl rfl hc189 rfl (lb rfl) fun a S => ?_
      exact leafL ⟨rfl, S⟩
    · refine fI 231 undef [(12, .pointer (some ⟨b43, 0, none⟩)), (230, undef), (224, .bool ((w64 (r171.1.Length - r50.1.Length)) == (w64 (o73 * p3))))] 19 [none, some 18, some 12] rfl rfl rfl rfl rfl rfl fun G a w S => ?_
      refine sSkip 12 true 224 231 S rfl rfl rfl hc189 rfl (lb rfl) fun a S => ?_
      exact leafL ⟨rfl, S⟩
    · refine fI 232 undef [(231, undef), (224, .bool ((w64 (r171.1.Length - r50.1.Length)) == (w64 (o73 * p3))))] 20 [some 19, some 12] rfl rfl rfl rfl rfl rfl fun G a w S => ?_
      refine sSkip 12 true 224 232 S rfl rfl rfl hc189 rfl (lb rfl) fun a S => ?_
      exact leafL ⟨rfl, S⟩
    · refine fI 233 undef [(3, iv p3), (224, .bool ((w64 (r171.1.Length - r50.1.Length)) == (w64 (o73 * p3))))] 21 [none, some 12] rfl rfl rfl rfl rfl rfl fun G a w S => ?_
      refine sSkip 12 true 224 233 S rfl rfl rfl hc189 rfl (lb rfl) fun a S => ?_
      exact leafL ⟨rfl, S⟩
    · refine fI 234 undef [(232, undef), (233, undef), (224, .bool ((w64 (r171.1.Length - r50.1.Length)) == (w64 (o73 * p3))))] 22 [some 20, some 21, some 12] rfl rfl rfl rfl rfl rfl fun G a w S => ?_
      refine sSkip 12 true 224 234 S rfl rfl rfl hc189 rfl (lb rfl) fun a S => ?_
      exact leafL ⟨rfl, S⟩
    · refine fI 235 undef [(229, undef), (234, undef), (224, .bool ((w64 (r171.1.Length - r50.1.Length)) == (w64 (o73 * p3))))] 23 [some 17, some 22, some 12] rfl rfl rfl rfl rfl rfl fun G a w S => ?_
      refine sSkip 12 true 224 235 S rfl rfl rfl hc189 rfl (lb rfl) fun a S => ?_
      exact leafL ⟨rfl, S⟩
    · refine fI 236 (.bool false) [(224, .bool ((w64 (r171.1.Length - r50.1.Length)) == (w64 (o73 * p3)))), (235, undef)] 24 [some 12, some 23] rfl rfl rfl rfl rfl rfl fun G a w S => ?_
      refine sPickF (.bool false) S (wN rfl) rfl rfl hc189 rfl rfl (lb rfl) fun a S => ?_
      exact leafL ⟨rfl, S⟩
    · refine fI 8 (.bool false) [(236, .bool false)] 25 [some 24] rfl rfl rfl rfl rfl rfl fun G a w S => ?_
      refine sMove (.bool false) S (wN rfl) (.inr rfl) rfl rfl (lb rfl) fun a S => ?_
      exact leafL ⟨rfl, S⟩
    exact leafT (⟨false, Option.some.inj h, S.fix [] [] (by decide) rfl rfl rfl⟩)
  obtain ⟨x190, hx191, h⟩ := bindSome h
  refine sDraw (nf := []) (W := [(0, 212, .bool r9), (1, 213, .bool r9), (2, 214, .pointer (some ⟨b174, 0, none⟩)), (3, 215, iv r171.1.Length), (4, 216, .pointer (some ⟨b53, 0, none⟩)), (5, 217, iv r50.1.Length), (6, 218, iv (w64 (r171.1.Length - r50.1.Length))), (7, 219, iv o73), (8, 220, iv p3), (9, 221, iv (w64 (o73 * p3))), (10, 222, .bool ((w64 (r171.1.Length - r50.1.Length)) == (w64 (o73 * p3)))), (11, 223, .bool ((w64 (r171.1.Length - r50.1.Length)) == (w64 (o73 * p3)))), (12, 224, .bool ((w64 (r171.1.Length - r50.1.Length)) == (w64 (o73 * p3)))), (13, 225, .pointer (some ⟨b174, 1, none⟩)), (14, 226, iv r171.1.Time), (15, 227, .pointer (some ⟨b53, 1, none⟩)), (16, 228, iv r50.1.Time), (17, 229, iv (w64 (r171.1.Time - r50.1.Time))), (18, 230, iv p2), (19, 231, .pointer (some ⟨b43, 0 + (p2).toNat * 1, none⟩)), (20, 232, iv x190), (21, 233, iv p3), (22, 234, iv (w64 (x190 * p3))), (23, 235, .bool ((w64 (r171.1.Time - r50.1.Time)) == (w64 (x190 * p3)))), (24, 236, .bool ((w64 (r171.1.Time - r50.1.Time)) == (w64 (x190 * p3)))), (25, 8, .bool ((w64 (r171.1.Time - r50.1.Time)) == (w64 (x190 * p3))))]) rfl S ?_
  refine node_by (A := anc_raddlelaw45_CostSides_0) (nf := []) (Y := []) (W := [(0, 212, .bool r9), (1, 213, .bool r9), (2, 214, .pointer (some ⟨b174, 0, none⟩)), (3, 215, iv r171.1.Length), (4, 216, .pointer (some ⟨b53, 0, none⟩)), (5, 217, iv r50.1.Length), (6, 218, iv (w64 (r171.1.Length - r50.1.Length))), (7, 219, iv o73), (8, 220, iv p3), (9, 221, iv (w64 (o73 * p3))), (10, 222, .bool ((w64 (r171.1.Length - r50.1.Length)) == (w64 (o73 * p3)))), (11, 223, .bool ((w64 (r171.1.Length - r50.1.Length)) == (w64 (o73 * p3)))), (12, 224, .bool ((w64 (r171.1.Length - r50.1.Length)) == (w64 (o73 * p3)))), (13, 225, .pointer (some ⟨b174, 1, none⟩)), (14, 226, iv r171.1.Time), (15, 227, .pointer (some ⟨b53, 1, none⟩)), (16, 228, iv r50.1.Time), (17, 229, iv (w64 (r171.1.Time - r50.1.Time))), (18, 230, iv p2), (19, 231, .pointer (some ⟨b43, 0 + (p2).toNat * 1, none⟩)), (20, 232, iv x190), (21, 233, iv p3), (22, 234, iv (w64 (x190 * p3))), (23, 235, .bool ((w64 (r171.1.Time - r50.1.Time)) == (w64 (x190 * p3)))), (24, 236, .bool ((w64 (r171.1.Time - r50.1.Time)) == (w64 (x190 * p3)))), (25, 8, .bool ((w64 (r171.1.Time - r50.1.Time)) == (w64 (x190 * p3))))]) 26 (by kernel_rfl) (by kernel_rfl) (by kernel_rfl) (by kernel_rfl) (by kernel_rfl) [0, 1, 2, 3, 4, 5, 6, 7, 8, 9, 10, 11, 12, 13, 14, 15, 16, 17, 18, 19, 20, 21, 22, 23, 24, 25] (by kernel_rfl) (by decide) (by decide) (aF 0 25 (by decide) ?_ (aF 1 24 (by decide) ?_ (aF 2 23 (by decide) ?_ (aF 3 22 (by decide) ?_ (aF 4 21 (by decide) ?_ (aF 5 20 (by decide) ?_ (aF 6 19 (by decide) ?_ (aF 7 18 (by decide) ?_ (aF 8 17 (by decide) ?_ (aF 9 16 (by decide) ?_ (aF 10 15 (by decide) ?_ (aF 11 14 (by decide) ?_ (aF 12 13 (by decide) ?_ (aF 13 12 (by decide) ?_ (aF 14 11 (by decide) ?_ (aF 15 10 (by decide) ?_ (aF 16 9 (by decide) ?_ (aF 17 8 (by decide) ?_ (aF 18 7 (by decide) ?_ (aF 19 6 (by decide) ?_ (aF 20 5 (by decide) ?_ (aF 21 4 (by decide) ?_ (aF 22 3 (by decide) ?_ (aF 23 2 (by decide) ?_ (aF 24 1 (by decide) ?_ (aF 25 0 (by decide) ?_ (trivial))))))))))))))))))))))))))) [(8, .bool ((w64 (r171.1.Time - r50.1.Time)) == (w64 (x190 * p3))))] (fin_of [some 25] rfl (by kernel_rfl) (by kernel_rfl)) (fun _ a w S => ?_)
  · refine fI 212 (.bool r9) [(9, .bool r9)] 0 [none] rfl rfl rfl rfl rfl rfl fun G a w S => ?_
    refine sMove (.bool r9) S (wN rfl) (.inl rfl) rfl rfl (lb rfl) fun a S => ?_
    exact leafL ⟨rfl, S⟩
  · refine fI 213 (.bool r9) [(212, .bool r9)] 1 [some 0] rfl rfl rfl rfl rfl rfl fun G a w S => ?_
    refine sMove (.bool r9) S (wN rfl) (.inl rfl) rfl rfl (lb rfl) fun a S => ?_
    exact leafL ⟨rfl, S⟩
  · refine fI 214 (.pointer (some ⟨b174, 0, none⟩)) [(28, .pointer (some ⟨b174, 0, none⟩)), (213, .bool r9)] 2 [none, some 1] rfl rfl rfl rfl rfl rfl fun G a w S => ?_
    refine sField (b := b174) (off := 0) 0 0 S (wG 1 true 213 rfl rfl rfl hc188) rfl rfl rfl rfl rfl (lb rfl) fun a S => ?_
    exact leafL ⟨rfl, S⟩
  · refine fI 215 (iv r171.1.Length) [(214, .pointer (some ⟨b174, 0, none⟩)), (213, .bool r9)] 3 [some 2, some 1] rfl rfl rfl rfl rfl rfl fun G a w S => ?_
    refine sLoad1 (p := b174) (off := 0) (T := 23) (vs := [iv r171.1.Length, iv r171.1.Time]) 0 (iv r171.1.Length) S (wG 1 true 213 rfl rfl rfl hc188) rfl rfl rfl rfl rfl rfl (lb rfl) fun a S => ?_
    exact leafL ⟨rfl, S⟩
  · refine fI 216 (.pointer (some ⟨b53, 0, none⟩)) [(16, .pointer (some ⟨b53, 0, none⟩)), (213, .bool r9)] 4 [none, some 1] rfl rfl rfl rfl rfl rfl fun G a w S => ?_
    refine sField (b := b53) (off := 0) 0 0 S (wG 1 true 213 rfl rfl rfl hc188) rfl rfl rfl rfl rfl (lb rfl) fun a S => ?_
    exact leafL ⟨rfl, S⟩
  · refine fI 217 (iv r50.1.Length) [(216, .pointer (some ⟨b53, 0, none⟩)), (213, .bool r9)] 5 [some 4, some 1] rfl rfl rfl rfl rfl rfl fun G a w S => ?_
    refine sLoad1 (p := b53) (off := 0) (T := 23) (vs := [iv r50.1.Length, iv r50.1.Time]) 5 (iv r50.1.Length) S (wG 1 true 213 rfl rfl rfl hc188) rfl rfl rfl rfl rfl rfl (lb rfl) fun a S => ?_
    exact leafL ⟨rfl, S⟩
  · refine fI 218 (iv (w64 (r171.1.Length - r50.1.Length))) [(215, iv r171.1.Length), (217, iv r50.1.Length), (213, .bool r9)] 6 [some 3, some 5, some 1] rfl rfl rfl rfl rfl rfl fun G a w S => ?_
    refine sBin (iv (w64 (r171.1.Length - r50.1.Length))) S (wG 1 true 213 rfl rfl rfl hc188) rfl rfl rfl (bSub _ _ _ _ r171.1.Length r50.1.Length) rfl (lb rfl) fun a S => ?_
    exact leafL ⟨rfl, S⟩
  · refine fI 219 (iv o73) [(22, iv o73), (213, .bool r9)] 7 [none, some 1] rfl rfl rfl rfl rfl rfl fun G a w S => ?_
    refine sMove (iv o73) S (wG 1 true 213 rfl rfl rfl hc188) (.inl rfl) rfl rfl (lb rfl) fun a S => ?_
    exact leafL ⟨rfl, S⟩
  · refine fI 220 (iv p3) [(3, iv p3), (213, .bool r9)] 8 [none, some 1] rfl rfl rfl rfl rfl rfl fun G a w S => ?_
    refine sMove (iv p3) S (wG 1 true 213 rfl rfl rfl hc188) (.inl rfl) rfl rfl (lb rfl) fun a S => ?_
    exact leafL ⟨rfl, S⟩
  · refine fI 221 (iv (w64 (o73 * p3))) [(219, iv o73), (220, iv p3), (213, .bool r9)] 9 [some 7, some 8, some 1] rfl rfl rfl rfl rfl rfl fun G a w S => ?_
    refine sBin (iv (w64 (o73 * p3))) S (wG 1 true 213 rfl rfl rfl hc188) rfl rfl rfl (bMul _ _ _ _ o73 p3) rfl (lb rfl) fun a S => ?_
    exact leafL ⟨rfl, S⟩
  · refine fI 222 (.bool ((w64 (r171.1.Length - r50.1.Length)) == (w64 (o73 * p3)))) [(218, iv (w64 (r171.1.Length - r50.1.Length))), (221, iv (w64 (o73 * p3))), (213, .bool r9)] 10 [some 6, some 9, some 1] rfl rfl rfl rfl rfl rfl fun G a w S => ?_
    refine sBin (.bool ((w64 (r171.1.Length - r50.1.Length)) == (w64 (o73 * p3)))) S (wG 1 true 213 rfl rfl rfl hc188) rfl rfl rfl (bEq _ _ _ _ .i64 (w64 (r171.1.Length - r50.1.Length)) (w64 (o73 * p3))) rfl (lb rfl) fun a S => ?_
    exact leafL ⟨rfl, S⟩
  · refine fI 223 (.bool ((w64 (r171.1.Length - r50.1.Length)) == (w64 (o73 * p3)))) [(213, .bool r9), (222, .bool ((w64 (r171.1.Length - r50.1.Length)) == (w64 (o73 * p3))))] 11 [some 1, some 10] rfl rfl rfl rfl rfl rfl fun G a w S => ?_
    refine sPickT (.bool ((w64 (r171.1.Length - r50.1.Length)) == (w64 (o73 * p3)))) S (wN rfl) rfl rfl hc188 rfl rfl (lb rfl) fun a S => ?_
    exact leafL ⟨rfl, S⟩
  · refine fI 224 (.bool ((w64 (r171.1.Length - r50.1.Length)) == (w64 (o73 * p3)))) [(223, .bool ((w64 (r171.1.Length - r50.1.Length)) == (w64 (o73 * p3))))] 12 [some 11] rfl rfl rfl rfl rfl rfl fun G a w S => ?_
    refine sMove (.bool ((w64 (r171.1.Length - r50.1.Length)) == (w64 (o73 * p3)))) S (wN rfl) (.inl rfl) rfl rfl (lb rfl) fun a S => ?_
    exact leafL ⟨rfl, S⟩
  · refine fI 225 (.pointer (some ⟨b174, 1, none⟩)) [(28, .pointer (some ⟨b174, 0, none⟩)), (224, .bool ((w64 (r171.1.Length - r50.1.Length)) == (w64 (o73 * p3))))] 13 [none, some 12] rfl rfl rfl rfl rfl rfl fun G a w S => ?_
    refine sField (b := b174) (off := 0) 1 1 S (wG 12 true 224 rfl rfl rfl hc189) rfl rfl rfl rfl rfl (lb rfl) fun a S => ?_
    exact leafL ⟨rfl, S⟩
  · refine fI 226 (iv r171.1.Time) [(225, .pointer (some ⟨b174, 1, none⟩)), (224, .bool ((w64 (r171.1.Length - r50.1.Length)) == (w64 (o73 * p3))))] 14 [some 13, some 12] rfl rfl rfl rfl rfl rfl fun G a w S => ?_
    refine sLoad1 (p := b174) (off := 1) (T := 23) (vs := [iv r171.1.Length, iv r171.1.Time]) 0 (iv r171.1.Time) S (wG 12 true 224 rfl rfl rfl hc189) rfl rfl rfl rfl rfl rfl (lb rfl) fun a S => ?_
    exact leafL ⟨rfl, S⟩
  · refine fI 227 (.pointer (some ⟨b53, 1, none⟩)) [(16, .pointer (some ⟨b53, 0, none⟩)), (224, .bool ((w64 (r171.1.Length - r50.1.Length)) == (w64 (o73 * p3))))] 15 [none, some 12] rfl rfl rfl rfl rfl rfl fun G a w S => ?_
    refine sField (b := b53) (off := 0) 1 1 S (wG 12 true 224 rfl rfl rfl hc189) rfl rfl rfl rfl rfl (lb rfl) fun a S => ?_
    exact leafL ⟨rfl, S⟩
  · refine fI 228 (iv r50.1.Time) [(227, .pointer (some ⟨b53, 1, none⟩)), (224, .bool ((w64 (r171.1.Length - r50.1.Length)) == (w64 (o73 * p3))))] 16 [some 15, some 12] rfl rfl rfl rfl rfl rfl fun G a w S => ?_
    refine sLoad1 (p := b53) (off := 1) (T := 23) (vs := [iv r50.1.Length, iv r50.1.Time]) 5 (iv r50.1.Time) S (wG 12 true 224 rfl rfl rfl hc189) rfl rfl rfl rfl rfl rfl (lb rfl) fun a S => ?_
    exact leafL ⟨rfl, S⟩
  · refine fI 229 (iv (w64 (r171.1.Time - r50.1.Time))) [(226, iv r171.1.Time), (228, iv r50.1.Time), (224, .bool ((w64 (r171.1.Length - r50.1.Length)) == (w64 (o73 * p3))))] 17 [some 14, some 16, some 12] rfl rfl rfl rfl rfl rfl fun G a w S => ?_
    refine sBin (iv (w64 (r171.1.Time - r50.1.Time))) S (wG 12 true 224 rfl rfl rfl hc189) rfl rfl rfl (bSub _ _ _ _ r171.1.Time r50.1.Time) rfl (lb rfl) fun a S => ?_
    exact leafL ⟨rfl, S⟩
  · refine fI 230 (iv p2) [(2, iv p2), (224, .bool ((w64 (r171.1.Length - r50.1.Length)) == (w64 (o73 * p3))))] 18 [none, some 12] rfl rfl rfl rfl rfl rfl fun G a w S => ?_
    refine sMove (iv p2) S (wG 12 true 224 rfl rfl rfl hc189) (.inl rfl) rfl rfl (lb rfl) fun a S => ?_
    exact leafL ⟨rfl, S⟩
  · refine fI 231 (.pointer (some ⟨b43, 0 + (p2).toNat * 1, none⟩)) [(12, .pointer (some ⟨b43, 0, none⟩)), (230, iv p2), (224, .bool ((w64 (r171.1.Length - r50.1.Length)) == (w64 (o73 * p3))))] 19 [none, some 18, some 12] rfl rfl rfl rfl rfl rfl fun G a w S => ?_
    refine sIdxV (v := .pointer (some ⟨b43, 0, none⟩)) (k := .i64) (j := p2) (q := .pointer (some ⟨b43, 0 + (p2).toNat * 1, none⟩)) S (wG 12 true 224 rfl rfl rfl hc189) rfl rfl rfl (idxV_arr (m := 11) (sz := 1) Try.underlying42 rfl (idxO_rng (m := 11) hx191 rfl).1 (idxO_rng (m := 11) hx191 rfl).2 0) rfl (lb rfl) fun a S => ?_
    exact leafL ⟨rfl, S⟩
  · refine fI 232 (iv x190) [(231, .pointer (some ⟨b43, 0 + (p2).toNat * 1, none⟩)), (224, .bool ((w64 (r171.1.Length - r50.1.Length)) == (w64 (o73 * p3))))] 20 [some 19, some 12] rfl rfl rfl rfl rfl rfl fun G a w S => ?_
    refine sLoad1 (p := b43) (off := 0 + (p2).toNat * 1) (T := 42) (vs := [iv r40.1.1, iv r40.1.2.1, iv r40.1.2.2.1, iv r40.1.2.2.2.1, iv r40.1.2.2.2.2.1, iv r40.1.2.2.2.2.2.1, iv r40.1.2.2.2.2.2.2.1, iv r40.1.2.2.2.2.2.2.2.1, iv r40.1.2.2.2.2.2.2.2.2.1, iv r40.1.2.2.2.2.2.2.2.2.2.1, iv r40.1.2.2.2.2.2.2.2.2.2.2]) 4 (iv x190) S (wG 12 true 224 rfl rfl rfl hc189) rfl rfl rfl rfl (box_at (g := (fun z => .int .i64 z)) [] [] 0 hx191 rfl rfl) rfl (lb rfl) fun a S => ?_
    exact leafL ⟨rfl, S⟩
  · refine fI 233 (iv p3) [(3, iv p3), (224, .bool ((w64 (r171.1.Length - r50.1.Length)) == (w64 (o73 * p3))))] 21 [none, some 12] rfl rfl rfl rfl rfl rfl fun G a w S => ?_
    refine sMove (iv p3) S (wG 12 true 224 rfl rfl rfl hc189) (.inl rfl) rfl rfl (lb rfl) fun a S => ?_
    exact leafL ⟨rfl, S⟩
  · refine fI 234 (iv (w64 (x190 * p3))) [(232, iv x190), (233, iv p3), (224, .bool ((w64 (r171.1.Length - r50.1.Length)) == (w64 (o73 * p3))))] 22 [some 20, some 21, some 12] rfl rfl rfl rfl rfl rfl fun G a w S => ?_
    refine sBin (iv (w64 (x190 * p3))) S (wG 12 true 224 rfl rfl rfl hc189) rfl rfl rfl (bMul _ _ _ _ x190 p3) rfl (lb rfl) fun a S => ?_
    exact leafL ⟨rfl, S⟩
  · refine fI 235 (.bool ((w64 (r171.1.Time - r50.1.Time)) == (w64 (x190 * p3)))) [(229, iv (w64 (r171.1.Time - r50.1.Time))), (234, iv (w64 (x190 * p3))), (224, .bool ((w64 (r171.1.Length - r50.1.Length)) == (w64 (o73 * p3))))] 23 [some 17, some 22, some 12] rfl rfl rfl rfl rfl rfl fun G a w S => ?_
    refine sBin (.bool ((w64 (r171.1.Time - r50.1.Time)) == (w64 (x190 * p3)))) S (wG 12 true 224 rfl rfl rfl hc189) rfl rfl rfl (bEq _ _ _ _ .i64 (w64 (r171.1.Time - r50.1.Time)) (w64 (x190 * p3))) rfl (lb rfl) fun a S => ?_
    exact leafL ⟨rfl, S⟩
  · refine fI 236 (.bool ((w64 (r171.1.Time - r50.1.Time)) == (w64 (x190 * p3)))) [(224, .bool ((w64 (r171.1.Length - r50.1.Length)) == (w64 (o73 * p3)))), (235, .bool ((w64 (r171.1.Time - r50.1.Time)) == (w64 (x190 * p3))))] 24 [some 12, some 23] rfl rfl rfl rfl rfl rfl fun G a w S => ?_
    refine sPickT (.bool ((w64 (r171.1.Time - r50.1.Time)) == (w64 (x190 * p3)))) S (wN rfl) rfl rfl hc189 rfl rfl (lb rfl) fun a S => ?_
    exact leafL ⟨rfl, S⟩
  · refine fI 8 (.bool ((w64 (r171.1.Time - r50.1.Time)) == (w64 (x190 * p3)))) [(236, .bool ((w64 (r171.1.Time - r50.1.Time)) == (w64 (x190 * p3))))] 25 [some 24] rfl rfl rfl rfl rfl rfl fun G a w S => ?_
    refine sMove (.bool ((w64 (r171.1.Time - r50.1.Time)) == (w64 (x190 * p3)))) S (wN rfl) (.inr rfl) rfl rfl (lb rfl) fun a S => ?_
    exact leafL ⟨rfl, S⟩
  exact leafT (⟨(w64 (r171.1.Time - r50.1.Time)) == (w64 (x190 * p3)), Option.some.inj h, S.fix [] [] (by decide) rfl rfl rfl⟩)

end Go.Proofs.Ytdbgkakmhlmpbaa
namespace Go.Proofs.Ytdbgkakmhlmpbaa
open Go.RowKit
set_option linter.unusedVariables false

theorem loop_accR {α τ : Type} {B : Int × Int → Option ((Int × Int) ⊕ τ)} (l : List α) (f : α → Int) (a0 : Int) {t : τ} (hf : ∀ x, x ∈ l → 0 ≤ f x)
    (h : ∀ k (hk : k < l.length) (a : Int), a0 ≤ a → a + f l[k] ≤ a0 + sm f l → B (a, (k : Int)) = some (.inl (a + f l[k], ((k + 1 : Nat) : Int)))) (hn : B (a0 + sm f l, (l.length : Int)) = some (.inr t)) : whileO B (a0, 0) = some t := by
  have key : ∃ u, whileO B ((fun (k : Nat) (_ : Unit) => (a0 + sm f (l.take k), (k : Int))) 0 ()) = some u ∧ u = t := by
    refine loop_at (σ := Unit) l.length (fun k _ => (a0 + sm f (l.take k), (k : Int))) (fun _ _ => True) _ (s0 := ()) trivial ?_ ?_
    · intro k _ hk _
      refine .inl ⟨(), ?_, trivial⟩
      have h1 := sm_take_le hf (k + 1)
      have h2 := sm_nn (l := l.take k) fun x hx => hf x (List.mem_of_mem_take hx)
      rw [sm_take _ _ hk] at h1
      rw [h k hk _ (by omega) (by omega), sm_take _ _ hk, Int.add_assoc]
    · intro _ _
      exact ⟨t, by rw [List.take_length]; exact hn, rfl⟩
  obtain ⟨u, h1, rfl⟩ := key
  simpa [sm] using h1
theorem loop_acc2R {α τ : Type} {B : Int × Int × Int → Option ((Int × Int × Int) ⊕ τ)} (l : List α) (f g : α → Int) (a0 b0 : Int) {t : τ} (hf : ∀ x, x ∈ l → 0 ≤ f x) (hg : ∀ x, x ∈ l → 0 ≤ g x)
    (h : ∀ k (hk : k < l.length) (a b : Int), a0 ≤ a → a + f l[k] ≤ a0 + sm f l → b0 ≤ b → b + g l[k] ≤ b0 + sm g l → B (a, b, (k : Int)) = some (.inl (a + f l[k], b + g l[k], ((k + 1 : Nat) : Int)))) (hn : B (a0 + sm f l, b0 + sm g l, (l.length : Int)) = some (.inr t)) : whileO B (a0, b0, 0) = some t := by
  have key : ∃ u, whileO B ((fun (k : Nat) (_ : Unit) => (a0 + sm f (l.take k), b0 + sm g (l.take k), (k : Int))) 0 ()) = some u ∧ u = t := by
    refine loop_at (σ := Unit) l.length (fun k _ => (a0 + sm f (l.take k), b0 + sm g (l.take k), (k : Int))) (fun _ _ => True) _ (s0 := ()) trivial ?_ ?_
    · intro k _ hk _
      refine .inl ⟨(), ?_, trivial⟩
      have h1 := sm_take_le hf (k + 1)
      have h2 := sm_nn (l := l.take k) fun x hx => hf x (List.mem_of_mem_take hx)
      have h3 := sm_take_le hg (k + 1)
      have h4 := sm_nn (l := l.take k) fun x hx => hg x (List.mem_of_mem_take hx)
      rw [sm_take _ _ hk] at h1 h3
      rw [h k hk _ _ (by omega) (by omega) (by omega) (by omega), sm_take _ _ hk, sm_take _ _ hk, Int.add_assoc, Int.add_assoc]
    · intro _ _
      exact ⟨t, by rw [List.take_length]; exact hn, rfl⟩
  obtain ⟨u, h1, rfl⟩ := key
  simpa [sm] using h1
def one11 : C11 := (1, 1, 1, 1, 1, 1, 1, 1, 1, 1, 1)
def up11 (t : C11) (k x : Int) : C11 := (if k = 0 then x else t.1, if k = 1 then x else t.2.1, if k = 2 then x else t.2.2.1, if k = 3 then x else t.2.2.2.1, if k = 4 then x else t.2.2.2.2.1, if k = 5 then x else t.2.2.2.2.2.1, if k = 6 then x else t.2.2.2.2.2.2.1, if k = 7 then x else t.2.2.2.2.2.2.2.1, if k = 8 then x else t.2.2.2.2.2.2.2.2.1, if k = 9 then x else t.2.2.2.2.2.2.2.2.2.1, if k = 10 then x else t.2.2.2.2.2.2.2.2.2.2)
def nul11 : C11 := (0, 0, 0, 0, 0, 0, 0, 0, 0, 0, 0)
theorem at_up (t : C11) (x : Int) {k j : Int} (hk : 0 ≤ k ∧ k ≤ 10) (hj : 0 ≤ j ∧ j ≤ 10) : at11 (up11 t k x) j = if j = k then x else at11 t j := by
  rcases kinds (x := j) (by omega) with h | h | h | h | h | h | h | h | h | h | h | h <;> first | omega | (subst h; simp only [at11, up11]; simp [eq_comm])
theorem at_one {j : Int} : at11 one11 j = 1 := by
  unfold at11 one11
  repeat' split
  all_goals rfl
theorem at_nul {j : Int} : at11 nul11 j = 0 := by
  unfold at11 nul11
  repeat' split
  all_goals rfl
theorem dot_up (v : C11) {k : Int} (hk : 0 ≤ k ∧ k ≤ 10) : dot (up11 nul11 k 1) v = at11 v k := by
  rcases kinds (x := k) (by omega) with h | h | h | h | h | h | h | h | h | h | h | h <;> first | omega | (subst h; simp [dot, up11, nul11, at11])
theorem dot_one (v : C11) : dot one11 v = sm id (l11 v) := by
  simp [dot, one11, l11, sm]
theorem vec_ext {v v' : C11} (h : ∀ t, dot t v = dot t v') : v = v' := by
  have e : ∀ k : Int, 0 ≤ k ∧ k ≤ 10 → at11 v k = at11 v' k := fun k hk => by rw [← dot_up v hk, ← dot_up v' hk, h]
  have e0 := e 0 (by omega)
  have e1 := e 1 (by omega)
  have e2 := e 2 (by omega)
  have e3 := e 3 (by omega)
  have e4 := e 4 (by omega)
  have e5 := e 5 (by omega)
  have e6 := e 6 (by omega)
  have e7 := e 7 (by omega)
  have e8 := e 8 (by omega)
  have e9 := e 9 (by omega)
  have e10 := e 10 (by omega)
  clear e h
  obtain ⟨v0, v1, v2, v3, v4, v5, v6, v7, v8, v9, v10⟩ := v
  obtain ⟨u0, u1, u2, u3, u4, u5, u6, u7, u8, u9, u10⟩ := v'
  simp [at11] at e0 e1 e2 e3 e4 e5 e6 e7 e8 e9 e10
  simp [*]
theorem counts_all (c : api_Chart) (hw : wfR c.Rows) (hk : chk c = 0) : ∃ v : C11, F_cost_Count c = some (v, 0) ∧ bd11 20000 v ∧ ∀ t, dot t v = sm (rowT fun p => at11 t p.Kind) c.Rows := by
  obtain ⟨v, h1, _, h3, _⟩ := count_loop nul11 c hk
  refine ⟨v, ?_, h3, fun t => ?_⟩
  · obtain ⟨v0, v1, v2, v3, v4, v5, v6, v7, v8, v9, v10⟩ := v
    unfold F_cost_Count
    simp only [chart_check_eq c hw, hk, Option.bind_some, nF (rfl : (0 : Int) = 0), Bool.false_eq_true, if_false, h1]
  · obtain ⟨v', h1', _, _, h4⟩ := count_loop t c hk
    rw [h1] at h1'
    cases h1'
    exact h4
theorem sm_mapR {f : api_Row → Int} (hf : ∀ r, f (flipR r) = f r) (l : List api_Row) : sm f (l.map flipR) = sm f l := by
  induction l with
  | nil => rfl
  | cons x l ih => simp only [List.map_cons, sm, hf, ih]
theorem rowT_flip (f : api_Stitch → Int) (l : List api_Row) : sm (rowT f) (l.map flipR) = sm (rowT f) l := sm_mapR (fun _ => rfl) l
theorem bill_flip (c : api_Chart) (r : api_Rates) : billOf (flipC c) r = billOf c r := by
  unfold billOf flipC
  simp only [rowT_flip, List.length_map]
theorem sm_cong {α : Type} {f g : α → Int} {l : List α} (h : ∀ x, x ∈ l → f x = g x) : sm f l = sm g l := by
  induction l with
  | nil => rfl
  | cons x l ih => simp only [sm, h x (by simp), ih fun y hy => h y (by simp [hy])]
theorem sm_lin {α : Type} (f g : α → Int) (z : Int) (l : List α) : sm (fun x => f x + z * g x) l = sm f l + z * sm g l := by
  induction l with
  | nil => simp [sm]
  | cons x l ih => simp only [sm, ih, Int.mul_add]; omega
def mx (p : api_Stitch) : Int := if (1 : Int) < madeS p then madeS p else 1
def mk2 (k : Int) (p : api_Stitch) : Int := if p.Kind = k then mx p else 0
def in2 (k : Int) (p : api_Stitch) : Int := if p.Kind = k then 1 else 0
theorem mk2_bd (k : Int) {p : api_Stitch} (hp : okS p) : 0 ≤ mk2 k p ∧ mk2 k p ≤ 200 := by
  have := madeS_bd hp
  unfold mk2 mx
  repeat' split
  all_goals omega
theorem cells_len (l : List api_Stitch) : sm (fun _ => (1 : Int)) l = (l.length : Int) := by
  induction l with
  | nil => rfl
  | cons x l ih => simp only [sm, ih, List.length_cons]; omega
theorem row_loop {w : api_Row} (h : allS w.Cells = 0) (k : Int) (a0 : Int) (h0 : 0 ≤ a0) (h1 : a0 ≤ 1000000000) : whileO (raddlelaw45_CostSides_l1 w k) (a0, 0) = some (a0 + rowT (mk2 k) w) := by
  obtain ⟨q1, q2, _, _⟩ := allS_ok h
  have hb := sm_bd (f := mk2 k) (b := 200) (l := w.Cells) fun p hp => mk2_bd k (q2 p hp)
  refine loop_accR w.Cells (mk2 k) a0 (fun p hp => (mk2_bd k (q2 p hp)).1) (fun i hi a ha hs => ?_) ?_
  · have hp := q2 _ (List.getElem_mem hi)
    have hkd := okS_bd hp
    have hmb := mk2_bd k hp
    have hkw : IntKind.i64.wrap (w.Cells[i].Kind) = w.Cells[i].Kind := w64_of (by omega) (by omega)
    have hmk : mk2 k w.Cells[i] = if w.Cells[i].Kind = k then mx w.Cells[i] else 0 := rfl
    unfold raddlelaw45_CostSides_l1
    simp only [dT (show (i : Int) < (w.Cells.length : Int) by omega), if_true, idxO_nat hi, Option.bind_some, hkw, w64_succ (show i < 9223372036854775807 by omega)]
    by_cases e : w.Cells[i].Kind = k
    · rw [if_pos e] at hmk
      have hw : w64 (a + mx w.Cells[i]) = a + mx w.Cells[i] := w64_of (by omega) (by omega)
      have hw : w64 (a + (if (1 : Int) < madeS w.Cells[i] then madeS w.Cells[i] else 1)) = a + mx w.Cells[i] := hw
      simp only [bT e, if_true, rgives_eq hp, Option.bind_some, hw, hmk]
    · rw [if_neg e] at hmk
      simp only [bF e, Bool.false_eq_true, if_false, Option.bind_some, hmk, Int.add_zero]
  · unfold raddlelaw45_CostSides_l1
    simp only [dF (show ¬ (w.Cells.length : Int) < (w.Cells.length : Int) by omega), Bool.false_eq_true, if_false]
    rfl
theorem rows_loop {c : api_Chart} (h : chk c = 0) (k : Int) : whileO (raddlelaw45_CostSides_l2 c k) (0, 0, 0) = some (sm (rowT fun _ => 1) c.Rows, sm (rowT (mk2 k)) c.Rows) := by
  obtain ⟨h1, _, _, h4⟩ := chk_ok h
  have hall := chkR_mem h4
  have hf : ∀ x, x ∈ c.Rows → 0 ≤ rowT (fun _ => 1) x ∧ rowT (fun _ => 1) x ≤ 1 * 200 := fun x hx => rowT_bd (by omega) (hall x hx) (fun _ _ => by omega)
  have hg : ∀ x, x ∈ c.Rows → 0 ≤ rowT (mk2 k) x ∧ rowT (mk2 k) x ≤ 200 * 200 := fun x hx => rowT_bd (by omega) (hall x hx) (fun p hp => mk2_bd k hp)
  have bf := sm_bd (f := rowT fun _ => 1) (b := 1 * 200) (l := c.Rows) hf
  have bg := sm_bd (f := rowT (mk2 k)) (b := 200 * 200) (l := c.Rows) hg
  refine loop_acc2R c.Rows (rowT fun _ => 1) (rowT (mk2 k)) 0 0 (fun x hx => (hf x hx).1) (fun x hx => (hg x hx).1) (fun i hi a b ha hs hb ht => ?_) ?_
  · have hm := List.getElem_mem hi
    have h5 := hf _ hm
    have h6 := hg _ hm
    have hr := row_loop (hall _ hm) k b (by omega) (by omega)
    have hlen : rowT (fun _ => 1) c.Rows[i] = (c.Rows[i].Cells.length : Int) := cells_len _
    rw [hlen] at h5 hs ⊢
    unfold raddlelaw45_CostSides_l2
    simp only [dT (show (i : Int) < (c.Rows.length : Int) by omega), if_true, idxO_nat hi, Option.bind_some, hr, w64_of (show (-9223372036854775808 : Int) ≤ a + (c.Rows[i].Cells.length : Int) by omega) (by omega), w64_succ (show i < 9223372036854775807 by omega)]
  · unfold raddlelaw45_CostSides_l2
    simp only [dF (show ¬ (c.Rows.length : Int) < (c.Rows.length : Int) by omega), Bool.false_eq_true, if_false, Int.zero_add]
theorem eleven_loop (v : C11) (hv : bd11 20000 v) : whileO (raddlelaw45_CostSides_l3 (v, 0)) (0, 0) = some (sm id (l11 v)) := by
  have hb : ∀ x, x ∈ l11 v → 0 ≤ id x ∧ id x ≤ 20000 := by
    obtain ⟨h0, h1, h2, h3, h4, h5, h6, h7, h8, h9, h10⟩ := hv
    intro x hx
    simp only [l11, List.mem_cons, List.not_mem_nil, or_false] at hx
    rcases hx with rfl | rfl | rfl | rfl | rfl | rfl | rfl | rfl | rfl | rfl | rfl <;> assumption
  have bs := sm_bd (b := 20000) hb
  have hl : (l11 v).length = 11 := rfl
  refine loop_accR (l11 v) id 0 (fun x hx => (hb x hx).1) (fun i hi a ha hs => ?_) ?_
  · have hxb := hb _ (List.getElem_mem hi)
    have hx : idxO (l11 v) (i : Int) = some (l11 v)[i] := idxO_nat hi
    have hx : idxO ([v.1, v.2.1, v.2.2.1, v.2.2.2.1, v.2.2.2.2.1, v.2.2.2.2.2.1, v.2.2.2.2.2.2.1, v.2.2.2.2.2.2.2.1, v.2.2.2.2.2.2.2.2.1, v.2.2.2.2.2.2.2.2.2.1, v.2.2.2.2.2.2.2.2.2.2] : List Int) (i : Int) = some (l11 v)[i] := hx
    simp only [id] at hs hxb
    unfold raddlelaw45_CostSides_l3
    simp only [dT (show (i : Int) < 11 by omega), if_true, hx, Option.bind_some, w64_of (show (-9223372036854775808 : Int) ≤ a + (l11 v)[i] by omega) (by omega), w64_succ (show i < 9223372036854775807 by omega), id]
  · unfold raddlelaw45_CostSides_l3
    simp only [hl, dF (show ¬ ((11 : Nat) : Int) < 11 by omega), Bool.false_eq_true, if_false, Int.zero_add]
theorem need_any (c : api_Chart) (r : api_Rates) (hw : wfR c.Rows) (hc : chk c = 0) : F_cost_Need c r = some (if okR r then (billOf c r, 0) else (⟨0, 0⟩, 8)) := by
  rw [need_eq c r hw]
  unfold needOf
  rw [if_pos hc]
theorem bill_up {c : api_Chart} (hc : chk c = 0) (r : api_Rates) {k z : Int} (hk : 0 ≤ k ∧ k ≤ 10) :
    (billOf c ⟨up11 r.Length k (at11 r.Length k + z), up11 r.Time k (at11 r.Time k + z), r.Turn⟩).Length = (billOf c r).Length + z * sm (rowT (mk2 k)) c.Rows ∧
    (billOf c ⟨up11 r.Length k (at11 r.Length k + z), up11 r.Time k (at11 r.Time k + z), r.Turn⟩).Time = (billOf c r).Time + z * sm (rowT (in2 k)) c.Rows := by
  obtain ⟨_, _, _, h4⟩ := chk_ok hc
  have hall := chkR_mem h4
  have key : ∀ f g h : api_Stitch → Int, (∀ p, okS p → f p = g p + z * h p) → sm (rowT f) c.Rows = sm (rowT g) c.Rows + z * sm (rowT h) c.Rows := by
    intro f g h hf
    rw [← sm_lin]
    refine sm_cong fun x hx => ?_
    show sm f x.Cells = sm g x.Cells + z * sm h x.Cells
    rw [← sm_lin]
    exact sm_cong fun p hp => hf p ((allS_ok (hall x hx)).2.1 p hp)
  constructor
  · refine key _ _ _ fun p hp => ?_
    have hb := okS_bd hp
    unfold lenS
    rw [at_up r.Length _ hk ⟨by omega, by omega⟩]
    show _ = at11 r.Length p.Kind * mx p + z * mk2 k p
    show (if p.Kind = k then at11 r.Length k + z else at11 r.Length p.Kind) * mx p = _
    unfold mk2
    by_cases e : p.Kind = k
    · rw [if_pos e, if_pos e, e, Int.add_mul]
    · rw [if_neg e, if_neg e]; simp
  · have := key (timS ⟨up11 r.Length k (at11 r.Length k + z), up11 r.Time k (at11 r.Time k + z), r.Turn⟩) (timS r) (in2 k) fun p hp => by
      have hb := okS_bd hp
      unfold timS
      rw [at_up r.Time _ hk ⟨by omega, by omega⟩]
      unfold in2
      by_cases e : p.Kind = k
      · rw [if_pos e, if_pos e, e]; simp
      · rw [if_neg e, if_neg e]; simp
    show r.Turn * (c.Rows.length : Int) + _ = r.Turn * (c.Rows.length : Int) + _ + _
    rw [this]
    omega
theorem law_CostSides' (ha : F_raddlelaw45_alive = some true) (c : api_Chart) (r : api_Rates) (k z : Int) (wc : wf_api_Chart c) : F_raddlelaw45_CostSides c r k z = some true := by
  obtain ⟨b1, g1⟩ := great_some c wc.2.1
  unfold F_raddlelaw45_CostSides
  rw [ha, g1]
  cases b1 with
  | true => rfl
  | false =>
    simp only [Option.bind_some, Bool.false_eq_true, if_false, rchart_check_eq, rrates_eq]
    by_cases hc : chk c = 0
    case neg => simp only [nT hc, if_true, Option.bind_some]
    simp only [hc, bne_self_eq_false, Bool.false_eq_true, if_false]
    by_cases hr : okR r
    case neg => simp only [if_neg hr, nT (show ¬ (8 : Int) = 0 by omega), if_true, Option.bind_some]
    simp only [if_pos hr, bne_self_eq_false, Bool.false_eq_true, if_false]
    by_cases k0 : k < 1
    · simp only [dT k0, if_true, Option.bind_some]
    by_cases k1 : 10 < k
    · simp only [dF k0, dT k1, Bool.false_eq_true, if_false, if_true, Option.bind_some]
    by_cases z0 : z < 0
    · simp only [dF k0, dF k1, dT z0, Bool.false_eq_true, if_false, if_true, Option.bind_some]
    by_cases z1 : 1000 < z
    · simp only [dF k0, dF k1, dF z0, dT z1, Bool.false_eq_true, if_false, if_true, Option.bind_some]
    have hk : 0 ≤ k ∧ k ≤ 10 := by omega
    have hwc := wfR_of wc
    have hcf : chk (flipC c) = 0 := (chk_flip c).trans hc
    have hwf : wfR (flipC c).Rows := wfR_flip hwc
    obtain ⟨v, v1, v2, v3⟩ := counts_all c hwc hc
    obtain ⟨v', u1, u2, u3⟩ := counts_all (flipC c) hwf hcf
    have hv : v' = v := vec_ext fun t => by rw [u3, v3]; exact rowT_flip _ _
    subst hv
    have n1 := need_any c r hwc hc
    have n2 := need_any (flipC c) r hwf hcf
    rw [if_pos hr, bill_flip] at n2
    rw [if_pos hr] at n1
    have hel := eleven_loop v' v2
    have hsum : sm id (l11 v') = sm (rowT fun _ => 1) c.Rows := by
      rw [← dot_one, v3]
      exact sm_cong fun x _ => sm_cong fun p _ => at_one
    have hin : at11 v' k = sm (rowT (in2 k)) c.Rows := by
      rw [← dot_up v' hk, v3]
      obtain ⟨_, _, _, h4⟩ := chk_ok hc
      refine sm_cong fun x hx => sm_cong fun p hp => ?_
      have hb := okS_bd ((allS_ok (chkR_mem h4 x hx)).2.1 p hp)
      rw [at_up nul11 1 hk ⟨by omega, by omega⟩, at_nul]
      rfl
    have i1 : idxO ([r.Length.1, r.Length.2.1, r.Length.2.2.1, r.Length.2.2.2.1, r.Length.2.2.2.2.1, r.Length.2.2.2.2.2.1, r.Length.2.2.2.2.2.2.1, r.Length.2.2.2.2.2.2.2.1, r.Length.2.2.2.2.2.2.2.2.1, r.Length.2.2.2.2.2.2.2.2.2.1, r.Length.2.2.2.2.2.2.2.2.2.2] : List Int) k = some (at11 r.Length k) := idx11 r.Length hk
    have i2 : idxO ([r.Time.1, r.Time.2.1, r.Time.2.2.1, r.Time.2.2.2.1, r.Time.2.2.2.2.1, r.Time.2.2.2.2.2.1, r.Time.2.2.2.2.2.2.1, r.Time.2.2.2.2.2.2.2.1, r.Time.2.2.2.2.2.2.2.2.1, r.Time.2.2.2.2.2.2.2.2.2.1, r.Time.2.2.2.2.2.2.2.2.2.2] : List Int) k = some (at11 r.Time k) := idx11 r.Time hk
    have i3 : idxO ([v'.1, v'.2.1, v'.2.2.1, v'.2.2.2.1, v'.2.2.2.2.1, v'.2.2.2.2.2.1, v'.2.2.2.2.2.2.1, v'.2.2.2.2.2.2.2.1, v'.2.2.2.2.2.2.2.2.1, v'.2.2.2.2.2.2.2.2.2.1, v'.2.2.2.2.2.2.2.2.2.2] : List Int) k = some (at11 v' k) := idx11 v' hk
    have b1 := at11_bd hr.1 k
    have b2 := at11_bd hr.2.1 k
    have x1 : w64 (at11 r.Length k + z) = at11 r.Length k + z := w64_of (by omega) (by omega)
    have x2 : w64 (at11 r.Time k + z) = at11 r.Time k + z := w64_of (by omega) (by omega)
    have fl := flip_eq c hwc hc
    have rl := rows_loop hc k
    simp only [dF k0, dF k1, dF z0, dF z1, Bool.false_eq_true, if_false, Bool.not_true, Option.bind_some, fl, v1, u1, n1, n2, bne_self_eq_false, beq_self_eq_true, Bool.and_self, rl, hel, hsum, i1, i2, x1, x2, if_true]
    have hR : ∀ R : api_Rates, R = ⟨up11 r.Length k (at11 r.Length k + z), up11 r.Time k (at11 r.Time k + z), r.Turn⟩ → (Option.bind (F_cost_Need c R) fun r171 =>
        if (r171.2 != 0) = true then
          Option.bind (α := Bool) (if (r171.2 == 8) = true then some ((if okR R then (0 : Int) else 8) != 0) else some false) fun o178 => some o178
        else
          Option.bind (α := Bool) (
              if ((w64 (r171.1.Length - (billOf c r).Length)) == (w64 (sm (rowT (mk2 k)) c.Rows * z))) = true then
                Option.bind (idxO ([v'.1, v'.2.1, v'.2.2.1, v'.2.2.2.1, v'.2.2.2.2.1, v'.2.2.2.2.2.1, v'.2.2.2.2.2.2.1, v'.2.2.2.2.2.2.2.1, v'.2.2.2.2.2.2.2.2.1, v'.2.2.2.2.2.2.2.2.2.1, v'.2.2.2.2.2.2.2.2.2.2] : List Int) k) fun x190 =>
                some ((w64 (r171.1.Time - (billOf c r).Time)) == (w64 (x190 * z)))
              else some false) fun o185 => some o185) = some true := by
      rintro R rfl
      rw [need_any c _ hwc hc]
      obtain ⟨q1, q2⟩ := bill_up hc r (k := k) (z := z) hk
      by_cases hr' : okR ⟨up11 r.Length k (at11 r.Length k + z), up11 r.Time k (at11 r.Time k + z), r.Turn⟩
      case neg =>
        simp only [if_neg hr', Option.bind_some, nT (show ¬ (8 : Int) = 0 by omega), if_true, beq_self_eq_true]
      simp only [if_pos hr', Option.bind_some, bne_self_eq_false, Bool.false_eq_true, if_false, if_true, q1, q2, i3, hin]
      rw [show (billOf c r).Length + z * sm (rowT (mk2 k)) c.Rows - (billOf c r).Length = sm (rowT (mk2 k)) c.Rows * z by rw [Int.mul_comm z]; omega, show (billOf c r).Time + z * sm (rowT (in2 k)) c.Rows - (billOf c r).Time = sm (rowT (in2 k)) c.Rows * z by rw [Int.mul_comm z]; omega]
      simp only [beq_self_eq_true, if_true, Option.bind_some]
    exact hR _ rfl

end Go.Proofs.Ytdbgkakmhlmpbaa
namespace Go.Proofs.Ytdbgkakmhlmpbaa
open Go.RowKit
set_option linter.unusedVariables false

theorem law_CostSides (c : api_Chart) (r : api_Rates) (k z : Int) (wc : wf_api_Chart c) (_ : wf_api_Rates r) (_ : InK .i64 k) (_ : InK .i64 z) : F_raddlelaw45_CostSides c r k z = some true := law_CostSides' k_raddlelaw45_alive c r k z wc

end Go.Proofs.Ytdbgkakmhlmpbaa
namespace Go.Proofs.Ytdbgkakmhlmpbaa
open Go.RowKit
set_option linter.unusedVariables false

namespace frameCostSides
open Go.ChangeShapes Go.WideShapes Go.ChangeAt Go.Joins
theorem own : ownKnob Try.prog.godebug = none := by kernel_rfl
theorem laidOut : laidOutB Try.prog = true := by kernel_rfl
set_option maxRecDepth 100000 in
theorem lifted (os : Os) (started : os.Started) (H : Type) (enc : TypeId × Value → H) :
    ReturnsInHanded {} Try.checked os 7 .any (Rows.costSidesSpec.pre6 enc Try.prog Try.f7 Rows.costSidesRow.domain false) (Rows.costSidesSpec.post enc Try.prog Try.f7 false true false false) := by
  refine returnsInHanded_of_change (C := Try.checked) own started (by kernel_rfl) Try.func7
    (ChangeSpec.witness6 (enc := enc) (C := Try.checked) false ⟨#[], #[.agg #[iv 0, .slice none 0 0], gv_api_Rates (api_Rates.mk (0, 0, 0, 0, 0, 0, 0, 0, 0, 0, 0) (0, 0, 0, 0, 0, 0, 0, 0, 0, 0, 0) 0), .int .i64 0, .int .i64 0], []⟩ 8 (by kernel_rfl) (by kernel_rfl) (by kernel_rfl) (by kernel_rfl)) ?_
  intro W base args ds gs before hval0 hW hcnd _
  have hval : ∀ (j : Nat) t v, Try.f7.params[j]? = some t → args[j]? = some v → Value.okWide Try.prog W .any base t v := hval0
  have hW' := hW
  obtain ⟨p, q, hA0, hV, rfl, hfz, hnd⟩ := hW
  have hA : DataW.TrodAll enc Try.prog W 0 (fun _ => true) true Try.f7.params.toList args.toList ds p := hA0
  rw [Try.params7] at hA hval
  obtain ⟨v0, vs0, d0, ds0, p0, q0, hargs, rfl, rfl, h0, r0⟩ := trodAll_cons hA
  obtain ⟨v1, vs1, d1, ds1, p1, q1, rfl, rfl, rfl, h1, r1⟩ := trodAll_cons r0
  obtain ⟨v2, vs2, d2, ds2, p2, q2, rfl, rfl, rfl, h2, r2⟩ := trodAll_cons r1
  obtain ⟨v3, vs3, d3, ds3, p3, q3, rfl, rfl, rfl, h3, r3⟩ := trodAll_cons r2
  obtain ⟨rfl, rfl, rfl⟩ := trodAll_nil r3
  obtain rfl : args = #[v0, v1, v2, v3] := by cases args; simp_all
  obtain ⟨rfl, rfl⟩ := trodVars_none hV
  have k0 := h0
  have lt0 : ∀ x ∈ p0, x.block < W.heap.size := by obtain ⟨m, hm⟩ := k0; exact DataW.trod_lt m _ _ _ hm
  have k1 := h1
  have lt1 : ∀ x ∈ p1, x.block < W.heap.size := by obtain ⟨m, hm⟩ := k1; exact DataW.trod_lt m _ _ _ hm
  have k2 := h2
  have lt2 : ∀ x ∈ p2, x.block < W.heap.size := by obtain ⟨m, hm⟩ := k2; exact DataW.trod_lt m _ _ _ hm
  have k3 := h3
  have lt3 : ∀ x ∈ p3, x.block < W.heap.size := by obtain ⟨m, hm⟩ := k3; exact DataW.trod_lt m _ _ _ hm
  obtain ⟨x0, rep0, wf0⟩ := top_agg Try.underlying41 aggr_api_Chart op_api_Chart (hval 0 _ v0 rfl rfl) h0
  obtain ⟨x1, rep1, wf1⟩ := top_agg Try.underlying44 aggr_api_Rates op_api_Rates (hval 1 _ v1 rfl rfl) h1
  obtain ⟨x2, rfl, rfl, rfl, wf2⟩ := open_int Try.underlying3 (hval 2 _ v2 rfl rfl) h2
  obtain ⟨x3, rfl, rfl, rfl, wf3⟩ := open_int Try.underlying3 (hval 3 _ v3 rfl rfl) h3
  clear hA0 hval0
  refine (c_raddlelaw45_CostSides (fun _ => False) W x0 v0 x1 v1 x2 x3 true (law_CostSides x0 x1 x2 x3 wf0 wf1 wf2 wf3) (St0.start (by intro d hd; simp only [List.mem_cons, List.not_mem_nil, or_false] at hd; rcases hd with rfl | rfl; exact rep0; exact rep1))).mono fun e W' hr => ?_
  obtain ⟨_, he, hS⟩ := hr
  have bel := hS.chg.below
  subst he
  exact ⟨_, rfl, _, _, _, [], _, [], hW', trodAll_mk1 (shut_bool Try.underlying4 _), (trodAll_cons_mk (Below.trod laidOut (by kernel_rfl) (of_decide_eq_true (by kernel_rfl)) k0 bel lt0) (trodAll_cons_mk (Below.trod laidOut (by kernel_rfl) (of_decide_eq_true (by kernel_rfl)) k1 bel lt1) (trodAll_cons_mk (Below.trod laidOut (by kernel_rfl) (of_decide_eq_true (by kernel_rfl)) k2 bel lt2) (trodAll_cons_mk (Below.trod laidOut (by kernel_rfl) (of_decide_eq_true (by kernel_rfl)) k3 bel lt3) trodAll_mk0)))), rfl, bel.frame _, fun h => by cases h⟩
theorem over : Rows.costSidesRow.holds Try.pinned (OpenSpec.ofChange Rows.costSidesSpec) :=
  OpenClaim.holds_of_wide 7 Try.f7 rfl rfl rfl rfl rfl rfl rfl ⟨rfl, rfl, rfl, rfl, rfl⟩ rfl rfl rfl rfl rfl (by kernel_rfl) Try.func7 (by kernel_rfl)
    (of_decide_eq_true (by kernel_rfl)) (by unfold Func.isWrapper; first | (rw [if_pos (by decide +kernel)]; kernel_rfl) | (rw [if_neg (by decide +kernel)]; exact ⟨rfl, rfl⟩))
    (fun os started H enc _ => lifted os started H enc)
end frameCostSides
theorem costSides_holds : Rows.CostSidesSaid := frameCostSides.over

end Go.Proofs.Ytdbgkakmhlmpbaa
