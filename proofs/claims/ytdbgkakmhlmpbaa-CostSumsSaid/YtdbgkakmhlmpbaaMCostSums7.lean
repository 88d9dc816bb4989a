/- Several texts in one: PlN G14 G15 G19 G20 G21 G4 LCN G36 G9 LCT LCTv FrCostSums -/
import Derived.WalkKit
import Derived.Maps.AppendAt
import Derived.Deep.AppendLies
import Derived.KernelRfl
import Derived.Laws.OwnMore
import Derived.Great.BuildSlice
import Derived.Orders
import Derived.Laws.StructEq
import Derived.ChangeKeysEq
import Derived.Defers
import Derived.Laws.BytesString
import Derived.RangeFuncNested
import Derived.RangeFuncBound
import Derived.RangeFuncCalls
import Derived.RangeFuncLeaves
import Derived.OrdersIn
import Derived.LoopNIn
import Derived.Test.YtdbgkakmhlmpbaaProg
import Derived.ProofKit
import Derived.OpenShut
import Derived.ChangeOld
import Derived.Deep.Slices
import Derived.Lib.SmallJoins
import Derived.JoinedOf
import Derived.JoinedAt
import Derived.Below
import Derived.Test.YtdbgkakmhlmpbaaRows
import Derived.Test.YtdbgkakmhlmpbaaMCostSums6
namespace Go.Proofs.Ytdbgkakmhlmpbaa
open Go.RowKit
set_option linter.unusedVariables false

abbrev C11 := Int × Int × Int × Int × Int × Int × Int × Int × Int × Int × Int
def dot (t v : C11) : Int := t.1 * v.1 + (t.2.1 * v.2.1 + (t.2.2.1 * v.2.2.1 + (t.2.2.2.1 * v.2.2.2.1 + (t.2.2.2.2.1 * v.2.2.2.2.1 + (t.2.2.2.2.2.1 * v.2.2.2.2.2.1 + (t.2.2.2.2.2.2.1 * v.2.2.2.2.2.2.1 + (t.2.2.2.2.2.2.2.1 * v.2.2.2.2.2.2.2.1 + (t.2.2.2.2.2.2.2.2.1 * v.2.2.2.2.2.2.2.2.1 + (t.2.2.2.2.2.2.2.2.2.1 * v.2.2.2.2.2.2.2.2.2.1 + t.2.2.2.2.2.2.2.2.2.2 * v.2.2.2.2.2.2.2.2.2.2)))))))))
def l11 (t : C11) : List Int := [t.1, t.2.1, t.2.2.1, t.2.2.2.1, t.2.2.2.2.1, t.2.2.2.2.2.1, t.2.2.2.2.2.2.1, t.2.2.2.2.2.2.2.1, t.2.2.2.2.2.2.2.2.1, t.2.2.2.2.2.2.2.2.2.1, t.2.2.2.2.2.2.2.2.2.2]
def bd11 (b : Int) (v : C11) : Prop := (0 ≤ v.1 ∧ v.1 ≤ b) ∧ (0 ≤ v.2.1 ∧ v.2.1 ≤ b) ∧ (0 ≤ v.2.2.1 ∧ v.2.2.1 ≤ b) ∧ (0 ≤ v.2.2.2.1 ∧ v.2.2.2.1 ≤ b) ∧ (0 ≤ v.2.2.2.2.1 ∧ v.2.2.2.2.1 ≤ b) ∧ (0 ≤ v.2.2.2.2.2.1 ∧ v.2.2.2.2.2.1 ≤ b) ∧ (0 ≤ v.2.2.2.2.2.2.1 ∧ v.2.2.2.2.2.2.1 ≤ b) ∧ (0 ≤ v.2.2.2.2.2.2.2.1 ∧ v.2.2.2.2.2.2.2.1 ≤ b) ∧ (0 ≤ v.2.2.2.2.2.2.2.2.1 ∧ v.2.2.2.2.2.2.2.2.1 ≤ b) ∧ (0 ≤ v.2.2.2.2.2.2.2.2.2.1 ∧ v.2.2.2.2.2.2.2.2.2.1 ≤ b) ∧ (0 ≤ v.2.2.2.2.2.2.2.2.2.2 ∧ v.2.2.2.2.2.2.2.2.2.2 ≤ b)
/-- what a tuple says of a kind -/
def at11 (t : C11) (k : Int) : Int := if k = 0 then t.1 else if k = 1 then t.2.1 else if k = 2 then t.2.2.1 else if k = 3 then t.2.2.2.1 else if k = 4 then t.2.2.2.2.1 else if k = 5 then t.2.2.2.2.2.1 else if k = 6 then t.2.2.2.2.2.2.1 else if k = 7 then t.2.2.2.2.2.2.2.1 else if k = 8 then t.2.2.2.2.2.2.2.2.1 else if k = 9 then t.2.2.2.2.2.2.2.2.2.1 else t.2.2.2.2.2.2.2.2.2.2
theorem idx11 (t : C11) {k : Int} (h : 0 ≤ k ∧ k ≤ 10) : idxO (l11 t) k = some (at11 t k) := by
  rcases kinds (x := k) (by omega) with h | h | h | h | h | h | h | h | h | h | h | h <;> first | omega | (subst h; rfl)
theorem at11_bd {b : Int} {t : C11} (h : bd11 b t) (k : Int) : 0 ≤ at11 t k ∧ at11 t k ≤ b := by
  obtain ⟨h0, h1, h2, h3, h4, h5, h6, h7, h8, h9, h10⟩ := h
  unfold at11
  repeat' split
  all_goals assumption
/-- two loops side by side -/
theorem loop_two {S S' σ τ τ' : Type} {B : S → Option (S ⊕ τ)} {B' : S' → Option (S' ⊕ τ')} (n : Nat) (st : Nat → σ → S) (st' : Nat → σ → S') (I : Nat → σ → Prop) (Pt : τ → τ' → Prop) {s0 : σ} (h0 : I 0 s0)
    (step : ∀ k s, k < n → I k s → (∃ s', B (st k s) = some (.inl (st (k + 1) s')) ∧ B' (st' k s) = some (.inl (st' (k + 1) s')) ∧ I (k + 1) s') ∨ (∃ t t', B (st k s) = some (.inr t) ∧ B' (st' k s) = some (.inr t') ∧ Pt t t'))
    (last : ∀ s, I n s → ∃ t t', B (st n s) = some (.inr t) ∧ B' (st' n s) = some (.inr t') ∧ Pt t t') : ∃ t t', whileO B (st 0 s0) = some t ∧ whileO B' (st' 0 s0) = some t' ∧ Pt t t' := by
  have key : ∀ j k s, j + k = n → I k s → ∃ t t', whileO B (st k s) = some t ∧ whileO B' (st' k s) = some t' ∧ Pt t t' := by
    intro j
    induction j with
    | zero =>
      intro k s hk hI
      obtain rfl : k = n := by omega
      obtain ⟨t, t', h1, h2, h3⟩ := last s hI
      exact ⟨t, t', whileO_done h1, whileO_done h2, h3⟩
    | succ j ih =>
      intro k s hk hI
      rcases step k s (by omega) hI with ⟨s', h1, h2, h3⟩ | ⟨t, t', h1, h2, h3⟩
      · rw [whileO_step h1, whileO_step h2]; exact ih _ _ (by omega) h3
      · exact ⟨t, t', whileO_done h1, whileO_done h2, h3⟩
  exact key n 0 s0 (by omega) h0
/-- one cell more -/
theorem cnt_step (t v : C11) (b : Int) (hb : bd11 b v) (hb1 : b ≤ 1000000000) {p : api_Stitch} (hp : okS p) :
    ∃ v', bd11 (b + 1) v' ∧ dot t v' = dot t v + at11 t p.Kind ∧ ∀ i : Nat,
      (some (Sum.inl (((i + 1 : Nat) : Int), (if p.Kind = 0 then w64 (at11 v p.Kind + 1) else v.1), (if p.Kind = 1 then w64 (at11 v p.Kind + 1) else v.2.1), (if p.Kind = 2 then w64 (at11 v p.Kind + 1) else v.2.2.1), (if p.Kind = 3 then w64 (at11 v p.Kind + 1) else v.2.2.2.1), (if p.Kind = 4 then w64 (at11 v p.Kind + 1) else v.2.2.2.2.1), (if p.Kind = 5 then w64 (at11 v p.Kind + 1) else v.2.2.2.2.2.1), (if p.Kind = 6 then w64 (at11 v p.Kind + 1) else v.2.2.2.2.2.2.1), (if p.Kind = 7 then w64 (at11 v p.Kind + 1) else v.2.2.2.2.2.2.2.1), (if p.Kind = 8 then w64 (at11 v p.Kind + 1) else v.2.2.2.2.2.2.2.2.1), (if p.Kind = 9 then w64 (at11 v p.Kind + 1) else v.2.2.2.2.2.2.2.2.2.1), (if p.Kind = 10 then w64 (at11 v p.Kind + 1) else v.2.2.2.2.2.2.2.2.2.2))) : Option ((Int × C11) ⊕ C11)) = some (.inl (((i + 1 : Nat) : Int), v')) := by
  have hk := okS_bd hp
  have ha := at11_bd hb p.Kind
  have hw : w64 (at11 v p.Kind + 1) = at11 v p.Kind + 1 := w64_of (by omega) (by omega)
  rw [hw]
  refine ⟨_, ?_, ?_, fun i => rfl⟩
  · obtain ⟨h0, h1, h2, h3, h4, h5, h6, h7, h8, h9, h10⟩ := hb
    refine ⟨?_, ?_, ?_, ?_, ?_, ?_, ?_, ?_, ?_, ?_, ?_⟩ <;> (dsimp only; split <;> omega)
  · rcases kinds (x := p.Kind) (by omega) with h | h | h | h | h | h | h | h | h | h | h | h <;> first | omega | (simp only [h, at11, dot]; simp [Int.mul_add]; omega)
def rowT (f : api_Stitch → Int) (r : api_Row) : Int := sm f r.Cells
/-- the counts of a chart -/
theorem count_loop (t : C11) (c : api_Chart) (hk : chk c = 0) : ∃ v : C11, whileO (cost_Count_l2 c) (0, 0, 0, 0, 0, 0, 0, 0, 0, 0, 0, 0) = some v ∧ whileO (raddleref45_Count_l2 c) (0, 0, 0, 0, 0, 0, 0, 0, 0, 0, 0, 0) = some v ∧ bd11 20000 v ∧ dot t v = sm (rowT fun p => at11 t p.Kind) c.Rows := by
  obtain ⟨hl, _, _, hr⟩ := chk_ok hk
  have hinner : ∀ (i : Nat) (hi : i < c.Rows.length) (v : C11), bd11 (200 * i) v → ∃ v' : C11, whileO (cost_Count_l1 c.Rows[i]) (0, v) = some v' ∧ whileO (raddleref45_Count_l1 c (i : Int)) (0, v) = some v' ∧ bd11 (200 * (i + 1)) v' ∧ dot t v' = dot t v + rowT (fun p => at11 t p.Kind) c.Rows[i] := by
    intro i hi v hv
    have hal := allS_ok (chkR_mem hr _ (List.getElem_mem hi))
    have hn := hal.1
    have key : ∃ t1 t2, whileO (cost_Count_l1 c.Rows[i]) (0, v) = some t1 ∧ whileO (raddleref45_Count_l1 c (i : Int)) (0, v) = some t2 ∧ (t1 = t2 ∧ bd11 (200 * (i + 1)) t1 ∧ dot t t1 = dot t v + rowT (fun p => at11 t p.Kind) c.Rows[i]) := by
      refine loop_two (σ := C11) c.Rows[i].Cells.length (fun k v => ((k : Int), v)) (fun k v => ((k : Int), v)) (fun k s => bd11 (200 * i + k) s ∧ dot t s = dot t v + sm (fun p => at11 t p.Kind) (c.Rows[i].Cells.take k)) _ (s0 := v) ⟨by simpa using hv, by simp [sm]⟩ ?_ ?_
      · rintro k s hk2 ⟨hs, hd⟩
        have hp := hal.2.1 _ (List.getElem_mem hk2)
        have hkd := okS_bd hp
        obtain ⟨v', h1, h2, h3⟩ := cnt_step t s _ hs (by omega) hp
        have hix := idx11 s (k := c.Rows[i].Cells[k].Kind) (by omega)
        obtain ⟨s0, s1, s2, s3, s4, s5, s6, s7, s8, s9, s10⟩ := s
        simp only [l11] at hix
        refine .inl ⟨v', ?_, ?_, ?_, ?_⟩
        · unfold cost_Count_l1
          simp only [dT (show (k : Int) < (c.Rows[i].Cells.length : Int) by omega), if_true, idxO_nat hk2, Option.bind_some, hix, w64_succ (show k < 9223372036854775807 by omega)]
          exact h3 k
        · unfold raddleref45_Count_l1
          simp only [idxO_nat hi, Option.bind_some, dT (show (k : Int) < (c.Rows[i].Cells.length : Int) by omega), if_true, idxO_nat hk2, hix, w64_succ (show k < 9223372036854775807 by omega)]
          exact h3 k
        · have e : (200 : Int) * i + ((k + 1 : Nat) : Int) = 200 * i + k + 1 := by omega
          rw [e]; exact h1
        · rw [h2, hd, sm_take _ _ hk2]; omega
      · rintro s ⟨hs, hd⟩
        obtain ⟨s0, s1, s2, s3, s4, s5, s6, s7, s8, s9, s10⟩ := s
        refine ⟨(s0, s1, s2, s3, s4, s5, s6, s7, s8, s9, s10), (s0, s1, s2, s3, s4, s5, s6, s7, s8, s9, s10), ?_, ?_, rfl, ?_, ?_⟩
        · unfold cost_Count_l1
          simp only [dF (show ¬ (c.Rows[i].Cells.length : Int) < (c.Rows[i].Cells.length : Int) by omega), Bool.false_eq_true, if_false]
        · unfold raddleref45_Count_l1
          simp only [idxO_nat hi, Option.bind_some, dF (show ¬ (c.Rows[i].Cells.length : Int) < (c.Rows[i].Cells.length : Int) by omega), Bool.false_eq_true, if_false]
        · simp only [bd11] at hs ⊢
          omega
        · rw [hd, List.take_length]; rfl
    obtain ⟨t1, t2, h1, h2, rfl, h3, h4⟩ := key
    exact ⟨t1, h1, h2, h3, h4⟩
  have key : ∃ t1 t2, whileO (cost_Count_l2 c) (0, 0, 0, 0, 0, 0, 0, 0, 0, 0, 0, 0) = some t1 ∧ whileO (raddleref45_Count_l2 c) (0, 0, 0, 0, 0, 0, 0, 0, 0, 0, 0, 0) = some t2 ∧ (t1 = t2 ∧ bd11 20000 t1 ∧ dot t t1 = sm (rowT fun p => at11 t p.Kind) c.Rows) := by
    refine loop_two (σ := C11) c.Rows.length (fun k v => ((k : Int), v)) (fun k v => ((k : Int), v)) (fun k s => bd11 (200 * k) s ∧ dot t s = sm (rowT fun p => at11 t p.Kind) (c.Rows.take k)) _ (s0 := (0, 0, 0, 0, 0, 0, 0, 0, 0, 0, 0)) ⟨by simp [bd11], by simp [sm, dot]⟩ ?_ ?_
    · rintro k s hk2 ⟨hs, hd⟩
      obtain ⟨v', h1, h2, h3, h4⟩ := hinner k hk2 s hs
      obtain ⟨s0, s1, s2, s3, s4, s5, s6, s7, s8, s9, s10⟩ := s
      refine .inl ⟨v', ?_, ?_, ?_, ?_⟩
      · unfold cost_Count_l2
        simp only [dT (show (k : Int) < (c.Rows.length : Int) by omega), if_true, idxO_nat hk2, Option.bind_some, h1, w64_succ (show k < 9223372036854775807 by omega)]
      · unfold raddleref45_Count_l2
        simp only [dT (show (k : Int) < (c.Rows.length : Int) by omega), if_true, Option.bind_some, h2, w64_succ (show k < 9223372036854775807 by omega)]
      · have e : (200 : Int) * ((k + 1 : Nat) : Int) = 200 * (k + 1) := by omega
        rw [e]; exact h3
      · rw [h4, hd, sm_take _ _ hk2]
    · rintro s ⟨hs, hd⟩
      obtain ⟨s0, s1, s2, s3, s4, s5, s6, s7, s8, s9, s10⟩ := s
      refine ⟨(s0, s1, s2, s3, s4, s5, s6, s7, s8, s9, s10), (s0, s1, s2, s3, s4, s5, s6, s7, s8, s9, s10), ?_, ?_, rfl, ?_, ?_⟩
      · unfold cost_Count_l2
        simp only [dF (show ¬ (c.Rows.length : Int) < (c.Rows.length : Int) by omega), Bool.false_eq_true, if_false]
      · unfold raddleref45_Count_l2
        simp only [dF (show ¬ (c.Rows.length : Int) < (c.Rows.length : Int) by omega), Bool.false_eq_true, if_false]
      · simp only [bd11] at hs ⊢
        omega
      · rw [hd, List.take_length]
  obtain ⟨t1, t2, h1, h2, rfl, h3, h4⟩ := key
  exact ⟨t1, h1, h2, h3, h4⟩
theorem sm_nn {α : Type} {f : α → Int} {l : List α} (h : ∀ x, x ∈ l → 0 ≤ f x) : 0 ≤ sm f l := by
  induction l with
  | nil => simp [sm]
  | cons x l ih =>
    have h1 := h x (by simp)
    have h2 := ih fun y hy => h y (by simp [hy])
    simp only [sm]; omega
theorem sm_take_le {α : Type} {f : α → Int} {l : List α} (h : ∀ x, x ∈ l → 0 ≤ f x) (k : Nat) : sm f (l.take k) ≤ sm f l := by
  have e : sm f l = sm f (l.take k) + sm f (l.drop k) := by rw [← sm_append, List.take_append_drop]
  have := sm_nn (l := l.drop k) fun x hx => h x (List.mem_of_mem_drop hx)
  omega
/-- a loop that sums -/
theorem loop_acc {α τ : Type} {B : Int × Int → Option ((Int × Int) ⊕ τ)} (l : List α) (f : α → Int) (a0 : Int) {t : τ} (hf : ∀ x, x ∈ l → 0 ≤ f x)
    (h : ∀ k (hk : k < l.length) (a : Int), a0 ≤ a → a + f l[k] ≤ a0 + sm f l → B ((k : Int), a) = some (.inl (((k + 1 : Nat) : Int), a + f l[k]))) (hn : B ((l.length : Int), a0 + sm f l) = some (.inr t)) : whileO B (0, a0) = some t := by
  have key : ∃ u, whileO B ((fun (k : Nat) (_ : Unit) => ((k : Int), a0 + sm f (l.take k))) 0 ()) = some u ∧ u = t := by
    refine loop_at (σ := Unit) l.length (fun k _ => ((k : Int), a0 + sm f (l.take k))) (fun _ _ => True) _ (s0 := ()) trivial ?_ ?_
    · intro k _ hk _
      refine .inl ⟨(), ?_, trivial⟩
      have h1 := sm_take_le hf (k + 1)
      have h2 := sm_nn (l := l.take k) fun x hx => hf x (List.mem_of_mem_take hx)
      rw [sm_take _ _ hk] at h1
      rw [h k hk _ (by omega) (by omega), sm_take _ _ hk, Int.add_assoc]
    · intro _ _
      exact ⟨t, by rw [List.take_length]; exact hn, rfl⟩
  obtain ⟨u, h1, rfl⟩ := key
  simpa [sm] using h1
/-- rates -/
def okR (r : api_Rates) : Prop := bd11 1000000 r.Length ∧ bd11 1000000 r.Time ∧ 0 ≤ r.Turn ∧ r.Turn ≤ 1000000 ∧ r.Length.1 = 0 ∧ r.Time.1 = 0
instance (b : Int) (v : C11) : Decidable (bd11 b v) := by unfold bd11; infer_instance
instance (r : api_Rates) : Decidable (okR r) := by unfold okR; infer_instance
theorem rate_eq (x : Int) : F_cost_rate x = some (decide (0 ≤ x ∧ x ≤ 1000000)) := by
  unfold F_cost_rate
  by_cases h : 0 ≤ x <;> simp [h]
theorem rin_eq (x : Int) : F_raddleref45_in x = some (decide (0 ≤ x ∧ x ≤ 1000000)) := by
  unfold F_raddleref45_in
  by_cases h : 0 ≤ x <;> simp [h]
theorem range11 (r : api_Rates) : (List.range 11).all (fun k => decide ((0 ≤ at11 r.Length (k : Int) ∧ at11 r.Length (k : Int) ≤ 1000000) ∧ (0 ≤ at11 r.Time (k : Int) ∧ at11 r.Time (k : Int) ≤ 1000000))) = true ↔ bd11 1000000 r.Length ∧ bd11 1000000 r.Time := by
  rw [List.all_eq_true]
  constructor
  · intro h
    have g : ∀ k : Nat, k < 11 → (0 ≤ at11 r.Length (k : Int) ∧ at11 r.Length (k : Int) ≤ 1000000) ∧ (0 ≤ at11 r.Time (k : Int) ∧ at11 r.Time (k : Int) ≤ 1000000) := fun k hk => by simpa using h k (List.mem_range.2 hk)
    have g0 := g 0 (by decide)
    have g1 := g 1 (by decide)
    have g2 := g 2 (by decide)
    have g3 := g 3 (by decide)
    have g4 := g 4 (by decide)
    have g5 := g 5 (by decide)
    have g6 := g 6 (by decide)
    have g7 := g 7 (by decide)
    have g8 := g 8 (by decide)
    have g9 := g 9 (by decide)
    have g10 := g 10 (by decide)
    exact ⟨⟨g0.1, g1.1, g2.1, g3.1, g4.1, g5.1, g6.1, g7.1, g8.1, g9.1, g10.1⟩, ⟨g0.2, g1.2, g2.2, g3.2, g4.2, g5.2, g6.2, g7.2, g8.2, g9.2, g10.2⟩⟩
  · rintro ⟨h1, h2⟩ k _
    simpa using ⟨at11_bd h1 (k : Int), at11_bd h2 (k : Int)⟩
theorem rcheck_tail (r : api_Rates) (b : Bool) (hb : b = true ↔ bd11 1000000 r.Length ∧ bd11 1000000 r.Time) : (if b = true then (if (0 ≤ r.Turn ∧ r.Turn ≤ 1000000) ∧ r.Length.1 = 0 ∧ r.Time.1 = 0 then (0 : Int) else 8) else 8) = if okR r then 0 else 8 := by
  cases b with
  | true =>
    obtain ⟨h1, h2⟩ := hb.1 rfl
    rw [if_pos rfl]
    exact ifc ⟨fun h => ⟨h1, h2, h.1.1, h.1.2, h.2.1, h.2.2⟩, fun h => ⟨⟨h.2.2.1, h.2.2.2.1⟩, h.2.2.2.2.1, h.2.2.2.2.2⟩⟩
  | false =>
    have hn : ¬ okR r := fun h => by have := hb.2 ⟨h.1, h.2.1⟩; cases this
    rw [if_neg (by simp), if_neg hn]
theorem rates_eq (r : api_Rates) : F_cost_Check r = some (if okR r then 0 else 8) := by
  have hloop : whileO (cost_Check_l1 r) 0 = some (if (List.range 11).all (fun k => decide ((0 ≤ at11 r.Length (k : Int) ∧ at11 r.Length (k : Int) ≤ 1000000) ∧ (0 ≤ at11 r.Time (k : Int) ∧ at11 r.Time (k : Int) ≤ 1000000))) = true then .inr () else .inl 8) := by
    refine loop_all 11 _ _ _ ?_ rfl
    intro k hk
    have e1 := idx11 r.Length (k := (k : Int)) (by omega)
    have e2 := idx11 r.Time (k := (k : Int)) (by omega)
    simp only [l11] at e1 e2
    unfold cost_Check_l1
    simp only [dT (show (k : Int) < 11 by omega), if_true, e1, e2, Option.bind_some, rate_eq, w64_succ (show k < 9223372036854775807 by omega)]
    by_cases c1 : 0 ≤ at11 r.Length (k : Int) ∧ at11 r.Length (k : Int) ≤ 1000000 <;> by_cases c2 : 0 ≤ at11 r.Time (k : Int) ∧ at11 r.Time (k : Int) ≤ 1000000 <;> simp [c1, c2]
  unfold F_cost_Check
  rw [hloop, ← rcheck_tail r _ (range11 r)]
  cases (List.range 11).all (fun k => decide ((0 ≤ at11 r.Length (k : Int) ∧ at11 r.Length (k : Int) ≤ 1000000) ∧ (0 ≤ at11 r.Time (k : Int) ∧ at11 r.Time (k : Int) ≤ 1000000))) with
  | true =>
    simp only [if_true, Option.bind_some, rate_eq]
    by_cases c1 : 0 ≤ r.Turn ∧ r.Turn ≤ 1000000 <;> by_cases c2 : r.Length.1 = 0 <;> by_cases c3 : r.Time.1 = 0 <;> simp [c1, c2, c3]
  | false => simp
theorem rrates_eq (r : api_Rates) : F_raddleref45_Check r = some (if okR r then 0 else 8) := by
  have hloop : whileO (raddleref45_Check_l1 r) 0 = some (if (List.range 11).all (fun k => decide ((0 ≤ at11 r.Length (k : Int) ∧ at11 r.Length (k : Int) ≤ 1000000) ∧ (0 ≤ at11 r.Time (k : Int) ∧ at11 r.Time (k : Int) ≤ 1000000))) = true then .inr () else .inl 8) := by
    refine loop_all 11 _ _ _ ?_ rfl
    intro k hk
    have e1 := idx11 r.Length (k := (k : Int)) (by omega)
    have e2 := idx11 r.Time (k := (k : Int)) (by omega)
    simp only [l11] at e1 e2
    unfold raddleref45_Check_l1
    simp only [dT (show (k : Int) < 11 by omega), if_true, e1, e2, Option.bind_some, rin_eq, w64_succ (show k < 9223372036854775807 by omega)]
    by_cases c1 : 0 ≤ at11 r.Length (k : Int) ∧ at11 r.Length (k : Int) ≤ 1000000 <;> by_cases c2 : 0 ≤ at11 r.Time (k : Int) ∧ at11 r.Time (k : Int) ≤ 1000000 <;> simp [c1, c2]
  unfold F_raddleref45_Check
  rw [hloop, ← rcheck_tail r _ (range11 r)]
  cases (List.range 11).all (fun k => decide ((0 ≤ at11 r.Length (k : Int) ∧ at11 r.Length (k : Int) ≤ 1000000) ∧ (0 ≤ at11 r.Time (k : Int) ∧ at11 r.Time (k : Int) ≤ 1000000))) with
  | true =>
    simp only [if_true, Option.bind_some, rin_eq]
    by_cases c1 : 0 ≤ r.Turn ∧ r.Turn ≤ 1000000 <;> by_cases c2 : r.Length.1 = 0 <;> by_cases c3 : r.Time.1 = 0 <;> simp [c1, c2, c3]
  | false => simp
def lenS (r : api_Rates) (p : api_Stitch) : Int := at11 r.Length p.Kind * (if (1 : Int) < madeS p then madeS p else 1)
def timS (r : api_Rates) (p : api_Stitch) : Int := at11 r.Time p.Kind
def billOf (c : api_Chart) (r : api_Rates) : api_Bill := ⟨sm (rowT (lenS r)) c.Rows, r.Turn * (c.Rows.length : Int) + sm (rowT (timS r)) c.Rows⟩
def needOf (c : api_Chart) (r : api_Rates) : api_Bill × Int := if chk c = 0 then (if okR r then (billOf c r, 0) else (⟨0, 0⟩, 8)) else (⟨0, 0⟩, chk c)
theorem lenS_bd {r : api_Rates} (h : okR r) {p : api_Stitch} (hp : okS p) : 0 ≤ lenS r p ∧ lenS r p ≤ 200000000 := by
  have h1 := at11_bd h.1 p.Kind
  have h2 := madeS_bd hp
  exact mul_bd h1.1 h1.2 (b := 200) (by split <;> omega) (by split <;> omega)
theorem timS_bd {r : api_Rates} (h : okR r) (p : api_Stitch) : 0 ≤ timS r p ∧ timS r p ≤ 1000000 := at11_bd h.2.1 p.Kind
theorem rowT_bd {f : api_Stitch → Int} {b : Int} {r : api_Row} (hb : 0 ≤ b) (hr : allS r.Cells = 0) (hf : ∀ p, okS p → 0 ≤ f p ∧ f p ≤ b) : 0 ≤ rowT f r ∧ rowT f r ≤ b * 200 := by
  have h := allS_ok hr
  have h1 := sm_bd (f := f) (b := b) (l := r.Cells) fun p hp => hf p (h.2.1 p hp)
  have h2 : b * (r.Cells.length : Int) ≤ b * 200 := Int.mul_le_mul_of_nonneg_left (by omega) hb
  exact ⟨h1.1, by unfold rowT; omega⟩
theorem rows_bd {f : api_Stitch → Int} {b : Int} {c : api_Chart} (hb : 0 ≤ b) (hc : chk c = 0) (hf : ∀ p, okS p → 0 ≤ f p ∧ f p ≤ b) : 0 ≤ sm (rowT f) c.Rows ∧ sm (rowT f) c.Rows ≤ b * 20000 := by
  have h := chk_ok hc
  have h1 := sm_bd (f := rowT f) (b := b * 200) (l := c.Rows) fun r hr => rowT_bd hb (chkR_mem h.2.2.2 r hr) hf
  have h2 : b * 200 * (c.Rows.length : Int) ≤ b * 200 * 100 := Int.mul_le_mul_of_nonneg_left (by omega) (by omega)
  exact ⟨h1.1, by omega⟩
/-- the sum of the counts' times -/
def pd (t v : C11) : Nat → Int
  | 0 => 0
  | k + 1 => pd t v k + at11 t (k : Int) * at11 v (k : Int)
theorem pd_dot (t v : C11) : pd t v 11 = dot t v := by
  simp only [pd]
  simp [at11, dot]
  omega
theorem need_times (c : api_Chart) (r : api_Rates) (v : C11) (hr : okR r) (hv : bd11 20000 v) (e : Int) (a0 : Int) (ha : 0 ≤ a0 ∧ a0 ≤ 1000000000) : whileO (cost_Need_l1 (v, e) r) (0, a0) = some (a0 + dot r.Time v) := by
  have hb : ∀ k : Nat, 0 ≤ pd r.Time v k ∧ pd r.Time v k ≤ 20000000000 * k := by
    intro k
    induction k with
    | zero => simp [pd]
    | succ k ih =>
      have h1 := at11_bd hr.2.1 (k : Int)
      have h2 := at11_bd hv (k : Int)
      have h3 := mul_bd h1.1 h1.2 h2.1 h2.2
      simp only [pd]
      omega
  have key : ∃ u, whileO (cost_Need_l1 (v, e) r) ((fun (k : Nat) (_ : Unit) => ((k : Int), a0 + pd r.Time v k)) 0 ()) = some u ∧ u = a0 + dot r.Time v := by
    refine loop_at (σ := Unit) 11 (fun k _ => ((k : Int), a0 + pd r.Time v k)) (fun _ _ => True) _ (s0 := ()) trivial ?_ ?_
    · intro k _ hk _
      refine .inl ⟨(), ?_, trivial⟩
      have e1 := idx11 r.Time (k := (k : Int)) (by omega)
      have e2 := idx11 v (k := (k : Int)) (by omega)
      simp only [l11] at e1 e2
      have h1 := at11_bd hr.2.1 (k : Int)
      have h2 := at11_bd hv (k : Int)
      have h3 := mul_bd h1.1 h1.2 h2.1 h2.2
      have h4 := hb k
      have w1 : w64 (at11 r.Time (k : Int) * at11 v (k : Int)) = at11 r.Time (k : Int) * at11 v (k : Int) := w64_of (by omega) (by omega)
      have w2 : w64 (a0 + pd r.Time v k + at11 r.Time (k : Int) * at11 v (k : Int)) = a0 + pd r.Time v (k + 1) := by
        rw [w64_of (by omega) (by omega)]; simp only [pd]; omega
      unfold cost_Need_l1
      simp only [dT (show (k : Int) < 11 by omega), if_true, e1, e2, Option.bind_some, w1, w2, w64_succ (show k < 9223372036854775807 by omega)]
    · intro _ _
      refine ⟨_, ?_, rfl⟩
      rw [← pd_dot]
      rfl
  obtain ⟨u, h1, rfl⟩ := key
  simpa [pd] using h1
theorem makes_one {p : api_Stitch} (hp : okS p) : F_stitch_Makes [p] = some (madeS p, 0) := by
  have hb := okS_bd hp
  have h0 : allS [p] = 0 := by
    have h1 := usedS_bd hp
    have h2 := madeS_bd hp
    have ho : allOk [p] := fun q hq => by simp at hq; subst hq; exact hp
    unfold allS
    rw [if_neg (by simp), if_pos ho, if_neg (by simp [sm]; omega)]
  rw [makes_eq (l := [p]) (fun q hq => by simp at hq; subst hq; unfold wfS; omega), if_pos h0]
  simp [sm]
theorem need_eq (c : api_Chart) (r : api_Rates) (hw : wfR c.Rows) : F_cost_Need c r = some (needOf c r) := by
  unfold F_cost_Need needOf F_cost_Count
  rw [chart_check_eq c hw]
  by_cases hc : chk c = 0
  case neg => simp only [Option.bind_some, nT hc, if_true, if_neg hc]
  obtain ⟨v, h1, h2, h3, h4⟩ := count_loop r.Time c hc
  obtain ⟨v0, v1, v2, v3, v4, v5, v6, v7, v8, v9, v10⟩ := v
  simp only [Option.bind_some, nF hc, Bool.false_eq_true, if_false, h1, bne_self_eq_false, rates_eq, if_pos hc]
  by_cases hr : okR r
  case neg => simp only [if_neg hr, nT (show ¬ (8 : Int) = 0 by omega), if_true]
  simp only [if_pos hr, bne_self_eq_false, Bool.false_eq_true, if_false]
  obtain ⟨hl, _, _, hcr⟩ := chk_ok hc
  have ht : 0 ≤ r.Turn * (c.Rows.length : Int) ∧ r.Turn * (c.Rows.length : Int) ≤ 1000000 * 100 := mul_bd hr.2.2.1 hr.2.2.2.1 (by omega) (by omega)
  rw [w64_of (by omega) (by omega), need_times c r _ hr h3 0 _ (by omega)]
  have hinner : ∀ (x : api_Row), x ∈ c.Rows → ∀ a, 0 ≤ a → a + rowT (lenS r) x ≤ 4000000000000 → whileO (cost_Need_l2 x r) (0, a) = some (a + rowT (lenS r) x) := by
    intro x hx a ha hb
    have hal := allS_ok (chkR_mem hcr x hx)
    refine loop_acc x.Cells (lenS r) a (fun p hp => (lenS_bd hr (hal.2.1 p hp)).1) ?_ ?_
    · intro k hk a' ha1 ha2
      have hp := hal.2.1 _ (List.getElem_mem hk)
      have hkd := okS_bd hp
      have e1 := idx11 r.Length (k := x.Cells[k].Kind) (by omega)
      simp only [l11] at e1
      have hb2 := lenS_bd hr hp
      have hb3 : sm (lenS r) x.Cells = rowT (lenS r) x := rfl
      unfold lenS at hb2
      have w1 : w64 (at11 r.Length x.Cells[k].Kind * (if (1 : Int) < madeS x.Cells[k] then madeS x.Cells[k] else 1)) = lenS r x.Cells[k] := w64_of (by omega) (by omega)
      have w2 : w64 (a' + lenS r x.Cells[k]) = a' + lenS r x.Cells[k] := w64_of (by unfold lenS; omega) (by omega)
      unfold cost_Need_l2
      simp only [dT (show (k : Int) < (x.Cells.length : Int) by omega), if_true, idxO_nat hk, Option.bind_some, makes_one hp, e1, w1, w2, w64_succ (show k < 9223372036854775807 by omega)]
    · unfold cost_Need_l2
      simp only [dF (show ¬ (x.Cells.length : Int) < (x.Cells.length : Int) by omega), Bool.false_eq_true, if_false]
      rfl
  have hrb := rows_bd (f := lenS r) (b := 200000000) (by omega) hc fun p hp => lenS_bd hr hp
  have houter : whileO (cost_Need_l3 c r) (0, 0) = some (0 + sm (rowT (lenS r)) c.Rows) := by
    refine loop_acc c.Rows (rowT (lenS r)) 0 (fun x hx => (rowT_bd (b := 200000000) (by omega) (chkR_mem hcr x hx) fun p hp => lenS_bd hr hp).1) ?_ ?_
    · intro k hk a ha1 ha2
      unfold cost_Need_l3
      simp only [dT (show (k : Int) < (c.Rows.length : Int) by omega), if_true, idxO_nat hk, Option.bind_some, hinner _ (List.getElem_mem hk) a ha1 (by omega), w64_succ (show k < 9223372036854775807 by omega)]
    · unfold cost_Need_l3
      simp only [dF (show ¬ (c.Rows.length : Int) < (c.Rows.length : Int) by omega), Bool.false_eq_true, if_false]
  simp only [Option.bind_some, houter, h4, Int.zero_add]
  rfl

end Go.Proofs.Ytdbgkakmhlmpbaa
namespace Go.Proofs.Ytdbgkakmhlmpbaa
open Go.RowKit
set_option linter.unusedVariables false

noncomputable def raddleref45_Great_l1 (p0 : api_Chart) : Int → Option (Int ⊕ (Bool ⊕ Unit)) := fun s0 => match s0 with
  | s10 =>
    if decide (s10 < (p0.Rows.length : Int)) then
      Option.bind (idxO p0.Rows s10) fun x19 =>
      if decide (60 < (x19.Cells.length : Int)) then
        some (.inr (.inl true))
      else
        some (.inl (w64 (s10 + 1)))
    else
      some (.inr (.inr ()))
noncomputable def F_raddleref45_Great (p0 : api_Chart) : Option Bool :=
  Option.bind (α := Unit ⊕ Bool) (
    Option.bind (whileO (raddleref45_Great_l1 p0) 0) fun z0 => match z0 with
      | .inl z =>
        some (.inr z)
      | .inr _ =>
        some (.inl ())) fun z0 => match z0 with
    | .inl _ =>
      Option.bind (α := Bool) (
        if decide (20 < (p0.Rows.length : Int)) then
          if decide ((p0.Rows.length : Int) ≤ 100) then
            some true
          else
            some (decide (110 < (p0.Rows.length : Int)))
        else
          some (decide (110 < (p0.Rows.length : Int)))) fun o30 =>
      some o30
    | .inr z =>
      some z
set_option maxHeartbeats 4000000 in
set_option maxRecDepth 100000 in
theorem c_raddleref45_Great (E : Nat → Prop) (w0 : World) (p0 : api_Chart) (v0 : Value) (r : Bool) (h : F_raddleref45_Great p0 = some r) (S : St0 E [] w0 w0 [] [fRep r_api_Chart (v0) p0]) :
    Calls Try.prog 14 #[v0] w0 (Ret (X := Unit) E [] w0 (fun _ => .bool r) (fun _ => []) (fun _ => [])) := by
  unfold F_raddleref45_Great at h
  obtain ⟨u1, rfl, hu2⟩ := S.know (i := 0) (e := fRep r_api_Chart (v0) p0) rfl
  have S := S.learn (fRep (rL r_api_Row) u1 p0.Rows) hu2
  obtain ⟨ad3, cp4, _, rfl, _⟩ := hu2
  refine sEnter (args := [.agg #[iv p0.Start, .slice ad3 p0.Rows.length cp4]]) 35 Try.func14 rfl rfl (by simp) S (fun a S => ?_)
  refine sSeq (fun K5 hK5 => ?_)
  refine sRegion ?_
  refine sBox (v := .agg #[iv p0.Start, .slice ad3 p0.Rows.length cp4]) S (wN rfl) rfl rfl [iv p0.Start, .slice ad3 p0.Rows.length cp4] rfl rfl (lb rfl) fun a b6 w S => ?_
  refine sMove (.bool false) S (wN rfl) (.inr rfl) rfl rfl (lb rfl) fun a S => ?_
  refine leafL (leafT (hK5 _ _ ?_))
  obtain ⟨t7, h, g8⟩ := bindSome h
  refine sCut (fun a w => .inl () = t7 ∧ St [] E [] w0 35 a w [(1, .pointer (some ⟨b6, 0, none⟩))] [eBox b6 41 [iv p0.Start, .slice ad3 p0.Rows.length cp4]] [fRep (rL r_api_Row) (.slice ad3 p0.Rows.length cp4) p0.Rows]) ?_ (fun a w hI => ?_)
  · refine sSeq (fun K9 hK9 => ?_)
    refine sRegion ?_
    refine sMove (iv 0) S (wN rfl) (.inr rfl) rfl rfl (lb rfl) fun a S => ?_
    refine leafL (leafT (hK9 _ _ ?_))
    refine wp_block ?_
    obtain ⟨t13, hl, g12⟩ := bindSome h
    refine sLoop hl (fun s0 a w => match s0 with | s10 => St [] E [] w0 35 a w [(1, .pointer (some ⟨b6, 0, none⟩)), (3, iv s10)] [eBox b6 41 [iv p0.Start, .slice ad3 p0.Rows.length cp4]] [fRep (rL r_api_Row) (.slice ad3 p0.Rows.length cp4) p0.Rows]) (S.fix [0] [0] (by decide) rfl rfl rfl) ?_
    clear hl h
    intro s10 a w c0 hI h hu11
    unfold raddleref45_Great_l1 at h
    dsimp only at h hI
    have S := hI
    refine sSeq (fun K14 hK14 => ?_)
    refine sSeq (fun K15 hK15 => ?_)
    refine sRegion ?_
    refine sMove (iv s10) S (wN rfl) (.inl rfl) rfl rfl (lb rfl) fun a S => ?_
    refine sField (b := b6) (off := 0) 1 1 S (wN rfl) rfl rfl rfl rfl rfl (lb rfl) fun a S => ?_
    refine sLoad1 (p := b6) (off := 1) (T := 41) (vs := [iv p0.Start, .slice ad3 p0.Rows.length cp4]) 0 (.slice ad3 p0.Rows.length cp4) S (wN rfl) rfl rfl rfl rfl rfl rfl (lb rfl) fun a S => ?_
    refine sLen (ad := ad3) (m := p0.Rows.length) (c := cp4) S (wN rfl) rfl Try.underlying39 rfl rfl (lb rfl) fun a S => ?_
    refine sBin (.bool (decide (s10 < (p0.Rows.length : Int)))) S (wN rfl) rfl rfl rfl (bLt _ _ _ _ .i64 s10 (p0.Rows.length : Int)) rfl (lb rfl) fun a S => ?_
    refine leafL (leafT (hK15 _ _ ?_))
    rcases iteSome h with ⟨hc16, h⟩ | ⟨hc16, h⟩
    rotate_left
    · refine sCondF S rfl hc16 ?_
      obtain rfl := Option.some.inj h
      obtain rfl := hu11 _ rfl
      have h := g12
      clear g12
      try dsimp only at h
      exact wp_exit (xThen (xThen (xHit (leafT (⟨Option.some.inj h, S.fix [0] [0] (by decide) rfl rfl rfl⟩)))))
    refine sCondT S rfl hc16 ?_
    refine wp_skip (leafT (hK14 _ _ ?_))
    refine sSeq (fun K17 hK17 => ?_)
    refine wp_block ?_
    refine sSeq (fun K18 hK18 => ?_)
    refine sRegion ?_
    refine sField (b := b6) (off := 0) 1 1 S (wN rfl) rfl rfl rfl rfl rfl (lb rfl) fun a S => ?_
    refine sLoad1 (p := b6) (off := 1) (T := 41) (vs := [iv p0.Start, .slice ad3 p0.Rows.length cp4]) 0 (.slice ad3 p0.Rows.length cp4) S (wN rfl) rfl rfl rfl rfl rfl rfl (lb rfl) fun a S => ?_
    refine sMove (iv s10) S (wN rfl) (.inl rfl) rfl rfl (lb rfl) fun a S => ?_
    obtain ⟨x19, hx20, h⟩ := bindSome h
    obtain ⟨q21, hq22, S⟩ := pIdx (P := Try.prog) (r := r_api_Row) (v := .slice ad3 p0.Rows.length cp4) (xs := p0.Rows) (j := s10) 39 72 0 S Try.underlying39 rfl rfl hx20
    refine sIdxV (v := .slice ad3 p0.Rows.length cp4) (k := .i64) (j := s10) S (wN rfl) rfl rfl rfl hq22 rfl (lb rfl) fun a S => ?_
    obtain ⟨q23, hq24, S⟩ := pFld (P := Try.prog) (r := r_api_Row) (s2 := (rL r_api_Stitch)) (g := (·.Cells)) (q := q21) (z := x19) 72 1 0 1 S rfl rfl comp_api_Row_Cells
    refine sFldV (q := q21) S (wN rfl) rfl rfl hq24 rfl (lb rfl) fun a S => ?_
    obtain ⟨u25, S⟩ := pLoad (r := (rL r_api_Stitch)) (q := q23) (x := x19.Cells) 0 S rfl
    obtain ⟨ad26, cp27, _, rfl, _⟩ := S.mem.know (i := 1) (e := fRep (rL r_api_Stitch) (u25) x19.Cells) rfl
    refine sLoadV1 (vq := q23) 0 (.slice ad26 x19.Cells.length cp27) S (wN rfl) rfl rfl rfl rfl rfl (lb rfl) fun a S => ?_
    refine sLen (ad := ad26) (m := x19.Cells.length) (c := cp27) S (wN rfl) rfl Try.underlying70 rfl rfl (lb rfl) fun a S => ?_
    refine sBin (.bool (decide (60 < (x19.Cells.length : Int)))) S (wN rfl) rfl rfl rfl (bGt _ _ _ _ .i64 (x19.Cells.length : Int) 60) rfl (lb rfl) fun a S => ?_
    refine leafL (leafT (hK18 _ _ ?_))
    rcases iteSome h with ⟨hc28, h⟩ | ⟨hc28, h⟩
    rotate_left
    · refine sCondF S rfl hc28 ?_
      refine wp_skip (leafB (leafT (hK17 _ _ ?_)))
      refine sRegion ?_
      refine sMove (iv s10) S (wN rfl) (.inl rfl) rfl rfl (lb rfl) fun a S => ?_
      refine sBin (iv (w64 (s10 + 1))) S (wN rfl) rfl rfl rfl (bAdd _ _ _ _ s10 1) rfl (lb rfl) fun a S => ?_
      refine sMove (iv (w64 (s10 + 1))) S (wN rfl) (.inr rfl) rfl rfl (lb rfl) fun a S => ?_
      exact leafL (leafT (⟨w64 (s10 + 1), (Option.some.inj h).symm, (S.fix [0] [4] (by decide) rfl rfl rfl)⟩))
    refine sCondT S rfl hc28 ?_
    refine sSeq (fun K29 hK29 => ?_)
    refine sRegion ?_
    refine sMove (.bool true) S (wN rfl) (.inr rfl) rfl rfl (lb rfl) fun a S => ?_
    refine leafL (leafT (hK29 _ _ ?_))
    obtain rfl := Option.some.inj h
    obtain rfl := hu11 _ rfl
    have h := g12
    clear g12
    try dsimp only at h
    obtain rfl := Option.some.inj h
    have h := g8
    clear g8
    try dsimp only at h
    obtain rfl := Option.some.inj h
    exact wp_ret (rBlock (rThen (rThen (rBlock (rThen (sRet (.bool true) S (rsl1 rfl (rvT (t := 2) (v := .bool true) S rfl)) ⟨(), rfl, S.mem.sel [] [] (by decide) rfl rfl⟩))))))
  obtain ⟨rfl, S⟩ := hI
  have h := g8
  clear g8
  try dsimp only at h
  obtain ⟨t31, h, g32⟩ := bindSome h
  refine sCut (fun a w => ∃ o30, o30 = t31 ∧ St [] E [] w0 35 a w [(2, .bool o30)] [] []) ?_ (fun a w hI => ?_)
  rotate_left
  · obtain ⟨o30, rfl, S⟩ := hI
    have h := g32
    clear g32
    try dsimp only at h
    obtain rfl := Option.some.inj h
    exact wp_ret (sRet (.bool o30) S (rsl1 rfl (rvT (t := 2) (v := .bool o30) S rfl)) ⟨(), rfl, S.mem.sel [] [] (by decide) rfl rfl⟩)
  refine sRegion ?_
  refine sField (b := b6) (off := 0) 1 1 S (wN rfl) rfl rfl rfl rfl rfl (lb rfl) fun a S => ?_
  refine sLoad1 (p := b6) (off := 1) (T := 41) (vs := [iv p0.Start, .slice ad3 p0.Rows.length cp4]) 0 (.slice ad3 p0.Rows.length cp4) S (wN rfl) rfl rfl rfl rfl rfl rfl (lb rfl) fun a S => ?_
  refine sLen (ad := ad3) (m := p0.Rows.length) (c := cp4) S (wN rfl) rfl Try.underlying39 rfl rfl (lb rfl) fun a S => ?_
  refine sBin (.bool (decide (20 < (p0.Rows.length : Int)))) S (wN rfl) rfl rfl rfl (bGt _ _ _ _ .i64 (p0.Rows.length : Int) 20) rfl (lb rfl) fun a S => ?_
  refine sMove (.bool (decide (20 < (p0.Rows.length : Int)))) S (wN rfl) (.inl rfl) rfl rfl (lb rfl) fun a S => ?_
  rcases iteSome h with ⟨hc33, h⟩ | ⟨hc33, h⟩
  rotate_left
  · refine sSkip 4 true 23 24 S rfl rfl rfl hc33 rfl (lb rfl) fun a S => ?_
    refine sSkip 4 true 23 25 S rfl rfl rfl hc33 rfl (lb rfl) fun a S => ?_
    refine sSkip 4 true 23 26 S rfl rfl rfl hc33 rfl (lb rfl) fun a S => ?_
    refine sSkip 4 true 23 27 S rfl rfl rfl hc33 rfl (lb rfl) fun a S => ?_
    refine sPickF (.bool false) S (wN rfl) rfl rfl hc33 rfl rfl (lb rfl) fun a S => ?_
    refine sMove (.bool false) S (wN rfl) (.inl rfl) rfl rfl (lb rfl) fun a S => ?_
    refine sField (b := b6) (off := 0) 1 1 S (wG 10 false 29 rfl rfl rfl rfl) rfl rfl rfl rfl rfl (lb rfl) fun a S => ?_
    refine sLoad1 (p := b6) (off := 1) (T := 41) (vs := [iv p0.Start, .slice ad3 p0.Rows.length cp4]) 0 (.slice ad3 p0.Rows.length cp4) S (wG 10 false 29 rfl rfl rfl rfl) rfl rfl rfl rfl rfl rfl (lb rfl) fun a S => ?_
    refine sLen (ad := ad3) (m := p0.Rows.length) (c := cp4) S (wG 10 false 29 rfl rfl rfl rfl) rfl Try.underlying39 rfl rfl (lb rfl) fun a S => ?_
    refine sBin (.bool (decide (110 < (p0.Rows.length : Int)))) S (wG 10 false 29 rfl rfl rfl rfl) rfl rfl rfl (bGt _ _ _ _ .i64 (p0.Rows.length : Int) 110) rfl (lb rfl) fun a S => ?_
    refine sPickF (.bool (decide (110 < (p0.Rows.length : Int)))) S (wN rfl) rfl rfl rfl rfl rfl (lb rfl) fun a S => ?_
    refine sMove (.bool (decide (110 < (p0.Rows.length : Int)))) S (wN rfl) (.inr rfl) rfl rfl (lb rfl) fun a S => ?_
    exact leafL (leafT (⟨decide (110 < (p0.Rows.length : Int)), Option.some.inj h, S.fix [] [] (by decide) rfl rfl rfl⟩))
  refine sField (b := b6) (off := 0) 1 1 S (wG 4 true 23 rfl rfl rfl hc33) rfl rfl rfl rfl rfl (lb rfl) fun a S => ?_
  refine sLoad1 (p := b6) (off := 1) (T := 41) (vs := [iv p0.Start, .slice ad3 p0.Rows.length cp4]) 0 (.slice ad3 p0.Rows.length cp4) S (wG 4 true 23 rfl rfl rfl hc33) rfl rfl rfl rfl rfl rfl (lb rfl) fun a S => ?_
  refine sLen (ad := ad3) (m := p0.Rows.length) (c := cp4) S (wG 4 true 23 rfl rfl rfl hc33) rfl Try.underlying39 rfl rfl (lb rfl) fun a S => ?_
  refine sBin (.bool (decide ((p0.Rows.length : Int) ≤ 100))) S (wG 4 true 23 rfl rfl rfl hc33) rfl rfl rfl (bLe _ _ _ _ .i64 (p0.Rows.length : Int) 100) rfl (lb rfl) fun a S => ?_
  refine sPickT (.bool (decide ((p0.Rows.length : Int) ≤ 100))) S (wN rfl) rfl rfl hc33 rfl rfl (lb rfl) fun a S => ?_
  refine sMove (.bool (decide ((p0.Rows.length : Int) ≤ 100))) S (wN rfl) (.inl rfl) rfl rfl (lb rfl) fun a S => ?_
  rcases iteSome h with ⟨hc34, h⟩ | ⟨hc34, h⟩
  · refine sSkip 10 false 29 30 S rfl rfl rfl hc34 rfl (lb rfl) fun a S => ?_
    refine sSkip 10 false 29 31 S rfl rfl rfl hc34 rfl (lb rfl) fun a S => ?_
    refine sSkip 10 false 29 32 S rfl rfl rfl hc34 rfl (lb rfl) fun a S => ?_
    refine sSkip 10 false 29 33 S rfl rfl rfl hc34 rfl (lb rfl) fun a S => ?_
    refine sPickT (.bool true) S (wN rfl) rfl rfl hc34 rfl rfl (lb rfl) fun a S => ?_
    refine sMove (.bool true) S (wN rfl) (.inr rfl) rfl rfl (lb rfl) fun a S => ?_
    exact leafL (leafT (⟨true, Option.some.inj h, S.fix [] [] (by decide) rfl rfl rfl⟩))
  refine sField (b := b6) (off := 0) 1 1 S (wG 10 false 29 rfl rfl rfl hc34) rfl rfl rfl rfl rfl (lb rfl) fun a S => ?_
  refine sLoad1 (p := b6) (off := 1) (T := 41) (vs := [iv p0.Start, .slice ad3 p0.Rows.length cp4]) 0 (.slice ad3 p0.Rows.length cp4) S (wG 10 false 29 rfl rfl rfl hc34) rfl rfl rfl rfl rfl rfl (lb rfl) fun a S => ?_
  refine sLen (ad := ad3) (m := p0.Rows.length) (c := cp4) S (wG 10 false 29 rfl rfl rfl hc34) rfl Try.underlying39 rfl rfl (lb rfl) fun a S => ?_
  refine sBin (.bool (decide (110 < (p0.Rows.length : Int)))) S (wG 10 false 29 rfl rfl rfl hc34) rfl rfl rfl (bGt _ _ _ _ .i64 (p0.Rows.length : Int) 110) rfl (lb rfl) fun a S => ?_
  refine sPickF (.bool (decide (110 < (p0.Rows.length : Int)))) S (wN rfl) rfl rfl hc34 rfl rfl (lb rfl) fun a S => ?_
  refine sMove (.bool (decide (110 < (p0.Rows.length : Int)))) S (wN rfl) (.inr rfl) rfl rfl (lb rfl) fun a S => ?_
  exact leafL (leafT (⟨decide (110 < (p0.Rows.length : Int)), Option.some.inj h, S.fix [] [] (by decide) rfl rfl rfl⟩))

end Go.Proofs.Ytdbgkakmhlmpbaa
namespace Go.Proofs.Ytdbgkakmhlmpbaa
open Go.RowKit
set_option linter.unusedVariables false

noncomputable def raddleref45_GreatAll_l1 (p0 : (List api_Chart)) : Int → Option (Int ⊕ (Bool ⊕ Unit)) := fun s0 => match s0 with
  | s7 =>
    if decide (s7 < (p0.length : Int)) then
      Option.bind (idxO p0 s7) fun x16 =>
      Option.bind (F_raddleref45_Great x16) fun r25 =>
      if r25 then
        some (.inr (.inl true))
      else
        some (.inl (w64 (s7 + 1)))
    else
      some (.inr (.inr ()))
noncomputable def F_raddleref45_GreatAll (p0 : (List api_Chart)) : Option Bool :=
  Option.bind (α := Unit ⊕ Bool) (
    Option.bind (whileO (raddleref45_GreatAll_l1 p0) 0) fun z0 => match z0 with
      | .inl z =>
        some (.inr z)
      | .inr _ =>
        some (.inl ())) fun z0 => match z0 with
    | .inl _ =>
      Option.bind (α := Bool) (
        if decide (5 < (p0.length : Int)) then
          if decide ((p0.length : Int) ≤ 20) then
            some true
          else
            some (decide (25 < (p0.length : Int)))
        else
          some (decide (25 < (p0.length : Int)))) fun o29 =>
      some o29
    | .inr z =>
      some z
set_option maxHeartbeats 4000000 in
set_option maxRecDepth 100000 in
theorem c_raddleref45_GreatAll (E : Nat → Prop) (w0 : World) (p0 : (List api_Chart)) (v0 : Value) (r : Bool) (h : F_raddleref45_GreatAll p0 = some r) (S : St0 E [] w0 w0 [] [fRep (rL r_api_Chart) (v0) p0]) :
    Calls Try.prog 15 #[v0] w0 (Ret (X := Unit) E [] w0 (fun _ => .bool r) (fun _ => []) (fun _ => [])) := by
  unfold F_raddleref45_GreatAll at h
  obtain ⟨ad1, cp2, _, rfl, _⟩ := S.know (i := 0) (e := fRep (rL r_api_Chart) (v0) p0) rfl
  refine sEnter (args := [.slice ad1 p0.length cp2]) 28 Try.func15 rfl rfl (by simp) S (fun a S => ?_)
  refine sSeq (fun K3 hK3 => ?_)
  refine sRegion ?_
  refine sMove (.bool false) S (wN rfl) (.inr rfl) rfl rfl (lb rfl) fun a S => ?_
  refine leafL (leafT (hK3 _ _ ?_))
  obtain ⟨t4, h, g5⟩ := bindSome h
  refine sCut (fun a w => .inl () = t4 ∧ St [] E [] w0 28 a w [(0, .slice ad1 p0.length cp2)] [] [fRep (rL r_api_Chart) (.slice ad1 p0.length cp2) p0]) ?_ (fun a w hI => ?_)
  · refine sSeq (fun K6 hK6 => ?_)
    refine sRegion ?_
    refine sMove (iv 0) S (wN rfl) (.inr rfl) rfl rfl (lb rfl) fun a S => ?_
    refine leafL (leafT (hK6 _ _ ?_))
    refine wp_block ?_
    obtain ⟨t10, hl, g9⟩ := bindSome h
    refine sLoop hl (fun s0 a w => match s0 with | s7 => St [] E [] w0 28 a w [(0, .slice ad1 p0.length cp2), (3, iv s7)] [] [fRep (rL r_api_Chart) (.slice ad1 p0.length cp2) p0]) (S.fix [] [0] (by decide) rfl rfl rfl) ?_
    clear hl h
    intro s7 a w c0 hI h hu8
    unfold raddleref45_GreatAll_l1 at h
    dsimp only at h hI
    have S := hI
    refine sSeq (fun K11 hK11 => ?_)
    refine sSeq (fun K12 hK12 => ?_)
    refine sRegion ?_
    refine sMove (iv s7) S (wN rfl) (.inl rfl) rfl rfl (lb rfl) fun a S => ?_
    refine sMove (.slice ad1 p0.length cp2) S (wN rfl) (.inl rfl) rfl rfl (lb rfl) fun a S => ?_
    refine sLen (ad := ad1) (m := p0.length) (c := cp2) S (wN rfl) rfl Try.underlying38 rfl rfl (lb rfl) fun a S => ?_
    refine sBin (.bool (decide (s7 < (p0.length : Int)))) S (wN rfl) rfl rfl rfl (bLt _ _ _ _ .i64 s7 (p0.length : Int)) rfl (lb rfl) fun a S => ?_
    refine leafL (leafT (hK12 _ _ ?_))
    rcases iteSome h with ⟨hc13, h⟩ | ⟨hc13, h⟩
    rotate_left
    · refine sCondF S rfl hc13 ?_
      obtain rfl := Option.some.inj h
      obtain rfl := hu8 _ rfl
      have h := g9
      clear g9
      try dsimp only at h
      exact wp_exit (xThen (xThen (xHit (leafT (⟨Option.some.inj h, S.fix [] [0] (by decide) rfl rfl rfl⟩)))))
    refine sCondT S rfl hc13 ?_
    refine wp_skip (leafT (hK11 _ _ ?_))
    refine sSeq (fun K14 hK14 => ?_)
    refine wp_block ?_
    refine sSeq (fun K15 hK15 => ?_)
    refine sRegion ?_
    refine sMove (.slice ad1 p0.length cp2) S (wN rfl) (.inl rfl) rfl rfl (lb rfl) fun a S => ?_
    refine sMove (iv s7) S (wN rfl) (.inl rfl) rfl rfl (lb rfl) fun a S => ?_
    obtain ⟨x16, hx17, h⟩ := bindSome h
    obtain ⟨q18, hq19, S⟩ := pIdx (P := Try.prog) (r := r_api_Chart) (v := .slice ad1 p0.length cp2) (xs := p0) (j := s7) 38 41 0 S Try.underlying38 rfl rfl hx17
    refine sIdxV (v := .slice ad1 p0.length cp2) (k := .i64) (j := s7) S (wN rfl) rfl rfl rfl hq19 rfl (lb rfl) fun a S => ?_
    obtain ⟨u20, S⟩ := pLoad (r := r_api_Chart) (q := q18) (x := x16) 0 S rfl
    obtain ⟨u21, rfl, hu22⟩ := S.mem.know (i := 1) (e := fRep r_api_Chart (u20) x16) rfl
    have S := S.learn (fRep (rL r_api_Row) u21 x16.Rows) hu22
    obtain ⟨ad23, cp24, _, rfl, _⟩ := hu22
    refine sLoadVN (vq := q18) 1 [iv x16.Start, .slice ad23 x16.Rows.length cp24] S (wN rfl) rfl rfl rfl rfl rfl rfl (lb rfl) fun a S => ?_
    obtain ⟨r25, hx26, h⟩ := bindSome h
    have S1 := S.mem
    refine sCallQ (X := Unit) (f := 14) (vs := [.agg #[iv x16.Start, .slice ad23 x16.Rows.length cp24]]) (val := fun _ => .bool r25) S (wN rfl) rfl callee14 rfl (S1.quiet [2] rfl) (fun E1 w1 S1 => c_raddleref45_Great E1 w1 x16 (.agg #[iv x16.Start, .slice ad23 x16.Rows.length cp24]) r25 hx26 S1) rfl (lb rfl) fun _ a w S => ?_
    refine leafL (leafT (hK15 _ _ ?_))
    rcases iteSome h with ⟨hc27, h⟩ | ⟨hc27, h⟩
    rotate_left
    · refine sCondF S rfl hc27 ?_
      refine wp_skip (leafB (leafT (hK14 _ _ ?_)))
      refine sRegion ?_
      refine sMove (iv s7) S (wN rfl) (.inl rfl) rfl rfl (lb rfl) fun a S => ?_
      refine sBin (iv (w64 (s7 + 1))) S (wN rfl) rfl rfl rfl (bAdd _ _ _ _ s7 1) rfl (lb rfl) fun a S => ?_
      refine sMove (iv (w64 (s7 + 1))) S (wN rfl) (.inr rfl) rfl rfl (lb rfl) fun a S => ?_
      exact leafL (leafT (⟨w64 (s7 + 1), (Option.some.inj h).symm, (S.fix [] [4] (by decide) rfl rfl rfl)⟩))
    refine sCondT S rfl hc27 ?_
    refine sSeq (fun K28 hK28 => ?_)
    refine sRegion ?_
    refine sMove (.bool true) S (wN rfl) (.inr rfl) rfl rfl (lb rfl) fun a S => ?_
    refine leafL (leafT (hK28 _ _ ?_))
    obtain rfl := Option.some.inj h
    obtain rfl := hu8 _ rfl
    have h := g9
    clear g9
    try dsimp only at h
    obtain rfl := Option.some.inj h
    have h := g5
    clear g5
    try dsimp only at h
    obtain rfl := Option.some.inj h
    exact wp_ret (rBlock (rThen (rThen (rBlock (rThen (sRet (.bool true) S (rsl1 rfl (rvT (t := 2) (v := .bool true) S rfl)) ⟨(), rfl, S.mem.sel [] [] (by decide) rfl rfl⟩))))))
  obtain ⟨rfl, S⟩ := hI
  have h := g5
  clear g5
  try dsimp only at h
  obtain ⟨t30, h, g31⟩ := bindSome h
  refine sCut (fun a w => ∃ o29, o29 = t30 ∧ St [] E [] w0 28 a w [(2, .bool o29)] [] []) ?_ (fun a w hI => ?_)
  rotate_left
  · obtain ⟨o29, rfl, S⟩ := hI
    have h := g31
    clear g31
    try dsimp only at h
    obtain rfl := Option.some.inj h
    exact wp_ret (sRet (.bool o29) S (rsl1 rfl (rvT (t := 2) (v := .bool o29) S rfl)) ⟨(), rfl, S.mem.sel [] [] (by decide) rfl rfl⟩)
  refine sRegion ?_
  refine sMove (.slice ad1 p0.length cp2) S (wN rfl) (.inl rfl) rfl rfl (lb rfl) fun a S => ?_
  refine sLen (ad := ad1) (m := p0.length) (c := cp2) S (wN rfl) rfl Try.underlying38 rfl rfl (lb rfl) fun a S => ?_
  refine sBin (.bool (decide (5 < (p0.length : Int)))) S (wN rfl) rfl rfl rfl (bGt _ _ _ _ .i64 (p0.length : Int) 5) rfl (lb rfl) fun a S => ?_
  refine sMove (.bool (decide (5 < (p0.length : Int)))) S (wN rfl) (.inl rfl) rfl rfl (lb rfl) fun a S => ?_
  rcases iteSome h with ⟨hc32, h⟩ | ⟨hc32, h⟩
  rotate_left
  · refine sSkip 3 true 18 19 S rfl rfl rfl hc32 rfl (lb rfl) fun a S => ?_
    refine sSkip 3 true 18 20 S rfl rfl rfl hc32 rfl (lb rfl) fun a S => ?_
    refine sSkip 3 true 18 21 S rfl rfl rfl hc32 rfl (lb rfl) fun a S => ?_
    refine sPickF (.bool false) S (wN rfl) rfl rfl hc32 rfl rfl (lb rfl) fun a S => ?_
    refine sMove (.bool false) S (wN rfl) (.inl rfl) rfl rfl (lb rfl) fun a S => ?_
    refine sMove (.slice ad1 p0.length cp2) S (wG 8 false 23 rfl rfl rfl rfl) (.inl rfl) rfl rfl (lb rfl) fun a S => ?_
    refine sLen (ad := ad1) (m := p0.length) (c := cp2) S (wG 8 false 23 rfl rfl rfl rfl) rfl Try.underlying38 rfl rfl (lb rfl) fun a S => ?_
    refine sBin (.bool (decide (25 < (p0.length : Int)))) S (wG 8 false 23 rfl rfl rfl rfl) rfl rfl rfl (bGt _ _ _ _ .i64 (p0.length : Int) 25) rfl (lb rfl) fun a S => ?_
    refine sPickF (.bool (decide (25 < (p0.length : Int)))) S (wN rfl) rfl rfl rfl rfl rfl (lb rfl) fun a S => ?_
    refine sMove (.bool (decide (25 < (p0.length : Int)))) S (wN rfl) (.inr rfl) rfl rfl (lb rfl) fun a S => ?_
    exact leafL (leafT (⟨decide (25 < (p0.length : Int)), Option.some.inj h, S.fix [] [] (by decide) rfl rfl rfl⟩))
  refine sMove (.slice ad1 p0.length cp2) S (wG 3 true 18 rfl rfl rfl hc32) (.inl rfl) rfl rfl (lb rfl) fun a S => ?_
  refine sLen (ad := ad1) (m := p0.length) (c := cp2) S (wG 3 true 18 rfl rfl rfl hc32) rfl Try.underlying38 rfl rfl (lb rfl) fun a S => ?_
  refine sBin (.bool (decide ((p0.length : Int) ≤ 20))) S (wG 3 true 18 rfl rfl rfl hc32) rfl rfl rfl (bLe _ _ _ _ .i64 (p0.length : Int) 20) rfl (lb rfl) fun a S => ?_
  refine sPickT (.bool (decide ((p0.length : Int) ≤ 20))) S (wN rfl) rfl rfl hc32 rfl rfl (lb rfl) fun a S => ?_
  refine sMove (.bool (decide ((p0.length : Int) ≤ 20))) S (wN rfl) (.inl rfl) rfl rfl (lb rfl) fun a S => ?_
  rcases iteSome h with ⟨hc33, h⟩ | ⟨hc33, h⟩
  · refine sSkip 8 false 23 24 S rfl rfl rfl hc33 rfl (lb rfl) fun a S => ?_
    refine sSkip 8 false 23 25 S rfl rfl rfl hc33 rfl (lb rfl) fun a S => ?_
    refine sSkip 8 false 23 26 S rfl rfl rfl hc33 rfl (lb rfl) fun a S => ?_
    refine sPickT (.bool true) S (wN rfl) rfl rfl hc33 rfl rfl (lb rfl) fun a S => ?_
    refine sMove (.bool true) S (wN rfl) (.inr rfl) rfl rfl (lb rfl) fun a S => ?_
    exact leafL (leafT (⟨true, Option.some.inj h, S.fix [] [] (by decide) rfl rfl rfl⟩))
  refine sMove (.slice ad1 p0.length cp2) S (wG 8 false 23 rfl rfl rfl hc33) (.inl rfl) rfl rfl (lb rfl) fun a S => ?_
  refine sLen (ad := ad1) (m := p0.length) (c := cp2) S (wG 8 false 23 rfl rfl rfl hc33) rfl Try.underlying38 rfl rfl (lb rfl) fun a S => ?_
  refine sBin (.bool (decide (25 < (p0.length : Int)))) S (wG 8 false 23 rfl rfl rfl hc33) rfl rfl rfl (bGt _ _ _ _ .i64 (p0.length : Int) 25) rfl (lb rfl) fun a S => ?_
  refine sPickF (.bool (decide (25 < (p0.length : Int)))) S (wN rfl) rfl rfl hc33 rfl rfl (lb rfl) fun a S => ?_
  refine sMove (.bool (decide (25 < (p0.length : Int)))) S (wN rfl) (.inr rfl) rfl rfl (lb rfl) fun a S => ?_
  exact leafL (leafT (⟨decide (25 < (p0.length : Int)), Option.some.inj h, S.fix [] [] (by decide) rfl rfl rfl⟩))

end Go.Proofs.Ytdbgkakmhlmpbaa
namespace Go.Proofs.Ytdbgkakmhlmpbaa
open Go.RowKit
set_option linter.unusedVariables false

end Go.Proofs.Ytdbgkakmhlmpbaa
namespace Go.Proofs.Ytdbgkakmhlmpbaa
open Go.RowKit
set_option linter.unusedVariables false

noncomputable def cost_Total_l1 (p0 : (List api_Chart)) (p1 : api_Rates) : (Int × Int × Int) → Option ((Int × Int × Int) ⊕ ((api_Bill × Int) ⊕ (Int × Int))) := fun s0 => match s0 with
  | (s17, s18, s19) =>
    if decide (s17 < (p0.length : Int)) then
      Option.bind (idxO p0 s17) fun x30 =>
      Option.bind (F_cost_Need x30 p1) fun r41 =>
      if r41.2 != 0 then
        some (.inr (.inl ((api_Bill.mk 0 0), r41.2)))
      else
        some (.inl (w64 (s17 + 1), w64 (s18 + r41.1.Length), w64 (s19 + r41.1.Time)))
    else
      some (.inr (.inr (s18, s19)))
noncomputable def F_cost_Total (p0 : (List api_Chart)) (p1 : api_Rates) : Option (api_Bill × Int) :=
  if decide (20 < (p0.length : Int)) then
    some ((api_Bill.mk 0 0), 4)
  else
    Option.bind (α := (Int × Int) ⊕ (api_Bill × Int)) (
      Option.bind (whileO (cost_Total_l1 p0 p1) (0, 0, 0)) fun z0 => match z0 with
        | .inl z =>
          some (.inr z)
        | .inr (e23, e24) =>
          some (.inl (e23, e24))) fun z0 => match z0 with
      | .inl (o12, o13) =>
        if (p0.length : Int) == 0 then
          Option.bind (F_cost_Check p1) fun r54 =>
          some ((api_Bill.mk o12 o13), r54)
        else
          some ((api_Bill.mk o12 o13), 0)
      | .inr z =>
        some z
def c_cost_Total_val (r : (api_Bill × Int)) (x : Value) : Value := .tuple #[x, .int .i64 r.2]
def c_cost_Total_D (r : (api_Bill × Int)) (x : Value) : List Fact := [fRep r_api_Bill x r.1]
set_option maxHeartbeats 4000000 in
set_option maxRecDepth 100000 in
theorem c_cost_Total (E : Nat → Prop) (w0 : World) (p0 : (List api_Chart)) (v0 : Value) (p1 : api_Rates) (v1 : Value) (r : (api_Bill × Int)) (h : F_cost_Total p0 p1 = some r) (S : St0 E [] w0 w0 [] [fRep (rL r_api_Chart) (v0) p0, fRep r_api_Rates (v1) p1]) :
    Calls Try.prog 20 #[v0, v1] w0 (Ret (X := Value) E [] w0 (c_cost_Total_val r) (fun _ => []) (c_cost_Total_D r)) := by
  unfold F_cost_Total at h
  obtain ⟨ad1, cp2, _, rfl, _⟩ := S.know (i := 0) (e := fRep (rL r_api_Chart) (v0) p0) rfl
  obtain rfl : v1 = gv_api_Rates p1 := S.know (i := 1) (e := fRep r_api_Rates (v1) p1) rfl
  refine sEnter (args := [.slice ad1 p0.length cp2, gv_api_Rates p1]) 51 Try.func20 rfl rfl (by simp) S (fun a S => ?_)
  refine sSeq (fun K3 hK3 => ?_)
  refine sRegion ?_
  refine sBox (v := gv_api_Rates p1) S (wN rfl) rfl rfl (gl_api_Rates p1) rfl rfl (lb rfl) fun a b4 w S => ?_
  refine sAlloc (.agg #[iv 0, iv 0]) S (wN rfl) rfl rfl [iv 0, iv 0] rfl rfl (lb rfl) fun a b5 w S => ?_
  refine sMove (iv 0) S (wN rfl) (.inr rfl) rfl rfl (lb rfl) fun a S => ?_
  refine leafL (leafT (hK3 _ _ ?_))
  refine sSeq (fun K6 hK6 => ?_)
  refine sSeq (fun K7 hK7 => ?_)
  refine sRegion ?_
  refine sMove (.slice ad1 p0.length cp2) S (wN rfl) (.inl rfl) rfl rfl (lb rfl) fun a S => ?_
  refine sLen (ad := ad1) (m := p0.length) (c := cp2) S (wN rfl) rfl Try.underlying38 rfl rfl (lb rfl) fun a S => ?_
  refine sBin (.bool (decide (20 < (p0.length : Int)))) S (wN rfl) rfl rfl rfl (bGt _ _ _ _ .i64 (p0.length : Int) 20) rfl (lb rfl) fun a S => ?_
  refine leafL (leafT (hK7 _ _ ?_))
  rcases iteSome h with ⟨hc8, h⟩ | ⟨hc8, h⟩
  · refine sCondT S rfl hc8 ?_
    refine sSeq (fun K9 hK9 => ?_)
    refine sRegion ?_
    refine sBuild [] [iv 0, iv 0] S (wN rfl) rfl rfl rfl rfl (lb rfl) fun a S => ?_
    refine sStore (p := b5) (off := 0) (T := 23) (vs := [iv 0, iv 0]) (v := .agg #[iv 0, iv 0]) 0 [iv 0, iv 0] S (wN rfl) rfl rfl rfl rfl rfl rfl rfl (by simp) rfl fun a w S => ?_
    refine sMove (iv 4) S (wN rfl) (.inr rfl) rfl rfl (lb rfl) fun a S => ?_
    refine leafL (leafT (hK9 _ _ ?_))
    obtain rfl := Option.some.inj h
    have S := S.learn (fRep r_api_Bill (.agg #[iv 0, iv 0]) (api_Bill.mk 0 0)) rfl
    exact wp_ret (rThen (sRet (.tuple #[.agg #[iv 0, iv 0], iv 4]) S (rsl2 rfl (rvN (c := 4) (t := 23) (T := 23) (p := b5) 0 [iv 0, iv 0] S rfl rfl rfl rfl) (rvT (t := 5) (v := iv 4) S rfl)) ⟨(.agg #[iv 0, iv 0]), rfl, S.mem.sel [] [0] (by decide) rfl rfl⟩))
  refine sCondF S rfl hc8 ?_
  refine wp_skip (leafT (hK6 _ _ ?_))
  refine sSeq (fun K10 hK10 => ?_)
  refine sRegion ?_
  refine sAlloc (.agg #[iv 0, iv 0]) S (wN rfl) rfl rfl [iv 0, iv 0] rfl rfl (lb rfl) fun a b11 w S => ?_
  refine leafL (leafT (hK10 _ _ ?_))
  obtain ⟨t14, h, g15⟩ := bindSome h
  refine sCut (fun a w => ∃ o12, ∃ o13, .inl (o12, o13) = t14 ∧ St [] E [] w0 51 a w [(0, .slice ad1 p0.length cp2), (3, .pointer (some ⟨b4, 0, none⟩)), (4, .pointer (some ⟨b5, 0, none⟩)), (6, .pointer (some ⟨b11, 0, none⟩))] [eBox b4 44 (gl_api_Rates p1), eBox b5 23 [iv 0, iv 0], eBox b11 23 [iv o12, iv o13]] [fRep (rL r_api_Chart) (.slice ad1 p0.length cp2) p0]) ?_ (fun a w hI => ?_)
  rotate_left
  · obtain ⟨o12, o13, rfl, S⟩ := hI
    have h := g15
    clear g15
    try dsimp only at h
    refine sSeq (fun K50 hK50 => ?_)
    refine sSeq (fun K51 hK51 => ?_)
    refine sRegion ?_
    refine sMove (.slice ad1 p0.length cp2) S (wN rfl) (.inl rfl) rfl rfl (lb rfl) fun a S => ?_
    refine sLen (ad := ad1) (m := p0.length) (c := cp2) S (wN rfl) rfl Try.underlying38 rfl rfl (lb rfl) fun a S => ?_
    refine sBin (.bool ((p0.length : Int) == 0)) S (wN rfl) rfl rfl rfl (bEq _ _ _ _ .i64 (p0.length : Int) 0) rfl (lb rfl) fun a S => ?_
    refine leafL (leafT (hK51 _ _ ?_))
    rcases iteSome h with ⟨hc52, h⟩ | ⟨hc52, h⟩
    rotate_left
    · refine sCondF S rfl hc52 ?_
      refine wp_skip (leafT (hK50 _ _ ?_))
      refine sSeq (fun K56 hK56 => ?_)
      refine sRegion ?_
      refine sLoadN (p := b11) (off := 0) (T := 23) (vs := [iv o12, iv o13]) 2 [iv o12, iv o13] S (wN rfl) rfl rfl rfl rfl rfl rfl rfl (lb rfl) fun a S => ?_
      refine sStore (p := b5) (off := 0) (T := 23) (vs := [iv 0, iv 0]) (v := .agg #[iv o12, iv o13]) 1 [iv o12, iv o13] S (wN rfl) rfl rfl rfl rfl rfl rfl rfl (by simp) rfl fun a w S => ?_
      refine sMove (iv 0) S (wN rfl) (.inr rfl) rfl rfl (lb rfl) fun a S => ?_
      refine leafL (leafT (hK56 _ _ ?_))
      obtain rfl := Option.some.inj h
      have S := S.learn (fRep r_api_Bill (.agg #[iv o12, iv o13]) (api_Bill.mk o12 o13)) rfl
      exact wp_ret (sRet (.tuple #[.agg #[iv o12, iv o13], iv 0]) S (rsl2 rfl (rvN (c := 4) (t := 23) (T := 23) (p := b5) 0 [iv o12, iv o13] S rfl rfl rfl rfl) (rvT (t := 5) (v := iv 0) S rfl)) ⟨(.agg #[iv o12, iv o13]), rfl, S.mem.sel [] [0] (by decide) rfl rfl⟩)
    refine sCondT S rfl hc52 ?_
    refine sSeq (fun K53 hK53 => ?_)
    obtain ⟨r54, hx55, h⟩ := bindSome h
    refine sDraw (nf := [3]) (W := [(0, 47, .agg #[iv o12, iv o13]), (1, 48, gv_api_Rates p1), (2, 49, iv r54)]) rfl S ?_
    refine node_by (A := [[], [], [1], [0, 1, 2], [0, 1, 2, 3]]) (nf := [3]) (Y := []) (W := [(0, 47, .agg #[iv o12, iv o13]), (1, 48, gv_api_Rates p1), (2, 49, iv r54)]) 5 (by kernel_rfl) (by kernel_rfl) (by kernel_rfl) (by kernel_rfl) (by kernel_rfl) [0, 1, 2] (by kernel_rfl) (by decide) (by decide) (aF 0 4 (by decide) ?_ (aF 1 3 (by decide) ?_ (aF 2 2 (by decide) ?_ (aN 3 1 (by decide) ?_ (aE 4 0 3 (by decide) (trivial)))))) [] (fun q hq => by cases hq) (fun hY => absurd (hY 3 (by decide)) (by decide))
    · refine fI 47 (.agg #[iv o12, iv o13]) [(6, .pointer (some ⟨b11, 0, none⟩))] 0 [none] rfl rfl rfl rfl rfl rfl fun G a w S => ?_
      refine sLoadN (p := b11) (off := 0) (T := 23) (vs := [iv o12, iv o13]) 2 [iv o12, iv o13] S (wN rfl) rfl rfl rfl rfl rfl rfl rfl (lb rfl) fun a S => ?_
      exact leafL ⟨rfl, S⟩
    · refine fI 48 (gv_api_Rates p1) [(3, .pointer (some ⟨b4, 0, none⟩))] 1 [none] rfl rfl rfl rfl rfl rfl fun G a w S => ?_
      refine sLoadN (p := b4) (off := 0) (T := 44) (vs := (gl_api_Rates p1)) 0 (gl_api_Rates p1) S (wN rfl) rfl rfl rfl rfl rfl rfl rfl (lb rfl) fun a S => ?_
      exact leafL ⟨rfl, S⟩
    · refine fI 49 (iv r54) [(48, gv_api_Rates p1)] 2 [some 1] rfl rfl rfl rfl rfl rfl fun G a w S => ?_
      have S1 := S.mem
      have S1 := S1.learn (fRep r_api_Rates (gv_api_Rates p1) p1) rfl
      refine sCallQ (X := Unit) (f := 22) (vs := [gv_api_Rates p1]) (val := fun _ => iv r54) S (wN rfl) rfl callee22 rfl (S1.quiet [0] rfl) (fun E1 w1 S1 => c_cost_Check E1 w1 p1 (gv_api_Rates p1) r54 hx55 S1) rfl (lb rfl) fun _ a w S => ?_
      exact leafL ⟨rfl, S⟩
    refine ⟨_, [(4, .pointer (some ⟨b5, 0, none⟩)), (47, .agg #[iv o12, iv o13])], rfl, (srcs_of [none, some 0] rfl rfl rfl), fun G a w S => ?_⟩
    refine sStore (p := b5) (off := 0) (T := 23) (vs := [iv 0, iv 0]) (v := .agg #[iv o12, iv o13]) 1 [iv o12, iv o13] S (wN rfl) rfl rfl rfl rfl rfl rfl rfl (by simp) rfl fun a w S => ?_
    refine leafL ⟨rfl, _, _, .inr ⟨[(4, 5, iv r54)], rfl, S, hz_of rfl, ?_⟩⟩
    refine node_by (A := [[], [], [1], [0, 1, 2], [0, 1, 2, 3]]) (nf := [3]) (Y := [3]) 5 (by kernel_rfl) (by kernel_rfl) (by kernel_rfl) (by kernel_rfl) (by kernel_rfl) [4, 0, 1, 2] (by kernel_rfl) (by decide) (by decide) (aD 0 4 3 (by decide) (aD 1 3 3 (by decide) (aD 2 2 3 (by decide) (aY 3 1 (by decide) (aF 4 0 (by decide) ?_ (trivial)))))) [(4, .pointer (some ⟨b5, 0, none⟩)), (5, iv r54)] (fin_of [none, some 0] rfl (by kernel_rfl) (by kernel_rfl)) (fun _ a w S => ?_)
    · refine fI 5 (iv r54) [(49, iv r54)] 0 [some 3] rfl rfl rfl rfl rfl rfl fun G a w S => ?_
      refine sMove (iv r54) S (wN rfl) (.inr rfl) rfl rfl (lb rfl) fun a S => ?_
      exact leafL ⟨rfl, S⟩
    refine leafT (hK53 _ _ ?_)
    obtain rfl := Option.some.inj h
    have S := S.learn (fRep r_api_Bill (.agg #[iv o12, iv o13]) (api_Bill.mk o12 o13)) rfl
    exact wp_ret (rThen (sRet (.tuple #[.agg #[iv o12, iv o13], iv r54]) S (rsl2 rfl (rvN (c := 4) (t := 23) (T := 23) (p := b5) 0 [iv o12, iv o13] S rfl rfl rfl rfl) (rvT (t := 5) (v := iv r54) S rfl)) ⟨(.agg #[iv o12, iv o13]), rfl, S.mem.sel [] [0] (by decide) rfl rfl⟩))
  refine sSeq (fun K16 hK16 => ?_)
  refine sRegion ?_
  refine sMove (.slice ad1 p0.length cp2) S (wN rfl) (.inl rfl) rfl rfl (lb rfl) fun a S => ?_
  refine sLen (ad := ad1) (m := p0.length) (c := cp2) S (wN rfl) rfl Try.underlying38 rfl rfl (lb rfl) fun a S => ?_
  refine sMove (iv 0) S (wN rfl) (.inl rfl) rfl rfl (lb rfl) fun a S => ?_
  refine leafL (leafT (hK16 _ _ ?_))
  refine wp_block ?_
  obtain ⟨t22, hl, g21⟩ := bindSome h
  refine sLoop hl (fun s0 a w => match s0 with | (s17, s18, s19) => St [] E [] w0 51 a w [(0, .slice ad1 p0.length cp2), (3, .pointer (some ⟨b4, 0, none⟩)), (4, .pointer (some ⟨b5, 0, none⟩)), (6, .pointer (some ⟨b11, 0, none⟩)), (15, .slice ad1 p0.length cp2), (16, iv (p0.length : Int)), (17, iv s17)] [eBox b4 44 (gl_api_Rates p1), eBox b5 23 [iv 0, iv 0], eBox b11 23 [iv s18, iv s19]] [fRep (rL r_api_Chart) (.slice ad1 p0.length cp2) p0]) (S.fix [2, 1, 0] [0] (by decide) rfl rfl rfl) ?_
  clear hl h
  intro s0 a w c0 hI h hu20
  obtain ⟨s17, s18, s19⟩ := s0
  unfold cost_Total_l1 at h
  dsimp only at h hI
  have S := hI
  refine sSeq (fun K25 hK25 => ?_)
  refine sRegion ?_
  refine sBin (.bool (decide (s17 < (p0.length : Int)))) S (wN rfl) rfl rfl rfl (bLt _ _ _ _ .i64 s17 (p0.length : Int)) rfl (lb rfl) fun a S => ?_
  refine leafL (leafT (hK25 _ _ ?_))
  refine sSeq (fun K26 hK26 => ?_)
  rcases iteSome h with ⟨hc27, h⟩ | ⟨hc27, h⟩
  rotate_left
  · refine sCondF S rfl hc27 ?_
    obtain rfl := Option.some.inj h
    obtain rfl := hu20 _ rfl
    have h := g21
    clear g21
    try dsimp only at h
    exact wp_exit (xThen (xThen (xHit (leafT (⟨s18, s19, Option.some.inj h, S.fix [0, 1, 2] [0] (by decide) rfl rfl rfl⟩)))))
  refine sCondT S rfl hc27 ?_
  refine wp_skip (leafT (hK26 _ _ ?_))
  refine sSeq (fun K28 hK28 => ?_)
  refine wp_block ?_
  refine sSeq (fun K29 hK29 => ?_)
  refine sRegion ?_
  obtain ⟨x30, hx31, h⟩ := bindSome h
  obtain ⟨q32, hq33, S⟩ := pIdx (P := Try.prog) (r := r_api_Chart) (v := .slice ad1 p0.length cp2) (xs := p0) (j := s17) 38 41 0 S Try.underlying38 rfl rfl hx31
  refine sIdxV (v := .slice ad1 p0.length cp2) (k := .i64) (j := s17) S (wN rfl) rfl rfl rfl hq33 rfl (lb rfl) fun a S => ?_
  obtain ⟨u34, S⟩ := pLoad (r := r_api_Chart) (q := q32) (x := x30) 0 S rfl
  obtain ⟨u35, rfl, hu36⟩ := S.mem.know (i := 1) (e := fRep r_api_Chart (u34) x30) rfl
  have S := S.learn (fRep (rL r_api_Row) u35 x30.Rows) hu36
  obtain ⟨ad37, cp38, _, rfl, _⟩ := hu36
  refine sLoadVN (vq := q32) 1 [iv x30.Start, .slice ad37 x30.Rows.length cp38] S (wN rfl) rfl rfl rfl rfl rfl rfl (lb rfl) fun a S => ?_
  refine sAlloc (.agg #[iv 0, .slice none 0 0]) S (wN rfl) rfl rfl [iv 0, .slice none 0 0] rfl rfl (lb rfl) fun a b39 w S => ?_
  refine sStore (p := b39) (off := 0) (T := 41) (vs := [iv 0, .slice none 0 0]) (v := .agg #[iv x30.Start, .slice ad37 x30.Rows.length cp38]) 0 [iv x30.Start, .slice ad37 x30.Rows.length cp38] S (wN rfl) rfl rfl rfl rfl rfl rfl rfl (by simp) rfl fun a w S => ?_
  refine leafL (leafT (hK29 _ _ ?_))
  refine sSeq (fun K40 hK40 => ?_)
  refine sRegion ?_
  refine sLoadN (p := b39) (off := 0) (T := 41) (vs := [iv x30.Start, .slice ad37 x30.Rows.length cp38]) 0 [iv x30.Start, .slice ad37 x30.Rows.length cp38] S (wN rfl) rfl rfl rfl rfl rfl rfl rfl (lb rfl) fun a S => ?_
  refine sLoadN (p := b4) (off := 0) (T := 44) (vs := (gl_api_Rates p1)) 1 (gl_api_Rates p1) S (wN rfl) rfl rfl rfl rfl rfl rfl rfl (lb rfl) fun a S => ?_
  obtain ⟨r41, hx42, h⟩ := bindSome h
  have S := S.learn (fRep r_api_Rates (gv_api_Rates p1) p1) rfl
  refine sCall (X := Value) (f := 18) (vs := [.agg #[iv x30.Start, .slice ad37 x30.Rows.length cp38], gv_api_Rates p1]) (val := c_cost_Need_val r41) (B' := fun _ => []) (D' := c_cost_Need_D r41) [] [eBox b39 41 [iv x30.Start, .slice ad37 x30.Rows.length cp38], eBox b4 44 (gl_api_Rates p1), eBox b5 23 [iv 0, iv 0], eBox b11 23 [iv s18, iv s19]] [fRep r_api_Chart (.agg #[iv x30.Start, .slice ad37 x30.Rows.length cp38]) x30, fRep r_api_Rates (gv_api_Rates p1) p1] [0, 1, 2, 3] [3, 0] S (wN rfl) rfl callee18 rfl (by decide) rfl rfl (fun E1 w1 S1 => c_cost_Need E1 w1 x30 (.agg #[iv x30.Start, .slice ad37 x30.Rows.length cp38]) p1 (gv_api_Rates p1) r41 hx42 S1) rfl (lb rfl) fun u43 a w S => ?_
  obtain rfl : u43 = .agg #[iv r41.1.Length, iv r41.1.Time] := S.mem.know (i := 0) (e := fRep r_api_Bill (u43) r41.1) rfl
  refine sMove (.tuple #[.agg #[iv r41.1.Length, iv r41.1.Time], iv r41.2]) S (wN rfl) (.inl rfl) rfl rfl (lb rfl) fun a S => ?_
  refine sExtract (vs := [.agg #[iv r41.1.Length, iv r41.1.Time], iv r41.2]) (.agg #[iv r41.1.Length, iv r41.1.Time]) S (wN rfl) rfl rfl rfl rfl (lb rfl) fun a S => ?_
  refine sExtract (vs := [.agg #[iv r41.1.Length, iv r41.1.Time], iv r41.2]) (iv r41.2) S (wN rfl) rfl rfl rfl rfl (lb rfl) fun a S => ?_
  refine sAlloc (.agg #[iv 0, iv 0]) S (wN rfl) rfl rfl [iv 0, iv 0] rfl rfl (lb rfl) fun a b44 w S => ?_
  refine sStore (p := b44) (off := 0) (T := 23) (vs := [iv 0, iv 0]) (v := .agg #[iv r41.1.Length, iv r41.1.Time]) 0 [iv r41.1.Length, iv r41.1.Time] S (wN rfl) rfl rfl rfl rfl rfl rfl rfl (by simp) rfl fun a w S => ?_
  refine sMove (iv r41.2) S (wN rfl) (.inr rfl) rfl rfl (lb rfl) fun a S => ?_
  refine leafL (leafT (hK40 _ _ ?_))
  refine sSeq (fun K45 hK45 => ?_)
  refine sSeq (fun K46 hK46 => ?_)
  refine sRegion ?_
  refine sMove (iv r41.2) S (wN rfl) (.inl rfl) rfl rfl (lb rfl) fun a S => ?_
  refine sBin (.bool (r41.2 != 0)) S (wN rfl) rfl rfl rfl (bNe _ _ _ _ .i64 r41.2 0) rfl (lb rfl) fun a S => ?_
  refine leafL (leafT (hK46 _ _ ?_))
  rcases iteSome h with ⟨hc47, h⟩ | ⟨hc47, h⟩
  · refine sCondT S rfl hc47 ?_
    refine sSeq (fun K48 hK48 => ?_)
    refine sRegion ?_
    refine sBuild [] [iv 0, iv 0] S (wN rfl) rfl rfl rfl rfl (lb rfl) fun a S => ?_
    refine sMove (iv r41.2) S (wN rfl) (.inl rfl) rfl rfl (lb rfl) fun a S => ?_
    refine sStore (p := b5) (off := 0) (T := 23) (vs := [iv 0, iv 0]) (v := .agg #[iv 0, iv 0]) 3 [iv 0, iv 0] S (wN rfl) rfl rfl rfl rfl rfl rfl rfl (by simp) rfl fun a w S => ?_
    refine sMove (iv r41.2) S (wN rfl) (.inr rfl) rfl rfl (lb rfl) fun a S => ?_
    refine leafL (leafT (hK48 _ _ ?_))
    obtain rfl := Option.some.inj h
    obtain rfl := hu20 _ rfl
    have h := g21
    clear g21
    try dsimp only at h
    obtain rfl := Option.some.inj h
    have h := g15
    clear g15
    try dsimp only at h
    obtain rfl := Option.some.inj h
    have S := S.learn (fRep r_api_Bill (.agg #[iv 0, iv 0]) (api_Bill.mk 0 0)) rfl
    exact wp_ret (rThen (rBlock (rThen (rThen (rBlock (rThen (sRet (.tuple #[.agg #[iv 0, iv 0], iv r41.2]) S (rsl2 rfl (rvN (c := 4) (t := 23) (T := 23) (p := b5) 0 [iv 0, iv 0] S rfl rfl rfl rfl) (rvT (t := 5) (v := iv r41.2) S rfl)) ⟨(.agg #[iv 0, iv 0]), rfl, S.mem.sel [] [0] (by decide) rfl rfl⟩)))))))
  refine sCondF S rfl hc47 ?_
  refine wp_skip (leafT (hK45 _ _ ?_))
  refine sSeq (fun K49 hK49 => ?_)
  refine sRegion ?_
  refine sField (b := b11) (off := 0) 0 0 S (wN rfl) rfl rfl rfl rfl rfl (lb rfl) fun a S => ?_
  refine sLoad1 (p := b11) (off := 0) (T := 23) (vs := [iv s18, iv s19]) 4 (iv s18) S (wN rfl) rfl rfl rfl rfl rfl rfl (lb rfl) fun a S => ?_
  refine sField (b := b44) (off := 0) 0 0 S (wN rfl) rfl rfl rfl rfl rfl (lb rfl) fun a S => ?_
  refine sLoad1 (p := b44) (off := 0) (T := 23) (vs := [iv r41.1.Length, iv r41.1.Time]) 0 (iv r41.1.Length) S (wN rfl) rfl rfl rfl rfl rfl rfl (lb rfl) fun a S => ?_
  refine sBin (iv (w64 (s18 + r41.1.Length))) S (wN rfl) rfl rfl rfl (bAdd _ _ _ _ s18 r41.1.Length) rfl (lb rfl) fun a S => ?_
  refine sField (b := b11) (off := 0) 0 0 S (wN rfl) rfl rfl rfl rfl rfl (lb rfl) fun a S => ?_
  refine sStore (p := b11) (off := 0) (T := 23) (vs := [iv s18, iv s19]) (v := iv (w64 (s18 + r41.1.Length))) 4 [iv (w64 (s18 + r41.1.Length))] S (wN rfl) rfl rfl rfl rfl rfl rfl rfl (by simp) rfl fun a w S => ?_
  refine leafL (leafT (hK49 _ _ ?_))
  refine sRegion ?_
  refine sField (b := b11) (off := 0) 1 1 S (wN rfl) rfl rfl rfl rfl rfl (lb rfl) fun a S => ?_
  refine sLoad1 (p := b11) (off := 1) (T := 23) (vs := [iv (w64 (s18 + r41.1.Length)), iv s19]) 0 (iv s19) S (wN rfl) rfl rfl rfl rfl rfl rfl (lb rfl) fun a S => ?_
  refine sField (b := b44) (off := 0) 1 1 S (wN rfl) rfl rfl rfl rfl rfl (lb rfl) fun a S => ?_
  refine sLoad1 (p := b44) (off := 1) (T := 23) (vs := [iv r41.1.Length, iv r41.1.Time]) 1 (iv r41.1.Time) S (wN rfl) rfl rfl rfl rfl rfl rfl (lb rfl) fun a S => ?_
  refine sBin (iv (w64 (s19 + r41.1.Time))) S (wN rfl) rfl rfl rfl (bAdd _ _ _ _ s19 r41.1.Time) rfl (lb rfl) fun a S => ?_
  refine sField (b := b11) (off := 0) 1 1 S (wN rfl) rfl rfl rfl rfl rfl (lb rfl) fun a S => ?_
  refine sStore (p := b11) (off := 1) (T := 23) (vs := [iv (w64 (s18 + r41.1.Length)), iv s19]) (v := iv (w64 (s19 + r41.1.Time))) 0 [iv (w64 (s19 + r41.1.Time))] S (wN rfl) rfl rfl rfl rfl rfl rfl rfl (by simp) rfl fun a w S => ?_
  refine leafL (leafB (leafT (hK28 _ _ ?_)))
  refine sRegion ?_
  refine sBin (iv (w64 (s17 + 1))) S (wN rfl) rfl rfl rfl (bAdd _ _ _ _ s17 1) rfl (lb rfl) fun a S => ?_
  refine sMove (iv (w64 (s17 + 1))) S (wN rfl) (.inl rfl) rfl rfl (lb rfl) fun a S => ?_
  exact leafL (leafT (⟨(w64 (s17 + 1), w64 (s18 + r41.1.Length), w64 (s19 + r41.1.Time)), (Option.some.inj h).symm, (S.fix [3, 4, 0] [6] (by decide) rfl rfl rfl)⟩))

end Go.Proofs.Ytdbgkakmhlmpbaa
namespace Go.Proofs.Ytdbgkakmhlmpbaa
open Go.RowKit
set_option linter.unusedVariables false

end Go.Proofs.Ytdbgkakmhlmpbaa
namespace Go.Proofs.Ytdbgkakmhlmpbaa
open Go.RowKit
set_option linter.unusedVariables false

end Go.Proofs.Ytdbgkakmhlmpbaa
namespace Go.Proofs.Ytdbgkakmhlmpbaa
open Go.RowKit
set_option linter.unusedVariables false

theorem great_some (c : api_Chart) (hl : c.Rows.length ≤ 9223372036854775807) : ∃ b, F_raddleref45_Great c = some b := by
  have hloop : whileO (raddleref45_Great_l1 c) 0 = some (if (List.range c.Rows.length).all (fun k => decide ((c.Rows.getD k ⟨false, []⟩).Cells.length ≤ 60)) = true then .inr () else .inl true) := by
    refine loop_all c.Rows.length _ _ _ ?_ ?_
    · intro k hk
      unfold raddleref45_Great_l1
      simp only [dT (show (k : Int) < (c.Rows.length : Int) by omega), if_true, idxO_nat hk, Option.bind_some, w64_succ (show k < 9223372036854775807 by omega), getD_of _ hk]
      by_cases hc : c.Rows[k].Cells.length ≤ 60
      · simp only [dF (show ¬ (60 : Int) < (c.Rows[k].Cells.length : Int) by omega), Bool.false_eq_true, if_false, dT hc, if_true]
      · simp only [dT (show (60 : Int) < (c.Rows[k].Cells.length : Int) by omega), if_true, dF hc, Bool.false_eq_true, if_false]
    · unfold raddleref45_Great_l1
      simp only [dF (show ¬ (c.Rows.length : Int) < (c.Rows.length : Int) by omega), Bool.false_eq_true, if_false]
  unfold F_raddleref45_Great
  rw [hloop]
  cases (List.range c.Rows.length).all (fun k => decide ((c.Rows.getD k ⟨false, []⟩).Cells.length ≤ 60)) with
  | false => exact ⟨_, rfl⟩
  | true =>
    simp only [if_true, Option.bind_some]
    by_cases c1 : (20 : Int) < (c.Rows.length : Int)
    · by_cases c2 : (c.Rows.length : Int) ≤ 100
      · simp only [dT c1, dT c2, if_true, Option.bind_some]; exact ⟨_, rfl⟩
      · simp only [dT c1, dF c2, if_true, Bool.false_eq_true, if_false, Option.bind_some]; exact ⟨_, rfl⟩
    · simp only [dF c1, Bool.false_eq_true, if_false, Option.bind_some]; exact ⟨_, rfl⟩
theorem greatAll_some (l : List api_Chart) (hl : l.length ≤ 9223372036854775807) (hw : ∀ c, c ∈ l → wf_api_Chart c) : ∃ b, F_raddleref45_GreatAll l = some b := by
  have key : ∃ t, whileO (raddleref45_GreatAll_l1 l) 0 = some t ∧ True := by
    refine loop_ix l.length (fun _ => True) _ trivial ?_ ?_
    · intro k hk _
      obtain ⟨b, hb⟩ := great_some l[k] (hw _ (List.getElem_mem hk)).2.1
      unfold raddleref45_GreatAll_l1
      simp only [dT (show (k : Int) < (l.length : Int) by omega), if_true, idxO_nat hk, Option.bind_some, hb, w64_succ (show k < 9223372036854775807 by omega)]
      cases b with
      | true => exact .inr ⟨_, rfl, trivial⟩
      | false => exact .inl ⟨rfl, trivial⟩
    · intro _
      refine ⟨.inr (), ?_, trivial⟩
      unfold raddleref45_GreatAll_l1
      simp only [dF (show ¬ (l.length : Int) < (l.length : Int) by omega), Bool.false_eq_true, if_false]
  obtain ⟨t, h1, _⟩ := key
  unfold F_raddleref45_GreatAll
  rw [h1]
  cases t with
  | inl z => exact ⟨_, rfl⟩
  | inr u =>
    simp only [Option.bind_some]
    by_cases c1 : (5 : Int) < (l.length : Int)
    · by_cases c2 : (l.length : Int) ≤ 20
      · simp only [dT c1, dT c2, if_true, Option.bind_some]; exact ⟨_, rfl⟩
      · simp only [dT c1, dF c2, if_true, Bool.false_eq_true, if_false, Option.bind_some]; exact ⟨_, rfl⟩
    · simp only [dF c1, Bool.false_eq_true, if_false, Option.bind_some]; exact ⟨_, rfl⟩
end Go.Proofs.Ytdbgkakmhlmpbaa
namespace Go.Proofs.Ytdbgkakmhlmpbaa
open Go.RowKit
set_option linter.unusedVariables false

noncomputable def raddlelaw45_first_l1 (p0 : (List api_Chart)) : Int → Option (Int ⊕ Int) := fun s0 => match s0 with
  | s8 =>
    Option.bind (α := Bool) (
      if decide (s8 < (p0.length : Int)) then
        Option.bind (idxO p0 s8) fun x18 =>
        Option.bind (F_raddleref26_Check x18) fun r27 =>
        some (r27 == 0)
      else
        some false) fun o14 =>
    if o14 then
      some (.inl (w64 (s8 + 1)))
    else
      some (.inr s8)
noncomputable def F_raddlelaw45_first (p0 : (List api_Chart)) : Option Int :=
  Option.bind (α := Int) (
    Option.bind (whileO (raddlelaw45_first_l1 p0) 0) fun e12 =>
      some e12) fun o5 =>
  some o5
set_option maxHeartbeats 4000000 in
set_option maxRecDepth 100000 in
theorem c_raddlelaw45_first (E : Nat → Prop) (w0 : World) (p0 : (List api_Chart)) (v0 : Value) (r : Int) (h : F_raddlelaw45_first p0 = some r) (S : St0 E [] w0 w0 [] [fRep (rL r_api_Chart) (v0) p0]) :
    Calls Try.prog 36 #[v0] w0 (Ret (X := Unit) E [] w0 (fun _ => .int .i64 r) (fun _ => []) (fun _ => [])) := by
  unfold F_raddlelaw45_first at h
  obtain ⟨ad1, cp2, _, rfl, _⟩ := S.know (i := 0) (e := fRep (rL r_api_Chart) (v0) p0) rfl
  refine sEnter (args := [.slice ad1 p0.length cp2]) 19 Try.func36 rfl rfl (by simp) S (fun a S => ?_)
  refine sSeq (fun K3 hK3 => ?_)
  refine sRegion ?_
  refine sMove (iv 0) S (wN rfl) (.inr rfl) rfl rfl (lb rfl) fun a S => ?_
  refine leafL (leafT (hK3 _ _ ?_))
  refine sSeq (fun K4 hK4 => ?_)
  refine sRegion ?_
  refine sMove (iv 0) S (wN rfl) (.inr rfl) rfl rfl (lb rfl) fun a S => ?_
  refine leafL (leafT (hK4 _ _ ?_))
  obtain ⟨t6, h, g7⟩ := bindSome h
  refine sCut (fun a w => ∃ o5, o5 = t6 ∧ St [] E [] w0 19 a w [(3, iv o5)] [] []) ?_ (fun a w hI => ?_)
  rotate_left
  · obtain ⟨o5, rfl, S⟩ := hI
    have h := g7
    clear g7
    try dsimp only at h
    refine sSeq (fun K30 hK30 => ?_)
    refine sRegion ?_
    refine sMove (iv o5) S (wN rfl) (.inl rfl) rfl rfl (lb rfl) fun a S => ?_
    refine sMove (iv o5) S (wN rfl) (.inr rfl) rfl rfl (lb rfl) fun a S => ?_
    refine leafL (leafT (hK30 _ _ ?_))
    obtain rfl := Option.some.inj h
    exact wp_ret (sRet (iv o5) S (rsl1 rfl (rvT (t := 2) (v := iv o5) S rfl)) ⟨(), rfl, S.mem.sel [] [] (by decide) rfl rfl⟩)
  refine wp_block ?_
  obtain ⟨t11, hl, g10⟩ := bindSome h
  refine sLoop hl (fun s0 a w => match s0 with | s8 => St [] E [] w0 19 a w [(0, .slice ad1 p0.length cp2), (3, iv s8)] [] [fRep (rL r_api_Chart) (.slice ad1 p0.length cp2) p0]) (S.fix [] [0] (by decide) rfl rfl rfl) ?_
  clear hl h
  intro s8 a w c0 hI h hu9
  unfold raddlelaw45_first_l1 at h
  dsimp only at h hI
  have S := hI
  refine sSeq (fun K13 hK13 => ?_)
  obtain ⟨t15, h, g16⟩ := bindSome h
  refine sCut (fun a w => ∃ o14, o14 = t15 ∧ St [] E [] w0 19 a w [(0, .slice ad1 p0.length cp2), (3, iv s8), (15, .bool o14)] [] [fRep (rL r_api_Chart) (.slice ad1 p0.length cp2) p0]) ?_ (fun a w hI => ?_)
  rotate_left
  · obtain ⟨o14, rfl, S⟩ := hI
    have h := g16
    clear g16
    try dsimp only at h
    rcases iteSome h with ⟨hc29, h⟩ | ⟨hc29, h⟩
    rotate_left
    · refine sCondF S rfl hc29 ?_
      obtain rfl := Option.some.inj h
      obtain rfl := hu9 _ rfl
      have h := g10
      clear g10
      try dsimp only at h
      exact wp_exit (xThen (xThen (xHit (leafT (⟨s8, Option.some.inj h, S.fix [] [] (by decide) rfl rfl rfl⟩)))))
    refine sCondT S rfl hc29 ?_
    refine wp_skip (leafT (hK13 _ _ ?_))
    refine wp_block ?_
    refine sRegion ?_
    refine sMove (iv s8) S (wN rfl) (.inl rfl) rfl rfl (lb rfl) fun a S => ?_
    refine sBin (iv (w64 (s8 + 1))) S (wN rfl) rfl rfl rfl (bAdd _ _ _ _ s8 1) rfl (lb rfl) fun a S => ?_
    refine sMove (iv (w64 (s8 + 1))) S (wN rfl) (.inr rfl) rfl rfl (lb rfl) fun a S => ?_
    exact leafL (leafB (leafT (⟨w64 (s8 + 1), (Option.some.inj h).symm, (S.fix [] [0] (by decide) rfl rfl rfl)⟩)))
  refine sRegion ?_
  refine sMove (iv s8) S (wN rfl) (.inl rfl) rfl rfl (lb rfl) fun a S => ?_
  refine sMove (.slice ad1 p0.length cp2) S (wN rfl) (.inl rfl) rfl rfl (lb rfl) fun a S => ?_
  refine sLen (ad := ad1) (m := p0.length) (c := cp2) S (wN rfl) rfl Try.underlying38 rfl rfl (lb rfl) fun a S => ?_
  refine sBin (.bool (decide (s8 < (p0.length : Int)))) S (wN rfl) rfl rfl rfl (bLt _ _ _ _ .i64 s8 (p0.length : Int)) rfl (lb rfl) fun a S => ?_
  refine sMove (.bool (decide (s8 < (p0.length : Int)))) S (wN rfl) (.inl rfl) rfl rfl (lb rfl) fun a S => ?_
  rcases iteSome h with ⟨hc17, h⟩ | ⟨hc17, h⟩
  rotate_left
  · refine sSkip 4 true 8 9 S rfl rfl rfl hc17 rfl (lb rfl) fun a S => ?_
    refine sSkip 4 true 8 10 S rfl rfl rfl hc17 rfl (lb rfl) fun a S => ?_
    refine sSkip 4 true 8 11 S rfl rfl rfl hc17 rfl (lb rfl) fun a S => ?_
    refine sSkip 4 true 8 12 S rfl rfl rfl hc17 rfl (lb rfl) fun a S => ?_
    refine sSkip 4 true 8 13 S rfl rfl rfl hc17 rfl (lb rfl) fun a S => ?_
    refine sSkip 4 true 8 14 S rfl rfl rfl hc17 rfl (lb rfl) fun a S => ?_
    refine sPickF (.bool false) S (wN rfl) rfl rfl hc17 rfl rfl (lb rfl) fun a S => ?_
    exact leafL (leafT (⟨false, Option.some.inj h, S.fix [] [0] (by decide) rfl rfl rfl⟩))
  refine sMove (.slice ad1 p0.length cp2) S (wG 4 true 8 rfl rfl rfl hc17) (.inl rfl) rfl rfl (lb rfl) fun a S => ?_
  refine sMove (iv s8) S (wG 4 true 8 rfl rfl rfl hc17) (.inl rfl) rfl rfl (lb rfl) fun a S => ?_
  obtain ⟨x18, hx19, h⟩ := bindSome h
  obtain ⟨q20, hq21, S⟩ := pIdx (P := Try.prog) (r := r_api_Chart) (v := .slice ad1 p0.length cp2) (xs := p0) (j := s8) 38 41 0 S Try.underlying38 rfl rfl hx19
  refine sIdxV (v := .slice ad1 p0.length cp2) (k := .i64) (j := s8) S (wG 4 true 8 rfl rfl rfl hc17) rfl rfl rfl hq21 rfl (lb rfl) fun a S => ?_
  obtain ⟨u22, S⟩ := pLoad (r := r_api_Chart) (q := q20) (x := x18) 0 S rfl
  obtain ⟨u23, rfl, hu24⟩ := S.mem.know (i := 1) (e := fRep r_api_Chart (u22) x18) rfl
  have S := S.learn (fRep (rL r_api_Row) u23 x18.Rows) hu24
  obtain ⟨ad25, cp26, _, rfl, _⟩ := hu24
  refine sLoadVN (vq := q20) 1 [iv x18.Start, .slice ad25 x18.Rows.length cp26] S (wG 4 true 8 rfl rfl rfl hc17) rfl rfl rfl rfl rfl rfl (lb rfl) fun a S => ?_
  obtain ⟨r27, hx28, h⟩ := bindSome h
  have S1 := S.mem
  refine sCallQ (X := Unit) (f := 30) (vs := [.agg #[iv x18.Start, .slice ad25 x18.Rows.length cp26]]) (val := fun _ => iv r27) S (wG 4 true 8 rfl rfl rfl hc17) rfl callee30 rfl (S1.quiet [2] rfl) (fun E1 w1 S1 => c_raddleref26_Check E1 w1 x18 (.agg #[iv x18.Start, .slice ad25 x18.Rows.length cp26]) r27 hx28 S1) rfl (lb rfl) fun _ a w S => ?_
  refine sBin (.bool (r27 == 0)) S (wG 4 true 8 rfl rfl rfl hc17) rfl rfl rfl (bEq _ _ _ _ .i64 r27 0) rfl (lb rfl) fun a S => ?_
  refine sPickT (.bool (r27 == 0)) S (wN rfl) rfl rfl hc17 rfl rfl (lb rfl) fun a S => ?_
  exact leafL (leafT (⟨r27 == 0, Option.some.inj h, S.fix [] [4] (by decide) rfl rfl rfl⟩))

end Go.Proofs.Ytdbgkakmhlmpbaa
namespace Go.Proofs.Ytdbgkakmhlmpbaa
open Go.RowKit
set_option linter.unusedVariables false

def anc_raddlelaw45_CostSums_0 : List (List Nat) := [[], [], [0, 1], [0, 1, 2], [], [0, 1, 2, 3, 4], [0, 1, 2, 3, 4, 5], [0, 1, 2, 3, 4, 5, 6], [0, 1, 2, 3, 4, 5, 6], [], [0, 1, 2, 3, 4, 5, 6, 7, 9], [0, 1, 2, 3, 4, 5, 6, 7, 8, 9, 10]]
noncomputable def raddlelaw45_CostSums_l1 (p2 : (List api_Chart)) (p3 : api_Rates) (r11 : Bool) : (List api_Chart × Int × Int × Int) → Option ((List api_Chart × Int × Int × Int) ⊕ (Bool ⊕ (List api_Chart × Int × Int))) := fun s0 => match s0 with
  | (s89, s92, s93, s94) =>
    if decide (s92 < (p2.length : Int)) then
      Option.bind (idxO p2 (w64 ((w64 ((p2.length : Int) - 1)) - s92))) fun x108 =>
      Option.bind (appO s89 [x108]) fun l119 =>
      Option.bind (α := (Int × Int × Int)) (
        Option.bind (idxO p2 s92) fun x129 =>
        Option.bind (F_cost_Need x129 p3) fun r138 =>
        some (r138.2, r138.1.Length, r138.1.Time)) fun (o124, o125, o126) =>
      if o124 != 0 then
        Option.bind (F_cost_Total p2 p3) fun r157 =>
        Option.bind (α := Bool) (
          if r11 then
            if r157.2 == o124 then
              Option.bind (F_raddlelaw45_first p2) fun r166 =>
              some (s92 == r166)
            else
              some false
          else
            some false) fun o161 =>
        some (.inr (.inl o161))
      else
        some (.inl (l119, w64 (s92 + 1), w64 (s93 + o125), w64 (s94 + o126)))
    else
      some (.inr (.inr (s89, s93, s94)))
noncomputable def F_raddlelaw45_CostSums (p0 : api_Chart) (p1 : Int) (p2 : (List api_Chart)) (p3 : api_Rates) : Option Bool :=
  Option.bind (F_raddlelaw45_alive) fun r11 =>
  Option.bind (α := Bool) (
    Option.bind (F_raddleref45_Great p0) fun r17 =>
    if r17 then
      some true
    else
      Option.bind (F_raddleref26_Check p0) fun r20 =>
      if r20 != 0 then
        some true
      else
        Option.bind (F_raddleref45_GreatAll p2) fun r23 =>
        if r23 then
          some true
        else
          if decide (5 < (p2.length : Int)) then
            some true
          else
            Option.bind (F_raddleref45_Check p3) fun r27 =>
            if r27 != 0 then
              some true
            else
              if decide (p1 < 0) then
                some true
              else
                if decide ((p0.Rows.length : Int) < p1) then
                  some true
                else
                  some (!r11)) fun o14 =>
  if o14 then
    some r11
  else
    Option.bind (F_cost_Need p0 p3) fun r35 =>
    Option.bind (F_chart_Part p0 0 p1) fun r40 =>
    Option.bind (F_chart_Part p0 p1 (p0.Rows.length : Int)) fun r49 =>
    Option.bind (F_cost_Need r40.1 p3) fun r58 =>
    Option.bind (F_cost_Need r49.1 p3) fun r63 =>
    Option.bind (α := Bool) (
      if r35.2 != 0 then
        some true
      else
        if r40.2 != 0 then
          some true
        else
          if r49.2 != 0 then
            some true
          else
            if r58.2 != 0 then
              some true
            else
              if r63.2 != 0 then
                some true
              else
                some (!((r35.1.Length == (w64 (r58.1.Length + r63.1.Length))) && ((r35.1.Time == (w64 (r58.1.Time + r63.1.Time))) && true)))) fun o68 =>
    if o68 then
      some false
    else
      Option.bind (α := (List api_Chart × Int × Int) ⊕ Bool) (
        Option.bind (whileO (raddlelaw45_CostSums_l1 p2 p3 r11) (([] : List api_Chart), 0, 0, 0)) fun z0 => match z0 with
          | .inl z =>
            some (.inr z)
          | .inr (e98, e101, e102) =>
            some (.inl (e98, e101, e102))) fun z0 => match z0 with
        | .inl (o81, o84, o85) =>
          Option.bind (F_cost_Total p2 p3) fun r170 =>
          Option.bind (F_cost_Total o81 p3) fun r175 =>
          Option.bind (α := Bool) (
            if r11 then
              if r170.2 == 0 then
                if r175.2 == 0 then
                  if ((r170.1.Length == o84) && ((r170.1.Time == o85) && true)) then
                    some ((r175.1.Length == o84) && ((r175.1.Time == o85) && true))
                  else
                    some false
                else
                  some false
              else
                some false
            else
              some false) fun o179 =>
          some o179
        | .inr z =>
          some z
set_option maxHeartbeats 4000000 in
set_option maxRecDepth 100000 in
theorem c_raddlelaw45_CostSums (E : Nat → Prop) (w0 : World) (p0 : api_Chart) (v0 : Value) (p1 : Int) (p2 : (List api_Chart)) (v2 : Value) (p3 : api_Rates) (v3 : Value) (r : Bool) (h : F_raddlelaw45_CostSums p0 p1 p2 p3 = some r) (S : St0 E [] w0 w0 [] [fRep r_api_Chart (v0) p0, fRep (rL r_api_Chart) (v2) p2, fRep r_api_Rates (v3) p3]) :
    Calls Try.prog 9 #[v0, iv p1, v2, v3] w0 (Ret (X := Unit) E [] w0 (fun _ => .bool r) (fun _ => []) (fun _ => [])) := by
  unfold F_raddlelaw45_CostSums at h
  obtain ⟨u1, rfl, hu2⟩ := S.know (i := 0) (e := fRep r_api_Chart (v0) p0) rfl
  have S := S.learn (fRep (rL r_api_Row) u1 p0.Rows) hu2
  obtain ⟨ad3, cp4, _, rfl, _⟩ := hu2
  obtain ⟨ad5, cp6, _, rfl, _⟩ := S.know (i := 2) (e := fRep (rL r_api_Chart) (v2) p2) rfl
  obtain rfl : v3 = gv_api_Rates p3 := S.know (i := 3) (e := fRep r_api_Rates (v3) p3) rfl
  refine sEnter (args := [.agg #[iv p0.Start, .slice ad3 p0.Rows.length cp4], iv p1, .slice ad5 p2.length cp6, gv_api_Rates p3]) 224 Try.func9 rfl rfl (by simp) S (fun a S => ?_)
  refine sSeq (fun K7 hK7 => ?_)
  refine sRegion ?_
  refine sBox (v := .agg #[iv p0.Start, .slice ad3 p0.Rows.length cp4]) S (wN rfl) rfl rfl [iv p0.Start, .slice ad3 p0.Rows.length cp4] rfl rfl (lb rfl) fun a b8 w S => ?_
  refine sBox (v := gv_api_Rates p3) S (wN rfl) rfl rfl (gl_api_Rates p3) rfl rfl (lb rfl) fun a b9 w S => ?_
  refine sMove (.bool false) S (wN rfl) (.inr rfl) rfl rfl (lb rfl) fun a S => ?_
  refine leafL (leafT (hK7 _ _ ?_))
  refine sSeq (fun K10 hK10 => ?_)
  refine sRegion ?_
  obtain ⟨r11, hx12, h⟩ := bindSome h
  have S1 := S.mem
  refine sCallQ (X := Unit) (f := 24) (vs := []) (val := fun _ => .bool r11) S (wN rfl) rfl callee24 rfl (S1.quiet [] rfl) (fun E1 w1 S1 => c_raddlelaw45_alive E1 w1  r11 hx12 S1) rfl (lb rfl) fun _ a w S => ?_
  refine sMove (.bool r11) S (wN rfl) (.inr rfl) rfl rfl (lb rfl) fun a S => ?_
  refine leafL (leafT (hK10 _ _ ?_))
  refine sSeq (fun K13 hK13 => ?_)
  obtain ⟨t15, h, g16⟩ := bindSome h
  refine sCut (fun a w => ∃ o14, o14 = t15 ∧ St [] E [] w0 224 a w [(1, iv p1), (2, .slice ad5 p2.length cp6), (4, .pointer (some ⟨b8, 0, none⟩)), (7, .pointer (some ⟨b9, 0, none⟩)), (9, .bool r11), (67, .bool o14)] [eBox b8 41 [iv p0.Start, .slice ad3 p0.Rows.length cp4], eBox b9 44 (gl_api_Rates p3)] [fRep (rL r_api_Chart) (.slice ad5 p2.length cp6) p2, fRep (rL r_api_Row) (.slice ad3 p0.Rows.length cp4) p0.Rows]) ?_ (fun a w hI => ?_)
  · refine sRegion ?_
    refine sLoadN (p := b8) (off := 0) (T := 41) (vs := [iv p0.Start, .slice ad3 p0.Rows.length cp4]) 1 [iv p0.Start, .slice ad3 p0.Rows.length cp4] S (wN rfl) rfl rfl rfl rfl rfl rfl rfl (lb rfl) fun a S => ?_
    obtain ⟨r17, hx18, h⟩ := bindSome h
    have S1 := S.mem
    refine sCallQ (X := Unit) (f := 14) (vs := [.agg #[iv p0.Start, .slice ad3 p0.Rows.length cp4]]) (val := fun _ => .bool r17) S (wN rfl) rfl callee14 rfl (S1.quiet [1] rfl) (fun E1 w1 S1 => c_raddleref45_Great E1 w1 p0 (.agg #[iv p0.Start, .slice ad3 p0.Rows.length cp4]) r17 hx18 S1) rfl (lb rfl) fun _ a w S => ?_
    refine sMove (.bool r17) S (wN rfl) (.inl rfl) rfl rfl (lb rfl) fun a S => ?_
    rcases iteSome h with ⟨hc19, h⟩ | ⟨hc19, h⟩
    · refine sSkip 2 false 34 35 S rfl rfl rfl hc19 rfl (lb rfl) fun a S => ?_
      refine sSkip 2 false 34 36 S rfl rfl rfl hc19 rfl (lb rfl) fun a S => ?_
      refine sSkip 2 false 34 37 S rfl rfl rfl hc19 rfl (lb rfl) fun a S => ?_
      refine sPickT (.bool true) S (wN rfl) rfl rfl hc19 rfl rfl (lb rfl) fun a S => ?_
      refine sMove (.bool true) S (wN rfl) (.inl rfl) rfl rfl (lb rfl) fun a S => ?_
      refine sSkip 7 false 39 40 S rfl rfl rfl rfl rfl (lb rfl) fun a S => ?_
      refine sSkip 7 false 39 41 S rfl rfl rfl rfl rfl (lb rfl) fun a S => ?_
      refine sPickT (.bool true) S (wN rfl) rfl rfl rfl rfl rfl (lb rfl) fun a S => ?_
      refine sMove (.bool true) S (wN rfl) (.inl rfl) rfl rfl (lb rfl) fun a S => ?_
      refine sSkip 11 false 43 44 S rfl rfl rfl rfl rfl (lb rfl) fun a S => ?_
      refine sSkip 11 false 43 45 S rfl rfl rfl rfl rfl (lb rfl) fun a S => ?_
      refine sSkip 11 false 43 46 S rfl rfl rfl rfl rfl (lb rfl) fun a S => ?_
      refine sPickT (.bool true) S (wN rfl) rfl rfl rfl rfl rfl (lb rfl) fun a S => ?_
      refine sMove (.bool true) S (wN rfl) (.inl rfl) rfl rfl (lb rfl) fun a S => ?_
      refine sSkip 16 false 48 49 S rfl rfl rfl rfl rfl (lb rfl) fun a S => ?_
      refine sSkip 16 false 48 50 S rfl rfl rfl rfl rfl (lb rfl) fun a S => ?_
      refine sSkip 16 false 48 51 S rfl rfl rfl rfl rfl (lb rfl) fun a S => ?_
      refine sPickT (.bool true) S (wN rfl) rfl rfl rfl rfl rfl (lb rfl) fun a S => ?_
      refine sMove (.bool true) S (wN rfl) (.inl rfl) rfl rfl (lb rfl) fun a S => ?_
      refine sSkip 21 false 53 54 S rfl rfl rfl rfl rfl (lb rfl) fun a S => ?_
      refine sSkip 21 false 53 55 S rfl rfl rfl rfl rfl (lb rfl) fun a S => ?_
      refine sPickT (.bool true) S (wN rfl) rfl rfl rfl rfl rfl (lb rfl) fun a S => ?_
      refine sMove (.bool true) S (wN rfl) (.inl rfl) rfl rfl (lb rfl) fun a S => ?_
      refine sSkip 25 false 57 58 S rfl rfl rfl rfl rfl (lb rfl) fun a S => ?_
      refine sSkip 25 false 57 59 S rfl rfl rfl rfl rfl (lb rfl) fun a S => ?_
      refine sSkip 25 false 57 60 S rfl rfl rfl rfl rfl (lb rfl) fun a S => ?_
      refine sSkip 25 false 57 61 S rfl rfl rfl rfl rfl (lb rfl) fun a S => ?_
      refine sSkip 25 false 57 62 S rfl rfl rfl rfl rfl (lb rfl) fun a S => ?_
      refine sPickT (.bool true) S (wN rfl) rfl rfl rfl rfl rfl (lb rfl) fun a S => ?_
      refine sMove (.bool true) S (wN rfl) (.inl rfl) rfl rfl (lb rfl) fun a S => ?_
      refine sSkip 32 false 64 65 S rfl rfl rfl rfl rfl (lb rfl) fun a S => ?_
      refine sSkip 32 false 64 66 S rfl rfl rfl rfl rfl (lb rfl) fun a S => ?_
      refine sPickT (.bool true) S (wN rfl) rfl rfl rfl rfl rfl (lb rfl) fun a S => ?_
      exact leafL (leafT (⟨true, Option.some.inj h, S.fix [1, 0] [2, 0] (by decide) rfl rfl rfl⟩))
    refine sLoadN (p := b8) (off := 0) (T := 41) (vs := [iv p0.Start, .slice ad3 p0.Rows.length cp4]) 1 [iv p0.Start, .slice ad3 p0.Rows.length cp4] S (wG 2 false 34 rfl rfl rfl hc19) rfl rfl rfl rfl rfl rfl rfl (lb rfl) fun a S => ?_
    obtain ⟨r20, hx21, h⟩ := bindSome h
    have S1 := S.mem
    refine sCallQ (X := Unit) (f := 30) (vs := [.agg #[iv p0.Start, .slice ad3 p0.Rows.length cp4]]) (val := fun _ => iv r20) S (wG 2 false 34 rfl rfl rfl hc19) rfl callee30 rfl (S1.quiet [1] rfl) (fun E1 w1 S1 => c_raddleref26_Check E1 w1 p0 (.agg #[iv p0.Start, .slice ad3 p0.Rows.length cp4]) r20 hx21 S1) rfl (lb rfl) fun _ a w S => ?_
    refine sBin (.bool (r20 != 0)) S (wG 2 false 34 rfl rfl rfl hc19) rfl rfl rfl (bNe _ _ _ _ .i64 r20 0) rfl (lb rfl) fun a S => ?_
    refine sPickF (.bool (r20 != 0)) S (wN rfl) rfl rfl hc19 rfl rfl (lb rfl) fun a S => ?_
    refine sMove (.bool (r20 != 0)) S (wN rfl) (.inl rfl) rfl rfl (lb rfl) fun a S => ?_
    rcases iteSome h with ⟨hc22, h⟩ | ⟨hc22, h⟩
    · refine sSkip 7 false 39 40 S rfl rfl rfl hc22 rfl (lb rfl) fun a S => ?_
      refine sSkip 7 false 39 41 S rfl rfl rfl hc22 rfl (lb rfl) fun a S => ?_
      refine sPickT (.bool true) S (wN rfl) rfl rfl hc22 rfl rfl (lb rfl) fun a S => ?_
      refine sMove (.bool true) S (wN rfl) (.inl rfl) rfl rfl (lb rfl) fun a S => ?_
      refine sSkip 11 false 43 44 S rfl rfl rfl rfl rfl (lb rfl) fun a S => ?_
      refine sSkip 11 false 43 45 S rfl rfl rfl rfl rfl (lb rfl) fun a S => ?_
      refine sSkip 11 false 43 46 S rfl rfl rfl rfl rfl (lb rfl) fun a S => ?_
      refine sPickT (.bool true) S (wN rfl) rfl rfl rfl rfl rfl (lb rfl) fun a S => ?_
      refine sMove (.bool true) S (wN rfl) (.inl rfl) rfl rfl (lb rfl) fun a S => ?_
      refine sSkip 16 false 48 49 S rfl rfl rfl rfl rfl (lb rfl) fun a S => ?_
      refine sSkip 16 false 48 50 S rfl rfl rfl rfl rfl (lb rfl) fun a S => ?_
      refine sSkip 16 false 48 51 S rfl rfl rfl rfl rfl (lb rfl) fun a S => ?_
      refine sPickT (.bool true) S (wN rfl) rfl rfl rfl rfl rfl (lb rfl) fun a S => ?_
      refine sMove (.bool true) S (wN rfl) (.inl rfl) rfl rfl (lb rfl) fun a S => ?_
      refine sSkip 21 false 53 54 S rfl rfl rfl rfl rfl (lb rfl) fun a S => ?_
      refine sSkip 21 false 53 55 S rfl rfl rfl rfl rfl (lb rfl) fun a S => ?_
      refine sPickT (.bool true) S (wN rfl) rfl rfl rfl rfl rfl (lb rfl) fun a S => ?_
      refine sMove (.bool true) S (wN rfl) (.inl rfl) rfl rfl (lb rfl) fun a S => ?_
      refine sSkip 25 false 57 58 S rfl rfl rfl rfl rfl (lb rfl) fun a S => ?_
      refine sSkip 25 false 57 59 S rfl rfl rfl rfl rfl (lb rfl) fun a S => ?_
      refine sSkip 25 false 57 60 S rfl rfl rfl rfl rfl (lb rfl) fun a S => ?_
      refine sSkip 25 false 57 61 S rfl rfl rfl rfl rfl (lb rfl) fun a S => ?_
      refine sSkip 25 false 57 62 S rfl rfl rfl rfl rfl (lb rfl) fun a S => ?_
      refine sPickT (.bool true) S (wN rfl) rfl rfl rfl rfl rfl (lb rfl) fun a S => ?_
      refine sMove (.bool true) S (wN rfl) (.inl rfl) rfl rfl (lb rfl) fun a S => ?_
      refine sSkip 32 false 64 65 S rfl rfl rfl rfl rfl (lb rfl) fun a S => ?_
      refine sSkip 32 false 64 66 S rfl rfl rfl rfl rfl (lb rfl) fun a S => ?_
      refine sPickT (.bool true) S (wN rfl) rfl rfl rfl rfl rfl (lb rfl) fun a S => ?_
      exact leafL (leafT (⟨true, Option.some.inj h, S.fix [1, 0] [2, 0] (by decide) rfl rfl rfl⟩))
    refine sMove (.slice ad5 p2.length cp6) S (wG 7 false 39 rfl rfl rfl hc22) (.inl rfl) rfl rfl (lb rfl) fun a S => ?_
    obtain ⟨r23, hx24, h⟩ := bindSome h
    have S1 := S.mem
    refine sCallQ (X := Unit) (f := 15) (vs := [.slice ad5 p2.length cp6]) (val := fun _ => .bool r23) S (wG 7 false 39 rfl rfl rfl hc22) rfl callee15 rfl (S1.quiet [2] rfl) (fun E1 w1 S1 => c_raddleref45_GreatAll E1 w1 p2 (.slice ad5 p2.length cp6) r23 hx24 S1) rfl (lb rfl) fun _ a w S => ?_
    refine sPickF (.bool r23) S (wN rfl) rfl rfl hc22 rfl rfl (lb rfl) fun a S => ?_
    refine sMove (.bool r23) S (wN rfl) (.inl rfl) rfl rfl (lb rfl) fun a S => ?_
    rcases iteSome h with ⟨hc25, h⟩ | ⟨hc25, h⟩
    · refine sSkip 11 false 43 44 S rfl rfl rfl hc25 rfl (lb rfl) fun a S => ?_
      refine sSkip 11 false 43 45 S rfl rfl rfl hc25 rfl (lb rfl) fun a S => ?_
      refine sSkip 11 false 43 46 S rfl rfl rfl hc25 rfl (lb rfl) fun a S => ?_
      refine sPickT (.bool true) S (wN rfl) rfl rfl hc25 rfl rfl (lb rfl) fun a S => ?_
      refine sMove (.bool true) S (wN rfl) (.inl rfl) rfl rfl (lb rfl) fun a S => ?_
      refine sSkip 16 false 48 49 S rfl rfl rfl rfl rfl (lb rfl) fun a S => ?_
      refine sSkip 16 false 48 50 S rfl rfl rfl rfl rfl (lb rfl) fun a S => ?_
      refine sSkip 16 false 48 51 S rfl rfl rfl rfl rfl (lb rfl) fun a S => ?_
      refine sPickT (.bool true) S (wN rfl) rfl rfl rfl rfl rfl (lb rfl) fun a S => ?_
      refine sMove (.bool true) S (wN rfl) (.inl rfl) rfl rfl (lb rfl) fun a S => ?_
      refine sSkip 21 false 53 54 S rfl rfl rfl rfl rfl (lb rfl) fun a S => ?_
      refine sSkip 21 false 53 55 S rfl rfl rfl rfl rfl (lb rfl) fun a S => ?_
      refine sPickT (.bool true) S (wN rfl) rfl rfl rfl rfl rfl (lb rfl) fun a S => ?_
      refine sMove (.bool true) S (wN rfl) (.inl rfl) rfl rfl (lb rfl) fun a S => ?_
      refine sSkip 25 false 57 58 S rfl rfl rfl rfl rfl (lb rfl) fun a S => ?_
      refine sSkip 25 false 57 59 S rfl rfl rfl rfl rfl (lb rfl) fun a S => ?_
      refine sSkip 25 false 57 60 S rfl rfl rfl rfl rfl (lb rfl) fun a S => ?_
      refine sSkip 25 false 57 61 S rfl rfl rfl rfl rfl (lb rfl) fun a S => ?_
      refine sSkip 25 false 57 62 S rfl rfl rfl rfl rfl (lb rfl) fun a S => ?_
      refine sPickT (.bool true) S (wN rfl) rfl rfl rfl rfl rfl (lb rfl) fun a S => ?_
      refine sMove (.bool true) S (wN rfl) (.inl rfl) rfl rfl (lb rfl) fun a S => ?_
      refine sSkip 32 false 64 65 S rfl rfl rfl rfl rfl (lb rfl) fun a S => ?_
      refine sSkip 32 false 64 66 S rfl rfl rfl rfl rfl (lb rfl) fun a S => ?_
      refine sPickT (.bool true) S (wN rfl) rfl rfl rfl rfl rfl (lb rfl) fun a S => ?_
      exact leafL (leafT (⟨true, Option.some.inj h, S.fix [1, 0] [2, 0] (by decide) rfl rfl rfl⟩))
    refine sMove (.slice ad5 p2.length cp6) S (wG 11 false 43 rfl rfl rfl hc25) (.inl rfl) rfl rfl (lb rfl) fun a S => ?_
    refine sLen (ad := ad5) (m := p2.length) (c := cp6) S (wG 11 false 43 rfl rfl rfl hc25) rfl Try.underlying38 rfl rfl (lb rfl) fun a S => ?_
    refine sBin (.bool (decide (5 < (p2.length : Int)))) S (wG 11 false 43 rfl rfl rfl hc25) rfl rfl rfl (bGt _ _ _ _ .i64 (p2.length : Int) 5) rfl (lb rfl) fun a S => ?_
    refine sPickF (.bool (decide (5 < (p2.length : Int)))) S (wN rfl) rfl rfl hc25 rfl rfl (lb rfl) fun a S => ?_
    refine sMove (.bool (decide (5 < (p2.length : Int)))) S (wN rfl) (.inl rfl) rfl rfl (lb rfl) fun a S => ?_
    rcases iteSome h with ⟨hc26, h⟩ | ⟨hc26, h⟩
    · refine sSkip 16 false 48 49 S rfl rfl rfl hc26 rfl (lb rfl) fun a S => ?_
      refine sSkip 16 false 48 50 S rfl rfl rfl hc26 rfl (lb rfl) fun a S => ?_
      refine sSkip 16 false 48 51 S rfl rfl rfl hc26 rfl (lb rfl) fun a S => ?_
      refine sPickT (.bool true) S (wN rfl) rfl rfl hc26 rfl rfl (lb rfl) fun a S => ?_
      refine sMove (.bool true) S (wN rfl) (.inl rfl) rfl rfl (lb rfl) fun a S => ?_
      refine sSkip 21 false 53 54 S rfl rfl rfl rfl rfl (lb rfl) fun a S => ?_
      refine sSkip 21 false 53 55 S rfl rfl rfl rfl rfl (lb rfl) fun a S => ?_
      refine sPickT (.bool true) S (wN rfl) rfl rfl rfl rfl rfl (lb rfl) fun a S => ?_
      refine sMove (.bool true) S (wN rfl) (.inl rfl) rfl rfl (lb rfl) fun a S => ?_
      refine sSkip 25 false 57 58 S rfl rfl rfl rfl rfl (lb rfl) fun a S => ?_
      refine sSkip 25 false 57 59 S rfl rfl rfl rfl rfl (lb rfl) fun a S => ?_
      refine sSkip 25 false 57 60 S rfl rfl rfl rfl rfl (lb rfl) fun a S => ?_
      refine sSkip 25 false 57 61 S rfl rfl rfl rfl rfl (lb rfl) fun a S => ?_
      refine sSkip 25 false 57 62 S rfl rfl rfl rfl rfl (lb rfl) fun a S => ?_
      refine sPickT (.bool true) S (wN rfl) rfl rfl rfl rfl rfl (lb rfl) fun a S => ?_
      refine sMove (.bool true) S (wN rfl) (.inl rfl) rfl rfl (lb rfl) fun a S => ?_
      refine sSkip 32 false 64 65 S rfl rfl rfl rfl rfl (lb rfl) fun a S => ?_
      refine sSkip 32 false 64 66 S rfl rfl rfl rfl rfl (lb rfl) fun a S => ?_
      refine sPickT (.bool true) S (wN rfl) rfl rfl rfl rfl rfl (lb rfl) fun a S => ?_
      exact leafL (leafT (⟨true, Option.some.inj h, S.fix [1, 0] [2, 0] (by decide) rfl rfl rfl⟩))
    refine sLoadN (p := b9) (off := 0) (T := 44) (vs := (gl_api_Rates p3)) 0 (gl_api_Rates p3) S (wG 16 false 48 rfl rfl rfl hc26) rfl rfl rfl rfl rfl rfl rfl (lb rfl) fun a S => ?_
    obtain ⟨r27, hx28, h⟩ := bindSome h
    have S1 := S.mem
    refine sCallQ (X := Unit) (f := 23) (vs := [gv_api_Rates p3]) (val := fun _ => iv r27) S (wG 16 false 48 rfl rfl rfl hc26) rfl callee23 rfl (S1.quiet [3] rfl) (fun E1 w1 S1 => c_raddleref45_Check E1 w1 p3 (gv_api_Rates p3) r27 hx28 S1) rfl (lb rfl) fun _ a w S => ?_
    refine sBin (.bool (r27 != 0)) S (wG 16 false 48 rfl rfl rfl hc26) rfl rfl rfl (bNe _ _ _ _ .i64 r27 0) rfl (lb rfl) fun a S => ?_
    refine sPickF (.bool (r27 != 0)) S (wN rfl) rfl rfl hc26 rfl rfl (lb rfl) fun a S => ?_
    refine sMove (.bool (r27 != 0)) S (wN rfl) (.inl rfl) rfl rfl (lb rfl) fun a S => ?_
    rcases iteSome h with ⟨hc29, h⟩ | ⟨hc29, h⟩
    · refine sSkip 21 false 53 54 S rfl rfl rfl hc29 rfl (lb rfl) fun a S => ?_
      refine sSkip 21 false 53 55 S rfl rfl rfl hc29 rfl (lb rfl) fun a S => ?_
      refine sPickT (.bool true) S (wN rfl) rfl rfl hc29 rfl rfl (lb rfl) fun a S => ?_
      refine sMove (.bool true) S (wN rfl) (.inl rfl) rfl rfl (lb rfl) fun a S => ?_
      refine sSkip 25 false 57 58 S rfl rfl rfl rfl rfl (lb rfl) fun a S => ?_
      refine sSkip 25 false 57 59 S rfl rfl rfl rfl rfl (lb rfl) fun a S => ?_
      refine sSkip 25 false 57 60 S rfl rfl rfl rfl rfl (lb rfl) fun a S => ?_
      refine sSkip 25 false 57 61 S rfl rfl rfl rfl rfl (lb rfl) fun a S => ?_
      refine sSkip 25 false 57 62 S rfl rfl rfl rfl rfl (lb rfl) fun a S => ?_
      refine sPickT (.bool true) S (wN rfl) rfl rfl rfl rfl rfl (lb rfl) fun a S => ?_
      refine sMove (.bool true) S (wN rfl) (.inl rfl) rfl rfl (lb rfl) fun a S => ?_
      refine sSkip 32 false 64 65 S rfl rfl rfl rfl rfl (lb rfl) fun a S => ?_
      refine sSkip 32 false 64 66 S rfl rfl rfl rfl rfl (lb rfl) fun a S => ?_
      refine sPickT (.bool true) S (wN rfl) rfl rfl rfl rfl rfl (lb rfl) fun a S => ?_
      exact leafL (leafT (⟨true, Option.some.inj h, S.fix [1, 0] [2, 0] (by decide) rfl rfl rfl⟩))
    refine sMove (iv p1) S (wG 21 false 53 rfl rfl rfl hc29) (.inl rfl) rfl rfl (lb rfl) fun a S => ?_
    refine sBin (.bool (decide (p1 < 0))) S (wG 21 false 53 rfl rfl rfl hc29) rfl rfl rfl (bLt _ _ _ _ .i64 p1 0) rfl (lb rfl) fun a S => ?_
    refine sPickF (.bool (decide (p1 < 0))) S (wN rfl) rfl rfl hc29 rfl rfl (lb rfl) fun a S => ?_
    refine sMove (.bool (decide (p1 < 0))) S (wN rfl) (.inl rfl) rfl rfl (lb rfl) fun a S => ?_
    rcases iteSome h with ⟨hc30, h⟩ | ⟨hc30, h⟩
    · refine sSkip 25 false 57 58 S rfl rfl rfl hc30 rfl (lb rfl) fun a S => ?_
      refine sSkip 25 false 57 59 S rfl rfl rfl hc30 rfl (lb rfl) fun a S => ?_
      refine sSkip 25 false 57 60 S rfl rfl rfl hc30 rfl (lb rfl) fun a S => ?_
      refine sSkip 25 false 57 61 S rfl rfl rfl hc30 rfl (lb rfl) fun a S => ?_
      refine sSkip 25 false 57 62 S rfl rfl rfl hc30 rfl (lb rfl) fun a S => ?_
      refine sPickT (.bool true) S (wN rfl) rfl rfl hc30 rfl rfl (lb rfl) fun a S => ?_
      refine sMove (.bool true) S (wN rfl) (.inl rfl) rfl rfl (lb rfl) fun a S => ?_
      refine sSkip 32 false 64 65 S rfl rfl rfl rfl rfl (lb rfl) fun a S => ?_
      refine sSkip 32 false 64 66 S rfl rfl rfl rfl rfl (lb rfl) fun a S => ?_
      refine sPickT (.bool true) S (wN rfl) rfl rfl rfl rfl rfl (lb rfl) fun a S => ?_
      exact leafL (leafT (⟨true, Option.some.inj h, S.fix [1, 0] [2, 0] (by decide) rfl rfl rfl⟩))
    refine sMove (iv p1) S (wG 25 false 57 rfl rfl rfl hc30) (.inl rfl) rfl rfl (lb rfl) fun a S => ?_
    refine sField (b := b8) (off := 0) 1 1 S (wG 25 false 57 rfl rfl rfl hc30) rfl rfl rfl rfl rfl (lb rfl) fun a S => ?_
    refine sLoad1 (p := b8) (off := 1) (T := 41) (vs := [iv p0.Start, .slice ad3 p0.Rows.length cp4]) 1 (.slice ad3 p0.Rows.length cp4) S (wG 25 false 57 rfl rfl rfl hc30) rfl rfl rfl rfl rfl rfl (lb rfl) fun a S => ?_
    refine sLen (ad := ad3) (m := p0.Rows.length) (c := cp4) S (wG 25 false 57 rfl rfl rfl hc30) rfl Try.underlying39 rfl rfl (lb rfl) fun a S => ?_
    refine sBin (.bool (decide ((p0.Rows.length : Int) < p1))) S (wG 25 false 57 rfl rfl rfl hc30) rfl rfl rfl (bGt _ _ _ _ .i64 p1 (p0.Rows.length : Int)) rfl (lb rfl) fun a S => ?_
    refine sPickF (.bool (decide ((p0.Rows.length : Int) < p1))) S (wN rfl) rfl rfl hc30 rfl rfl (lb rfl) fun a S => ?_
    refine sMove (.bool (decide ((p0.Rows.length : Int) < p1))) S (wN rfl) (.inl rfl) rfl rfl (lb rfl) fun a S => ?_
    rcases iteSome h with ⟨hc31, h⟩ | ⟨hc31, h⟩
    · refine sSkip 32 false 64 65 S rfl rfl rfl hc31 rfl (lb rfl) fun a S => ?_
      refine sSkip 32 false 64 66 S rfl rfl rfl hc31 rfl (lb rfl) fun a S => ?_
      refine sPickT (.bool true) S (wN rfl) rfl rfl hc31 rfl rfl (lb rfl) fun a S => ?_
      exact leafL (leafT (⟨true, Option.some.inj h, S.fix [1, 0] [2, 0] (by decide) rfl rfl rfl⟩))
    refine sMove (.bool r11) S (wG 32 false 64 rfl rfl rfl hc31) (.inl rfl) rfl rfl (lb rfl) fun a S => ?_
    refine sNot (b := r11) S (wG 32 false 64 rfl rfl rfl hc31) rfl rfl rfl (lb rfl) fun a S => ?_
    refine sPickF (.bool (!r11)) S (wN rfl) rfl rfl hc31 rfl rfl (lb rfl) fun a S => ?_
    exact leafL (leafT (⟨!r11, Option.some.inj h, S.fix [1, 0] [2, 0] (by decide) rfl rfl rfl⟩))
  obtain ⟨o14, rfl, S⟩ := hI
  have h := g16
  clear g16
  try dsimp only at h
  rcases iteSome h with ⟨hc32, h⟩ | ⟨hc32, h⟩
  · refine sCondT S rfl hc32 ?_
    refine sSeq (fun K33 hK33 => ?_)
    refine sRegion ?_
    refine sMove (.bool r11) S (wN rfl) (.inl rfl) rfl rfl (lb rfl) fun a S => ?_
    refine sMove (.bool r11) S (wN rfl) (.inr rfl) rfl rfl (lb rfl) fun a S => ?_
    refine leafL (leafT (hK33 _ _ ?_))
    obtain rfl := Option.some.inj h
    exact wp_ret (rThen (sRet (.bool r11) S (rsl1 rfl (rvT (t := 8) (v := .bool r11) S rfl)) ⟨(), rfl, S.mem.sel [] [] (by decide) rfl rfl⟩))
  refine sCondF S rfl hc32 ?_
  refine wp_skip (leafT (hK13 _ _ ?_))
  refine sSeq (fun K34 hK34 => ?_)
  refine sRegion ?_
  refine sLoadN (p := b8) (off := 0) (T := 41) (vs := [iv p0.Start, .slice ad3 p0.Rows.length cp4]) 0 [iv p0.Start, .slice ad3 p0.Rows.length cp4] S (wN rfl) rfl rfl rfl rfl rfl rfl rfl (lb rfl) fun a S => ?_
  refine sLoadN (p := b9) (off := 0) (T := 44) (vs := (gl_api_Rates p3)) 1 (gl_api_Rates p3) S (wN rfl) rfl rfl rfl rfl rfl rfl rfl (lb rfl) fun a S => ?_
  obtain ⟨r35, hx36, h⟩ := bindSome h
  have S := S.learn (fRep r_api_Chart (.agg #[iv p0.Start, .slice ad3 p0.Rows.length cp4]) p0) ⟨_, rfl, S.mem.know (i := 1) (e := fRep (rL r_api_Row) (.slice ad3 p0.Rows.length cp4) p0.Rows) rfl⟩
  have S := S.learn (fRep r_api_Rates (gv_api_Rates p3) p3) rfl
  refine sCall (X := Value) (f := 18) (vs := [.agg #[iv p0.Start, .slice ad3 p0.Rows.length cp4], gv_api_Rates p3]) (val := c_cost_Need_val r35) (B' := fun _ => []) (D' := c_cost_Need_D r35) [] [eBox b8 41 [iv p0.Start, .slice ad3 p0.Rows.length cp4], eBox b9 44 (gl_api_Rates p3)] [fRep r_api_Chart (.agg #[iv p0.Start, .slice ad3 p0.Rows.length cp4]) p0, fRep r_api_Rates (gv_api_Rates p3) p3] [0, 1] [1, 0] S (wN rfl) rfl callee18 rfl (by decide) rfl rfl (fun E1 w1 S1 => c_cost_Need E1 w1 p0 (.agg #[iv p0.Start, .slice ad3 p0.Rows.length cp4]) p3 (gv_api_Rates p3) r35 hx36 S1) rfl (lb rfl) fun u37 a w S => ?_
  obtain rfl : u37 = .agg #[iv r35.1.Length, iv r35.1.Time] := S.mem.know (i := 0) (e := fRep r_api_Bill (u37) r35.1) rfl
  refine sMove (.tuple #[.agg #[iv r35.1.Length, iv r35.1.Time], iv r35.2]) S (wN rfl) (.inl rfl) rfl rfl (lb rfl) fun a S => ?_
  refine sExtract (vs := [.agg #[iv r35.1.Length, iv r35.1.Time], iv r35.2]) (.agg #[iv r35.1.Length, iv r35.1.Time]) S (wN rfl) rfl rfl rfl rfl (lb rfl) fun a S => ?_
  refine sExtract (vs := [.agg #[iv r35.1.Length, iv r35.1.Time], iv r35.2]) (iv r35.2) S (wN rfl) rfl rfl rfl rfl (lb rfl) fun a S => ?_
  refine sAlloc (.agg #[iv 0, iv 0]) S (wN rfl) rfl rfl [iv 0, iv 0] rfl rfl (lb rfl) fun a b38 w S => ?_
  refine sStore (p := b38) (off := 0) (T := 23) (vs := [iv 0, iv 0]) (v := .agg #[iv r35.1.Length, iv r35.1.Time]) 0 [iv r35.1.Length, iv r35.1.Time] S (wN rfl) rfl rfl rfl rfl rfl rfl rfl (by simp) rfl fun a w S => ?_
  refine sMove (iv r35.2) S (wN rfl) (.inr rfl) rfl rfl (lb rfl) fun a S => ?_
  refine leafL (leafT (hK34 _ _ ?_))
  refine sSeq (fun K39 hK39 => ?_)
  refine sRegion ?_
  refine sLoadN (p := b8) (off := 0) (T := 41) (vs := [iv p0.Start, .slice ad3 p0.Rows.length cp4]) 1 [iv p0.Start, .slice ad3 p0.Rows.length cp4] S (wN rfl) rfl rfl rfl rfl rfl rfl rfl (lb rfl) fun a S => ?_
  refine sMove (iv p1) S (wN rfl) (.inl rfl) rfl rfl (lb rfl) fun a S => ?_
  obtain ⟨r40, hx41, h⟩ := bindSome h
  refine sCall (X := Value) (f := 35) (vs := [.agg #[iv p0.Start, .slice ad3 p0.Rows.length cp4], iv 0, iv p1]) (val := c_chart_Part_val r40) (B' := fun _ => []) (D' := c_chart_Part_D r40) [] [eBox b38 23 [iv r35.1.Length, iv r35.1.Time], eBox b8 41 [iv p0.Start, .slice ad3 p0.Rows.length cp4], eBox b9 44 (gl_api_Rates p3)] [fRep r_api_Chart (.agg #[iv p0.Start, .slice ad3 p0.Rows.length cp4]) p0] [0, 1, 2] [2] S (wN rfl) rfl callee35 rfl (by decide) rfl rfl (fun E1 w1 S1 => c_chart_Part E1 w1 p0 (.agg #[iv p0.Start, .slice ad3 p0.Rows.length cp4]) 0 p1 r40 hx41 S1) rfl (lb rfl) fun u42 a w S => ?_
  obtain ⟨u43, rfl, hu44⟩ := S.mem.know (i := 0) (e := fRep r_api_Chart (u42) r40.1) rfl
  have S := S.learn (fRep (rL r_api_Row) u43 r40.1.Rows) hu44
  obtain ⟨ad45, cp46, _, rfl, _⟩ := hu44
  refine sMove (.tuple #[.agg #[iv r40.1.Start, .slice ad45 r40.1.Rows.length cp46], iv r40.2]) S (wN rfl) (.inl rfl) rfl rfl (lb rfl) fun a S => ?_
  refine sExtract (vs := [.agg #[iv r40.1.Start, .slice ad45 r40.1.Rows.length cp46], iv r40.2]) (.agg #[iv r40.1.Start, .slice ad45 r40.1.Rows.length cp46]) S (wN rfl) rfl rfl rfl rfl (lb rfl) fun a S => ?_
  refine sExtract (vs := [.agg #[iv r40.1.Start, .slice ad45 r40.1.Rows.length cp46], iv r40.2]) (iv r40.2) S (wN rfl) rfl rfl rfl rfl (lb rfl) fun a S => ?_
  refine sAlloc (.agg #[iv 0, .slice none 0 0]) S (wN rfl) rfl rfl [iv 0, .slice none 0 0] rfl rfl (lb rfl) fun a b47 w S => ?_
  refine sStore (p := b47) (off := 0) (T := 41) (vs := [iv 0, .slice none 0 0]) (v := .agg #[iv r40.1.Start, .slice ad45 r40.1.Rows.length cp46]) 0 [iv r40.1.Start, .slice ad45 r40.1.Rows.length cp46] S (wN rfl) rfl rfl rfl rfl rfl rfl rfl (by simp) rfl fun a w S => ?_
  refine sMove (iv r40.2) S (wN rfl) (.inr rfl) rfl rfl (lb rfl) fun a S => ?_
  refine leafL (leafT (hK39 _ _ ?_))
  refine sSeq (fun K48 hK48 => ?_)
  refine sRegion ?_
  refine sLoadN (p := b8) (off := 0) (T := 41) (vs := [iv p0.Start, .slice ad3 p0.Rows.length cp4]) 2 [iv p0.Start, .slice ad3 p0.Rows.length cp4] S (wN rfl) rfl rfl rfl rfl rfl rfl rfl (lb rfl) fun a S => ?_
  refine sMove (iv p1) S (wN rfl) (.inl rfl) rfl rfl (lb rfl) fun a S => ?_
  refine sField (b := b8) (off := 0) 1 1 S (wN rfl) rfl rfl rfl rfl rfl (lb rfl) fun a S => ?_
  refine sLoad1 (p := b8) (off := 1) (T := 41) (vs := [iv p0.Start, .slice ad3 p0.Rows.length cp4]) 2 (.slice ad3 p0.Rows.length cp4) S (wN rfl) rfl rfl rfl rfl rfl rfl (lb rfl) fun a S => ?_
  refine sLen (ad := ad3) (m := p0.Rows.length) (c := cp4) S (wN rfl) rfl Try.underlying39 rfl rfl (lb rfl) fun a S => ?_
  obtain ⟨r49, hx50, h⟩ := bindSome h
  refine sCall (X := Value) (f := 35) (vs := [.agg #[iv p0.Start, .slice ad3 p0.Rows.length cp4], iv p1, iv (p0.Rows.length : Int)]) (val := c_chart_Part_val r49) (B' := fun _ => []) (D' := c_chart_Part_D r49) [] [eBox b47 41 [iv r40.1.Start, .slice ad45 r40.1.Rows.length cp46], eBox b38 23 [iv r35.1.Length, iv r35.1.Time], eBox b8 41 [iv p0.Start, .slice ad3 p0.Rows.length cp4], eBox b9 44 (gl_api_Rates p3)] [fRep r_api_Chart (.agg #[iv p0.Start, .slice ad3 p0.Rows.length cp4]) p0] [0, 1, 2, 3] [4] S (wN rfl) rfl callee35 rfl (by decide) rfl rfl (fun E1 w1 S1 => c_chart_Part E1 w1 p0 (.agg #[iv p0.Start, .slice ad3 p0.Rows.length cp4]) p1 (p0.Rows.length : Int) r49 hx50 S1) rfl (lb rfl) fun u51 a w S => ?_
  obtain ⟨u52, rfl, hu53⟩ := S.mem.know (i := 0) (e := fRep r_api_Chart (u51) r49.1) rfl
  have S := S.learn (fRep (rL r_api_Row) u52 r49.1.Rows) hu53
  obtain ⟨ad54, cp55, _, rfl, _⟩ := hu53
  refine sMove (.tuple #[.agg #[iv r49.1.Start, .slice ad54 r49.1.Rows.length cp55], iv r49.2]) S (wN rfl) (.inl rfl) rfl rfl (lb rfl) fun a S => ?_
  refine sExtract (vs := [.agg #[iv r49.1.Start, .slice ad54 r49.1.Rows.length cp55], iv r49.2]) (.agg #[iv r49.1.Start, .slice ad54 r49.1.Rows.length cp55]) S (wN rfl) rfl rfl rfl rfl (lb rfl) fun a S => ?_
  refine sExtract (vs := [.agg #[iv r49.1.Start, .slice ad54 r49.1.Rows.length cp55], iv r49.2]) (iv r49.2) S (wN rfl) rfl rfl rfl rfl (lb rfl) fun a S => ?_
  refine sAlloc (.agg #[iv 0, .slice none 0 0]) S (wN rfl) rfl rfl [iv 0, .slice none 0 0] rfl rfl (lb rfl) fun a b56 w S => ?_
  refine sStore (p := b56) (off := 0) (T := 41) (vs := [iv 0, .slice none 0 0]) (v := .agg #[iv r49.1.Start, .slice ad54 r49.1.Rows.length cp55]) 0 [iv r49.1.Start, .slice ad54 r49.1.Rows.length cp55] S (wN rfl) rfl rfl rfl rfl rfl rfl rfl (by simp) rfl fun a w S => ?_
  refine sMove (iv r49.2) S (wN rfl) (.inr rfl) rfl rfl (lb rfl) fun a S => ?_
  refine leafL (leafT (hK48 _ _ ?_))
  refine sSeq (fun K57 hK57 => ?_)
  refine sRegion ?_
  refine sLoadN (p := b47) (off := 0) (T := 41) (vs := [iv r40.1.Start, .slice ad45 r40.1.Rows.length cp46]) 1 [iv r40.1.Start, .slice ad45 r40.1.Rows.length cp46] S (wN rfl) rfl rfl rfl rfl rfl rfl rfl (lb rfl) fun a S => ?_
  refine sLoadN (p := b9) (off := 0) (T := 44) (vs := (gl_api_Rates p3)) 4 (gl_api_Rates p3) S (wN rfl) rfl rfl rfl rfl rfl rfl rfl (lb rfl) fun a S => ?_
  obtain ⟨r58, hx59, h⟩ := bindSome h
  refine sCall (X := Value) (f := 18) (vs := [.agg #[iv r40.1.Start, .slice ad45 r40.1.Rows.length cp46], gv_api_Rates p3]) (val := c_cost_Need_val r58) (B' := fun _ => []) (D' := c_cost_Need_D r58) [] [eBox b56 41 [iv r49.1.Start, .slice ad54 r49.1.Rows.length cp55], eBox b47 41 [iv r40.1.Start, .slice ad45 r40.1.Rows.length cp46], eBox b38 23 [iv r35.1.Length, iv r35.1.Time], eBox b8 41 [iv p0.Start, .slice ad3 p0.Rows.length cp4], eBox b9 44 (gl_api_Rates p3)] [fRep r_api_Chart (.agg #[iv r40.1.Start, .slice ad45 r40.1.Rows.length cp46]) r40.1, fRep r_api_Rates (gv_api_Rates p3) p3] [0, 1, 2, 3, 4] [3, 5] S (wN rfl) rfl callee18 rfl (by decide) rfl rfl (fun E1 w1 S1 => c_cost_Need E1 w1 r40.1 (.agg #[iv r40.1.Start, .slice ad45 r40.1.Rows.length cp46]) p3 (gv_api_Rates p3) r58 hx59 S1) rfl (lb rfl) fun u60 a w S => ?_
  obtain rfl : u60 = .agg #[iv r58.1.Length, iv r58.1.Time] := S.mem.know (i := 0) (e := fRep r_api_Bill (u60) r58.1) rfl
  refine sMove (.tuple #[.agg #[iv r58.1.Length, iv r58.1.Time], iv r58.2]) S (wN rfl) (.inl rfl) rfl rfl (lb rfl) fun a S => ?_
  refine sExtract (vs := [.agg #[iv r58.1.Length, iv r58.1.Time], iv r58.2]) (.agg #[iv r58.1.Length, iv r58.1.Time]) S (wN rfl) rfl rfl rfl rfl (lb rfl) fun a S => ?_
  refine sExtract (vs := [.agg #[iv r58.1.Length, iv r58.1.Time], iv r58.2]) (iv r58.2) S (wN rfl) rfl rfl rfl rfl (lb rfl) fun a S => ?_
  refine sAlloc (.agg #[iv 0, iv 0]) S (wN rfl) rfl rfl [iv 0, iv 0] rfl rfl (lb rfl) fun a b61 w S => ?_
  refine sStore (p := b61) (off := 0) (T := 23) (vs := [iv 0, iv 0]) (v := .agg #[iv r58.1.Length, iv r58.1.Time]) 0 [iv r58.1.Length, iv r58.1.Time] S (wN rfl) rfl rfl rfl rfl rfl rfl rfl (by simp) rfl fun a w S => ?_
  refine sMove (iv r58.2) S (wN rfl) (.inr rfl) rfl rfl (lb rfl) fun a S => ?_
  refine leafL (leafT (hK57 _ _ ?_))
  refine sSeq (fun K62 hK62 => ?_)
  refine sRegion ?_
  refine sLoadN (p := b56) (off := 0) (T := 41) (vs := [iv r49.1.Start, .slice ad54 r49.1.Rows.length cp55]) 1 [iv r49.1.Start, .slice ad54 r49.1.Rows.length cp55] S (wN rfl) rfl rfl rfl rfl rfl rfl rfl (lb rfl) fun a S => ?_
  refine sLoadN (p := b9) (off := 0) (T := 44) (vs := (gl_api_Rates p3)) 5 (gl_api_Rates p3) S (wN rfl) rfl rfl rfl rfl rfl rfl rfl (lb rfl) fun a S => ?_
  obtain ⟨r63, hx64, h⟩ := bindSome h
  refine sCall (X := Value) (f := 18) (vs := [.agg #[iv r49.1.Start, .slice ad54 r49.1.Rows.length cp55], gv_api_Rates p3]) (val := c_cost_Need_val r63) (B' := fun _ => []) (D' := c_cost_Need_D r63) [] [eBox b61 23 [iv r58.1.Length, iv r58.1.Time], eBox b56 41 [iv r49.1.Start, .slice ad54 r49.1.Rows.length cp55], eBox b47 41 [iv r40.1.Start, .slice ad45 r40.1.Rows.length cp46], eBox b38 23 [iv r35.1.Length, iv r35.1.Time], eBox b8 41 [iv p0.Start, .slice ad3 p0.Rows.length cp4], eBox b9 44 (gl_api_Rates p3)] [fRep r_api_Chart (.agg #[iv r49.1.Start, .slice ad54 r49.1.Rows.length cp55]) r49.1, fRep r_api_Rates (gv_api_Rates p3) p3] [0, 1, 2, 3, 4, 5] [2, 6] S (wN rfl) rfl callee18 rfl (by decide) rfl rfl (fun E1 w1 S1 => c_cost_Need E1 w1 r49.1 (.agg #[iv r49.1.Start, .slice ad54 r49.1.Rows.length cp55]) p3 (gv_api_Rates p3) r63 hx64 S1) rfl (lb rfl) fun u65 a w S => ?_
  obtain rfl : u65 = .agg #[iv r63.1.Length, iv r63.1.Time] := S.mem.know (i := 0) (e := fRep r_api_Bill (u65) r63.1) rfl
  refine sMove (.tuple #[.agg #[iv r63.1.Length, iv r63.1.Time], iv r63.2]) S (wN rfl) (.inl rfl) rfl rfl (lb rfl) fun a S => ?_
  refine sExtract (vs := [.agg #[iv r63.1.Length, iv r63.1.Time], iv r63.2]) (.agg #[iv r63.1.Length, iv r63.1.Time]) S (wN rfl) rfl rfl rfl rfl (lb rfl) fun a S => ?_
  refine sExtract (vs := [.agg #[iv r63.1.Length, iv r63.1.Time], iv r63.2]) (iv r63.2) S (wN rfl) rfl rfl rfl rfl (lb rfl) fun a S => ?_
  refine sAlloc (.agg #[iv 0, iv 0]) S (wN rfl) rfl rfl [iv 0, iv 0] rfl rfl (lb rfl) fun a b66 w S => ?_
  refine sStore (p := b66) (off := 0) (T := 23) (vs := [iv 0, iv 0]) (v := .agg #[iv r63.1.Length, iv r63.1.Time]) 0 [iv r63.1.Length, iv r63.1.Time] S (wN rfl) rfl rfl rfl rfl rfl rfl rfl (by simp) rfl fun a w S => ?_
  refine sMove (iv r63.2) S (wN rfl) (.inr rfl) rfl rfl (lb rfl) fun a S => ?_
  refine leafL (leafT (hK62 _ _ ?_))
  refine sSeq (fun K67 hK67 => ?_)
  obtain ⟨t69, h, g70⟩ := bindSome h
  refine sCut (fun a w => ∃ o68, o68 = t69 ∧ St [] E [] w0 224 a w [(2, .slice ad5 p2.length cp6), (7, .pointer (some ⟨b9, 0, none⟩)), (9, .bool r11), (134, .bool o68)] [eBox b9 44 (gl_api_Rates p3)] [fRep (rL r_api_Chart) (.slice ad5 p2.length cp6) p2]) ?_ (fun a w hI => ?_)
  · refine sRegion ?_
    refine sMove (iv r35.2) S (wN rfl) (.inl rfl) rfl rfl (lb rfl) fun a S => ?_
    refine sBin (.bool (r35.2 != 0)) S (wN rfl) rfl rfl rfl (bNe _ _ _ _ .i64 r35.2 0) rfl (lb rfl) fun a S => ?_
    refine sMove (.bool (r35.2 != 0)) S (wN rfl) (.inl rfl) rfl rfl (lb rfl) fun a S => ?_
    rcases iteSome h with ⟨hc71, h⟩ | ⟨hc71, h⟩
    · refine sSkip 2 false 104 105 S rfl rfl rfl hc71 rfl (lb rfl) fun a S => ?_
      refine sSkip 2 false 104 106 S rfl rfl rfl hc71 rfl (lb rfl) fun a S => ?_
      refine sPickT (.bool true) S (wN rfl) rfl rfl hc71 rfl rfl (lb rfl) fun a S => ?_
      refine sMove (.bool true) S (wN rfl) (.inl rfl) rfl rfl (lb rfl) fun a S => ?_
      refine sSkip 6 false 108 109 S rfl rfl rfl rfl rfl (lb rfl) fun a S => ?_
      refine sSkip 6 false 108 110 S rfl rfl rfl rfl rfl (lb rfl) fun a S => ?_
      refine sPickT (.bool true) S (wN rfl) rfl rfl rfl rfl rfl (lb rfl) fun a S => ?_
      refine sMove (.bool true) S (wN rfl) (.inl rfl) rfl rfl (lb rfl) fun a S => ?_
      refine sSkip 10 false 112 113 S rfl rfl rfl rfl rfl (lb rfl) fun a S => ?_
      refine sSkip 10 false 112 114 S rfl rfl rfl rfl rfl (lb rfl) fun a S => ?_
      refine sPickT (.bool true) S (wN rfl) rfl rfl rfl rfl rfl (lb rfl) fun a S => ?_
      refine sMove (.bool true) S (wN rfl) (.inl rfl) rfl rfl (lb rfl) fun a S => ?_
      refine sSkip 14 false 116 117 S rfl rfl rfl rfl rfl (lb rfl) fun a S => ?_
      refine sSkip 14 false 116 118 S rfl rfl rfl rfl rfl (lb rfl) fun a S => ?_
      refine sPickT (.bool true) S (wN rfl) rfl rfl rfl rfl rfl (lb rfl) fun a S => ?_
      refine sMove (.bool true) S (wN rfl) (.inl rfl) rfl rfl (lb rfl) fun a S => ?_
      refine sSkip 18 false 120 121 S rfl rfl rfl rfl rfl (lb rfl) fun a S => ?_
      refine sSkip 18 false 120 122 S rfl rfl rfl rfl rfl (lb rfl) fun a S => ?_
      refine sSkip 18 false 120 123 S rfl rfl rfl rfl rfl (lb rfl) fun a S => ?_
      refine sSkip 18 false 120 124 S rfl rfl rfl rfl rfl (lb rfl) fun a S => ?_
      refine sSkip 18 false 120 125 S rfl rfl rfl rfl rfl (lb rfl) fun a S => ?_
      refine sSkip 18 false 120 126 S rfl rfl rfl rfl rfl (lb rfl) fun a S => ?_
      refine sSkip 18 false 120 127 S rfl rfl rfl rfl rfl (lb rfl) fun a S => ?_
      refine sSkip 18 false 120 128 S rfl rfl rfl rfl rfl (lb rfl) fun a S => ?_
      refine sSkip 18 false 120 129 S rfl rfl rfl rfl rfl (lb rfl) fun a S => ?_
      refine sSkip 18 false 120 130 S rfl rfl rfl rfl rfl (lb rfl) fun a S => ?_
      refine sSkip 18 false 120 131 S rfl rfl rfl rfl rfl (lb rfl) fun a S => ?_
      refine sSkip 18 false 120 132 S rfl rfl rfl rfl rfl (lb rfl) fun a S => ?_
      refine sSkip 18 false 120 133 S rfl rfl rfl rfl rfl (lb rfl) fun a S => ?_
      refine sPickT (.bool true) S (wN rfl) rfl rfl rfl rfl rfl (lb rfl) fun a S => ?_
      exact leafL (leafT (⟨true, Option.some.inj h, S.fix [6] [9] (by decide) rfl rfl rfl⟩))
    refine sMove (iv r40.2) S (wG 2 false 104 rfl rfl rfl hc71) (.inl rfl) rfl rfl (lb rfl) fun a S => ?_
    refine sBin (.bool (r40.2 != 0)) S (wG 2 false 104 rfl rfl rfl hc71) rfl rfl rfl (bNe _ _ _ _ .i64 r40.2 0) rfl (lb rfl) fun a S => ?_
    refine sPickF (.bool (r40.2 != 0)) S (wN rfl) rfl rfl hc71 rfl rfl (lb rfl) fun a S => ?_
    refine sMove (.bool (r40.2 != 0)) S (wN rfl) (.inl rfl) rfl rfl (lb rfl) fun a S => ?_
    rcases iteSome h with ⟨hc72, h⟩ | ⟨hc72, h⟩
    · refine sSkip 6 false 108 109 S rfl rfl rfl hc72 rfl (lb rfl) fun a S => ?_
      refine sSkip 6 false 108 110 S rfl rfl rfl hc72 rfl (lb rfl) fun a S => ?_
      refine sPickT (.bool true) S (wN rfl) rfl rfl hc72 rfl rfl (lb rfl) fun a S => ?_
      refine sMove (.bool true) S (wN rfl) (.inl rfl) rfl rfl (lb rfl) fun a S => ?_
      refine sSkip 10 false 112 113 S rfl rfl rfl rfl rfl (lb rfl) fun a S => ?_
      refine sSkip 10 false 112 114 S rfl rfl rfl rfl rfl (lb rfl) fun a S => ?_
      refine sPickT (.bool true) S (wN rfl) rfl rfl rfl rfl rfl (lb rfl) fun a S => ?_
      refine sMove (.bool true) S (wN rfl) (.inl rfl) rfl rfl (lb rfl) fun a S => ?_
      refine sSkip 14 false 116 117 S rfl rfl rfl rfl rfl (lb rfl) fun a S => ?_
      refine sSkip 14 false 116 118 S rfl rfl rfl rfl rfl (lb rfl) fun a S => ?_
      refine sPickT (.bool true) S (wN rfl) rfl rfl rfl rfl rfl (lb rfl) fun a S => ?_
      refine sMove (.bool true) S (wN rfl) (.inl rfl) rfl rfl (lb rfl) fun a S => ?_
      refine sSkip 18 false 120 121 S rfl rfl rfl rfl rfl (lb rfl) fun a S => ?_
      refine sSkip 18 false 120 122 S rfl rfl rfl rfl rfl (lb rfl) fun a S => ?_
      refine sSkip 18 false 120 123 S rfl rfl rfl rfl rfl (lb rfl) fun a S => ?_
      refine sSkip 18 false 120 124 S rfl rfl rfl rfl rfl (lb rfl) fun a S => ?_
      refine sSkip 18 false 120 125 S rfl rfl rfl rfl rfl (lb rfl) fun a S => ?_
      refine sSkip 18 false 120 126 S rfl rfl rfl rfl rfl (lb rfl) fun a S => ?_
      refine sSkip 18 false 120 127 S rfl rfl rfl rfl rfl (lb rfl) fun a S => ?_
      refine sSkip 18 false 120 128 S rfl rfl rfl rfl rfl (lb rfl) fun a S => ?_
      refine sSkip 18 false 120 129 S rfl rfl rfl rfl rfl (lb rfl) fun a S => ?_
      refine sSkip 18 false 120 130 S rfl rfl rfl rfl rfl (lb rfl) fun a S => ?_
      refine sSkip 18 false 120 131 S rfl rfl rfl rfl rfl (lb rfl) fun a S => ?_
      refine sSkip 18 false 120 132 S rfl rfl rfl rfl rfl (lb rfl) fun a S => ?_
      refine sSkip 18 false 120 133 S rfl rfl rfl rfl rfl (lb rfl) fun a S => ?_
      refine sPickT (.bool true) S (wN rfl) rfl rfl rfl rfl rfl (lb rfl) fun a S => ?_
      exact leafL (leafT (⟨true, Option.some.inj h, S.fix [6] [9] (by decide) rfl rfl rfl⟩))
    refine sMove (iv r49.2) S (wG 6 false 108 rfl rfl rfl hc72) (.inl rfl) rfl rfl (lb rfl) fun a S => ?_
    refine sBin (.bool (r49.2 != 0)) S (wG 6 false 108 rfl rfl rfl hc72) rfl rfl rfl (bNe _ _ _ _ .i64 r49.2 0) rfl (lb rfl) fun a S => ?_
    refine sPickF (.bool (r49.2 != 0)) S (wN rfl) rfl rfl hc72 rfl rfl (lb rfl) fun a S => ?_
    refine sMove (.bool (r49.2 != 0)) S (wN rfl) (.inl rfl) rfl rfl (lb rfl) fun a S => ?_
    rcases iteSome h with ⟨hc73, h⟩ | ⟨hc73, h⟩
    · refine sSkip 10 false 112 113 S rfl rfl rfl hc73 rfl (lb rfl) fun a S => ?_
      refine sSkip 10 false 112 114 S rfl rfl rfl hc73 rfl (lb rfl) fun a S => ?_
      refine sPickT (.bool true) S (wN rfl) rfl rfl hc73 rfl rfl (lb rfl) fun a S => ?_
      refine sMove (.bool true) S (wN rfl) (.inl rfl) rfl rfl (lb rfl) fun a S => ?_
      refine sSkip 14 false 116 117 S rfl rfl rfl rfl rfl (lb rfl) fun a S => ?_
      refine sSkip 14 false 116 118 S rfl rfl rfl rfl rfl (lb rfl) fun a S => ?_
      refine sPickT (.bool true) S (wN rfl) rfl rfl rfl rfl rfl (lb rfl) fun a S => ?_
      refine sMove (.bool true) S (wN rfl) (.inl rfl) rfl rfl (lb rfl) fun a S => ?_
      refine sSkip 18 false 120 121 S rfl rfl rfl rfl rfl (lb rfl) fun a S => ?_
      refine sSkip 18 false 120 122 S rfl rfl rfl rfl rfl (lb rfl) fun a S => ?_
      refine sSkip 18 false 120 123 S rfl rfl rfl rfl rfl (lb rfl) fun a S => ?_
      refine sSkip 18 false 120 124 S rfl rfl rfl rfl rfl (lb rfl) fun a S => ?_
      refine sSkip 18 false 120 125 S rfl rfl rfl rfl rfl (lb rfl) fun a S => ?_
      refine sSkip 18 false 120 126 S rfl rfl rfl rfl rfl (lb rfl) fun a S => ?_
      refine sSkip 18 false 120 127 S rfl rfl rfl rfl rfl (lb rfl) fun a S => ?_
      refine sSkip 18 false 120 128 S rfl rfl rfl rfl rfl (lb rfl) fun a S => ?_
      refine sSkip 18 false 120 129 S rfl rfl rfl rfl rfl (lb rfl) fun a S => ?_
      refine sSkip 18 false 120 130 S rfl rfl rfl rfl rfl (lb rfl) fun a S => ?_
      refine sSkip 18 false 120 131 S rfl rfl rfl rfl rfl (lb rfl) fun a S => ?_
      refine sSkip 18 false 120 132 S rfl rfl rfl rfl rfl (lb rfl) fun a S => ?_
      refine sSkip 18 false 120 133 S rfl rfl rfl rfl rfl (lb rfl) fun a S => ?_
      refine sPickT (.bool true) S (wN rfl) rfl rfl rfl rfl rfl (lb rfl) fun a S => ?_
      exact leafL (leafT (⟨true, Option.some.inj h, S.fix [6] [9] (by decide) rfl rfl rfl⟩))
    refine sMove (iv r58.2) S (wG 10 false 112 rfl rfl rfl hc73) (.inl rfl) rfl rfl (lb rfl) fun a S => ?_
    refine sBin (.bool (r58.2 != 0)) S (wG 10 false 112 rfl rfl rfl hc73) rfl rfl rfl (bNe _ _ _ _ .i64 r58.2 0) rfl (lb rfl) fun a S => ?_
    refine sPickF (.bool (r58.2 != 0)) S (wN rfl) rfl rfl hc73 rfl rfl (lb rfl) fun a S => ?_
    refine sMove (.bool (r58.2 != 0)) S (wN rfl) (.inl rfl) rfl rfl (lb rfl) fun a S => ?_
    rcases iteSome h with ⟨hc74, h⟩ | ⟨hc74, h⟩
    · refine sSkip 14 false 116 117 S rfl rfl rfl hc74 rfl (lb rfl) fun a S => ?_
      refine sSkip 14 false 116 118 S rfl rfl rfl hc74 rfl (lb rfl) fun a S => ?_
      refine sPickT (.bool true) S (wN rfl) rfl rfl hc74 rfl rfl (lb rfl) fun a S => ?_
      refine sMove (.bool true) S (wN rfl) (.inl rfl) rfl rfl (lb rfl) fun a S => ?_
      refine sSkip 18 false 120 121 S rfl rfl rfl rfl rfl (lb rfl) fun a S => ?_
      refine sSkip 18 false 120 122 S rfl rfl rfl rfl rfl (lb rfl) fun a S => ?_
      refine sSkip 18 false 120 123 S rfl rfl rfl rfl rfl (lb rfl) fun a S => ?_
      refine sSkip 18 false 120 124 S rfl rfl rfl rfl rfl (lb rfl) fun a S => ?_
      refine sSkip 18 false 120 125 S rfl rfl rfl rfl rfl (lb rfl) fun a S => ?_
      refine sSkip 18 false 120 126 S rfl rfl rfl rfl rfl (lb rfl) fun a S => ?_
      refine sSkip 18 false 120 127 S rfl rfl rfl rfl rfl (lb rfl) fun a S => ?_
      refine sSkip 18 false 120 128 S rfl rfl rfl rfl rfl (lb rfl) fun a S => ?_
      refine sSkip 18 false 120 129 S rfl rfl rfl rfl rfl (lb rfl) fun a S => ?_
      refine sSkip 18 false 120 130 S rfl rfl rfl rfl rfl (lb rfl) fun a S => ?_
      refine sSkip 18 false 120 131 S rfl rfl rfl rfl rfl (lb rfl) fun a S => ?_
      refine sSkip 18 false 120 132 S rfl rfl rfl rfl rfl (lb rfl) fun a S => ?_
      refine sSkip 18 false 120 133 S rfl rfl rfl rfl rfl (lb rfl) fun a S => ?_
      refine sPickT (.bool true) S (wN rfl) rfl rfl rfl rfl rfl (lb rfl) fun a S => ?_
      exact leafL (leafT (⟨true, Option.some.inj h, S.fix [6] [9] (by decide) rfl rfl rfl⟩))
    refine sMove (iv r63.2) S (wG 14 false 116 rfl rfl rfl hc74) (.inl rfl) rfl rfl (lb rfl) fun a S => ?_
    refine sBin (.bool (r63.2 != 0)) S (wG 14 false 116 rfl rfl rfl hc74) rfl rfl rfl (bNe _ _ _ _ .i64 r63.2 0) rfl (lb rfl) fun a S => ?_
    refine sPickF (.bool (r63.2 != 0)) S (wN rfl) rfl rfl hc74 rfl rfl (lb rfl) fun a S => ?_
    refine sMove (.bool (r63.2 != 0)) S (wN rfl) (.inl rfl) rfl rfl (lb rfl) fun a S => ?_
    rcases iteSome h with ⟨hc75, h⟩ | ⟨hc75, h⟩
    · refine sSkip 18 false 120 121 S rfl rfl rfl hc75 rfl (lb rfl) fun a S => ?_
      refine sSkip 18 false 120 122 S rfl rfl rfl hc75 rfl (lb rfl) fun a S => ?_
      refine sSkip 18 false 120 123 S rfl rfl rfl hc75 rfl (lb rfl) fun a S => ?_
      refine sSkip 18 false 120 124 S rfl rfl rfl hc75 rfl (lb rfl) fun a S => ?_
      refine sSkip 18 false 120 125 S rfl rfl rfl hc75 rfl (lb rfl) fun a S => ?_
      refine sSkip 18 false 120 126 S rfl rfl rfl hc75 rfl (lb rfl) fun a S => ?_
      refine sSkip 18 false 120 127 S rfl rfl rfl hc75 rfl (lb rfl) fun a S => ?_
      refine sSkip 18 false 120 128 S rfl rfl rfl hc75 rfl (lb rfl) fun a S => ?_
      refine sSkip 18 false 120 129 S rfl rfl rfl hc75 rfl (lb rfl) fun a S => ?_
      refine sSkip 18 false 120 130 S rfl rfl rfl hc75 rfl (lb rfl) fun a S => ?_
      refine sSkip 18 false 120 131 S rfl rfl rfl hc75 rfl (lb rfl) fun a S => ?_
      refine sSkip 18 false 120 132 S rfl rfl rfl hc75 rfl (lb rfl) fun a S => ?_
      refine sSkip 18 false 120 133 S rfl rfl rfl hc75 rfl (lb rfl) fun a S => ?_
      refine sPickT (.bool true) S (wN rfl) rfl rfl hc75 rfl rfl (lb rfl) fun a S => ?_
      exact leafL (leafT (⟨true, Option.some.inj h, S.fix [6] [9] (by decide) rfl rfl rfl⟩))
    refine sLoadN (p := b38) (off := 0) (T := 23) (vs := [iv r35.1.Length, iv r35.1.Time]) 4 [iv r35.1.Length, iv r35.1.Time] S (wG 18 false 120 rfl rfl rfl hc75) rfl rfl rfl rfl rfl rfl rfl (lb rfl) fun a S => ?_
    refine sField (b := b61) (off := 0) 0 0 S (wG 18 false 120 rfl rfl rfl hc75) rfl rfl rfl rfl rfl (lb rfl) fun a S => ?_
    refine sLoad1 (p := b61) (off := 0) (T := 23) (vs := [iv r58.1.Length, iv r58.1.Time]) 1 (iv r58.1.Length) S (wG 18 false 120 rfl rfl rfl hc75) rfl rfl rfl rfl rfl rfl (lb rfl) fun a S => ?_
    refine sField (b := b66) (off := 0) 0 0 S (wG 18 false 120 rfl rfl rfl hc75) rfl rfl rfl rfl rfl (lb rfl) fun a S => ?_
    refine sLoad1 (p := b66) (off := 0) (T := 23) (vs := [iv r63.1.Length, iv r63.1.Time]) 0 (iv r63.1.Length) S (wG 18 false 120 rfl rfl rfl hc75) rfl rfl rfl rfl rfl rfl (lb rfl) fun a S => ?_
    refine sBin (iv (w64 (r58.1.Length + r63.1.Length))) S (wG 18 false 120 rfl rfl rfl hc75) rfl rfl rfl (bAdd _ _ _ _ r58.1.Length r63.1.Length) rfl (lb rfl) fun a S => ?_
    refine sField (b := b61) (off := 0) 1 1 S (wG 18 false 120 rfl rfl rfl hc75) rfl rfl rfl rfl rfl (lb rfl) fun a S => ?_
    refine sLoad1 (p := b61) (off := 1) (T := 23) (vs := [iv r58.1.Length, iv r58.1.Time]) 1 (iv r58.1.Time) S (wG 18 false 120 rfl rfl rfl hc75) rfl rfl rfl rfl rfl rfl (lb rfl) fun a S => ?_
    refine sField (b := b66) (off := 0) 1 1 S (wG 18 false 120 rfl rfl rfl hc75) rfl rfl rfl rfl rfl (lb rfl) fun a S => ?_
    refine sLoad1 (p := b66) (off := 1) (T := 23) (vs := [iv r63.1.Length, iv r63.1.Time]) 0 (iv r63.1.Time) S (wG 18 false 120 rfl rfl rfl hc75) rfl rfl rfl rfl rfl rfl (lb rfl) fun a S => ?_
    refine sBin (iv (w64 (r58.1.Time + r63.1.Time))) S (wG 18 false 120 rfl rfl rfl hc75) rfl rfl rfl (bAdd _ _ _ _ r58.1.Time r63.1.Time) rfl (lb rfl) fun a S => ?_
    refine sBuild [(0, iv (w64 (r58.1.Length + r63.1.Length))), (1, iv (w64 (r58.1.Time + r63.1.Time)))] [iv (w64 (r58.1.Length + r63.1.Length)), iv (w64 (r58.1.Time + r63.1.Time))] S (wG 18 false 120 rfl rfl rfl hc75) rfl rfl rfl rfl (lb rfl) fun a S => ?_
    refine sBin (.bool (!((r35.1.Length == (w64 (r58.1.Length + r63.1.Length))) && ((r35.1.Time == (w64 (r58.1.Time + r63.1.Time))) && true)))) S (wG 18 false 120 rfl rfl rfl hc75) rfl rfl rfl (bNeV _ _ _ _ #[iv r35.1.Length, iv r35.1.Time] #[iv (w64 (r58.1.Length + r63.1.Length)), iv (w64 (r58.1.Time + r63.1.Time))] ((r35.1.Length == (w64 (r58.1.Length + r63.1.Length))) && ((r35.1.Time == (w64 (r58.1.Time + r63.1.Time))) && true)) (by kernel_rfl) (eqlV_of (by kernel_rfl))) rfl (lb rfl) fun a S => ?_
    refine sPickF (.bool (!((r35.1.Length == (w64 (r58.1.Length + r63.1.Length))) && ((r35.1.Time == (w64 (r58.1.Time + r63.1.Time))) && true)))) S (wN rfl) rfl rfl hc75 rfl rfl (lb rfl) fun a S => ?_
    exact leafL (leafT (⟨!((r35.1.Length == (w64 (r58.1.Length + r63.1.Length))) && ((r35.1.Time == (w64 (r58.1.Time + r63.1.Time))) && true)), Option.some.inj h, S.fix [6] [9] (by decide) rfl rfl rfl⟩))
  obtain ⟨o68, rfl, S⟩ := hI
  have h := g70
  clear g70
  try dsimp only at h
  rcases iteSome h with ⟨hc76, h⟩ | ⟨hc76, h⟩
  · refine sCondT S rfl hc76 ?_
    refine sSeq (fun K77 hK77 => ?_)
    refine sRegion ?_
    refine sMove (.bool false) S (wN rfl) (.inr rfl) rfl rfl (lb rfl) fun a S => ?_
    refine leafL (leafT (hK77 _ _ ?_))
    obtain rfl := Option.some.inj h
    exact wp_ret (rThen (sRet (.bool false) S (rsl1 rfl (rvT (t := 8) (v := .bool false) S rfl)) ⟨(), rfl, S.mem.sel [] [] (by decide) rfl rfl⟩))
  refine sCondF S rfl hc76 ?_
  refine wp_skip (leafT (hK67 _ _ ?_))
  refine sSeq (fun K78 hK78 => ?_)
  refine sRegion ?_
  refine sMove (.slice none 0 0) S (wN rfl) (.inr rfl) rfl rfl (lb rfl) fun a S => ?_
  refine leafL (leafT (hK78 _ _ ?_))
  refine sSeq (fun K79 hK79 => ?_)
  refine sRegion ?_
  refine sAlloc (.agg #[iv 0, iv 0]) S (wN rfl) rfl rfl [iv 0, iv 0] rfl rfl (lb rfl) fun a b80 w S => ?_
  refine leafL (leafT (hK79 _ _ ?_))
  obtain ⟨t86, h, g87⟩ := bindSome h
  refine sCut (fun a w => ∃ o81, ∃ o84, ∃ o85, .inl (o81, o84, o85) = t86 ∧ ∃ ad82, ∃ cp83, St [] E [] w0 224 a w [(2, .slice ad5 p2.length cp6), (7, .pointer (some ⟨b9, 0, none⟩)), (9, .bool r11), (20, .slice ad82 o81.length cp83), (21, .pointer (some ⟨b80, 0, none⟩))] [eBox b9 44 (gl_api_Rates p3), eBox b80 23 [iv o84, iv o85], eRow r_api_Chart 41 (.slice ad82 o81.length cp83) o81] [fRep (rL r_api_Chart) (.slice ad5 p2.length cp6) p2]) ?_ (fun a w hI => ?_)
  rotate_left
  · obtain ⟨o81, o84, o85, rfl, ad82, cp83, S⟩ := hI
    have h := g87
    clear g87
    try dsimp only at h
    refine sSeq (fun K169 hK169 => ?_)
    refine sRegion ?_
    refine sMove (.slice ad5 p2.length cp6) S (wN rfl) (.inl rfl) rfl rfl (lb rfl) fun a S => ?_
    refine sLoadN (p := b9) (off := 0) (T := 44) (vs := (gl_api_Rates p3)) 0 (gl_api_Rates p3) S (wN rfl) rfl rfl rfl rfl rfl rfl rfl (lb rfl) fun a S => ?_
    obtain ⟨r170, hx171, h⟩ := bindSome h
    have S := S.learn (fRep r_api_Rates (gv_api_Rates p3) p3) rfl
    refine sCall (X := Value) (f := 20) (vs := [.slice ad5 p2.length cp6, gv_api_Rates p3]) (val := c_cost_Total_val r170) (B' := fun _ => []) (D' := c_cost_Total_D r170) [] [eBox b9 44 (gl_api_Rates p3), eBox b80 23 [iv o84, iv o85], eRow r_api_Chart 41 (.slice ad82 o81.length cp83) o81] [fRep (rL r_api_Chart) (.slice ad5 p2.length cp6) p2, fRep r_api_Rates (gv_api_Rates p3) p3] [0, 1, 2] [1, 0] S (wN rfl) rfl callee20 rfl (by decide) rfl rfl (fun E1 w1 S1 => c_cost_Total E1 w1 p2 (.slice ad5 p2.length cp6) p3 (gv_api_Rates p3) r170 hx171 S1) rfl (lb rfl) fun u172 a w S => ?_
    obtain rfl : u172 = .agg #[iv r170.1.Length, iv r170.1.Time] := S.mem.know (i := 0) (e := fRep r_api_Bill (u172) r170.1) rfl
    refine sMove (.tuple #[.agg #[iv r170.1.Length, iv r170.1.Time], iv r170.2]) S (wN rfl) (.inl rfl) rfl rfl (lb rfl) fun a S => ?_
    refine sExtract (vs := [.agg #[iv r170.1.Length, iv r170.1.Time], iv r170.2]) (.agg #[iv r170.1.Length, iv r170.1.Time]) S (wN rfl) rfl rfl rfl rfl (lb rfl) fun a S => ?_
    refine sExtract (vs := [.agg #[iv r170.1.Length, iv r170.1.Time], iv r170.2]) (iv r170.2) S (wN rfl) rfl rfl rfl rfl (lb rfl) fun a S => ?_
    refine sAlloc (.agg #[iv 0, iv 0]) S (wN rfl) rfl rfl [iv 0, iv 0] rfl rfl (lb rfl) fun a b173 w S => ?_
    refine sStore (p := b173) (off := 0) (T := 23) (vs := [iv 0, iv 0]) (v := .agg #[iv r170.1.Length, iv r170.1.Time]) 0 [iv r170.1.Length, iv r170.1.Time] S (wN rfl) rfl rfl rfl rfl rfl rfl rfl (by simp) rfl fun a w S => ?_
    refine sMove (iv r170.2) S (wN rfl) (.inr rfl) rfl rfl (lb rfl) fun a S => ?_
    refine leafL (leafT (hK169 _ _ ?_))
    refine sSeq (fun K174 hK174 => ?_)
    refine sRegion ?_
    refine sMove (.slice ad82 o81.length cp83) S (wN rfl) (.inl rfl) rfl rfl (lb rfl) fun a S => ?_
    refine sLoadN (p := b9) (off := 0) (T := 44) (vs := (gl_api_Rates p3)) 1 (gl_api_Rates p3) S (wN rfl) rfl rfl rfl rfl rfl rfl rfl (lb rfl) fun a S => ?_
    obtain ⟨r175, hx176, h⟩ := bindSome h
    have S := S.shutR (r := r_api_Chart) (T := 41) (v := .slice ad82 o81.length cp83) (xs := o81) 3 rfl
    refine sCall (X := Value) (f := 20) (vs := [.slice ad82 o81.length cp83, gv_api_Rates p3]) (val := c_cost_Total_val r175) (B' := fun _ => []) (D' := c_cost_Total_D r175) [] [eBox b173 23 [iv r170.1.Length, iv r170.1.Time], eBox b9 44 (gl_api_Rates p3), eBox b80 23 [iv o84, iv o85]] [fRep (rL r_api_Chart) (.slice ad82 o81.length cp83) o81, fRep r_api_Rates (gv_api_Rates p3) p3] [0, 1, 2] [0, 2] S (wN rfl) rfl callee20 rfl (by decide) rfl rfl (fun E1 w1 S1 => c_cost_Total E1 w1 o81 (.slice ad82 o81.length cp83) p3 (gv_api_Rates p3) r175 hx176 S1) rfl (lb rfl) fun u177 a w S => ?_
    obtain rfl : u177 = .agg #[iv r175.1.Length, iv r175.1.Time] := S.mem.know (i := 0) (e := fRep r_api_Bill (u177) r175.1) rfl
    refine sMove (.tuple #[.agg #[iv r175.1.Length, iv r175.1.Time], iv r175.2]) S (wN rfl) (.inl rfl) rfl rfl (lb rfl) fun a S => ?_
    refine sExtract (vs := [.agg #[iv r175.1.Length, iv r175.1.Time], iv r175.2]) (.agg #[iv r175.1.Length, iv r175.1.Time]) S (wN rfl) rfl rfl rfl rfl (lb rfl) fun a S => ?_
    refine sExtract (vs := [.agg #[iv r175.1.Length, iv r175.1.Time], iv r175.2]) (iv r175.2) S (wN rfl) rfl rfl rfl rfl (lb rfl) fun a S => ?_
    refine sAlloc (.agg #[iv 0, iv 0]) S (wN rfl) rfl rfl [iv 0, iv 0] rfl rfl (lb rfl) fun a b178 w S => ?_
    refine sStore (p := b178) (off := 0) (T := 23) (vs := [iv 0, iv 0]) (v := .agg #[iv r175.1.Length, iv r175.1.Time]) 0 [iv r175.1.Length, iv r175.1.Time] S (wN rfl) rfl rfl rfl rfl rfl rfl rfl (by simp) rfl fun a w S => ?_
    refine sMove (iv r175.2) S (wN rfl) (.inr rfl) rfl rfl (lb rfl) fun a S => ?_
    refine leafL (leafT (hK174 _ _ ?_))
    obtain ⟨t180, h, g181⟩ := bindSome h
    refine sCut (fun a w => ∃ o179, o179 = t180 ∧ St [] E [] w0 224 a w [(8, .bool o179)] [] []) ?_ (fun a w hI => ?_)
    rotate_left
    · obtain ⟨o179, rfl, S⟩ := hI
      have h := g181
      clear g181
      try dsimp only at h
      obtain rfl := Option.some.inj h
      exact wp_ret (sRet (.bool o179) S (rsl1 rfl (rvT (t := 8) (v := .bool o179) S rfl)) ⟨(), rfl, S.mem.sel [] [] (by decide) rfl rfl⟩)
    refine sRegion ?_
    refine sMove (.bool r11) S (wN rfl) (.inl rfl) rfl rfl (lb rfl) fun a S => ?_
    refine sMove (.bool r11) S (wN rfl) (.inl rfl) rfl rfl (lb rfl) fun a S => ?_
    rcases iteSome h with ⟨hc182, h⟩ | ⟨hc182, h⟩
    rotate_left
    · refine sSkip 1 true 206 207 S rfl rfl rfl hc182 rfl (lb rfl) fun a S => ?_
      refine sSkip 1 true 206 208 S rfl rfl rfl hc182 rfl (lb rfl) fun a S => ?_
      refine sPickF (.bool false) S (wN rfl) rfl rfl hc182 rfl rfl (lb rfl) fun a S => ?_
      refine sMove (.bool false) S (wN rfl) (.inl rfl) rfl rfl (lb rfl) fun a S => ?_
      refine sSkip 5 true 210 211 S rfl rfl rfl rfl rfl (lb rfl) fun a S => ?_
      refine sSkip 5 true 210 212 S rfl rfl rfl rfl rfl (lb rfl) fun a S => ?_
      refine sPickF (.bool false) S (wN rfl) rfl rfl rfl rfl rfl (lb rfl) fun a S => ?_
      refine sMove (.bool false) S (wN rfl) (.inl rfl) rfl rfl (lb rfl) fun a S => ?_
      refine sSkip 9 true 214 215 S rfl rfl rfl rfl rfl (lb rfl) fun a S => ?_
      refine sSkip 9 true 214 216 S rfl rfl rfl rfl rfl (lb rfl) fun a S => ?_
      refine sSkip 9 true 214 217 S rfl rfl rfl rfl rfl (lb rfl) fun a S => ?_
      refine sPickF (.bool false) S (wN rfl) rfl rfl rfl rfl rfl (lb rfl) fun a S => ?_
      refine sMove (.bool false) S (wN rfl) (.inl rfl) rfl rfl (lb rfl) fun a S => ?_
      refine sSkip 14 true 219 220 S rfl rfl rfl rfl rfl (lb rfl) fun a S => ?_
      refine sSkip 14 true 219 221 S rfl rfl rfl rfl rfl (lb rfl) fun a S => ?_
      refine sSkip 14 true 219 222 S rfl rfl rfl rfl rfl (lb rfl) fun a S => ?_
      refine sPickF (.bool false) S (wN rfl) rfl rfl rfl rfl rfl (lb rfl) fun a S => ?_
      refine sMove (.bool false) S (wN rfl) (.inr rfl) rfl rfl (lb rfl) fun a S => ?_
      exact leafL (leafT (⟨false, Option.some.inj h, S.fix [] [] (by decide) rfl rfl rfl⟩))
    refine sMove (iv r170.2) S (wG 1 true 206 rfl rfl rfl hc182) (.inl rfl) rfl rfl (lb rfl) fun a S => ?_
    refine sBin (.bool (r170.2 == 0)) S (wG 1 true 206 rfl rfl rfl hc182) rfl rfl rfl (bEq _ _ _ _ .i64 r170.2 0) rfl (lb rfl) fun a S => ?_
    refine sPickT (.bool (r170.2 == 0)) S (wN rfl) rfl rfl hc182 rfl rfl (lb rfl) fun a S => ?_
    refine sMove (.bool (r170.2 == 0)) S (wN rfl) (.inl rfl) rfl rfl (lb rfl) fun a S => ?_
    rcases iteSome h with ⟨hc183, h⟩ | ⟨hc183, h⟩
    rotate_left
    · refine sSkip 5 true 210 211 S rfl rfl rfl hc183 rfl (lb rfl) fun a S => ?_
      refine sSkip 5 true 210 212 S rfl rfl rfl hc183 rfl (lb rfl) fun a S => ?_
      refine sPickF (.bool false) S (wN rfl) rfl rfl hc183 rfl rfl (lb rfl) fun a S => ?_
      refine sMove (.bool false) S (wN rfl) (.inl rfl) rfl rfl (lb rfl) fun a S => ?_
      refine sSkip 9 true 214 215 S rfl rfl rfl rfl rfl (lb rfl) fun a S => ?_
      refine sSkip 9 true 214 216 S rfl rfl rfl rfl rfl (lb rfl) fun a S => ?_
      refine sSkip 9 true 214 217 S rfl rfl rfl rfl rfl (lb rfl) fun a S => ?_
      refine sPickF (.bool false) S (wN rfl) rfl rfl rfl rfl rfl (lb rfl) fun a S => ?_
      refine sMove (.bool false) S (wN rfl) (.inl rfl) rfl rfl (lb rfl) fun a S => ?_
      refine sSkip 14 true 219 220 S rfl rfl rfl rfl rfl (lb rfl) fun a S => ?_
      refine sSkip 14 true 219 221 S rfl rfl rfl rfl rfl (lb rfl) fun a S => ?_
      refine sSkip 14 true 219 222 S rfl rfl rfl rfl rfl (lb rfl) fun a S => ?_
      refine sPickF (.bool false) S (wN rfl) rfl rfl rfl rfl rfl (lb rfl) fun a S => ?_
      refine sMove (.bool false) S (wN rfl) (.inr rfl) rfl rfl (lb rfl) fun a S => ?_
      exact leafL (leafT (⟨false, Option.some.inj h, S.fix [] [] (by decide) rfl rfl rfl⟩))
    refine sMove (iv r175.2) S (wG 5 true 210 rfl rfl rfl hc183) (.inl rfl) rfl rfl (lb rfl) fun a S => ?_
    refine sBin (.bool (r175.2 == 0)) S (wG 5 true 210 rfl rfl rfl hc183) rfl rfl rfl (bEq _ _ _ _ .i64 r175.2 0) rfl (lb rfl) fun a S => ?_
    refine sPickT (.bool (r175.2 == 0)) S (wN rfl) rfl rfl hc183 rfl rfl (lb rfl) fun a S => ?_
    refine sMove (.bool (r175.2 == 0)) S (wN rfl) (.inl rfl) rfl rfl (lb rfl) fun a S => ?_
    rcases iteSome h with ⟨hc184, h⟩ | ⟨hc184, h⟩
    rotate_left
    · refine sSkip 9 true 214 215 S rfl rfl rfl hc184 rfl (lb rfl) fun a S => ?_
      refine sSkip 9 true 214 216 S rfl rfl rfl hc184 rfl (lb rfl) fun a S => ?_
      refine sSkip 9 true 214 217 S rfl rfl rfl hc184 rfl (lb rfl) fun a S => ?_
      refine sPickF (.bool false) S (wN rfl) rfl rfl hc184 rfl rfl (lb rfl) fun a S => ?_
      refine sMove (.bool false) S (wN rfl) (.inl rfl) rfl rfl (lb rfl) fun a S => ?_
      refine sSkip 14 true 219 220 S rfl rfl rfl rfl rfl (lb rfl) fun a S => ?_
      refine sSkip 14 true 219 221 S rfl rfl rfl rfl rfl (lb rfl) fun a S => ?_
      refine sSkip 14 true 219 222 S rfl rfl rfl rfl rfl (lb rfl) fun a S => ?_
      refine sPickF (.bool false) S (wN rfl) rfl rfl rfl rfl rfl (lb rfl) fun a S => ?_
      refine sMove (.bool false) S (wN rfl) (.inr rfl) rfl rfl (lb rfl) fun a S => ?_
      exact leafL (leafT (⟨false, Option.some.inj h, S.fix [] [] (by decide) rfl rfl rfl⟩))
    refine sLoadN (p := b173) (off := 0) (T := 23) (vs := [iv r170.1.Length, iv r170.1.Time]) 1 [iv r170.1.Length, iv r170.1.Time] S (wG 9 true 214 rfl rfl rfl hc184) rfl rfl rfl rfl rfl rfl rfl (lb rfl) fun a S => ?_
    refine sLoadN (p := b80) (off := 0) (T := 23) (vs := [iv o84, iv o85]) 3 [iv o84, iv o85] S (wG 9 true 214 rfl rfl rfl hc184) rfl rfl rfl rfl rfl rfl rfl (lb rfl) fun a S => ?_
    refine sBin (.bool ((r170.1.Length == o84) && ((r170.1.Time == o85) && true))) S (wG 9 true 214 rfl rfl rfl hc184) rfl rfl rfl (bEqV _ _ _ _ #[iv r170.1.Length, iv r170.1.Time] #[iv o84, iv o85] ((r170.1.Length == o84) && ((r170.1.Time == o85) && true)) (by kernel_rfl) (eqlV_of (by kernel_rfl))) rfl (lb rfl) fun a S => ?_
    refine sPickT (.bool ((r170.1.Length == o84) && ((r170.1.Time == o85) && true))) S (wN rfl) rfl rfl hc184 rfl rfl (lb rfl) fun a S => ?_
    refine sMove (.bool ((r170.1.Length == o84) && ((r170.1.Time == o85) && true))) S (wN rfl) (.inl rfl) rfl rfl (lb rfl) fun a S => ?_
    rcases iteSome h with ⟨hc185, h⟩ | ⟨hc185, h⟩
    rotate_left
    · refine sSkip 14 true 219 220 S rfl rfl rfl hc185 rfl (lb rfl) fun a S => ?_
      refine sSkip 14 true 219 221 S rfl rfl rfl hc185 rfl (lb rfl) fun a S => ?_
      refine sSkip 14 true 219 222 S rfl rfl rfl hc185 rfl (lb rfl) fun a S => ?_
      refine sPickF (.bool false) S (wN rfl) rfl rfl hc185 rfl rfl (lb rfl) fun a S => ?_
      refine sMove (.bool false) S (wN rfl) (.inr rfl) rfl rfl (lb rfl) fun a S => ?_
      exact leafL (leafT (⟨false, Option.some.inj h, S.fix [] [] (by decide) rfl rfl rfl⟩))
    refine sLoadN (p := b178) (off := 0) (T := 23) (vs := [iv r175.1.Length, iv r175.1.Time]) 0 [iv r175.1.Length, iv r175.1.Time] S (wG 14 true 219 rfl rfl rfl hc185) rfl rfl rfl rfl rfl rfl rfl (lb rfl) fun a S => ?_
    refine sLoadN (p := b80) (off := 0) (T := 23) (vs := [iv o84, iv o85]) 3 [iv o84, iv o85] S (wG 14 true 219 rfl rfl rfl hc185) rfl rfl rfl rfl rfl rfl rfl (lb rfl) fun a S => ?_
    refine sBin (.bool ((r175.1.Length == o84) && ((r175.1.Time == o85) && true))) S (wG 14 true 219 rfl rfl rfl hc185) rfl rfl rfl (bEqV _ _ _ _ #[iv r175.1.Length, iv r175.1.Time] #[iv o84, iv o85] ((r175.1.Length == o84) && ((r175.1.Time == o85) && true)) (by kernel_rfl) (eqlV_of (by kernel_rfl))) rfl (lb rfl) fun a S => ?_
    refine sPickT (.bool ((r175.1.Length == o84) && ((r175.1.Time == o85) && true))) S (wN rfl) rfl rfl hc185 rfl rfl (lb rfl) fun a S => ?_
    refine sMove (.bool ((r175.1.Length == o84) && ((r175.1.Time == o85) && true))) S (wN rfl) (.inr rfl) rfl rfl (lb rfl) fun a S => ?_
    exact leafL (leafT (⟨((r175.1.Length == o84) && ((r175.1.Time == o85) && true)), Option.some.inj h, S.fix [] [] (by decide) rfl rfl rfl⟩))
  refine sSeq (fun K88 hK88 => ?_)
  refine sRegion ?_
  refine sMove (iv 0) S (wN rfl) (.inr rfl) rfl rfl (lb rfl) fun a S => ?_
  refine leafL (leafT (hK88 _ _ ?_))
  refine wp_block ?_
  have S := S.nilRow r_api_Chart 41 (α := api_Chart)
  obtain ⟨t97, hl, g96⟩ := bindSome h
  refine sLoop hl (fun s0 a w => match s0 with | (s89, s92, s93, s94) => ∃ ad90, ∃ cp91, St [] E [] w0 224 a w [(2, .slice ad5 p2.length cp6), (7, .pointer (some ⟨b9, 0, none⟩)), (9, .bool r11), (20, .slice ad90 s89.length cp91), (21, .pointer (some ⟨b80, 0, none⟩)), (22, iv s92)] [eBox b9 44 (gl_api_Rates p3), eBox b80 23 [iv s93, iv s94], eRow r_api_Chart 41 (.slice ad90 s89.length cp91) s89] [fRep (rL r_api_Chart) (.slice ad5 p2.length cp6) p2]) ⟨none, 0, S.fix [2, 1, 0] [0] (by decide) rfl rfl rfl⟩ ?_
  clear hl h
  intro s0 a w c0 hI h hu95
  obtain ⟨s89, s92, s93, s94⟩ := s0
  unfold raddlelaw45_CostSums_l1 at h
  dsimp only at h hI
  obtain ⟨ad90, cp91, S⟩ := hI
  refine sSeq (fun K103 hK103 => ?_)
  refine sSeq (fun K104 hK104 => ?_)
  refine sRegion ?_
  refine sMove (iv s92) S (wN rfl) (.inl rfl) rfl rfl (lb rfl) fun a S => ?_
  refine sMove (.slice ad5 p2.length cp6) S (wN rfl) (.inl rfl) rfl rfl (lb rfl) fun a S => ?_
  refine sLen (ad := ad5) (m := p2.length) (c := cp6) S (wN rfl) rfl Try.underlying38 rfl rfl (lb rfl) fun a S => ?_
  refine sBin (.bool (decide (s92 < (p2.length : Int)))) S (wN rfl) rfl rfl rfl (bLt _ _ _ _ .i64 s92 (p2.length : Int)) rfl (lb rfl) fun a S => ?_
  refine leafL (leafT (hK104 _ _ ?_))
  rcases iteSome h with ⟨hc105, h⟩ | ⟨hc105, h⟩
  rotate_left
  · refine sCondF S rfl hc105 ?_
    obtain rfl := Option.some.inj h
    obtain rfl := hu95 _ rfl
    have h := g96
    clear g96
    try dsimp only at h
    exact wp_exit (xThen (xThen (xHit (leafT (⟨s89, s93, s94, Option.some.inj h, ad90, cp91, S.fix [0, 1, 2] [0] (by decide) rfl rfl rfl⟩)))))
  refine sCondT S rfl hc105 ?_
  refine wp_skip (leafT (hK103 _ _ ?_))
  refine sSeq (fun K106 hK106 => ?_)
  refine wp_block ?_
  refine sSeq (fun K107 hK107 => ?_)
  refine sRegion ?_
  refine sMove (.slice ad90 s89.length cp91) S (wN rfl) (.inl rfl) rfl rfl (lb rfl) fun a S => ?_
  refine sMove (.slice ad5 p2.length cp6) S (wN rfl) (.inl rfl) rfl rfl (lb rfl) fun a S => ?_
  refine sMove (.slice ad5 p2.length cp6) S (wN rfl) (.inl rfl) rfl rfl (lb rfl) fun a S => ?_
  refine sLen (ad := ad5) (m := p2.length) (c := cp6) S (wN rfl) rfl Try.underlying38 rfl rfl (lb rfl) fun a S => ?_
  refine sBin (iv (w64 ((p2.length : Int) - 1))) S (wN rfl) rfl rfl rfl (bSub _ _ _ _ (p2.length : Int) 1) rfl (lb rfl) fun a S => ?_
  refine sMove (iv s92) S (wN rfl) (.inl rfl) rfl rfl (lb rfl) fun a S => ?_
  refine sBin (iv (w64 ((w64 ((p2.length : Int) - 1)) - s92))) S (wN rfl) rfl rfl rfl (bSub _ _ _ _ (w64 ((p2.length : Int) - 1)) s92) rfl (lb rfl) fun a S => ?_
  obtain ⟨x108, hx109, h⟩ := bindSome h
  obtain ⟨q110, hq111, S⟩ := pIdx (P := Try.prog) (r := r_api_Chart) (v := .slice ad5 p2.length cp6) (xs := p2) (j := w64 ((w64 ((p2.length : Int) - 1)) - s92)) 38 41 0 S Try.underlying38 rfl rfl hx109
  refine sIdxV (v := .slice ad5 p2.length cp6) (k := .i64) (j := w64 ((w64 ((p2.length : Int) - 1)) - s92)) S (wN rfl) rfl rfl rfl hq111 rfl (lb rfl) fun a S => ?_
  obtain ⟨u112, S⟩ := pLoad (r := r_api_Chart) (q := q110) (x := x108) 0 S rfl
  obtain ⟨u113, rfl, hu114⟩ := S.mem.know (i := 1) (e := fRep r_api_Chart (u112) x108) rfl
  have S := S.learn (fRep (rL r_api_Row) u113 x108.Rows) hu114
  obtain ⟨ad115, cp116, _, rfl, _⟩ := hu114
  refine sLoadVN (vq := q110) 1 [iv x108.Start, .slice ad115 x108.Rows.length cp116] S (wN rfl) rfl rfl rfl rfl rfl rfl (lb rfl) fun a S => ?_
  refine sLit (r := r_api_Chart) (T := 41) (xs := [x108]) [(0, .agg #[iv x108.Start, .slice ad115 x108.Rows.length cp116])] 1 [.agg #[iv x108.Start, .slice ad115 x108.Rows.length cp116]] [iv x108.Start, .slice ad115 x108.Rows.length cp116] (.agg #[iv 0, .slice none 0 0]) 32 S (wN rfl) rfl rfl Try.underlying38 rfl (by decide) (by decide) (by kernel_rfl) rfl (fun E1 w1 hE => All.cons (r_api_Chart.mono hE (S.mem.know (i := 2) (e := fRep r_api_Chart (.agg #[iv x108.Start, .slice ad115 x108.Rows.length cp116]) x108) rfl)) (All.nil _ _ _)) rfl rfl (lb rfl) fun a w ad117 cp118 S => ?_
  obtain ⟨l119, hx120, h⟩ := bindSome h
  refine sApp (r := r_api_Chart) (T := 41) (xs := s89) (ys := [x108]) (v := .slice ad90 s89.length cp91) (u := .slice ad117 [x108].length cp118) 3 (.agg #[iv 0, .slice none 0 0]) 32 S (wN rfl) rfl Try.underlying38 rfl rfl (by decide) rfl rfl rfl (src_R (T := 41) 0 S.mem rfl) hx120 rfl (lb rfl) fun a w ad121 cp122 S => ?_
  refine sMove (.slice ad121 l119.length cp122) S (wN rfl) (.inr rfl) rfl rfl (lb rfl) fun a S => ?_
  refine leafL (leafT (hK107 _ _ ?_))
  obtain ⟨t127, h, g128⟩ := bindSome h
  refine sCut (fun a w => ∃ o124, ∃ o125, ∃ o126, (o124, o125, o126) = t127 ∧ ∃ b123, St [] E [] w0 224 a w [(2, .slice ad5 p2.length cp6), (7, .pointer (some ⟨b9, 0, none⟩)), (9, .bool r11), (20, .slice ad121 l119.length cp122), (21, .pointer (some ⟨b80, 0, none⟩)), (22, iv s92), (23, .pointer (some ⟨b123, 0, none⟩)), (24, iv o124)] [eBox b9 44 (gl_api_Rates p3), eBox b80 23 [iv s93, iv s94], eBox b123 23 [iv o125, iv o126], eRow r_api_Chart 41 (.slice ad121 l119.length cp122) l119] [fRep (rL r_api_Chart) (.slice ad5 p2.length cp6) p2]) ?_ (fun a w hI => ?_)
  rotate_left
  · obtain ⟨o124, o125, o126, rfl, b123, S⟩ := hI
    have h := g128
    clear g128
    try dsimp only at h
    refine sSeq (fun K153 hK153 => ?_)
    refine sSeq (fun K154 hK154 => ?_)
    refine sRegion ?_
    refine sMove (iv o124) S (wN rfl) (.inl rfl) rfl rfl (lb rfl) fun a S => ?_
    refine sBin (.bool (o124 != 0)) S (wN rfl) rfl rfl rfl (bNe _ _ _ _ .i64 o124 0) rfl (lb rfl) fun a S => ?_
    refine leafL (leafT (hK154 _ _ ?_))
    rcases iteSome h with ⟨hc155, h⟩ | ⟨hc155, h⟩
    rotate_left
    · refine sCondF S rfl hc155 ?_
      refine wp_skip (leafT (hK153 _ _ ?_))
      refine sSeq (fun K168 hK168 => ?_)
      refine sRegion ?_
      refine sField (b := b80) (off := 0) 0 0 S (wN rfl) rfl rfl rfl rfl rfl (lb rfl) fun a S => ?_
      refine sLoad1 (p := b80) (off := 0) (T := 23) (vs := [iv s93, iv s94]) 1 (iv s93) S (wN rfl) rfl rfl rfl rfl rfl rfl (lb rfl) fun a S => ?_
      refine sField (b := b123) (off := 0) 0 0 S (wN rfl) rfl rfl rfl rfl rfl (lb rfl) fun a S => ?_
      refine sLoad1 (p := b123) (off := 0) (T := 23) (vs := [iv o125, iv o126]) 2 (iv o125) S (wN rfl) rfl rfl rfl rfl rfl rfl (lb rfl) fun a S => ?_
      refine sBin (iv (w64 (s93 + o125))) S (wN rfl) rfl rfl rfl (bAdd _ _ _ _ s93 o125) rfl (lb rfl) fun a S => ?_
      refine sField (b := b80) (off := 0) 0 0 S (wN rfl) rfl rfl rfl rfl rfl (lb rfl) fun a S => ?_
      refine sStore (p := b80) (off := 0) (T := 23) (vs := [iv s93, iv s94]) (v := iv (w64 (s93 + o125))) 1 [iv (w64 (s93 + o125))] S (wN rfl) rfl rfl rfl rfl rfl rfl rfl (by simp) rfl fun a w S => ?_
      refine leafL (leafT (hK168 _ _ ?_))
      refine sRegion ?_
      refine sField (b := b80) (off := 0) 1 1 S (wN rfl) rfl rfl rfl rfl rfl (lb rfl) fun a S => ?_
      refine sLoad1 (p := b80) (off := 1) (T := 23) (vs := [iv (w64 (s93 + o125)), iv s94]) 0 (iv s94) S (wN rfl) rfl rfl rfl rfl rfl rfl (lb rfl) fun a S => ?_
      refine sField (b := b123) (off := 0) 1 1 S (wN rfl) rfl rfl rfl rfl rfl (lb rfl) fun a S => ?_
      refine sLoad1 (p := b123) (off := 1) (T := 23) (vs := [iv o125, iv o126]) 2 (iv o126) S (wN rfl) rfl rfl rfl rfl rfl rfl (lb rfl) fun a S => ?_
      refine sBin (iv (w64 (s94 + o126))) S (wN rfl) rfl rfl rfl (bAdd _ _ _ _ s94 o126) rfl (lb rfl) fun a S => ?_
      refine sField (b := b80) (off := 0) 1 1 S (wN rfl) rfl rfl rfl rfl rfl (lb rfl) fun a S => ?_
      refine sStore (p := b80) (off := 1) (T := 23) (vs := [iv (w64 (s93 + o125)), iv s94]) (v := iv (w64 (s94 + o126))) 0 [iv (w64 (s94 + o126))] S (wN rfl) rfl rfl rfl rfl rfl rfl rfl (by simp) rfl fun a w S => ?_
      refine leafL (leafB (leafT (hK106 _ _ ?_)))
      refine sRegion ?_
      refine sMove (iv s92) S (wN rfl) (.inl rfl) rfl rfl (lb rfl) fun a S => ?_
      refine sBin (iv (w64 (s92 + 1))) S (wN rfl) rfl rfl rfl (bAdd _ _ _ _ s92 1) rfl (lb rfl) fun a S => ?_
      refine sMove (iv (w64 (s92 + 1))) S (wN rfl) (.inr rfl) rfl rfl (lb rfl) fun a S => ?_
      exact leafL (leafT (⟨(l119, w64 (s92 + 1), w64 (s93 + o125), w64 (s94 + o126)), (Option.some.inj h).symm, ⟨ad121, cp122, S.fix [1, 0, 3] [0] (by decide) rfl rfl rfl⟩⟩))
    refine sCondT S rfl hc155 ?_
    refine sSeq (fun K156 hK156 => ?_)
    refine sRegion ?_
    refine sMove (.slice ad5 p2.length cp6) S (wN rfl) (.inl rfl) rfl rfl (lb rfl) fun a S => ?_
    refine sLoadN (p := b9) (off := 0) (T := 44) (vs := (gl_api_Rates p3)) 0 (gl_api_Rates p3) S (wN rfl) rfl rfl rfl rfl rfl rfl rfl (lb rfl) fun a S => ?_
    obtain ⟨r157, hx158, h⟩ := bindSome h
    have S := S.learn (fRep r_api_Rates (gv_api_Rates p3) p3) rfl
    refine sCall (X := Value) (f := 20) (vs := [.slice ad5 p2.length cp6, gv_api_Rates p3]) (val := c_cost_Total_val r157) (B' := fun _ => []) (D' := c_cost_Total_D r157) [] [eBox b9 44 (gl_api_Rates p3), eBox b80 23 [iv s93, iv s94], eBox b123 23 [iv o125, iv o126], eRow r_api_Chart 41 (.slice ad121 l119.length cp122) l119] [fRep (rL r_api_Chart) (.slice ad5 p2.length cp6) p2, fRep r_api_Rates (gv_api_Rates p3) p3] [0, 1, 2, 3] [1, 0] S (wN rfl) rfl callee20 rfl (by decide) rfl rfl (fun E1 w1 S1 => c_cost_Total E1 w1 p2 (.slice ad5 p2.length cp6) p3 (gv_api_Rates p3) r157 hx158 S1) rfl (lb rfl) fun u159 a w S => ?_
    obtain rfl : u159 = .agg #[iv r157.1.Length, iv r157.1.Time] := S.mem.know (i := 0) (e := fRep r_api_Bill (u159) r157.1) rfl
    refine sMove (.tuple #[.agg #[iv r157.1.Length, iv r157.1.Time], iv r157.2]) S (wN rfl) (.inl rfl) rfl rfl (lb rfl) fun a S => ?_
    refine sExtract (vs := [.agg #[iv r157.1.Length, iv r157.1.Time], iv r157.2]) (.agg #[iv r157.1.Length, iv r157.1.Time]) S (wN rfl) rfl rfl rfl rfl (lb rfl) fun a S => ?_
    refine sExtract (vs := [.agg #[iv r157.1.Length, iv r157.1.Time], iv r157.2]) (iv r157.2) S (wN rfl) rfl rfl rfl rfl (lb rfl) fun a S => ?_
    refine sAlloc (.agg #[iv 0, iv 0]) S (wN rfl) rfl rfl [iv 0, iv 0] rfl rfl (lb rfl) fun a b160 w S => ?_
    refine sStore (p := b160) (off := 0) (T := 23) (vs := [iv 0, iv 0]) (v := .agg #[iv r157.1.Length, iv r157.1.Time]) 0 [iv r157.1.Length, iv r157.1.Time] S (wN rfl) rfl rfl rfl rfl rfl rfl rfl (by simp) rfl fun a w S => ?_
    refine sMove (iv r157.2) S (wN rfl) (.inr rfl) rfl rfl (lb rfl) fun a S => ?_
    refine leafL (leafT (hK156 _ _ ?_))
    obtain ⟨t162, h, g163⟩ := bindSome h
    refine sCut (fun a w => ∃ o161, o161 = t162 ∧ St [] E [] w0 224 a w [(8, .bool o161)] [] []) ?_ (fun a w hI => ?_)
    rotate_left
    · obtain ⟨o161, rfl, S⟩ := hI
      have h := g163
      clear g163
      try dsimp only at h
      obtain rfl := Option.some.inj h
      obtain rfl := hu95 _ rfl
      have h := g96
      clear g96
      try dsimp only at h
      obtain rfl := Option.some.inj h
      have h := g87
      clear g87
      try dsimp only at h
      obtain rfl := Option.some.inj h
      exact wp_ret (rThen (rBlock (rThen (rThen (rBlock (rThen (sRet (.bool o161) S (rsl1 rfl (rvT (t := 8) (v := .bool o161) S rfl)) ⟨(), rfl, S.mem.sel [] [] (by decide) rfl rfl⟩)))))))
    refine sRegion ?_
    refine sMove (.bool r11) S (wN rfl) (.inl rfl) rfl rfl (lb rfl) fun a S => ?_
    refine sMove (.bool r11) S (wN rfl) (.inl rfl) rfl rfl (lb rfl) fun a S => ?_
    rcases iteSome h with ⟨hc164, h⟩ | ⟨hc164, h⟩
    rotate_left
    · refine sSkip 1 true 170 171 S rfl rfl rfl hc164 rfl (lb rfl) fun a S => ?_
      refine sSkip 1 true 170 172 S rfl rfl rfl hc164 rfl (lb rfl) fun a S => ?_
      refine sSkip 1 true 170 173 S rfl rfl rfl hc164 rfl (lb rfl) fun a S => ?_
      refine sPickF (.bool false) S (wN rfl) rfl rfl hc164 rfl rfl (lb rfl) fun a S => ?_
      refine sMove (.bool false) S (wN rfl) (.inl rfl) rfl rfl (lb rfl) fun a S => ?_
      refine sSkip 6 true 175 176 S rfl rfl rfl rfl rfl (lb rfl) fun a S => ?_
      refine sSkip 6 true 175 177 S rfl rfl rfl rfl rfl (lb rfl) fun a S => ?_
      refine sSkip 6 true 175 178 S rfl rfl rfl rfl rfl (lb rfl) fun a S => ?_
      refine sSkip 6 true 175 179 S rfl rfl rfl rfl rfl (lb rfl) fun a S => ?_
      refine sPickF (.bool false) S (wN rfl) rfl rfl rfl rfl rfl (lb rfl) fun a S => ?_
      refine sMove (.bool false) S (wN rfl) (.inr rfl) rfl rfl (lb rfl) fun a S => ?_
      exact leafL (leafT (⟨false, Option.some.inj h, S.fix [] [] (by decide) rfl rfl rfl⟩))
    refine sMove (iv r157.2) S (wG 1 true 170 rfl rfl rfl hc164) (.inl rfl) rfl rfl (lb rfl) fun a S => ?_
    refine sMove (iv o124) S (wG 1 true 170 rfl rfl rfl hc164) (.inl rfl) rfl rfl (lb rfl) fun a S => ?_
    refine sBin (.bool (r157.2 == o124)) S (wG 1 true 170 rfl rfl rfl hc164) rfl rfl rfl (bEq _ _ _ _ .i64 r157.2 o124) rfl (lb rfl) fun a S => ?_
    refine sPickT (.bool (r157.2 == o124)) S (wN rfl) rfl rfl hc164 rfl rfl (lb rfl) fun a S => ?_
    refine sMove (.bool (r157.2 == o124)) S (wN rfl) (.inl rfl) rfl rfl (lb rfl) fun a S => ?_
    rcases iteSome h with ⟨hc165, h⟩ | ⟨hc165, h⟩
    rotate_left
    · refine sSkip 6 true 175 176 S rfl rfl rfl hc165 rfl (lb rfl) fun a S => ?_
      refine sSkip 6 true 175 177 S rfl rfl rfl hc165 rfl (lb rfl) fun a S => ?_
      refine sSkip 6 true 175 178 S rfl rfl rfl hc165 rfl (lb rfl) fun a S => ?_
      refine sSkip 6 true 175 179 S rfl rfl rfl hc165 rfl (lb rfl) fun a S => ?_
      refine sPickF (.bool false) S (wN rfl) rfl rfl hc165 rfl rfl (lb rfl) fun a S => ?_
      refine sMove (.bool false) S (wN rfl) (.inr rfl) rfl rfl (lb rfl) fun a S => ?_
      exact leafL (leafT (⟨false, Option.some.inj h, S.fix [] [] (by decide) rfl rfl rfl⟩))
    refine sMove (iv s92) S (wG 6 true 175 rfl rfl rfl hc165) (.inl rfl) rfl rfl (lb rfl) fun a S => ?_
    refine sMove (.slice ad5 p2.length cp6) S (wG 6 true 175 rfl rfl rfl hc165) (.inl rfl) rfl rfl (lb rfl) fun a S => ?_
    obtain ⟨r166, hx167, h⟩ := bindSome h
    have S1 := S.mem
    refine sCallQ (X := Unit) (f := 36) (vs := [.slice ad5 p2.length cp6]) (val := fun _ => iv r166) S (wG 6 true 175 rfl rfl rfl hc165) rfl callee36 rfl (S1.quiet [2] rfl) (fun E1 w1 S1 => c_raddlelaw45_first E1 w1 p2 (.slice ad5 p2.length cp6) r166 hx167 S1) rfl (lb rfl) fun _ a w S => ?_
    refine sBin (.bool (s92 == r166)) S (wG 6 true 175 rfl rfl rfl hc165) rfl rfl rfl (bEq _ _ _ _ .i64 s92 r166) rfl (lb rfl) fun a S => ?_
    refine sPickT (.bool (s92 == r166)) S (wN rfl) rfl rfl hc165 rfl rfl (lb rfl) fun a S => ?_
    refine sMove (.bool (s92 == r166)) S (wN rfl) (.inr rfl) rfl rfl (lb rfl) fun a S => ?_
    exact leafL (leafT (⟨s92 == r166, Option.some.inj h, S.fix [] [] (by decide) rfl rfl rfl⟩))
  obtain ⟨x129, hx130, h⟩ := bindSome h
  obtain ⟨r138, hx139, h⟩ := bindSome h
  obtain ⟨q142, hq143, S⟩ := pIdx (P := Try.prog) (r := r_api_Chart) (v := .slice ad5 p2.length cp6) (xs := p2) (j := s92) 38 41 4 S Try.underlying38 rfl rfl hx130
  obtain ⟨u144, S⟩ := pLoad (r := r_api_Chart) (q := q142) (x := x129) 0 S rfl
  obtain ⟨u145, rfl, hu146⟩ := S.mem.know (i := 1) (e := fRep r_api_Chart (u144) x129) rfl
  have S := S.learn (fRep (rL r_api_Row) u145 x129.Rows) hu146
  obtain ⟨ad147, cp148, _, rfl, _⟩ := hu146
  refine sDraw (nf := [5, 9, 10]) (W := [(0, 153, .slice ad5 p2.length cp6), (1, 154, iv s92), (2, 155, q142), (3, 156, .agg #[iv x129.Start, .slice ad147 x129.Rows.length cp148]), (4, 157, gv_api_Rates p3)]) rfl S ?_
  refine node_by (A := anc_raddlelaw45_CostSums_0) (nf := [5, 9, 10]) (Y := []) (W := [(0, 153, .slice ad5 p2.length cp6), (1, 154, iv s92), (2, 155, q142), (3, 156, .agg #[iv x129.Start, .slice ad147 x129.Rows.length cp148]), (4, 157, gv_api_Rates p3)]) 12 (by kernel_rfl) (by kernel_rfl) (by kernel_rfl) (by kernel_rfl) (by kernel_rfl) [0, 1, 2, 3, 4] (by kernel_rfl) (by decide) (by decide) (aF 0 11 (by decide) ?_ (aF 1 10 (by decide) ?_ (aF 2 9 (by decide) ?_ (aF 3 8 (by decide) ?_ (aF 4 7 (by decide) ?_ (aN 5 6 (by decide) ?_ (aE 6 5 5 (by decide) (aE 7 4 5 (by decide) (aE 8 3 5 (by decide) (aN 9 2 (by decide) ?_ (aB 10 1 5 (by decide) (aE 11 0 5 (by decide) (trivial))))))))))))) [] (fun q hq => by cases hq) (fun hY => absurd (hY 5 (by decide)) (by decide))
  · refine fI 153 (.slice ad5 p2.length cp6) [(2, .slice ad5 p2.length cp6)] 0 [none] rfl rfl rfl rfl rfl rfl fun G a w S => ?_
    refine sMove (.slice ad5 p2.length cp6) S (wN rfl) (.inl rfl) rfl rfl (lb rfl) fun a S => ?_
    exact leafL ⟨rfl, S⟩
  · refine fI 154 (iv s92) [(22, iv s92)] 1 [none] rfl rfl rfl rfl rfl rfl fun G a w S => ?_
    refine sMove (iv s92) S (wN rfl) (.inl rfl) rfl rfl (lb rfl) fun a S => ?_
    exact leafL ⟨rfl, S⟩
  · refine fI 155 q142 [(153, .slice ad5 p2.length cp6), (154, iv s92)] 2 [some 0, some 1] rfl rfl rfl rfl rfl rfl fun G a w S => ?_
    refine sIdxV (v := .slice ad5 p2.length cp6) (k := .i64) (j := s92) S (wN rfl) rfl rfl rfl hq143 rfl (lb rfl) fun a S => ?_
    exact leafL ⟨rfl, S⟩
  · refine fI 156 (.agg #[iv x129.Start, .slice ad147 x129.Rows.length cp148]) [(155, q142)] 3 [some 2] rfl rfl rfl rfl rfl rfl fun G a w S => ?_
    refine sLoadVN (vq := q142) 1 [iv x129.Start, .slice ad147 x129.Rows.length cp148] S (wN rfl) rfl rfl rfl rfl rfl rfl (lb rfl) fun a S => ?_
    exact leafL ⟨rfl, S⟩
  · refine fI 157 (gv_api_Rates p3) [(7, .pointer (some ⟨b9, 0, none⟩))] 4 [none] rfl rfl rfl rfl rfl rfl fun G a w S => ?_
    refine sLoadN (p := b9) (off := 0) (T := 44) (vs := (gl_api_Rates p3)) 2 (gl_api_Rates p3) S (wN rfl) rfl rfl rfl rfl rfl rfl rfl (lb rfl) fun a S => ?_
    exact leafL ⟨rfl, S⟩
  · refine ⟨_, [(156, .agg #[iv x129.Start, .slice ad147 x129.Rows.length cp148]), (157, gv_api_Rates p3)], rfl, (srcs_of [some 3, some 4] rfl rfl rfl), fun G a w S => ?_⟩
    have S := S.learn (fRep r_api_Rates (gv_api_Rates p3) p3) rfl
    refine sCall (X := Value) (f := 18) (vs := [.agg #[iv x129.Start, .slice ad147 x129.Rows.length cp148], gv_api_Rates p3]) (val := c_cost_Need_val r138) (B' := fun _ => []) (D' := c_cost_Need_D r138) [] [eRow r_api_Chart 41 (.slice ad121 l119.length cp122) l119, eRow r_api_Chart 41 (.slice ad117 [x108].length cp118) [x108], eBox b9 44 (gl_api_Rates p3), eBox b80 23 [iv s93, iv s94]] [fRep r_api_Chart (.agg #[iv x129.Start, .slice ad147 x129.Rows.length cp148]) x129, fRep r_api_Rates (gv_api_Rates p3) p3] [0, 1, 2, 3] [3, 0] S (wN rfl) rfl callee18 rfl (by decide) rfl rfl (fun E1 w1 S1 => c_cost_Need E1 w1 x129 (.agg #[iv x129.Start, .slice ad147 x129.Rows.length cp148]) p3 (gv_api_Rates p3) r138 hx139 S1) rfl (lb rfl) fun u149 a w S => ?_
    obtain rfl : u149 = .agg #[iv r138.1.Length, iv r138.1.Time] := S.mem.know (i := 0) (e := fRep r_api_Bill (u149) r138.1) rfl
    refine leafL ⟨rfl, _, _, .inl ⟨158, (.tuple #[.agg #[iv r138.1.Length, iv r138.1.Time], iv r138.2]), [(6, 152, .tuple #[.agg #[iv r138.1.Length, iv r138.1.Time], iv r138.2]), (7, 159, .agg #[iv r138.1.Length, iv r138.1.Time]), (8, 160, iv r138.2)], rfl, S, hz_of rfl, ?_⟩⟩
    refine node_by (A := anc_raddlelaw45_CostSums_0) (nf := [5, 9, 10]) (Y := [5]) 12 (by kernel_rfl) (by kernel_rfl) (by kernel_rfl) (by kernel_rfl) (by kernel_rfl) [6, 7, 8, 5, 0, 1, 2, 3, 4] (by kernel_rfl) (by decide) (by decide) (aD 0 11 5 (by decide) (aD 1 10 5 (by decide) (aD 2 9 5 (by decide) (aD 3 8 5 (by decide) (aD 4 7 5 (by decide) (aY 5 6 (by decide) (aF 6 5 (by decide) ?_ (aF 7 4 (by decide) ?_ (aF 8 3 (by decide) ?_ (aN 9 2 (by decide) ?_ (aB 10 1 9 (by decide) (aE 11 0 9 (by decide) (trivial))))))))))))) [] (fun q hq => by cases hq) (fun hY => absurd (hY 9 (by decide)) (by decide))
    · refine fI 152 (.tuple #[.agg #[iv r138.1.Length, iv r138.1.Time], iv r138.2]) [(158, .tuple #[.agg #[iv r138.1.Length, iv r138.1.Time], iv r138.2])] 0 [some 3] rfl rfl rfl rfl rfl rfl fun G a w S => ?_
      refine sMove (.tuple #[.agg #[iv r138.1.Length, iv r138.1.Time], iv r138.2]) S (wN rfl) (.inl rfl) rfl rfl (lb rfl) fun a S => ?_
      exact leafL ⟨rfl, S⟩
    · refine fI 159 (.agg #[iv r138.1.Length, iv r138.1.Time]) [(152, .tuple #[.agg #[iv r138.1.Length, iv r138.1.Time], iv r138.2])] 1 [some 0] rfl rfl rfl rfl rfl rfl fun G a w S => ?_
      refine sExtract (vs := [.agg #[iv r138.1.Length, iv r138.1.Time], iv r138.2]) (.agg #[iv r138.1.Length, iv r138.1.Time]) S (wN rfl) rfl rfl rfl rfl (lb rfl) fun a S => ?_
      exact leafL ⟨rfl, S⟩
    · refine fI 160 (iv r138.2) [(152, .tuple #[.agg #[iv r138.1.Length, iv r138.1.Time], iv r138.2])] 2 [some 0] rfl rfl rfl rfl rfl rfl fun G a w S => ?_
      refine sExtract (vs := [.agg #[iv r138.1.Length, iv r138.1.Time], iv r138.2]) (iv r138.2) S (wN rfl) rfl rfl rfl rfl (lb rfl) fun a S => ?_
      exact leafL ⟨rfl, S⟩
    refine ⟨_, [], rfl, (srcs_of [] rfl rfl rfl), fun G a w S => ?_⟩
    refine sAlloc (.agg #[iv 0, iv 0]) S (wN rfl) rfl rfl [iv 0, iv 0] rfl rfl (lb rfl) fun a b150 w S => ?_
    refine leafL ⟨rfl, _, _, .inl ⟨23, (.pointer (some ⟨b150, 0, none⟩)), [], rfl, S, hz_of rfl, ?_⟩⟩
    refine node_by (A := anc_raddlelaw45_CostSums_0) (nf := [5, 9, 10]) (Y := [9, 5]) 12 (by kernel_rfl) (by kernel_rfl) (by kernel_rfl) (by kernel_rfl) (by kernel_rfl) [9, 6, 7, 8, 5, 0, 1, 2, 3, 4] (by kernel_rfl) (by decide) (by decide) (aD 0 11 5 (by decide) (aD 1 10 5 (by decide) (aD 2 9 5 (by decide) (aD 3 8 5 (by decide) (aD 4 7 5 (by decide) (aY 5 6 (by decide) (aF 6 5 (by decide) ?_ (aF 7 4 (by decide) ?_ (aF 8 3 (by decide) ?_ (aY 9 2 (by decide) (aN 10 1 (by decide) ?_ (aE 11 0 10 (by decide) (trivial))))))))))))) [] (fun q hq => by cases hq) (fun hY => absurd (hY 10 (by decide)) (by decide))
    · refine fI 152 (.tuple #[.agg #[iv r138.1.Length, iv r138.1.Time], iv r138.2]) [(158, .tuple #[.agg #[iv r138.1.Length, iv r138.1.Time], iv r138.2])] 1 [some 4] rfl rfl rfl rfl rfl rfl fun G a w S => ?_
      refine sMove (.tuple #[.agg #[iv r138.1.Length, iv r138.1.Time], iv r138.2]) S (wN rfl) (.inl rfl) rfl rfl (lb rfl) fun a S => ?_
      exact leafL ⟨rfl, S⟩
    · refine fI 159 (.agg #[iv r138.1.Length, iv r138.1.Time]) [(152, .tuple #[.agg #[iv r138.1.Length, iv r138.1.Time], iv r138.2])] 2 [some 1] rfl rfl rfl rfl rfl rfl fun G a w S => ?_
      refine sExtract (vs := [.agg #[iv r138.1.Length, iv r138.1.Time], iv r138.2]) (.agg #[iv r138.1.Length, iv r138.1.Time]) S (wN rfl) rfl rfl rfl rfl (lb rfl) fun a S => ?_
      exact leafL ⟨rfl, S⟩
    · refine fI 160 (iv r138.2) [(152, .tuple #[.agg #[iv r138.1.Length, iv r138.1.Time], iv r138.2])] 3 [some 1] rfl rfl rfl rfl rfl rfl fun G a w S => ?_
      refine sExtract (vs := [.agg #[iv r138.1.Length, iv r138.1.Time], iv r138.2]) (iv r138.2) S (wN rfl) rfl rfl rfl rfl (lb rfl) fun a S => ?_
      exact leafL ⟨rfl, S⟩
    refine ⟨_, [(23, .pointer (some ⟨b150, 0, none⟩)), (159, .agg #[iv r138.1.Length, iv r138.1.Time])], rfl, (srcs_of [some 0, some 2] rfl rfl rfl), fun G a w S => ?_⟩
    refine sStore (p := b150) (off := 0) (T := 23) (vs := [iv 0, iv 0]) (v := .agg #[iv r138.1.Length, iv r138.1.Time]) 0 [iv r138.1.Length, iv r138.1.Time] S (wN rfl) rfl rfl rfl rfl rfl rfl rfl (by simp) rfl fun a w S => ?_
    refine leafL ⟨rfl, _, _, .inr ⟨[(11, 24, iv r138.2)], rfl, S, hz_of rfl, ?_⟩⟩
    refine node_by (A := anc_raddlelaw45_CostSums_0) (nf := [5, 9, 10]) (Y := [10, 9, 5]) 12 (by kernel_rfl) (by kernel_rfl) (by kernel_rfl) (by kernel_rfl) (by kernel_rfl) [11, 9, 6, 7, 8, 5, 0, 1, 2, 3, 4] (by kernel_rfl) (by decide) (by decide) (aD 0 11 10 (by decide) (aD 1 10 10 (by decide) (aD 2 9 10 (by decide) (aD 3 8 10 (by decide) (aD 4 7 10 (by decide) (aY 5 6 (by decide) (aD 6 5 10 (by decide) (aD 7 4 10 (by decide) (aF 8 3 (by decide) ?_ (aY 9 2 (by decide) (aY 10 1 (by decide) (aF 11 0 (by decide) ?_ (trivial))))))))))))) [(2, .slice ad5 p2.length cp6), (7, .pointer (some ⟨b9, 0, none⟩)), (9, .bool r11), (20, .slice ad121 l119.length cp122), (21, .pointer (some ⟨b80, 0, none⟩)), (22, iv s92), (23, .pointer (some ⟨b150, 0, none⟩)), (24, iv r138.2)] (fin_of [none, none, none, none, none, none, some 1, some 0] rfl (by kernel_rfl) (by kernel_rfl)) (fun _ a w S => ?_)
    · refine fI 160 (iv r138.2) [(152, .tuple #[.agg #[iv r138.1.Length, iv r138.1.Time], iv r138.2])] 4 [some 2] rfl rfl rfl rfl rfl rfl fun G a w S => ?_
      refine sExtract (vs := [.agg #[iv r138.1.Length, iv r138.1.Time], iv r138.2]) (iv r138.2) S (wN rfl) rfl rfl rfl rfl (lb rfl) fun a S => ?_
      exact leafL ⟨rfl, S⟩
    · refine fI 24 (iv r138.2) [(160, iv r138.2)] 0 [some 4] rfl rfl rfl rfl rfl rfl fun G a w S => ?_
      refine sMove (iv r138.2) S (wN rfl) (.inr rfl) rfl rfl (lb rfl) fun a S => ?_
      exact leafL ⟨rfl, S⟩
    exact leafT (⟨r138.2, r138.1.Length, r138.1.Time, Option.some.inj h, b150, S.fix [3, 4, 0, 1] [10] (by decide) rfl rfl rfl⟩)
  refine ⟨_, [], rfl, (srcs_of [] rfl rfl rfl), fun G a w S => ?_⟩
  refine sAlloc (.agg #[iv 0, iv 0]) S (wN rfl) rfl rfl [iv 0, iv 0] rfl rfl (lb rfl) fun a b151 w S => ?_
  refine leafL ⟨rfl, _, _, .inl ⟨23, (.pointer (some ⟨b151, 0, none⟩)), [], rfl, S, hz_of rfl, ?_⟩⟩
  refine node_by (A := anc_raddlelaw45_CostSums_0) (nf := [5, 9, 10]) (Y := [9]) 12 (by kernel_rfl) (by kernel_rfl) (by kernel_rfl) (by kernel_rfl) (by kernel_rfl) [9, 0, 1, 2, 3, 4] (by kernel_rfl) (by decide) (by decide) (aF 0 11 (by decide) ?_ (aF 1 10 (by decide) ?_ (aF 2 9 (by decide) ?_ (aF 3 8 (by decide) ?_ (aF 4 7 (by decide) ?_ (aN 5 6 (by decide) ?_ (aE 6 5 5 (by decide) (aE 7 4 5 (by decide) (aE 8 3 5 (by decide) (aY 9 2 (by decide) (aB 10 1 5 (by decide) (aE 11 0 5 (by decide) (trivial))))))))))))) [] (fun q hq => by cases hq) (fun hY => absurd (hY 5 (by decide)) (by decide))
  · refine fI 153 (.slice ad5 p2.length cp6) [(2, .slice ad5 p2.length cp6)] 1 [none] rfl rfl rfl rfl rfl rfl fun G a w S => ?_
    refine sMove (.slice ad5 p2.length cp6) S (wN rfl) (.inl rfl) rfl rfl (lb rfl) fun a S => ?_
    exact leafL ⟨rfl, S⟩
  · refine fI 154 (iv s92) [(22, iv s92)] 2 [none] rfl rfl rfl rfl rfl rfl fun G a w S => ?_
    refine sMove (iv s92) S (wN rfl) (.inl rfl) rfl rfl (lb rfl) fun a S => ?_
    exact leafL ⟨rfl, S⟩
  · refine fI 155 q142 [(153, .slice ad5 p2.length cp6), (154, iv s92)] 3 [some 1, some 2] rfl rfl rfl rfl rfl rfl fun G a w S => ?_
    refine sIdxV (v := .slice ad5 p2.length cp6) (k := .i64) (j := s92) S (wN rfl) rfl rfl rfl hq143 rfl (lb rfl) fun a S => ?_
    exact leafL ⟨rfl, S⟩
  · refine fI 156 (.agg #[iv x129.Start, .slice ad147 x129.Rows.length cp148]) [(155, q142)] 4 [some 3] rfl rfl rfl rfl rfl rfl fun G a w S => ?_
    refine sLoadVN (vq := q142) 1 [iv x129.Start, .slice ad147 x129.Rows.length cp148] S (wN rfl) rfl rfl rfl rfl rfl rfl (lb rfl) fun a S => ?_
    exact leafL ⟨rfl, S⟩
  · refine fI 157 (gv_api_Rates p3) [(7, .pointer (some ⟨b9, 0, none⟩))] 5 [none] rfl rfl rfl rfl rfl rfl fun G a w S => ?_
    refine sLoadN (p := b9) (off := 0) (T := 44) (vs := (gl_api_Rates p3)) 3 (gl_api_Rates p3) S (wN rfl) rfl rfl rfl rfl rfl rfl rfl (lb rfl) fun a S => ?_
    exact leafL ⟨rfl, S⟩
  refine ⟨_, [(156, .agg #[iv x129.Start, .slice ad147 x129.Rows.length cp148]), (157, gv_api_Rates p3)], rfl, (srcs_of [some 4, some 5] rfl rfl rfl), fun G a w S => ?_⟩
  have S := S.learn (fRep r_api_Rates (gv_api_Rates p3) p3) rfl
  refine sCall (X := Value) (f := 18) (vs := [.agg #[iv x129.Start, .slice ad147 x129.Rows.length cp148], gv_api_Rates p3]) (val := c_cost_Need_val r138) (B' := fun _ => []) (D' := c_cost_Need_D r138) [] [eBox b151 23 [iv 0, iv 0], eRow r_api_Chart 41 (.slice ad121 l119.length cp122) l119, eRow r_api_Chart 41 (.slice ad117 [x108].length cp118) [x108], eBox b9 44 (gl_api_Rates p3), eBox b80 23 [iv s93, iv s94]] [fRep r_api_Chart (.agg #[iv x129.Start, .slice ad147 x129.Rows.length cp148]) x129, fRep r_api_Rates (gv_api_Rates p3) p3] [0, 1, 2, 3, 4] [3, 0] S (wN rfl) rfl callee18 rfl (by decide) rfl rfl (fun E1 w1 S1 => c_cost_Need E1 w1 x129 (.agg #[iv x129.Start, .slice ad147 x129.Rows.length cp148]) p3 (gv_api_Rates p3) r138 hx139 S1) rfl (lb rfl) fun u152 a w S => ?_
  obtain rfl : u152 = .agg #[iv r138.1.Length, iv r138.1.Time] := S.mem.know (i := 0) (e := fRep r_api_Bill (u152) r138.1) rfl
  refine leafL ⟨rfl, _, _, .inl ⟨158, (.tuple #[.agg #[iv r138.1.Length, iv r138.1.Time], iv r138.2]), [(6, 152, .tuple #[.agg #[iv r138.1.Length, iv r138.1.Time], iv r138.2]), (7, 159, .agg #[iv r138.1.Length, iv r138.1.Time]), (8, 160, iv r138.2)], rfl, S, hz_of rfl, ?_⟩⟩
  refine node_by (A := anc_raddlelaw45_CostSums_0) (nf := [5, 9, 10]) (Y := [5, 9]) 12 (by kernel_rfl) (by kernel_rfl) (by kernel_rfl) (by kernel_rfl) (by kernel_rfl) [6, 7, 8, 5, 9, 0, 1, 2, 3, 4] (by kernel_rfl) (by decide) (by decide) (aD 0 11 5 (by decide) (aD 1 10 5 (by decide) (aD 2 9 5 (by decide) (aD 3 8 5 (by decide) (aD 4 7 5 (by decide) (aY 5 6 (by decide) (aF 6 5 (by decide) ?_ (aF 7 4 (by decide) ?_ (aF 8 3 (by decide) ?_ (aY 9 2 (by decide) (aN 10 1 (by decide) ?_ (aE 11 0 10 (by decide) (trivial))))))))))))) [] (fun q hq => by cases hq) (fun hY => absurd (hY 10 (by decide)) (by decide))
  · refine fI 152 (.tuple #[.agg #[iv r138.1.Length, iv r138.1.Time], iv r138.2]) [(158, .tuple #[.agg #[iv r138.1.Length, iv r138.1.Time], iv r138.2])] 0 [some 3] rfl rfl rfl rfl rfl rfl fun G a w S => ?_
    refine sMove (.tuple #[.agg #[iv r138.1.Length, iv r138.1.Time], iv r138.2]) S (wN rfl) (.inl rfl) rfl rfl (lb rfl) fun a S => ?_
    exact leafL ⟨rfl, S⟩
  · refine fI 159 (.agg #[iv r138.1.Length, iv r138.1.Time]) [(152, .tuple #[.agg #[iv r138.1.Length, iv r138.1.Time], iv r138.2])] 1 [some 0] rfl rfl rfl rfl rfl rfl fun G a w S => ?_
    refine sExtract (vs := [.agg #[iv r138.1.Length, iv r138.1.Time], iv r138.2]) (.agg #[iv r138.1.Length, iv r138.1.Time]) S (wN rfl) rfl rfl rfl rfl (lb rfl) fun a S => ?_
    exact leafL ⟨rfl, S⟩
  · refine fI 160 (iv r138.2) [(152, .tuple #[.agg #[iv r138.1.Length, iv r138.1.Time], iv r138.2])] 2 [some 0] rfl rfl rfl rfl rfl rfl fun G a w S => ?_
    refine sExtract (vs := [.agg #[iv r138.1.Length, iv r138.1.Time], iv r138.2]) (iv r138.2) S (wN rfl) rfl rfl rfl rfl (lb rfl) fun a S => ?_
    exact leafL ⟨rfl, S⟩
  refine ⟨_, [(23, .pointer (some ⟨b151, 0, none⟩)), (159, .agg #[iv r138.1.Length, iv r138.1.Time])], rfl, (srcs_of [some 4, some 1] rfl rfl rfl), fun G a w S => ?_⟩
  refine sStore (p := b151) (off := 0) (T := 23) (vs := [iv 0, iv 0]) (v := .agg #[iv r138.1.Length, iv r138.1.Time]) 0 [iv r138.1.Length, iv r138.1.Time] S (wN rfl) rfl rfl rfl rfl rfl rfl rfl (by simp) rfl fun a w S => ?_
  refine leafL ⟨rfl, _, _, .inr ⟨[(11, 24, iv r138.2)], rfl, S, hz_of rfl, ?_⟩⟩
  refine node_by (A := anc_raddlelaw45_CostSums_0) (nf := [5, 9, 10]) (Y := [10, 5, 9]) 12 (by kernel_rfl) (by kernel_rfl) (by kernel_rfl) (by kernel_rfl) (by kernel_rfl) [11, 6, 7, 8, 5, 9, 0, 1, 2, 3, 4] (by kernel_rfl) (by decide) (by decide) (aD 0 11 10 (by decide) (aD 1 10 10 (by decide) (aD 2 9 10 (by decide) (aD 3 8 10 (by decide) (aD 4 7 10 (by decide) (aY 5 6 (by decide) (aD 6 5 10 (by decide) (aD 7 4 10 (by decide) (aF 8 3 (by decide) ?_ (aY 9 2 (by decide) (aY 10 1 (by decide) (aF 11 0 (by decide) ?_ (trivial))))))))))))) [(2, .slice ad5 p2.length cp6), (7, .pointer (some ⟨b9, 0, none⟩)), (9, .bool r11), (20, .slice ad121 l119.length cp122), (21, .pointer (some ⟨b80, 0, none⟩)), (22, iv s92), (23, .pointer (some ⟨b151, 0, none⟩)), (24, iv r138.2)] (fin_of [none, none, none, none, none, none, some 5, some 0] rfl (by kernel_rfl) (by kernel_rfl)) (fun _ a w S => ?_)
  · refine fI 160 (iv r138.2) [(152, .tuple #[.agg #[iv r138.1.Length, iv r138.1.Time], iv r138.2])] 3 [some 1] rfl rfl rfl rfl rfl rfl fun G a w S => ?_
    refine sExtract (vs := [.agg #[iv r138.1.Length, iv r138.1.Time], iv r138.2]) (iv r138.2) S (wN rfl) rfl rfl rfl rfl (lb rfl) fun a S => ?_
    exact leafL ⟨rfl, S⟩
  · refine fI 24 (iv r138.2) [(160, iv r138.2)] 0 [some 3] rfl rfl rfl rfl rfl rfl fun G a w S => ?_
    refine sMove (iv r138.2) S (wN rfl) (.inr rfl) rfl rfl (lb rfl) fun a S => ?_
    exact leafL ⟨rfl, S⟩
  exact leafT (⟨r138.2, r138.1.Length, r138.1.Time, Option.some.inj h, b151, S.fix [3, 4, 0, 1] [10] (by decide) rfl rfl rfl⟩)

end Go.Proofs.Ytdbgkakmhlmpbaa
namespace Go.Proofs.Ytdbgkakmhlmpbaa
open Go.RowKit
set_option linter.unusedVariables false

def bl (r : api_Rates) (c : api_Chart) : Int := (billOf c r).Length
def bt (r : api_Rates) (c : api_Chart) : Int := (billOf c r).Time
theorem bill_bd {r : api_Rates} (hr : okR r) {c : api_Chart} (hc : chk c = 0) : (0 ≤ bl r c ∧ bl r c ≤ 4000000000000) ∧ (0 ≤ bt r c ∧ bt r c ≤ 30000000000) := by
  have h1 := rows_bd (f := lenS r) (b := 200000000) (by omega) hc (fun p hp => lenS_bd hr hp)
  have h2 := rows_bd (f := timS r) (b := 1000000) (by omega) hc (fun p _ => timS_bd hr p)
  have h3 := (chk_ok hc).1
  have h4 := mul_bd (u := r.Turn) (v := (c.Rows.length : Int)) (a := 1000000) (b := 100) hr.2.2.1 hr.2.2.2.1 (by omega) (by omega)
  have e1 : bl r c = sm (rowT (lenS r)) c.Rows := rfl
  have e2 : bt r c = r.Turn * (c.Rows.length : Int) + sm (rowT (timS r)) c.Rows := rfl
  rw [e1, e2]
  omega
theorem bill_parts (r : api_Rates) (s m : Int) (rows : List api_Row) (k : Nat) (hk : k ≤ rows.length) : bl r ⟨s, rows⟩ = bl r ⟨s, rows.take k⟩ + bl r ⟨m, rows.drop k⟩ ∧ bt r ⟨s, rows⟩ = bt r ⟨s, rows.take k⟩ + bt r ⟨m, rows.drop k⟩ := by
  have e : ∀ f : api_Row → Int, sm f rows = sm f (rows.take k) + sm f (rows.drop k) := fun f => by rw [← sm_append, List.take_append_drop]
  refine ⟨e (rowT (lenS r)), ?_⟩
  show r.Turn * (rows.length : Int) + sm (rowT (timS r)) rows = r.Turn * ((rows.take k).length : Int) + sm (rowT (timS r)) (rows.take k) + (r.Turn * ((rows.drop k).length : Int) + sm (rowT (timS r)) (rows.drop k))
  have hl : (rows.length : Int) = ((rows.take k).length : Int) + ((rows.drop k).length : Int) := by simp; omega
  rw [e (rowT (timS r)), hl, Int.mul_add]
  omega
theorem need_ok {r : api_Rates} (hr : okR r) {c : api_Chart} (hw : wfR c.Rows) : F_cost_Need c r = some (if chk c = 0 then (⟨bl r c, bt r c⟩, 0) else (⟨0, 0⟩, chk c)) := by
  rw [need_eq c r hw]
  unfold needOf
  rw [if_pos hr]
  rfl
theorem sm_rev {α : Type} (f : α → Int) (l : List α) : sm f l.reverse = sm f l := by
  induction l with
  | nil => rfl
  | cons x l ih => rw [List.reverse_cons, sm_append, ih]; simp only [sm]; omega
theorem sm_tk {r : api_Rates} (hr : okR r) {l : List api_Chart} (hl : l.length ≤ 5) (k : Nat) (h : ∀ c, c ∈ l.take k → chk c = 0) : (0 ≤ sm (bl r) (l.take k) ∧ sm (bl r) (l.take k) ≤ 20000000000000) ∧ (0 ≤ sm (bt r) (l.take k) ∧ sm (bt r) (l.take k) ≤ 150000000000) := by
  have h1 := sm_bd (f := bl r) (b := 4000000000000) (l := l.take k) fun c hc => (bill_bd hr (h c hc)).1
  have h2 := sm_bd (f := bt r) (b := 30000000000) (l := l.take k) fun c hc => (bill_bd hr (h c hc)).2
  have : (l.take k).length ≤ 5 := by simp; omega
  omega
theorem tk_mem {l : List api_Chart} {k : Nat} (h : ∀ j (hj : j < l.length), j < k → chk l[j] = 0) : ∀ c, c ∈ l.take k → chk c = 0 := by
  intro c hc
  obtain ⟨j, hj, rfl⟩ := List.getElem_of_mem hc
  rw [List.getElem_take]
  exact h j _ (by simp at hj; omega)
theorem total_loop' {r : api_Rates} (hr : okR r) (l : List api_Chart) (hw : ∀ c, c ∈ l → wfR c.Rows) (hl : l.length ≤ 5) : ∃ t, whileO (cost_Total_l1 l r) (0, 0, 0) = some t ∧
    (((∀ j (hj : j < l.length), chk l[j] = 0) ∧ t = .inr (sm (bl r) l, sm (bt r) l)) ∨ (∃ k, ∃ hk : k < l.length, chk l[k] ≠ 0 ∧ (∀ j (hj : j < l.length), j < k → chk l[j] = 0) ∧ t = .inl (⟨0, 0⟩, chk l[k]))) := by
  refine loop_ts l.length (fun k s => (∀ j (hj : j < l.length), j < k → chk l[j] = 0) ∧ s = (sm (bl r) (l.take k), sm (bt r) (l.take k))) _ ⟨fun j _ h => absurd h (Nat.not_lt_zero j), rfl⟩ ?_ ?_
  · rintro k s hk ⟨hI, rfl⟩
    have hn := need_ok hr (hw _ (List.getElem_mem hk))
    have hb := sm_tk hr hl k (tk_mem hI)
    by_cases hc : chk l[k] = 0
    · have hb2 := bill_bd hr hc
      rw [if_pos hc] at hn
      have hI' : ∀ j (hj : j < l.length), j < k + 1 → chk l[j] = 0 := fun j hj hjk => by
        by_cases e : j = k
        · subst e; exact hc
        · exact hI j hj (by omega)
      refine .inl ⟨_, ?_, hI', rfl⟩
      unfold cost_Total_l1
      simp only [dT (show (k : Int) < (l.length : Int) by omega), if_true, idxO_nat hk, Option.bind_some, hn, bne_self_eq_false, Bool.false_eq_true, if_false, w64_succ (show k < 9223372036854775807 by omega), sm_take _ l hk]
      rw [w64_of (x := sm (bl r) (l.take k) + bl r l[k]) (by omega) (by omega), w64_of (x := sm (bt r) (l.take k) + bt r l[k]) (by omega) (by omega)]
    · rw [if_neg hc] at hn
      refine .inr ⟨_, ?_, .inr ⟨k, hk, hc, hI, rfl⟩⟩
      unfold cost_Total_l1
      simp only [dT (show (k : Int) < (l.length : Int) by omega), if_true, idxO_nat hk, Option.bind_some, hn, nT hc]
  · rintro s ⟨hI, rfl⟩
    refine ⟨.inr (sm (bl r) l, sm (bt r) l), ?_, .inl ⟨fun j hj => hI j hj hj, rfl⟩⟩
    unfold cost_Total_l1
    simp only [dF (show ¬ (l.length : Int) < (l.length : Int) by omega), Bool.false_eq_true, if_false, List.take_length]
theorem total_ok {r : api_Rates} (hr : okR r) (l : List api_Chart) (hw : ∀ c, c ∈ l → wfR c.Rows) (hl : l.length ≤ 5) (h : ∀ j (hj : j < l.length), chk l[j] = 0) : F_cost_Total l r = some (⟨sm (bl r) l, sm (bt r) l⟩, 0) := by
  obtain ⟨t, t1, t2⟩ := total_loop' hr l hw hl
  rcases t2 with ⟨_, rfl⟩ | ⟨k, hk, hc, _, _⟩
  · have hck := rates_eq r
    rw [if_pos hr] at hck
    unfold F_cost_Total
    simp only [dF (show ¬ (20 : Int) < (l.length : Int) by omega), Bool.false_eq_true, if_false, t1, Option.bind_some, hck]
    cases ((l.length : Int) == 0) <;> rfl
  · exact absurd (h k hk) hc
theorem total_bad {r : api_Rates} (hr : okR r) (l : List api_Chart) (hw : ∀ c, c ∈ l → wfR c.Rows) (hl : l.length ≤ 5) {k : Nat} (hk : k < l.length) (hc : chk l[k] ≠ 0) (hb : ∀ j (hj : j < l.length), j < k → chk l[j] = 0) : F_cost_Total l r = some (⟨0, 0⟩, chk l[k]) := by
  obtain ⟨t, t1, t2⟩ := total_loop' hr l hw hl
  rcases t2 with ⟨hall, rfl⟩ | ⟨i, hi, hci, hbi, rfl⟩
  · exact absurd (hall k hk) hc
  · have : i = k := by
      rcases Nat.lt_trichotomy i k with e | e | e
      · exact absurd (hb i hi e) hci
      · exact e
      · exact absurd (hbi k hk e) hc
    subst this
    unfold F_cost_Total
    simp only [dF (show ¬ (20 : Int) < (l.length : Int) by omega), Bool.false_eq_true, if_false, t1, Option.bind_some]
theorem first_bad (l : List api_Chart) (hl : l.length ≤ 5) {k : Nat} (hk : k < l.length) (hc : chk l[k] ≠ 0) (hb : ∀ j (hj : j < l.length), j < k → chk l[j] = 0) : F_raddlelaw45_first l = some (k : Int) := by
  have key : ∃ t, whileO (raddlelaw45_first_l1 l) 0 = some t ∧ t = (k : Int) := by
    refine loop_ix k (fun _ => True) _ trivial ?_ ?_
    · intro j hj _
      refine .inl ⟨?_, trivial⟩
      unfold raddlelaw45_first_l1
      simp only [dT (show (j : Int) < (l.length : Int) by omega), if_true, idxO_nat (show j < l.length by omega), Option.bind_some, rchart_check_eq, bT (hb j (by omega) hj), w64_succ (show j < 9223372036854775807 by omega)]
    · intro _
      refine ⟨_, ?_, rfl⟩
      unfold raddlelaw45_first_l1
      simp only [dT (show (k : Int) < (l.length : Int) by omega), if_true, idxO_nat hk, Option.bind_some, rchart_check_eq, bF hc, Bool.false_eq_true, if_false]
  obtain ⟨t, t1, rfl⟩ := key
  unfold F_raddlelaw45_first
  rw [t1]
  rfl
theorem sums_loop {r : api_Rates} (hr : okR r) (l : List api_Chart) (hw : ∀ c, c ∈ l → wfR c.Rows) (hl : l.length ≤ 5) : ∃ t, whileO (raddlelaw45_CostSums_l1 l r true) (([] : List api_Chart), 0, 0, 0) = some t ∧
    (t = .inl true ∨ ((∀ j (hj : j < l.length), chk l[j] = 0) ∧ t = .inr (l.reverse, sm (bl r) l, sm (bt r) l))) := by
  refine loop_at l.length (fun k (s : List api_Chart × Int × Int) => (s.1, (k : Int), s.2.1, s.2.2)) (fun k s => (∀ j (hj : j < l.length), j < k → chk l[j] = 0) ∧ s = (l.reverse.take k, sm (bl r) (l.take k), sm (bt r) (l.take k))) _ (s0 := (([] : List api_Chart), (0 : Int), (0 : Int))) ⟨fun j _ h => absurd h (Nat.not_lt_zero j), rfl⟩ ?_ ?_
  · rintro k s hk ⟨hI, rfl⟩
    have hn := need_ok hr (hw _ (List.getElem_mem hk))
    have hb := sm_tk hr hl k (tk_mem hI)
    have hrk : k < l.reverse.length := by simpa using hk
    have hx : idxO l (w64 (w64 ((l.length : Int) - 1) - (k : Int))) = some (l.reverse[k]'hrk) := by
      rw [idxO_of (k := l.length - 1 - k) (by rw [w64_of (x := (l.length : Int) - 1) (by omega) (by omega), w64_of (by omega) (by omega)]; omega) (by omega)]
      simp
    have ha : appO (l.reverse.take k) [l.reverse[k]'hrk] = some (l.reverse.take (k + 1)) := by
      rw [appO_of (by simp; omega), List.take_succ_eq_append_getElem hrk]
    by_cases hc : chk l[k] = 0
    · have hb2 := bill_bd hr hc
      rw [if_pos hc] at hn
      have hI' : ∀ j (hj : j < l.length), j < k + 1 → chk l[j] = 0 := fun j hj hjk => by
        by_cases e : j = k
        · subst e; exact hc
        · exact hI j hj (by omega)
      refine .inl ⟨_, ?_, hI', rfl⟩
      unfold raddlelaw45_CostSums_l1
      simp only [dT (show (k : Int) < (l.length : Int) by omega), if_true, hx, ha, idxO_nat hk, Option.bind_some, hn, bne_self_eq_false, Bool.false_eq_true, if_false, w64_succ (show k < 9223372036854775807 by omega), sm_take _ l hk]
      rw [w64_of (x := sm (bl r) (l.take k) + bl r l[k]) (by omega) (by omega), w64_of (x := sm (bt r) (l.take k) + bt r l[k]) (by omega) (by omega)]
    · rw [if_neg hc] at hn
      refine .inr ⟨.inl true, ?_, .inl rfl⟩
      unfold raddlelaw45_CostSums_l1
      simp only [dT (show (k : Int) < (l.length : Int) by omega), if_true, hx, ha, idxO_nat hk, Option.bind_some, hn, nT hc, total_bad hr l hw hl hk hc hI, first_bad l hl hk hc hI, beq_self_eq_true]
  · rintro s ⟨hI, rfl⟩
    refine ⟨.inr (l.reverse, sm (bl r) l, sm (bt r) l), ?_, .inr ⟨fun j hj => hI j hj hj, rfl⟩⟩
    have e : l.reverse.take l.length = l.reverse := List.take_of_length_le (by simp)
    unfold raddlelaw45_CostSums_l1
    simp only [dF (show ¬ (l.length : Int) < (l.length : Int) by omega), Bool.false_eq_true, if_false, List.take_length, e]
theorem law_CostSums' (ha : F_raddlelaw45_alive = some true) (c : api_Chart) (p1 : Int) (l : List api_Chart) (r : api_Rates) (wc : wf_api_Chart c) (wl : Wl wf_api_Chart l) : F_raddlelaw45_CostSums c p1 l r = some true := by
  obtain ⟨b1, g1⟩ := great_some c wc.2.1
  obtain ⟨b2, g2⟩ := greatAll_some l wl.1 wl.2
  unfold F_raddlelaw45_CostSums
  rw [ha, g1]
  cases b1 with
  | true => rfl
  | false =>
    simp only [Option.bind_some, Bool.false_eq_true, if_false, rchart_check_eq]
    by_cases hc : chk c = 0
    case neg => simp only [nT hc, if_true, Option.bind_some]
    simp only [hc, bne_self_eq_false, Bool.false_eq_true, if_false, g2, Option.bind_some]
    cases b2 with
    | true => rfl
    | false =>
      simp only [Bool.false_eq_true, if_false]
      by_cases hl : l.length ≤ 5
      case neg => simp only [dT (show (5 : Int) < (l.length : Int) by omega), if_true, Option.bind_some]
      simp only [dF (show ¬ (5 : Int) < (l.length : Int) by omega), Bool.false_eq_true, if_false, rrates_eq, Option.bind_some]
      by_cases hr : okR r
      case neg => simp only [if_neg hr, nT (show ¬ (8 : Int) = 0 by omega), if_true, Option.bind_some]
      simp only [if_pos hr, bne_self_eq_false, Bool.false_eq_true, if_false]
      by_cases h0 : p1 < 0
      · simp only [dT h0, if_true, Option.bind_some]
      by_cases h1 : (c.Rows.length : Int) < p1
      · simp only [dF h0, dT h1, Bool.false_eq_true, if_false, if_true, Option.bind_some]
      obtain ⟨k, rfl⟩ : ∃ k : Nat, p1 = k := ⟨p1.toNat, by omega⟩
      have hwc := wfR_of wc
      obtain ⟨m, q1, q2, q3, q4⟩ := part_eq c hwc hc k (by omega)
      have w1 : wfR (c.Rows.take k) := fun x hx => hwc x (List.mem_of_mem_take hx)
      have w2 : wfR (c.Rows.drop k) := fun x hx => hwc x (List.mem_of_mem_drop hx)
      have n0 := need_ok hr hwc
      have n1 := need_ok hr (c := ⟨c.Start, c.Rows.take k⟩) w1
      have n2 := need_ok hr (c := ⟨m, c.Rows.drop k⟩) w2
      rw [if_pos hc] at n0
      rw [if_pos q3] at n1
      rw [if_pos q4] at n2
      obtain ⟨s1, s2⟩ := bill_parts r c.Start m c.Rows k (by omega)
      have s1 : bl r c = _ := s1
      have s2 : bt r c = _ := s2
      have u0 := bill_bd hr hc
      rw [s1, s2] at n0 u0
      have hwl : ∀ x, x ∈ l → wfR x.Rows := fun x hx => wfR_of (wl.2 x hx)
      obtain ⟨t, t1, t2⟩ := sums_loop hr l hwl hl
      generalize bl r ⟨c.Start, c.Rows.take k⟩ = A1 at *
      generalize bl r ⟨m, c.Rows.drop k⟩ = A2 at *
      generalize bt r ⟨c.Start, c.Rows.take k⟩ = B1 at *
      generalize bt r ⟨m, c.Rows.drop k⟩ = B2 at *
      have e1 : w64 (A1 + A2) = A1 + A2 := w64_of (by omega) (by omega)
      have e2 : w64 (B1 + B2) = B1 + B2 := w64_of (by omega) (by omega)
      simp only [dF h0, dF h1, Bool.false_eq_true, if_false, Bool.not_true, Option.bind_some, q1, q2, n0, n1, n2, bne_self_eq_false, e1, e2, beq_self_eq_true, Bool.and_self, t1]
      rcases t2 with rfl | ⟨hall, rfl⟩
      · rfl
      · have hrev : ∀ j (hj : j < l.reverse.length), chk l.reverse[j] = 0 := fun j hj => by
          rw [List.getElem_reverse]
          exact hall _ _
        have o1 := total_ok hr l hwl hl hall
        have o2 := total_ok hr l.reverse (fun x hx => hwl x (List.mem_reverse.1 hx)) (by simpa using hl) hrev
        rw [sm_rev, sm_rev] at o2
        simp only [Option.bind_some, o1, o2, beq_self_eq_true, if_true, Bool.and_self]

end Go.Proofs.Ytdbgkakmhlmpbaa
namespace Go.Proofs.Ytdbgkakmhlmpbaa
open Go.RowKit
set_option linter.unusedVariables false

theorem law_CostSums (c : api_Chart) (p1 : Int) (l : List api_Chart) (r : api_Rates) (wc : wf_api_Chart c) (_ : InK .i64 p1) (wl : Wl wf_api_Chart l) (_ : wf_api_Rates r) : F_raddlelaw45_CostSums c p1 l r = some true := law_CostSums' k_raddlelaw45_alive c p1 l r wc wl

end Go.Proofs.Ytdbgkakmhlmpbaa
namespace Go.Proofs.Ytdbgkakmhlmpbaa
open Go.RowKit
set_option linter.unusedVariables false

namespace frameCostSums
open Go.ChangeShapes Go.WideShapes Go.ChangeAt Go.Joins
theorem own : ownKnob Try.prog.godebug = none := by kernel_rfl
theorem laidOut : laidOutB Try.prog = true := by kernel_rfl
set_option maxRecDepth 100000 in
theorem lifted (os : Os) (started : os.Started) (H : Type) (enc : TypeId × Value → H) :
    ReturnsInHanded {} Try.checked os 9 .any (Rows.costSumsSpec.pre6 enc Try.prog Try.f9 Rows.costSumsRow.domain false) (Rows.costSumsSpec.post enc Try.prog Try.f9 false true false false) := by
  refine returnsInHanded_of_change (C := Try.checked) own started (by kernel_rfl) Try.func9
    (ChangeSpec.witness6 (enc := enc) (C := Try.checked) false ⟨#[], #[.agg #[iv 0, .slice none 0 0], .int .i64 0, .slice none 0 0, gv_api_Rates (api_Rates.mk (0, 0, 0, 0, 0, 0, 0, 0, 0, 0, 0) (0, 0, 0, 0, 0, 0, 0, 0, 0, 0, 0) 0)], []⟩ 8 (by kernel_rfl) (by kernel_rfl) (by kernel_rfl) (by kernel_rfl)) ?_
  intro W base args ds gs before hval0 hW hcnd _
  have hval : ∀ (j : Nat) t v, Try.f9.params[j]? = some t → args[j]? = some v → Value.okWide Try.prog W .any base t v := hval0
  have hW' := hW
  obtain ⟨p, q, hA0, hV, rfl, hfz, hnd⟩ := hW
  have hA : DataW.TrodAll enc Try.prog W 0 (fun _ => true) true Try.f9.params.toList args.toList ds p := hA0
  rw [Try.params9] at hA hval
  obtain ⟨v0, vs0, d0, ds0, p0, q0, hargs, rfl, rfl, h0, r0⟩ := trodAll_cons hA
  obtain ⟨v1, vs1, d1, ds1, p1, q1, rfl, rfl, rfl, h1, r1⟩ := trodAll_cons r0
  obtain ⟨v2, vs2, d2, ds2, p2, q2, rfl, rfl, rfl, h2, r2⟩ := trodAll_cons r1
  obtain ⟨v3, vs3, d3, ds3, p3, q3, rfl, rfl, rfl, h3, r3⟩ := trodAll_cons r2
  obtain ⟨rfl, rfl, rfl⟩ := trodAll_nil r3
  obtain rfl : args = #[v0, v1, v2, v3] := by cases args; simp_all
  obtain ⟨rfl, rfl⟩ := trodVars_none hV
  have k0 := h0
  have lt0 : ∀ x ∈ p0, x.block < W.heap.size := by obtain ⟨m, hm⟩ := k0; exact DataW.trod_lt m _ _ _ hm
  have k1 := h1
  have lt1 : ∀ x ∈ p1, x.block < W.heap.size := by obtain ⟨m, hm⟩ := k1; exact DataW.trod_lt m _ _ _ hm
  have k2 := h2
  have lt2 : ∀ x ∈ p2, x.block < W.heap.size := by obtain ⟨m, hm⟩ := k2; exact DataW.trod_lt m _ _ _ hm
  have k3 := h3
  have lt3 : ∀ x ∈ p3, x.block < W.heap.size := by obtain ⟨m, hm⟩ := k3; exact DataW.trod_lt m _ _ _ hm
  obtain ⟨x0, rep0, wf0⟩ := top_agg Try.underlying41 aggr_api_Chart op_api_Chart (hval 0 _ v0 rfl rfl) h0
  obtain ⟨x1, rfl, rfl, rfl, wf1⟩ := open_int Try.underlying3 (hval 1 _ v1 rfl rfl) h1
  obtain ⟨x2, rep2, wf2⟩ := top_slice Try.underlying38 (op_slice (r := r_api_Chart) Try.underlying38 (by kernel_rfl) op_api_Chart) (hval 2 _ v2 rfl rfl) h2
  obtain ⟨x3, rep3, wf3⟩ := top_agg Try.underlying44 aggr_api_Rates op_api_Rates (hval 3 _ v3 rfl rfl) h3
  clear hA0 hval0
  refine (c_raddlelaw45_CostSums (fun _ => False) W x0 v0 x1 x2 v2 x3 v3 true (law_CostSums x0 x1 x2 x3 wf0 wf1 wf2 wf3) (St0.start (by intro d hd; simp only [List.mem_cons, List.not_mem_nil, or_false] at hd; rcases hd with rfl | rfl | rfl; exact rep0; exact rep2; exact rep3))).mono fun e W' hr => ?_
  obtain ⟨_, he, hS⟩ := hr
  have bel := hS.chg.below
  subst he
  exact ⟨_, rfl, _, _, _, [], _, [], hW', trodAll_mk1 (shut_bool Try.underlying4 _), (trodAll_cons_mk (Below.trod laidOut (by kernel_rfl) (of_decide_eq_true (by kernel_rfl)) k0 bel lt0) (trodAll_cons_mk (Below.trod laidOut (by kernel_rfl) (of_decide_eq_true (by kernel_rfl)) k1 bel lt1) (trodAll_cons_mk (Below.trod laidOut (by kernel_rfl) (of_decide_eq_true (by kernel_rfl)) k2 bel lt2) (trodAll_cons_mk (Below.trod laidOut (by kernel_rfl) (of_decide_eq_true (by kernel_rfl)) k3 bel lt3) trodAll_mk0)))), rfl, bel.frame _, fun h => by cases h⟩
theorem over : Rows.costSumsRow.holds Try.pinned (OpenSpec.ofChange Rows.costSumsSpec) :=
  OpenClaim.holds_of_wide 9 Try.f9 rfl rfl rfl rfl rfl rfl rfl ⟨rfl, rfl, rfl, rfl, rfl⟩ rfl rfl rfl rfl rfl (by kernel_rfl) Try.func9 (by kernel_rfl)
    (of_decide_eq_true (by kernel_rfl)) (by unfold Func.isWrapper; first | (rw [if_pos (by decide +kernel)]; kernel_rfl) | (rw [if_neg (by decide +kernel)]; exact ⟨rfl, rfl⟩))
    (fun os started H enc _ => lifted os started H enc)
end frameCostSums
theorem costSums_holds : Rows.CostSumsSaid := frameCostSums.over

end Go.Proofs.Ytdbgkakmhlmpbaa
