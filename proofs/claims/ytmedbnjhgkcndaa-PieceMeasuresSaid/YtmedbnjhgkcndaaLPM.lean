/- The plain law behind PieceMeasures: what Measure computes is what the reference computes. -/
import Derived.Test.YtmedbnjhgkcndaaGOp
import Derived.Test.YtmedbnjhgkcndaaPlA
import Derived.Test.YtmedbnjhgkcndaaG3
namespace Go.Proofs.Ytmedbnjhgkcndaa
open Go.RowKit
set_option linter.unusedVariables false
set_option linter.unusedSimpArgs false

def gok (g : api_Gauge) : Bool := decide (1 ≤ g.Stitches) && decide (g.Stitches ≤ 10000) && decide (1 ≤ g.Width) && decide (g.Width ≤ 10000) && decide (1 ≤ g.Rows) && decide (g.Rows ≤ 10000) && decide (1 ≤ g.Height) && decide (g.Height ≤ 10000)
theorem gok_spec {g : api_Gauge} (h : gok g = true) : 1 ≤ g.Stitches ∧ g.Stitches ≤ 10000 ∧ 1 ≤ g.Width ∧ g.Width ≤ 10000 ∧ 1 ≤ g.Rows ∧ g.Rows ≤ 10000 ∧ 1 ≤ g.Height ∧ g.Height ≤ 10000 := by
  simp only [gok, Bool.and_eq_true, decide_eq_true_eq] at h
  omega
theorem gwithin_eq (a b c : Int) : F_gauge_within a b c = some (decide (b ≤ a) && decide (a ≤ c)) := by
  unfold F_gauge_within
  by_cases h : b ≤ a <;> simp [h]
theorem gcheck_eq (g : api_Gauge) : F_gauge_Check g = some (if gok g then 0 else 8) := by
  have key : ∃ t, whileO (gauge_Check_l1 g) 0 = some t ∧ t = (if gok g then .inr () else .inl 8) := by
    refine loop_ix 4 (fun k => ∀ j, j < k → ∀ x, ([g.Stitches, g.Width, g.Rows, g.Height] : List Int)[j]? = some x → 1 ≤ x ∧ x ≤ 10000) _ (fun j h => absurd h (Nat.not_lt_zero j)) ?_ ?_
    · intro k hk hI
      have hx : idxO ([g.Stitches, g.Width, g.Rows, g.Height] : List Int) (k : Int) = some ([g.Stitches, g.Width, g.Rows, g.Height][k]'hk) := idxO_nat hk
      have hk' : decide ((k : Int) < 4) = true := by simp; omega
      by_cases h : 1 ≤ [g.Stitches, g.Width, g.Rows, g.Height][k]'hk ∧ [g.Stitches, g.Width, g.Rows, g.Height][k]'hk ≤ 10000
      · refine .inl ⟨?_, fun j hj x hxx => ?_⟩
        · unfold gauge_Check_l1
          simp only [hk', if_true, hx, Option.bind_some, gwithin_eq, h.1, h.2, decide_true, Bool.and_self, Bool.not_true, Bool.false_eq_true, if_false, w64_succ (show k < 9223372036854775807 by omega)]
        · by_cases e : j = k
          · subst e
            rw [List.getElem?_eq_getElem hk] at hxx
            cases hxx; exact h
          · exact hI j (by omega) x hxx
      · refine .inr ⟨.inl 8, ?_, ?_⟩
        · unfold gauge_Check_l1
          have hb : (decide (1 ≤ [g.Stitches, g.Width, g.Rows, g.Height][k]'hk) && decide ([g.Stitches, g.Width, g.Rows, g.Height][k]'hk ≤ 10000)) = false := by
            simpa using h
          simp only [hk', if_true, hx, Option.bind_some, gwithin_eq, hb, Bool.not_false]
        · have : gok g = false := by
            cases hg : gok g with
            | false => rfl
            | true =>
              have := gok_spec hg
              exfalso; apply h
              match k, hk with
              | 0, _ => exact ⟨this.1, this.2.1⟩
              | 1, _ => exact ⟨this.2.2.1, this.2.2.2.1⟩
              | 2, _ => exact ⟨this.2.2.2.2.1, this.2.2.2.2.2.1⟩
              | 3, _ => exact this.2.2.2.2.2.2
          rw [this]; rfl
    · intro hI
      refine ⟨.inr (), by unfold gauge_Check_l1; rfl, ?_⟩
      have h0 := hI 0 (by omega) _ rfl
      have h1 := hI 1 (by omega) _ rfl
      have h2 := hI 2 (by omega) _ rfl
      have h3 := hI 3 (by omega) _ rfl
      have : gok g = true := by simp only [gok, Bool.and_eq_true, decide_eq_true_eq]; omega
      rw [this]; rfl
  obtain ⟨t, h1, h2⟩ := key
  unfold F_gauge_Check
  rw [h1, h2]
  cases gok g <;> rfl
theorem rcheck_eq (g : api_Gauge) : F_raddleref35_Check g = some (if gok g then 0 else 8) := by
  unfold F_raddleref35_Check
  cases hg : gok g with
  | true =>
    have := gok_spec hg
    have e1 : ¬ g.Stitches < 1 := by omega
    have e2 : ¬ 10000 < g.Stitches := by omega
    have e3 : ¬ g.Width < 1 := by omega
    have e4 : ¬ 10000 < g.Width := by omega
    have e5 : ¬ g.Rows < 1 := by omega
    have e6 : ¬ 10000 < g.Rows := by omega
    have e7 : ¬ g.Height < 1 := by omega
    have e8 : ¬ 10000 < g.Height := by omega
    simp [e1, e2, e3, e4, e5, e6, e7, e8]
  | false =>
    have hn : g.Stitches < 1 ∨ 10000 < g.Stitches ∨ g.Width < 1 ∨ 10000 < g.Width ∨ g.Rows < 1 ∨ 10000 < g.Rows ∨ g.Height < 1 ∨ 10000 < g.Height := by
      simp only [gok, Bool.and_eq_false_iff, decide_eq_false_iff_not] at hg
      omega
    by_cases e1 : g.Stitches < 1
    · simp [e1]
    by_cases e2 : 10000 < g.Stitches
    · simp [e1, e2]
    by_cases e3 : g.Width < 1
    · simp [e1, e2, e3]
    by_cases e4 : 10000 < g.Width
    · simp [e1, e2, e3, e4]
    by_cases e5 : g.Rows < 1
    · simp [e1, e2, e3, e4, e5]
    by_cases e6 : 10000 < g.Rows
    · simp [e1, e2, e3, e4, e5, e6]
    by_cases e7 : g.Height < 1
    · simp [e1, e2, e3, e4, e5, e6, e7]
    · have e8 : 10000 < g.Height := by omega
      simp [e1, e2, e3, e4, e5, e6, e7, e8]
/-- the nearest number of stitches, of rows -/
def near (v num den : Int) : Int := (2 * v * num + den) / (2 * den)
theorem near_eq {v num den : Int} (h0 : 0 ≤ v) (h1 : v ≤ 1000000) (n1 : 1 ≤ num) (n2 : num ≤ 10000) (d1 : 1 ≤ den) (d2 : den ≤ 10000) :
    F_gauge_ratio_of (gauge_ratio.mk num den) v = some (near v num den) ∧ F_raddleref35_Nearest (w64 (v * num)) den = some (near v num den) := by
  have hp0 : 0 ≤ v * num := Int.mul_nonneg h0 (by omega)
  have hp1 : v * num ≤ 10000000000 := by
    have := Int.mul_le_mul h1 n2 (by omega) (by omega : (0 : Int) ≤ 1000000)
    omega
  have e1 : 2 * v * num = 2 * (v * num) := Int.mul_assoc _ _ _
  unfold near
  rw [e1]
  generalize v * num = p at *
  constructor
  · unfold F_gauge_ratio_of
    have a1 : w64 (2 * v) = 2 * v := w64_of (by omega) (by omega)
    have a4 : w64 (2 * den) = 2 * den := w64_of (by omega) (by omega)
    simp only [a1, e1, a4, quoI]
    have a2 : w64 (2 * p) = 2 * p := w64_of (by omega) (by omega)
    have a3 : w64 (2 * p + den) = 2 * p + den := w64_of (by omega) (by omega)
    have a5 : ¬ 2 * den = 0 := by omega
    simp only [a2, a3, a5, if_false, Option.bind_some]
    rw [Int.tdiv_eq_ediv_of_nonneg (by omega)]
    have b0 : 0 ≤ (2 * p + den) / (2 * den) := Int.ediv_nonneg (by omega) (by omega)
    have b1 : (2 * p + den) / (2 * den) ≤ 2 * p + den := Int.ediv_le_self _ (by omega)
    rw [w64_of (by omega) (by omega)]
  · unfold F_raddleref35_Nearest
    have a1 : w64 p = p := w64_of (by omega) (by omega)
    have a5 : ¬ den = 0 := by omega
    have hq0 : 0 ≤ p / den := Int.ediv_nonneg hp0 (by omega)
    have hq1 : p / den ≤ p := Int.ediv_le_self _ hp0
    have hm := Int.emod_add_mul_ediv p den
    have hr0 := Int.emod_nonneg p a5
    have hr1 := Int.emod_lt_of_pos p (show 0 < den by omega)
    simp only [a1, quoI, a5, if_false, Option.bind_some]
    rw [Int.tdiv_eq_ediv_of_nonneg hp0]
    have hc : p / den * den = den * (p / den) := Int.mul_comm _ _
    have a6 : w64 (p / den) = p / den := w64_of (by omega) (by omega)
    rw [a6, hc]
    have key : (2 * p + den) / (2 * den) = (2 * (p - den * (p / den)) + den) / (2 * den) + p / den := by
      rw [← Int.add_mul_ediv_left _ _ (by omega : 2 * den ≠ 0)]
      congr 1
      rw [Int.mul_assoc]
      omega
    rw [key]
    generalize p / den = q at *
    generalize hz : den * q = z at *
    have a7 : w64 z = z := w64_of (by omega) (by omega)
    have a8 : w64 (p - z) = p - z := w64_of (by omega) (by omega)
    have a9 : w64 (2 * (p - z)) = 2 * (p - z) := w64_of (by omega) (by omega)
    simp only [a7, a8, a9]
    by_cases hc2 : den ≤ 2 * (p - z)
    · have h1 : (2 * (p - z) + den) / (2 * den) = 1 := by
        have : 2 * (p - z) + den = (2 * (p - z) - den) + 2 * den * 1 := by omega
        rw [this, Int.add_mul_ediv_left _ _ (by omega : 2 * den ≠ 0), Int.ediv_eq_zero_of_lt (by omega) (by omega)]
        rfl
      have a10 : w64 (q + 1) = q + 1 := w64_of (by omega) (by omega)
      simp only [hc2, decide_true, if_true, Option.bind_some, a10, h1]
      rw [Int.add_comm]
    · have h1 : (2 * (p - z) + den) / (2 * den) = 0 := Int.ediv_eq_zero_of_lt (by omega) (by omega)
      simp only [hc2, decide_false, Bool.false_eq_true, if_false, Option.bind_some, h1, Int.zero_add]
/-- a measure in stitches, in rows: the number, the error -/
def sc (ok : Bool) (num den v : Int) : Int × Int := if ok then (if 0 ≤ v ∧ v ≤ 1000000 then (if 1000000 < near v num den then (0, 16) else (near v num den, 0)) else (0, 2)) else (0, 8)
theorem stitches_eq (g : api_Gauge) (v : Int) : F_gauge_Stitches g v = some (sc (gok g) g.Stitches g.Width v) ∧ F_raddleref35_Stitches g v = some (sc (gok g) g.Stitches g.Width v) := by
  unfold F_gauge_Stitches F_gauge_scale F_raddleref35_Stitches F_raddleref35_scaled sc
  rw [gcheck_eq, rcheck_eq]
  cases hg : gok g with
  | false => simp
  | true =>
    have := gok_spec hg
    simp only [if_true, Option.bind_some, gwithin_eq]
    by_cases hv : 0 ≤ v ∧ v ≤ 1000000
    · obtain ⟨e1, e2⟩ := near_eq hv.1 hv.2 this.1 this.2.1 this.2.2.1 this.2.2.2.1
      have c1 : ¬ v < 0 := by omega
      have c2 : ¬ 1000000 < v := by omega
      by_cases hn : 1000000 < near v g.Stitches g.Width <;> simp [hv, e1, e2, c1, c2, hn]
    · have c : (decide (0 ≤ v) && decide (v ≤ 1000000)) = false := by simpa using hv
      have c2 : v < 0 ∨ 1000000 < v := by omega
      by_cases c1 : v < 0
      · simp [hv, c1, c]
      · have c3 : 1000000 < v := by omega
        simp [hv, c1, c, c3]
theorem rows_eq (g : api_Gauge) (v : Int) : F_gauge_Rows g v = some (sc (gok g) g.Rows g.Height v) ∧ F_raddleref35_Rows g v = some (sc (gok g) g.Rows g.Height v) := by
  unfold F_gauge_Rows F_gauge_scale F_raddleref35_Rows F_raddleref35_scaled sc
  rw [gcheck_eq, rcheck_eq]
  cases hg : gok g with
  | false => simp
  | true =>
    have := gok_spec hg
    simp only [if_true, Option.bind_some, gwithin_eq]
    by_cases hv : 0 ≤ v ∧ v ≤ 1000000
    · obtain ⟨e1, e2⟩ := near_eq hv.1 hv.2 this.2.2.2.2.1 this.2.2.2.2.2.1 this.2.2.2.2.2.2.1 this.2.2.2.2.2.2.2
      have c1 : ¬ v < 0 := by omega
      have c2 : ¬ 1000000 < v := by omega
      by_cases hn : 1000000 < near v g.Rows g.Height <;> simp [hv, e1, e2, c1, c2, hn]
    · have c : (decide (0 ≤ v) && decide (v ≤ 1000000)) = false := by simpa using hv
      by_cases c1 : v < 0
      · simp [hv, c1, c]
      · have c3 : 1000000 < v := by omega
        simp [hv, c1, c, c3]
theorem sc_le {ok : Bool} {num den v : Int} (n1 : 1 ≤ num) (d1 : 1 ≤ den) : 0 ≤ (sc ok num den v).1 ∧ (sc ok num den v).1 ≤ 1000000 := by
  unfold sc
  split
  · split
    · split
      · simp
      · rename_i h1 h2
        have : 0 ≤ near v num den := Int.ediv_nonneg (by have := Int.mul_nonneg (Int.mul_nonneg (show (0 : Int) ≤ 2 by omega) h1.1) (show 0 ≤ num by omega); omega) (by omega)
        exact ⟨this, by omega⟩
    · simp
  · simp
theorem sc_bad {num den v : Int} : (sc false num den v) = (0, 8) := rfl
def neg (x : Int) : Bool := decide (x < 0) && decide (-1000000 ≤ x)
def plx (g : api_Gauge) (x : Int) : Int × Int := sc (gok g) g.Stitches g.Width (if neg x then -x else x)
/-- a point placed: the point, the error -/
def pl (g : api_Gauge) (p : api_Point) : api_Point × Int :=
  if (plx g p.X).2 = 0 then (if (sc (gok g) g.Rows g.Height p.Y).2 = 0 then (⟨if neg p.X then -(plx g p.X).1 else (plx g p.X).1, (sc (gok g) g.Rows g.Height p.Y).1⟩, 0) else (⟨0, 0⟩, (sc (gok g) g.Rows g.Height p.Y).2)) else (⟨0, 0⟩, (plx g p.X).2)
theorem plx_le (g : api_Gauge) (x : Int) : 0 ≤ (plx g x).1 ∧ (plx g x).1 ≤ 1000000 := by
  unfold plx
  cases hg : gok g with
  | false => rw [sc_bad]; simp
  | true => have := gok_spec hg; exact sc_le this.1 this.2.2.1
theorem placed_eq (g : api_Gauge) (p : api_Point) (h : InK .i64 p.X) : F_raddleref37_placed g p = some (pl g p) := by
  have hb := inK_64 h
  have hx := plx_le g p.X
  unfold F_raddleref37_placed pl
  rw [(stitches_eq g p.X).2]
  cases hn : neg p.X with
  | true =>
    have h1 : decide (p.X < 0) = true ∧ decide (-1000000 ≤ p.X) = true := by simpa [neg] using hn
    have e1 : w64 (0 - p.X) = -p.X := by
      have := of_decide_eq_true h1.1
      have := of_decide_eq_true h1.2
      rw [w64_of (by omega) (by omega)]; omega
    have e2 : w64 (0 - (plx g p.X).1) = -(plx g p.X).1 := by rw [w64_of (by omega) (by omega)]; omega
    have e3 : sc (gok g) g.Stitches g.Width (-p.X) = plx g p.X := by simp [plx, hn]
    simp only [Option.bind_some, h1.1, h1.2, if_true, e1, (stitches_eq g _).2, (rows_eq g _).2, e3, e2]
    by_cases c1 : (plx g p.X).2 = 0
    · by_cases c2 : (sc (gok g) g.Rows g.Height p.Y).2 = 0 <;> simp [c1, c2]
    · simp [c1]
  | false =>
    have e3 : sc (gok g) g.Stitches g.Width p.X = plx g p.X := by simp [plx, hn]
    have hc : (if decide (p.X < 0) = true then some (decide (-1000000 ≤ p.X)) else some false) = some false := by
      unfold neg at hn
      cases h1 : decide (p.X < 0) with
      | false => rfl
      | true => rw [h1] at hn; simp only [Bool.true_and] at hn; simp only [if_true, hn]
    simp only [Option.bind_some, hc, Bool.false_eq_true, if_false, (rows_eq g _).2, e3]
    by_cases c1 : (plx g p.X).2 = 0
    · by_cases c2 : (sc (gok g) g.Rows g.Height p.Y).2 = 0 <;> simp [c1, c2]
    · simp [c1]
/-- what the loops over points come to -/
def PlOut (g : api_Gauge) (l : List api_Point) (t : ((List api_Point) × Int) ⊕ (List api_Point)) : Prop :=
  (∃ (k : Nat) (h : k < l.length), (∀ (j : Nat) (hj : j < k), (pl g (l[j]'(by omega))).2 = 0) ∧ (pl g l[k]).2 ≠ 0 ∧ t = .inl ([], (pl g l[k]).2)) ∨
  ((∀ (j : Nat) (hj : j < l.length), (pl g l[j]).2 = 0) ∧ t = .inr (l.map fun p => (pl g p).1))
theorem plOut_eq {g : api_Gauge} {l : List api_Point} {t u : ((List api_Point) × Int) ⊕ (List api_Point)} (ht : PlOut g l t) (hu : PlOut g l u) : t = u := by
  rcases ht with ⟨k, h, h1, h2, rfl⟩ | ⟨h1, rfl⟩ <;> rcases hu with ⟨j, g1, g2, g3, rfl⟩ | ⟨g1, rfl⟩
  · have : k = j := by
      rcases Nat.lt_trichotomy k j with e | e | e
      · exact absurd (g2 k e) h2
      · exact e
      · exact absurd (h1 j e) g3
    subst this; rfl
  · exact absurd (g1 k h) h2
  · exact absurd (h1 j g1) g3
  · rfl
theorem take_map_snoc {g : api_Gauge} {l : List api_Point} {k : Nat} (hk : k < l.length) : (l.take (k + 1)).map (fun p => (pl g p).1) = (l.take k).map (fun p => (pl g p).1) ++ [(pl g l[k]).1] := by
  rw [List.take_succ_eq_append_getElem hk, List.map_append]; rfl
theorem place_loop (g : api_Gauge) (l : List api_Point) (hl : l.length ≤ 55) (hw : ∀ p, p ∈ l → InK .i64 p.X) : ∃ t, whileO (piece_place_l1 l g) (([] : List api_Point), 0) = some t ∧ PlOut g l t := by
  refine loop_st l.length (fun k acc => acc = (l.take k).map (fun p => (pl g p).1) ∧ ∀ (j : Nat) (hj : j < k) (hl : j < l.length), (pl g l[j]).2 = 0) _ ⟨by simp, fun j hj => absurd hj (Nat.not_lt_zero j)⟩ ?_ ?_
  · rintro k acc hk ⟨rfl, hI⟩
    have hx := idxO_nat hk
    have hkk : decide ((k : Int) < (l.length : Int)) = true := by simp; omega
    have hb := inK_64 (hw l[k] (List.getElem_mem hk))
    have hpx := plx_le g (l[k]).X
    have hstep : piece_place_l1 l g ((l.take k).map (fun p => (pl g p).1), (k : Int)) = if (pl g l[k]).2 = 0 then some (.inl ((l.take (k + 1)).map (fun p => (pl g p).1), ((k + 1 : Nat) : Int))) else some (.inr (.inl ([], (pl g l[k]).2))) := by
      unfold piece_place_l1
      simp only [hkk, if_true, hx, Option.bind_some]
      generalize hp : l[k] = p at hb hpx ⊢
      have hsucc : w64 ((k : Int) + 1) = ((k + 1 : Nat) : Int) := w64_succ (by omega)
      have hsnoc := take_map_snoc (g := g) hk
      rw [hp] at hsnoc
      rw [hsnoc]
      have hlen : ((l.take k).map (fun p => (pl g p).1)).length ≤ 55 := by simp; omega
      clear hsnoc
      generalize (l.take k).map (fun p => (pl g p).1) = acc at hlen ⊢
      have hap : ∀ q : api_Point, appO acc [q] = some (acc ++ [q]) := fun q => appO_of (by simp; omega)
      have hc : (if decide (p.X < 0) = true then some (decide (-1000000 ≤ p.X)) else some false) = some (neg p.X) := by
        unfold neg
        cases h1 : decide (p.X < 0) <;> simp
      simp only [hc, Option.bind_some]
      unfold pl
      cases hn : neg p.X with
      | true =>
        have h1 : p.X < 0 ∧ -1000000 ≤ p.X := by simpa [neg] using hn
        have e1 : w64 (-1 * p.X) = -p.X := by rw [w64_of (by omega) (by omega)]; omega
        have e2 : w64 (-1 * (plx g p.X).1) = -(plx g p.X).1 := by rw [w64_of (by omega) (by omega)]; omega
        have e3 : sc (gok g) g.Stitches g.Width (-p.X) = plx g p.X := by simp [plx, hn]
        simp only [if_true, Option.bind_some, e1, (stitches_eq g _).1, (rows_eq g _).1, e3, e2, hap, hsucc]
        by_cases c1 : (plx g p.X).2 = 0
        · by_cases c2 : (sc (gok g) g.Rows g.Height p.Y).2 = 0 <;> simp [c1, c2]
        · simp [c1]
      | false =>
        have e1 : w64 (1 * p.X) = p.X := by rw [w64_of (by omega) (by omega)]; omega
        have e2 : w64 (1 * (plx g p.X).1) = (plx g p.X).1 := by rw [w64_of (by omega) (by omega)]; omega
        have e3 : sc (gok g) g.Stitches g.Width p.X = plx g p.X := by simp [plx, hn]
        simp only [Bool.false_eq_true, if_false, Option.bind_some, e1, (stitches_eq g _).1, (rows_eq g _).1, e3, e2, hap, hsucc]
        by_cases c1 : (plx g p.X).2 = 0
        · by_cases c2 : (sc (gok g) g.Rows g.Height p.Y).2 = 0 <;> simp [c1, c2]
        · simp [c1]
    rw [hstep]
    by_cases hz : (pl g l[k]).2 = 0
    · refine .inl ⟨_, by rw [if_pos hz], rfl, fun j hj hjl => ?_⟩
      by_cases e : j = k
      · subst e; exact hz
      · exact hI j (by omega) hjl
    · exact .inr ⟨_, by rw [if_neg hz], .inl ⟨k, hk, fun j hj => hI j hj _, hz, rfl⟩⟩
  · rintro acc ⟨rfl, hI⟩
    refine ⟨.inr (l.map fun p => (pl g p).1), ?_, .inr ⟨fun j hj => hI j hj hj, rfl⟩⟩
    unfold piece_place_l1
    simp
theorem placed_loop (g : api_Gauge) (l : List api_Point) (hl : l.length ≤ 55) (hw : ∀ p, p ∈ l → InK .i64 p.X) : ∃ t, whileO (raddleref37_placedAll_l1 l g) (([] : List api_Point), 0) = some t ∧ PlOut g l t := by
  refine loop_st l.length (fun k acc => acc = (l.take k).map (fun p => (pl g p).1) ∧ ∀ (j : Nat) (hj : j < k) (hl : j < l.length), (pl g l[j]).2 = 0) _ ⟨by simp, fun j hj => absurd hj (Nat.not_lt_zero j)⟩ ?_ ?_
  · rintro k acc hk ⟨rfl, hI⟩
    have hx := idxO_nat hk
    have hkk : decide ((k : Int) < (l.length : Int)) = true := by simp; omega
    have hstep : raddleref37_placedAll_l1 l g ((l.take k).map (fun p => (pl g p).1), (k : Int)) = if (pl g l[k]).2 = 0 then some (.inl ((l.take (k + 1)).map (fun p => (pl g p).1), ((k + 1 : Nat) : Int))) else some (.inr (.inl ([], (pl g l[k]).2))) := by
      unfold raddleref37_placedAll_l1
      simp only [hkk, if_true, hx, Option.bind_some, placed_eq g _ (hw l[k] (List.getElem_mem hk))]
      have hap : ∀ q : api_Point, appO ((l.take k).map (fun p => (pl g p).1)) [q] = some ((l.take k).map (fun p => (pl g p).1) ++ [q]) := fun q => appO_of (by simp; omega)
      have hsucc : w64 ((k : Int) + 1) = ((k + 1 : Nat) : Int) := w64_succ (by omega)
      rw [take_map_snoc hk]
      simp only [hap, hsucc, Option.bind_some]
      by_cases c : (pl g l[k]).2 = 0 <;> simp [c]
    rw [hstep]
    by_cases hz : (pl g l[k]).2 = 0
    · refine .inl ⟨_, by rw [if_pos hz], rfl, fun j hj hjl => ?_⟩
      by_cases e : j = k
      · subst e; exact hz
      · exact hI j (by omega) hjl
    · exact .inr ⟨_, by rw [if_neg hz], .inl ⟨k, hk, fun j hj => hI j hj _, hz, rfl⟩⟩
  · rintro acc ⟨rfl, hI⟩
    refine ⟨.inr (l.map fun p => (pl g p).1), ?_, .inr ⟨fun j hj => hI j hj hj, rfl⟩⟩
    unfold raddleref37_placedAll_l1
    simp
theorem places_eq (g : api_Gauge) (l : List api_Point) (hl : l.length ≤ 55) (hw : ∀ p, p ∈ l → InK .i64 p.X) : ∃ x : (List api_Point) × Int, F_piece_place g l = some x ∧ F_raddleref37_placedAll g l = some x ∧ x.1.length ≤ l.length := by
  obtain ⟨t, h1, h2⟩ := place_loop g l hl hw
  obtain ⟨u, h3, h4⟩ := placed_loop g l hl hw
  obtain rfl := plOut_eq h2 h4
  unfold F_piece_place F_raddleref37_placedAll
  rw [h1, h3, capO_of (k := l.length) rfl (by omega)]
  rcases h2 with ⟨k, h, _, _, rfl⟩ | ⟨_, rfl⟩
  · exact ⟨_, rfl, rfl, by simp⟩
  · exact ⟨_, rfl, rfl, by simp⟩

/-- a side, as the program asks -/
theorem col_eq (x : Int) : F_piece_column x = some (decide (-500 ≤ x) && decide (x ≤ 500)) ∧ F_raddleref37_in x = some (decide (-500 ≤ x) && decide (x ≤ 500)) := by
  unfold F_piece_column F_raddleref37_in
  by_cases h : -500 ≤ x <;> simp [h]
def up (l : List api_Point) (k : Nat) : Prop := ∀ (h : k < l.length), 0 < k → (l[k - 1]'(by omega)).Y < l[k].Y
def good1 (l : List api_Point) (k : Nat) : Prop := ∀ (h : k < l.length), (-500 ≤ l[k].X ∧ l[k].X ≤ 500) ∧ up l k
def good2 (l : List api_Point) (k : Nat) : Prop := ∀ (h : k < l.length), (-500 ≤ l[k].X ∧ l[k].X ≤ 500) ∧ (0 ≤ l[k].Y ∧ l[k].Y ≤ 99) ∧ up l k
theorem side_loop1 (l : List api_Point) (hl : l.length ≤ 50) : ∃ t, whileO (piece_side_l1 l) 0 = some t ∧ ((t = .inr () ∧ ∀ k, k < l.length → good1 l k) ∨ (t = .inl false ∧ ∃ k, k < l.length ∧ ¬ good1 l k)) := by
  refine loop_ix l.length (fun k => ∀ j, j < k → good1 l j) _ (fun j h => absurd h (Nat.not_lt_zero j)) ?_ ?_
  · intro k hk hI
    have hx := idxO_nat hk
    have hkk : decide ((k : Int) < (l.length : Int)) = true := by simp; omega
    have hsucc : w64 ((k : Int) + 1) = ((k + 1 : Nat) : Int) := w64_succ (by omega)
    by_cases hc : -500 ≤ l[k].X ∧ l[k].X ≤ 500
    · have hcb : (decide (-500 ≤ l[k].X) && decide (l[k].X ≤ 500)) = true := by simpa using hc
      by_cases h0 : 0 < k
      · have hd : decide ((0 : Int) < (k : Int)) = true := by simp; omega
        have hp : idxO l (w64 ((k : Int) - 1)) = some (l[k - 1]'(by omega)) := idxO_of (by rw [w64_of (by omega) (by omega)]; omega) (by omega)
        by_cases hy : (l[k]).Y ≤ (l[k - 1]'(by omega)).Y
        · refine .inr ⟨.inl false, ?_, .inr ⟨rfl, k, hk, fun hg => ?_⟩⟩
          · unfold piece_side_l1
            simp only [if_true, if_false, Option.bind_some, Bool.not_true, Bool.not_false, Bool.false_eq_true, hkk, hx, (col_eq _).1, hcb, hd, hp, hy, decide_true]
          · have := (hg hk).2 hk h0; omega
        · refine .inl ⟨?_, fun j hj => ?_⟩
          · unfold piece_side_l1
            simp only [if_true, if_false, Option.bind_some, Bool.not_true, Bool.not_false, Bool.false_eq_true, hkk, hx, (col_eq _).1, hcb, hd, hp, hy, decide_false, hsucc]
          · by_cases e : j = k
            · subst e; exact fun _ => ⟨hc, fun _ _ => by omega⟩
            · exact hI j (by omega)
      · obtain rfl : k = 0 := by omega
        refine .inl ⟨?_, fun j hj => ?_⟩
        · unfold piece_side_l1
          simp only [if_true, if_false, Option.bind_some, Bool.not_true, Bool.not_false, Bool.false_eq_true, hkk, hx, (col_eq _).1, hcb, hsucc, show decide ((0 : Int) < ((0 : Nat) : Int)) = false from rfl]
        · obtain rfl : j = 0 := by omega
          exact fun _ => ⟨hc, fun _ h => absurd h (by omega)⟩
    · have hcb : (decide (-500 ≤ l[k].X) && decide (l[k].X ≤ 500)) = false := by simpa using hc
      refine .inr ⟨.inl false, ?_, .inr ⟨rfl, k, hk, fun hg => hc (hg hk).1⟩⟩
      unfold piece_side_l1
      simp only [if_true, if_false, Option.bind_some, Bool.not_true, Bool.not_false, Bool.false_eq_true, hkk, hx, (col_eq _).1, hcb]
  · intro hI
    refine ⟨.inr (), ?_, .inl ⟨rfl, hI⟩⟩
    unfold piece_side_l1
    simp
theorem side_loop2 (l : List api_Point) (hl : l.length ≤ 50) : ∃ t, whileO (raddleref37_side_l1 l) 0 = some t ∧ ((t = .inr () ∧ ∀ k, k < l.length → good2 l k) ∨ (t = .inl false ∧ ∃ k, k < l.length ∧ ¬ good2 l k)) := by
  refine loop_ix l.length (fun k => ∀ j, j < k → good2 l j) _ (fun j h => absurd h (Nat.not_lt_zero j)) ?_ ?_
  · intro k hk hI
    have hx := idxO_nat hk
    have hkk : decide ((k : Int) < (l.length : Int)) = true := by simp; omega
    have hsucc : w64 ((k : Int) + 1) = ((k + 1 : Nat) : Int) := w64_succ (by omega)
    by_cases hc : -500 ≤ l[k].X ∧ l[k].X ≤ 500
    · have hcb : (decide (-500 ≤ l[k].X) && decide (l[k].X ≤ 500)) = true := by simpa using hc
      by_cases hy0 : l[k].Y < 0
      · refine .inr ⟨.inl false, ?_, .inr ⟨rfl, k, hk, fun hg => by have := (hg hk).2.1; omega⟩⟩
        unfold raddleref37_side_l1
        simp only [if_true, if_false, Option.bind_some, Bool.not_true, Bool.not_false, Bool.false_eq_true, hkk, hx, (col_eq _).2, hcb, hy0, decide_true]
      by_cases hy1 : 99 < l[k].Y
      · refine .inr ⟨.inl false, ?_, .inr ⟨rfl, k, hk, fun hg => by have := (hg hk).2.1; omega⟩⟩
        unfold raddleref37_side_l1
        simp only [if_true, if_false, Option.bind_some, Bool.not_true, Bool.not_false, Bool.false_eq_true, hkk, hx, (col_eq _).2, hcb, hy0, hy1, decide_true, decide_false]
      by_cases h0 : 0 < k
      · have hd : decide ((0 : Int) < (k : Int)) = true := by simp; omega
        have hp : idxO l (w64 ((k : Int) - 1)) = some (l[k - 1]'(by omega)) := idxO_of (by rw [w64_of (by omega) (by omega)]; omega) (by omega)
        by_cases hy : (l[k]).Y ≤ (l[k - 1]'(by omega)).Y
        · refine .inr ⟨.inl false, ?_, .inr ⟨rfl, k, hk, fun hg => ?_⟩⟩
          · unfold raddleref37_side_l1
            simp only [if_true, if_false, Option.bind_some, Bool.not_true, Bool.not_false, Bool.false_eq_true, hkk, hx, (col_eq _).2, hcb, hy0, hy1, hd, hp, hy, decide_true, decide_false]
          · have := (hg hk).2.2 hk h0; omega
        · refine .inl ⟨?_, fun j hj => ?_⟩
          · unfold raddleref37_side_l1
            simp only [if_true, if_false, Option.bind_some, Bool.not_true, Bool.not_false, Bool.false_eq_true, hkk, hx, (col_eq _).2, hcb, hy0, hy1, hd, hp, hy, decide_false, hsucc]
          · by_cases e : j = k
            · subst e; exact fun _ => ⟨hc, ⟨by omega, by omega⟩, fun _ _ => by omega⟩
            · exact hI j (by omega)
      · obtain rfl : k = 0 := by omega
        refine .inl ⟨?_, fun j hj => ?_⟩
        · unfold raddleref37_side_l1
          simp only [if_true, if_false, Option.bind_some, Bool.not_true, Bool.not_false, Bool.false_eq_true, hkk, hx, (col_eq _).2, hcb, hy0, hy1, decide_false, hsucc, show decide ((0 : Int) < ((0 : Nat) : Int)) = false from rfl]
        · obtain rfl : j = 0 := by omega
          exact fun _ => ⟨hc, ⟨by omega, by omega⟩, fun _ h => absurd h (by omega)⟩
    · have hcb : (decide (-500 ≤ l[k].X) && decide (l[k].X ≤ 500)) = false := by simpa using hc
      refine .inr ⟨.inl false, ?_, .inr ⟨rfl, k, hk, fun hg => hc (hg hk).1⟩⟩
      unfold raddleref37_side_l1
      simp only [if_true, if_false, Option.bind_some, Bool.not_true, Bool.not_false, Bool.false_eq_true, hkk, hx, (col_eq _).2, hcb]
  · intro hI
    refine ⟨.inr (), ?_, .inl ⟨rfl, hI⟩⟩
    unfold raddleref37_side_l1
    simp
/-- numbers that grow lie between the first and the last -/
theorem up_le {l : List api_Point} (h : ∀ k, k < l.length → up l k) : ∀ (k j : Nat) (hk : k < l.length) (hj : j ≤ k), (l[j]'(by omega)).Y ≤ l[k].Y := by
  intro k
  induction k with
  | zero =>
    intro j hk hj
    obtain rfl : j = 0 := by omega
    exact Int.le_refl _
  | succ k ih =>
    intro j hk hj
    by_cases e : j = k + 1
    · subst e; exact Int.le_refl _
    · have h1 := ih j (by omega) (by omega)
      have h2 := h (k + 1) hk hk (by omega)
      simp only [Nat.add_sub_cancel] at h2
      omega
theorem side_eq (l : List api_Point) (hl : l.length ≤ 1000) : ∃ b, F_piece_side l = some b ∧ F_raddleref37_side l = some b ∧ (b = true → 0 < l.length ∧ l.length ≤ 50) := by
  unfold F_piece_side F_raddleref37_side
  by_cases h0 : l.length = 0
  · refine ⟨false, ?_, ?_, by simp⟩
    · have : ((l.length : Int) == 0) = true := by simp [h0]
      simp only [this, if_true, Option.bind_some]
    · have : decide ((l.length : Int) < 1) = true := by simp; omega
      simp only [this, if_true, Option.bind_some]
  have e0 : ((l.length : Int) == 0) = false := by simp; intro h; exact h0 (by simp [h])
  have e1 : decide ((l.length : Int) < 1) = false := by simp; omega
  by_cases h1 : 50 < l.length
  · have e2 : decide ((50 : Int) < (l.length : Int)) = true := by simp; omega
    exact ⟨false, by simp only [e0, e2, if_true, if_false, Bool.false_eq_true, Option.bind_some], by simp only [e1, e2, if_true, if_false, Bool.false_eq_true, Option.bind_some], by simp⟩
  have e2 : decide ((50 : Int) < (l.length : Int)) = false := by simp; omega
  have hx0 : idxO l 0 = some (l[0]'(by omega)) := idxO_of (k := 0) rfl (by omega)
  by_cases h2 : (l[0]'(by omega)).Y = 0
  case neg =>
    have e3 : ((l[0]'(by omega)).Y != 0) = true := by simpa using h2
    exact ⟨false, by simp only [e0, e2, hx0, e3, if_true, if_false, Bool.false_eq_true, Option.bind_some], by simp only [e1, e2, hx0, e3, if_true, if_false, Bool.false_eq_true, Option.bind_some], by simp⟩
  have e3 : ((l[0]'(by omega)).Y != 0) = false := by simpa using h2
  have hxl : idxO l (w64 ((l.length : Int) - 1)) = some (l[l.length - 1]'(by omega)) := idxO_of (by rw [w64_of (by omega) (by omega)]; omega) (by omega)
  obtain ⟨t, t1, t2⟩ := side_loop1 l (by omega)
  obtain ⟨u, u1, u2⟩ := side_loop2 l (by omega)
  by_cases h3 : 100 ≤ (l[l.length - 1]'(by omega)).Y
  · have e4 : decide (100 ≤ (l[l.length - 1]'(by omega)).Y) = true := by simpa using h3
    refine ⟨false, by simp only [e0, e2, hx0, e3, hxl, e4, if_true, if_false, Bool.false_eq_true, Option.bind_some], ?_, by simp⟩
    rcases u2 with ⟨rfl, hg⟩ | ⟨rfl, _⟩
    · have := (hg (l.length - 1) (by omega) (by omega)).2.1; omega
    · simp only [e1, e2, hx0, e3, u1, if_false, Bool.false_eq_true, Option.bind_some]
  · have e4 : decide (100 ≤ (l[l.length - 1]'(by omega)).Y) = false := by simpa using h3
    have hiff : (∀ k, k < l.length → good1 l k) ↔ (∀ k, k < l.length → good2 l k) := by
      constructor
      · intro h k hk _
        have hu : ∀ k, k < l.length → up l k := fun k hk => (h k hk hk).2
        have a := up_le hu k 0 hk (Nat.zero_le _)
        have b := up_le hu (l.length - 1) k (by omega) (by omega)
        exact ⟨(h k hk hk).1, ⟨by omega, by omega⟩, hu k hk⟩
      · exact fun h k hk _ => ⟨(h k hk hk).1, (h k hk hk).2.2⟩
    rcases t2 with ⟨rfl, hg⟩ | ⟨rfl, j, hj, hg⟩
    · rcases u2 with ⟨rfl, _⟩ | ⟨rfl, j, hj, hn⟩
      · exact ⟨true, by simp only [e0, e2, hx0, e3, hxl, e4, t1, if_false, Bool.false_eq_true, Option.bind_some], by simp only [e1, e2, hx0, e3, u1, if_false, Bool.false_eq_true, Option.bind_some], fun _ => ⟨by omega, by omega⟩⟩
      · exact absurd (hiff.1 hg j hj) hn
    · rcases u2 with ⟨rfl, hn⟩ | ⟨rfl, _⟩
      · exact absurd (hiff.2 hn j hj) hg
      · exact ⟨false, by simp only [e0, e2, hx0, e3, hxl, e4, t1, if_false, Bool.false_eq_true, Option.bind_some], by simp only [e1, e2, hx0, e3, u1, if_false, Bool.false_eq_true, Option.bind_some], by simp⟩
theorem shape_eq (s : api_Shape) (h1 : s.Left.length ≤ 1000) (h2 : s.Right.length ≤ 1000) : ∃ e, F_piece_shape s = some e ∧ F_raddleref37_Shape s = some e ∧ (e = 0 ∨ e = 8) := by
  obtain ⟨a, a1, a2, a3⟩ := side_eq s.Left h1
  obtain ⟨b, b1, b2, b3⟩ := side_eq s.Right h2
  unfold F_piece_shape F_raddleref37_Shape
  rw [a1, a2, b1, b2]
  cases a with
  | false => exact ⟨8, rfl, rfl, .inr rfl⟩
  | true =>
    cases b with
    | false => exact ⟨8, rfl, rfl, .inr rfl⟩
    | true =>
      have c1 := a3 rfl
      have c2 := b3 rfl
      have x1 : idxO s.Left (w64 ((s.Left.length : Int) - 1)) = some (s.Left[s.Left.length - 1]'(by omega)) := idxO_of (by rw [w64_of (by omega) (by omega)]; omega) (by omega)
      have x2 : idxO s.Right (w64 ((s.Right.length : Int) - 1)) = some (s.Right[s.Right.length - 1]'(by omega)) := idxO_of (by rw [w64_of (by omega) (by omega)]; omega) (by omega)
      simp only [Option.bind_some, Bool.not_true, Bool.false_eq_true, if_false, x1, x2]
      cases ((s.Left[s.Left.length - 1]'(by omega)).Y != (s.Right[s.Right.length - 1]'(by omega)).Y)
      · exact ⟨0, rfl, rfl, .inl rfl⟩
      · exact ⟨8, rfl, rfl, .inr rfl⟩
theorem measure_eq (g : api_Gauge) (l r : List api_Point) (hl : l.length ≤ 55) (hr : r.length ≤ 55) (wl : ∀ p, p ∈ l → InK .i64 p.X) (wr : ∀ p, p ∈ r → InK .i64 p.X) :
    ∃ x : api_Shape × Int, F_piece_Measure g l r = some x ∧ F_raddleref37_Measure g l r = some x ∧ x.1.Left.length ≤ 1000 ∧ x.1.Right.length ≤ 1000 := by
  obtain ⟨a, a1, a2, a3⟩ := places_eq g l hl wl
  obtain ⟨b, b1, b2, b3⟩ := places_eq g r hr wr
  unfold F_piece_Measure F_raddleref37_Measure
  rw [a1, a2, b1, b2]
  simp only [Option.bind_some]
  cases (a.2 != 0) with
  | true => exact ⟨_, rfl, rfl, by simp, by simp⟩
  | false =>
    cases (b.2 != 0) with
    | true => exact ⟨_, rfl, rfl, by simp, by simp⟩
    | false =>
      obtain ⟨e, e1, e2, e3⟩ := shape_eq (api_Shape.mk a.1 b.1) (by show a.1.length ≤ _; omega) (by show b.1.length ≤ _; omega)
      simp only [Bool.false_eq_true, if_false, e1, e2, Option.bind_some]
      rcases e3 with rfl | rfl
      · exact ⟨_, rfl, rfl, by show a.1.length ≤ _; omega, by show b.1.length ≤ _; omega⟩
      · exact ⟨_, rfl, rfl, by simp, by simp⟩
theorem samePoints_self (l : List api_Point) (hl : l.length ≤ 1000) : F_raddleref37_SamePoints l l = some true := by
  have key : ∃ t, whileO (raddleref37_SamePoints_l1 l l) 0 = some t ∧ t = .inr () := by
    refine loop_ix l.length (fun _ => True) _ trivial ?_ ?_
    · intro k hk _
      have hx := idxO_nat hk
      have hkk : decide ((k : Int) < (l.length : Int)) = true := by simp; omega
      refine .inl ⟨?_, trivial⟩
      unfold raddleref37_SamePoints_l1
      simp only [hkk, if_true, hx, Option.bind_some, beq_self_eq_true, Bool.and_self, Bool.not_true, Bool.false_eq_true, if_false, w64_succ (show k < 9223372036854775807 by omega)]
    · intro _
      refine ⟨.inr (), ?_, rfl⟩
      unfold raddleref37_SamePoints_l1
      simp
  obtain ⟨t, h1, rfl⟩ := key
  unfold F_raddleref37_SamePoints
  simp only [bne_self_eq_false, Bool.false_eq_true, if_false, h1, Option.bind_some]
theorem law_PieceMeasures (g : api_Gauge) (l r : List api_Point) (wg : wf_api_Gauge g) (wl : Wl wf_api_Point l) (wr : Wl wf_api_Point r) : F_raddlelaw37_PieceMeasures g l r = some true := by
  unfold F_raddlelaw37_PieceMeasures
  by_cases h1 : 55 < l.length
  · have : decide ((55 : Int) < (l.length : Int)) = true := by simp; omega
    simp only [this, if_true, Option.bind_some]
  by_cases h2 : 55 < r.length
  · have e1 : decide ((55 : Int) < (l.length : Int)) = false := by simp; omega
    have e2 : decide ((55 : Int) < (r.length : Int)) = true := by simp; omega
    simp only [e1, e2, if_true, if_false, Bool.false_eq_true, Option.bind_some]
  have e1 : decide ((55 : Int) < (l.length : Int)) = false := by simp; omega
  have e2 : decide ((55 : Int) < (r.length : Int)) = false := by simp; omega
  obtain ⟨x, x1, x2, x3, x4⟩ := measure_eq g l r (by omega) (by omega) (fun p hp => (wl.2 p hp).1) (fun p hp => (wr.2 p hp).1)
  simp only [e1, e2, if_true, if_false, Bool.false_eq_true, Option.bind_some, x1, x2, samePoints_self _ x3, samePoints_self _ x4, beq_self_eq_true]

end Go.Proofs.Ytmedbnjhgkcndaa
