/- Heights: the program's and the reference's. -/
import Derived.Test.YtoiehdlcfehmlaaProg
import Derived.StillTailTactics
import Derived.BigRegion
import Derived.Test.YtoiehdlcfehmlaaSh1
namespace Go.Proofs.Ytoiehdlcfehmlaa
open Go.RowKit
set_option linter.unusedVariables false

def hgtL (n : Int) (ts : List Int) : List Int := if shErr n ts = 0 then heightsL n.toNat ts else []
theorem hgtL_no {n : Int} {ts : List Int} (h : ¬ shErr n ts = 0) : hgtL n ts = [] := by simp [hgtL, h]
theorem hgtL_yes {n : Nat} {ts : List Int} (h : shErr n ts = 0) : hgtL n ts = heightsL n ts := by simp [hgtL, h]
theorem made_vals (z : Value) (n : Nat) (hz : z.cells = #[z]) : (madeCells z.cells (n * 1)).toList = vals (fun _ => z) n := by
  apply List.ext_getElem?
  intro k
  by_cases h : k < n
  · rw [vals_get _ h]
    simp [madeCells, hz, h, Nat.mod_one]
  · rw [vals_none _ h]
    simp [madeCells, hz]; omega

set_option maxHeartbeats 2000000 in
theorem rheights_any (n : Int) (a : Option Addr) (c : Nat) (ts : List Int) (w : World) (ha : Row w a ts.length (fI ts)) :
    Calls Try.prog 6 #[.int .i64 n, .slice a ts.length c] w (RetL w (hgtL n ts) (shErr n ts)) := by
  by_cases h0 : shErr n ts = 0
  case neg =>
    have d0 : (shErr n ts != 0) = true := by simpa using h0
    rw [hgtL_no h0]
    go_enter Try.func6, Try.ntmps6
    go_wp2_with (go_at_call 21; refine (rcheck38_any _ _ _ _ _ ha).mono ?_; rintro e w1 ⟨rfl, rfl⟩)
    exact bodyPost_ret (v := .tuple #[.slice none 0 0, .int .i64 (shErr n ts)]) (by simp [results, Try.results6, go_sem, *]) rfl (RetL.none _ _ _ (by repeat (first | exact Below.refl _ _ | assumption | refine gdraws ?_ _ | refine gdrew ?_ | refine galloc ?_ _ | refine Below.setCell ?_ (by simp) _ | refine gtrans ?_ (by assumption) | refine Below.trans ?_ (Below.mono (by assumption) (by simp)))))
  have d0 : (shErr n ts != 0) = false := by simpa using h0
  obtain ⟨n1, n2, n3, hts⟩ := shErr_zero h0
  obtain ⟨N, rfl⟩ := Int.eq_ofNat_of_zero_le (show 0 ≤ n by omega)
  have H0 := Lib.hid h0
  rw [hgtL_yes h0]
  clear h0 hts
  go_enter Try.func6, Try.ntmps6
  go_wp2_with (go_at_call 21; refine (rcheck38_any _ _ _ _ _ ha).mono ?_; rintro e w1 ⟨rfl, rfl⟩)
  go_loopw [7, 8] (fun o x wr => ∃ k : Nat, k ≤ N ∧ x = .int .i64 k ∧ ∃ a' c', o = .slice a' k c' ∧ wr.ownsRow w.heap.size 3 1 (.slice a' k c') k (vals (fI (heightsL N ts)) k) ∧ Below w.heap.size w wr) (fun _ x _ => N - (intOf x).toNat)
  case atStart => exact ⟨0, Nat.zero_le _, rfl, none, 0, rfl, World.ownsRow_nil _ _ _ _, (by repeat (first | exact Below.refl _ _ | assumption | refine gdraws ?_ _ | refine gdrew ?_ | refine galloc ?_ _ | refine Below.setCell ?_ (by simp) _ | refine gtrans ?_ (by assumption) | refine Below.trans ?_ (Below.mono (by assumption) (by simp))))⟩
  case round =>
    obtain ⟨k, hk, rfl, a', c', rfl, hown, hbel⟩ := hrel
    have hsz := hbel.size
    by_cases hlt : k < N
    · have hg := heightsL_get (ts := ts) hlt
      have HG := Lib.hid hg
      clear hg
      go_wp2
      go_loop [9, 10] (fun h i => ∃ m : Nat, m ≤ ts.length ∧ i = .int .i64 m ∧ h = .int .i64 (cntG ts k m : Nat)) (fun _ i => ts.length - (intOf i).toNat)
      case atStart => exact ⟨0, Nat.zero_le _, rfl, rfl⟩
      case round =>
        obtain ⟨m, hm, rfl, rfl⟩ := hrel
        have hle := cntG_le ts k m
        by_cases hltm : m < ts.length
        · obtain ⟨b1, o1, rfl, g1, hc1⟩ := ha.below hbel m hltm
          rw [fI_eq] at hc1
          by_cases hq : (k : Int) < gI ts m
          · have HQ := Lib.hid (cntG_yes hq)
            go_wp2
            go_round
            case rel => exact ⟨m + 1, by omega, by go_num, by rw [HQ.out]; go_num⟩
            case measure => simp [intOf]; omega
          · have HQ := Lib.hid (cntG_no hq)
            go_wp2
            go_round
            case rel => exact ⟨m + 1, by omega, by go_num, by rw [HQ.out]⟩
            case measure => simp [intOf]; omega
        · obtain rfl : ts.length = m := by omega
          go_wp2_with (at_builtin; refine wpList_append_row rfl _ _ 22 rfl (w.heap.size) 3 Try.underlying22 infoInt rfl (.slice a' (k) c') (k) (vals (fI (heightsL N ts)) (k)) rfl (hown.alloc _) (some ⟨wr.heap.size, 0, none⟩) 1 1 (fun _ => .int .i64 (cntG ts k ts.length : Nat)) rfl (row_one _ _ _) (fun _ _ => rfl) (by unfold maxLen; omega) (by omega) (by simp; omega) ?_; intro a2 c2 w5 hown5 hgrow5 hat5)
          go_roundw
          case rel =>
            refine ⟨k + 1, by omega, by go_num, a2, c2, rfl, ?_, below_push hbel hgrow5 fun j hj => (hown.lt j hj).1⟩
            rw [vals_snoc (f := fI (heightsL N ts)) (g := fun _ => Value.int .i64 (cntG ts k ts.length : Nat)) (n := k) (by rw [fI_eq, HG.out])] at hown5
            exact hown5
          case measure => simp [intOf]; omega
    · obtain rfl : N = k := by omega
      go_wp2
      rw [H0.out]
      exact bodyPost_ret (v := .tuple #[.slice a' N c', .int .i64 0]) (by simp [results, Try.results6, go_sem, *]) rfl (RetL.own hown (heightsL_length _ _) (fun _ _ => rfl) hbel)

def hF1 (ts : List Int) (k j : Nat) : Value := .int .i64 (cntE ts (j + 1) k : Nat)
def hF2 (ts : List Int) (r j : Nat) : Value := .int .i64 (if r ≤ j then (cntG ts j ts.length : Nat) else (cntE ts (j + 1) ts.length : Nat))

set_option maxHeartbeats 2000000 in
theorem pheights_any (n : Int) (a : Option Addr) (c : Nat) (ts : List Int) (w : World) (ha : Row w a ts.length (fI ts)) :
    Calls Try.prog 5 #[.int .i64 n, .slice a ts.length c] w (RetL w (hgtL n ts) (shErr n ts)) := by
  by_cases h0 : shErr n ts = 0
  case neg =>
    have d0 : (shErr n ts != 0) = true := by simpa using h0
    rw [hgtL_no h0]
    go_enter Try.func5, Try.ntmps5
    go_wp2_with (go_at_call 20; refine (pcheck38_any _ _ _ _ _ ha).mono ?_; rintro e w1 ⟨rfl, rfl⟩)
    exact bodyPost_ret (v := .tuple #[.slice none 0 0, .int .i64 (shErr n ts)]) (by simp [results, Try.results5, go_sem, *]) rfl (RetL.none _ _ _ (by repeat (first | exact Below.refl _ _ | assumption | refine gdraws ?_ _ | refine gdrew ?_ | refine galloc ?_ _ | refine Below.setCell ?_ (by simp) _ | refine gtrans ?_ (by assumption) | refine Below.trans ?_ (Below.mono (by assumption) (by simp)))))
  have d0 : (shErr n ts != 0) = false := by simpa using h0
  obtain ⟨n1, n2, n3, hts⟩ := shErr_zero h0
  obtain ⟨N, rfl⟩ := Int.eq_ofNat_of_zero_le (show 0 ≤ n by omega)
  have H0 := Lib.hid h0
  have HT := Lib.hid hts
  rw [hgtL_yes h0]
  clear h0 hts
  obtain ⟨i, hi, hz0, hz1, hz2⟩ := info_parts infoInt
  go_enter Try.func5, Try.ntmps5
  go_wp2_with (first | (go_at_call 20; refine (pcheck38_any _ _ _ _ _ ha).mono ?_; rintro e w1 ⟨rfl, rfl⟩) | (at_make; refine wpList_make_full _ rfl _ _ 22 rfl w.heap.size 3 i (.int .i64 0) 1 Try.underlying22 hi hz0 hz1 _ _ _ _ N rfl rfl rfl rfl (by rw [hz2]; omega) (by unfold maxLen; omega) (Nat.le_refl _) ?_; intro w1 hown hgrow))
  rw [made_vals _ _ rfl] at hown
  have hbel := (gcell hgrow w.heap.size (Nat.le_refl _) (fun k hk => by cases hk)).2.2
  rw [vals_congr (g := hF1 ts 0) (fun k _ => by simp [hF1, cntE])] at hown
  obtain ⟨g, hg⟩ : ∃ g, g = w.heap.size := ⟨_, rfl⟩
  rw [← hg] at hown ⊢
  have hgl : w.heap.size ≤ g := by omega
  clear hg
  go_loopw [21] (fun x wr => ∃ k : Nat, k ≤ ts.length ∧ x = .int .i64 k ∧ wr.ownsRow g 3 1 (.slice (some ⟨g, 0, none⟩) N N) N (vals (hF1 ts k) N) ∧ Below w.heap.size w wr) (fun x _ => ts.length - (intOf x).toNat)
  case atStart => exact ⟨0, Nat.zero_le _, rfl, hown, hbel⟩
  case round =>
    clear hown hbel hgrow
    obtain ⟨k, hk, rfl, hown, hbel⟩ := hrel
    have hsz := hbel.size
    by_cases hlt : k < ts.length
    · obtain ⟨b1, o1, rfl, g1, hc1⟩ := ha.below hbel k hlt
      rw [fI_eq] at hc1
      obtain ⟨t1, t2⟩ := HT.out k hlt
      obtain ⟨q, hq⟩ := Int.eq_ofNat_of_zero_le (show 0 ≤ gI ts k - 1 by omega)
      have hq' : gI ts k = (q : Int) + 1 := by omega
      rw [hq'] at hc1
      have hqn : q < N := by omega
      have HQ := Lib.hid hq'
      clear hq hq' t1 t2
      have hcA := hown.cellAt q (by omega)
      rw [vals_get _ hqn] at hcA
      have hfA := hown.frozenAt q
      have hle := cntE_le ts ((q : Int) + 1) k
      simp only [hF1] at hcA
      go_wp2
      go_roundw
      case rel =>
        refine ⟨k + 1, by omega, by go_num, ?_, hbel.setCell (by simp; omega) _⟩
        have := (hown.stored q (.int .i64 ((cntE ts (q + 1) k : Nat) + 1))).1
        rw [vals_set] at this
        rw [vals_congr (g := fun j => if j = q then .int .i64 ((cntE ts (q + 1) k : Nat) + 1) else hF1 ts k j)]
        · exact this
        · intro j hj
          by_cases e : j = q
          · subst e
            simp [hF1, cntE_yes HQ.out]
          · rw [if_neg e]
            simp only [hF1]
            rw [cntE_no (by rw [HQ.out]; omega)]
      case measure => simp [intOf]; omega
    · obtain rfl : ts.length = k := by omega
      go_wp2
      rw [vals_congr (g := hF2 ts (N - 1)) (fun j hj => by
        simp only [hF1, hF2]
        split
        · rw [cntG_split, cntG_top (n := (j : Int) + 1) fun m hm => by have := HT.out m hm; omega]
          rfl
        · rfl)] at hown
      go_loopw [10] (fun x wr => ∃ r : Nat, r ≤ N - 1 ∧ x = .int .i64 ((r : Int) - 1) ∧ wr.ownsRow g 3 1 (.slice (some ⟨g, 0, none⟩) N N) N (vals (hF2 ts r) N) ∧ Below w.heap.size w wr) (fun x _ => (intOf x + 1).toNat)
      case atStart => exact ⟨N - 1, Nat.le_refl _, by congr 1; omega, hown, hbel⟩
      case round =>
        clear hown hbel hsz
        obtain ⟨r, hr, rfl, hown, hbel⟩ := hrel
        have hsz := hbel.size
        cases r with
        | succ r =>
          have hcA := hown.cellAt r (by omega)
          rw [vals_get _ (by omega)] at hcA
          have hfA := hown.frozenAt r
          have hcB := hown.cellAt (r + 1) (by omega)
          rw [vals_get _ (by omega)] at hcB
          simp only [hF2] at hcA hcB
          rw [if_neg (by omega)] at hcA
          rw [if_pos (by omega)] at hcB
          have hle := cntE_le ts ((r : Int) + 1) ts.length
          have hle2 := cntG_le ts ((r : Int) + 1) ts.length
          rw [show ((r + 1 : Nat) : Int) = (r : Int) + 1 from rfl] at hcB
          have zr0 : (0 : Int) ≤ (r : Int) := by omega
          have zr1 : (r : Int) < (N : Int) := by omega
          have zr2 : (0 : Int) ≤ (r : Int) + 1 := by omega
          have zr3 : (r : Int) + 1 < (N : Int) := by omega
          have zr4 : r < N := by omega
          have zr5 : r + 1 < N := by omega
          have zr6 : IntKind.i64.wrap ((r : Int) + 1) = (r : Int) + 1 := wrap_id _ (by omega) (by omega)
          have zr7 : IntKind.i64.wrap (((cntE ts ((r : Int) + 1) ts.length : Nat) : Int) + ((cntG ts ((r : Int) + 1) ts.length : Nat) : Int)) = ((cntE ts ((r : Int) + 1) ts.length : Nat) : Int) + ((cntG ts ((r : Int) + 1) ts.length : Nat) : Int) := wrap_id _ (by omega) (by omega)
          go_wp2
          go_still_tail 11, (by kernel_rfl)
          change wpList _ _ _ _ _ wr.drew
          have hfA' : wr.drew.frozen? ⟨g, r, none⟩ = false := hfA
          have hcA' : wr.drew.cell? ⟨g, r, none⟩ = some (.int .i64 (cntE ts ((r : Int) + 1) ts.length : Nat)) := hcA
          have hown' : wr.drew.ownsRow g 3 1 (.slice (some ⟨g, 0, none⟩) N N) N (vals (hF2 ts (r + 1)) N) := hown
          have hbel' := gdrew hbel
          have hsz' : w.heap.size ≤ wr.drew.heap.size := hsz
          generalize wr.drew = w2 at *
          go_wp2
          go_roundw
          case rel =>
            refine ⟨r, by omega, by go_num, ?_, hbel'.setCell (by simp; omega) _⟩
            have := (hown'.stored r (.int .i64 ((cntE ts ((r : Int) + 1) ts.length : Nat) + (cntG ts ((r : Int) + 1) ts.length : Nat)))).1
            rw [vals_set] at this
            rw [vals_congr (g := fun j => if j = r then .int .i64 ((cntE ts ((r : Int) + 1) ts.length : Nat) + (cntG ts ((r : Int) + 1) ts.length : Nat)) else hF2 ts (r + 1) j)]
            · exact this
            · intro j hj
              by_cases e : j = r
              · subst e
                rw [if_pos rfl]
                simp [hF2, cntG_split ts j]
              · rw [if_neg e]
                simp only [hF2]
                by_cases e2 : r ≤ j
                · rw [if_pos e2, if_pos (by omega)]
                · rw [if_neg e2, if_neg (by omega)]
          case measure => simp [intOf]
        | zero =>
          go_wp2
          rw [H0.out]
          exact bodyPost_ret (v := .tuple #[.slice (some ⟨g, 0, none⟩) N N, .int .i64 0]) (by simp [results, Try.results5, go_sem, *]) rfl (RetL.own hown (heightsL_length _ _) (fun j hj => by rw [fI_eq, heightsL_get hj]; simp [hF2]) hbel)

end Go.Proofs.Ytoiehdlcfehmlaa
