/- Fit: the program's and the reference's. -/
import Derived.Test.YtoiehdlcfehmlaaProg
import Derived.Test.YtoiehdlcfehmlaaSh3
namespace Go.Proofs.Ytoiehdlcfehmlaa
open Go.RowKit
set_option linter.unusedVariables false

def fitR (hs : List Int) : List Int := if fitErr hs = 0 then fitL hs else []
theorem fitR_no {hs : List Int} {e : Int} (h : fitErr hs = e) (h1 : e ≠ 0) : fitR hs = [] := by simp [fitR, h, h1]
theorem fitR_yes {hs : List Int} (h : fitErr hs = 0) : fitR hs = fitL hs := by simp [fitR, h]
theorem RetL_err (w0 w' : World) {hs : List Int} {er : Int} (h : fitErr hs = er) (h1 : er ≠ 0) (hb : Below w0.heap.size w0 w') : RetL w0 (fitR hs) (fitErr hs) (.returned (.tuple #[.slice none 0 0, .int .i64 er])) w' := by
  rw [fitR_no h h1, h]
  exact RetL.none _ _ _ hb
def fitOk (hs : List Int) (k : Nat) : Prop := 0 ≤ gI hs k ∧ gI hs k ≤ 50 ∧ (k = 0 ∨ gI hs k ≤ gI hs (k - 1))
theorem vals_cons {f g : Nat → Value} {v : Value} {n : Nat} (h0 : g 0 = v) (h : ∀ j, j < n → g (j + 1) = f j) : [v] ++ vals f n = vals g (n + 1) := by
  apply List.ext_getElem?
  intro k
  cases k with
  | zero => simp [vals, h0]
  | succ k =>
    by_cases hk : k < n
    · rw [vals_get _ (by omega), h k hk]
      simpa using vals_get f hk
    · rw [vals_none _ (by omega)]
      simpa using vals_none f hk

set_option maxHeartbeats 1000000 in
theorem rfit_any (a : Option Addr) (c : Nat) (hs : List Int) (w : World) (ha : Row w a hs.length (fI hs)) :
    Calls Try.prog 12 #[.slice a hs.length c] w (RetL w (fitR hs) (fitErr hs)) := by
  by_cases h1 : 200 < hs.length
  · have HR := Lib.hid (RetL_err w w (fitErr_many h1) (by decide) (Below.refl _ _))
    go_enter Try.func12, Try.ntmps12
    go_wp2
    exact bodyPost_ret (v := .tuple #[.slice none 0 0, .int .i64 4]) (by simp [results, Try.results12, go_sem, *]) rfl HR.out
  by_cases h2 : hs.length = 0
  · have HR := Lib.hid (RetL_err w w (fitErr_none h2) (by decide) (Below.refl _ _))
    go_enter Try.func12, Try.ntmps12
    go_wp2
    exact bodyPost_ret (v := .tuple #[.slice none 0 0, .int .i64 2]) (by simp [results, Try.results12, go_sem, *]) rfl HR.out
  have h1' : hs.length ≤ 200 := by omega
  have h2' : 0 < hs.length := by omega
  have h2b : ((hs.length : Int) == 0) = false := by simpa using h2
  have h1b : decide ((200 : Int) < (hs.length : Int)) = false := by simp; omega
  have N1 := Lib.hid h1
  have N2 := Lib.hid h2
  clear h1 h2
  go_enter Try.func12, Try.ntmps12
  go_wp2
  go_loopw [4] (fun i wr => ∃ k : Nat, k ≤ hs.length ∧ i = .int .i64 k ∧ (∀ j, j < k → fitOk hs j) ∧ Below w.heap.size w wr) (fun i _ => hs.length - (intOf i).toNat)
  case atStart => exact ⟨0, Nat.zero_le _, rfl, not_lt_zero, (by repeat (first | exact Below.refl _ _ | assumption | refine gdraws ?_ _ | refine gdrew ?_ | refine galloc ?_ _ | refine Below.setCell ?_ (by simp) _ | refine gtrans ?_ (by assumption) | refine Below.trans ?_ (Below.mono (by assumption) (by simp))))⟩
  case round =>
    obtain ⟨k, hk, rfl, hall, hbl⟩ := hrel
    have HA := Lib.hid hall
    clear hall
    by_cases hlt : k < hs.length
    · obtain ⟨b1, o1, e1, g1, hc1⟩ := ha.below hbl k hlt
      rw [fI_eq] at hc1
      have z0 : (0 : Int) ≤ (k : Int) := by omega
      have z1 : (k : Int) < (hs.length : Int) := by omega
      by_cases q1 : gI hs k < 0
      · have HR := Lib.hid (fitErr_bad N1.out N2.out hlt (.inl q1))
        subst e1
        go_wp2_with fail
        go_quiet (fail)
        go_wp2
        exact bodyPost_ret (v := .tuple #[.slice none 0 0, .int .i64 2]) (by simp [results, Try.results12, go_sem, *]) rfl (RetL_err _ _ HR.out (by decide) (by repeat (first | exact Below.refl _ _ | assumption | refine gdraws ?_ _ | refine gdrew ?_ | refine galloc ?_ _ | refine Below.setCell ?_ (by simp) _ | refine gtrans ?_ (by assumption) | refine Below.trans ?_ (Below.mono (by assumption) (by simp)))))
      have d1 : decide (gI hs k < 0) = false := by simpa using q1
      by_cases q2 : 50 < gI hs k
      · have HR := Lib.hid (fitErr_bad N1.out N2.out hlt (.inr (.inl q2)))
        subst e1
        go_wp2_with fail
        go_quiet (fail)
        go_wp2
        exact bodyPost_ret (v := .tuple #[.slice none 0 0, .int .i64 2]) (by simp [results, Try.results12, go_sem, *]) rfl (RetL_err _ _ HR.out (by decide) (by repeat (first | exact Below.refl _ _ | assumption | refine gdraws ?_ _ | refine gdrew ?_ | refine galloc ?_ _ | refine Below.setCell ?_ (by simp) _ | refine gtrans ?_ (by assumption) | refine Below.trans ?_ (Below.mono (by assumption) (by simp)))))
      have d2 : decide (50 < gI hs k) = false := by simpa using q2
      have Q1 := Lib.hid q1
      have Q2 := Lib.hid q2
      clear q1 q2
      cases k with
      | zero =>
        subst e1
        have z2 : (0 : Int) < (hs.length : Int) := by omega
        rw [Nat.add_zero] at hc1
        go_wp2_with fail
        go_quiet (fail)
        go_wp2
        go_roundw
        case rel => exact ⟨1, by omega, by go_num, all_succ HA.out ⟨by have := Q1.out; omega, by have := Q2.out; omega, .inl rfl⟩, (by repeat (first | exact Below.refl _ _ | assumption | refine gdraws ?_ _ | refine gdrew ?_ | refine galloc ?_ _ | refine Below.setCell ?_ (by simp) _ | refine gtrans ?_ (by assumption) | refine Below.trans ?_ (Below.mono (by assumption) (by simp))))⟩
        case measure => simp [intOf]; omega
      | succ k =>
        obtain ⟨b2, o2, e2, g2, hc2⟩ := ha.below hbl k (by omega)
        rw [e1] at e2
        cases e2
        rw [fI_eq] at hc2
        subst e1
        have z2 : (k : Int) < (hs.length : Int) := by omega
        have z3 : (0 : Int) ≤ (k : Int) := by omega
        have z4 : IntKind.i64.wrap ((k : Int) + 1) = (k : Int) + 1 := wrap_id _ (by omega) (by omega)
        by_cases q3 : gI hs k < gI hs (k + 1)
        · have HR := Lib.hid (fitErr_bad N1.out N2.out hlt (.inr (.inr ⟨by omega, q3⟩)))
          go_wp2_with fail
          go_quiet (fail)
          go_wp2
          exact bodyPost_ret (v := .tuple #[.slice none 0 0, .int .i64 2]) (by simp [results, Try.results12, go_sem, *]) rfl (RetL_err _ _ HR.out (by decide) (by repeat (first | exact Below.refl _ _ | assumption | refine gdraws ?_ _ | refine gdrew ?_ | refine galloc ?_ _ | refine Below.setCell ?_ (by simp) _ | refine gtrans ?_ (by assumption) | refine Below.trans ?_ (Below.mono (by assumption) (by simp)))))
        · have d3 : decide (gI hs k < gI hs (k + 1)) = false := by simpa using q3
          have Q3 := Lib.hid q3
          clear q3
          go_wp2_with fail
          go_quiet (fail)
          go_wp2
          go_roundw
          case rel => exact ⟨k + 1 + 1, by omega, by go_num, all_succ HA.out ⟨by have := Q1.out; omega, by have := Q2.out; omega, .inr (by have := Q3.out; simp; omega)⟩, (by repeat (first | exact Below.refl _ _ | assumption | refine gdraws ?_ _ | refine gdrew ?_ | refine galloc ?_ _ | refine Below.setCell ?_ (by simp) _ | refine gtrans ?_ (by assumption) | refine Below.trans ?_ (Below.mono (by assumption) (by simp))))⟩
          case measure => simp [intOf]; omega
    · obtain rfl : hs.length = k := by omega
      have hall : ∀ j, j < hs.length → fitOk hs j := HA.out
      have hok := fitErr_ok N1.out N2.out hall
      have HOK := Lib.hid hok
      clear hok
      have HALL := Lib.hid hall
      obtain ⟨t1, t2, _⟩ := hall 0 h2'
      clear hall
      obtain ⟨H, hH⟩ := Int.eq_ofNat_of_zero_le t1
      have hl := fitL_length hs
      rw [hH] at hl
      have HL := Lib.hid hl
      have HH := Lib.hid hH
      obtain ⟨b0, o0, e0, g0, hc0⟩ := ha.below hbl 0 h2'
      subst e0
      rw [fI_eq, hH] at hc0
      simp at hc0
      rw [hH] at t2
      clear hH hl t1
      go_wp2
      go_loopw [5, 6] (fun o x wr => ∃ k : Nat, k ≤ H ∧ x = .int .i64 (k + 1) ∧ ∃ a' c', o = .slice a' k c' ∧ wr.ownsRow w.heap.size 3 1 (.slice a' k c') k (vals (fI (fitL hs)) k) ∧ Below w.heap.size w wr) (fun _ x _ => H + 1 - (intOf x).toNat)
      case atStart => exact ⟨0, Nat.zero_le _, rfl, none, 0, rfl, World.ownsRow_nil _ _ _ _, hbl⟩
      case round =>
        clear hc0 g0
        obtain ⟨k, hk, rfl, a', c', rfl, hown, hbel⟩ := hrel
        have hsz := hbel.size
        obtain ⟨b0', o0', e0, g0, hc0⟩ := ha.below hbel 0 h2'
        cases e0
        rw [fI_eq, HH.out] at hc0
        simp at hc0
        by_cases hlt : k < H
        · have hg := fitL_get (hs := hs) (k := k) (by rw [HH.out]; simpa using hlt)
          have HG := Lib.hid hg
          clear hg
          go_wp2
          go_loop [7, 8] (fun h i => ∃ m : Nat, m ≤ hs.length ∧ i = .int .i64 m ∧ h = .int .i64 (cntGe hs ((k : Int) + 1) m : Nat)) (fun _ i => hs.length - (intOf i).toNat)
          case atStart => exact ⟨0, Nat.zero_le _, rfl, rfl⟩
          case round =>
            obtain ⟨m, hm, rfl, rfl⟩ := hrel
            have hle := cntGe_le hs ((k : Int) + 1) m
            by_cases hltm : m < hs.length
            · obtain ⟨b1, o1, e1, g1, hc1⟩ := ha.below hbel m hltm
              cases e1
              rw [fI_eq] at hc1
              by_cases hq : (k : Int) + 1 ≤ gI hs m
              · have HQ := Lib.hid (cntGe_yes hq)
                go_wp2
                go_round
                case rel => exact ⟨m + 1, by omega, by go_num, by rw [HQ.out]; go_num⟩
                case measure => simp [intOf]; omega
              · have HQ := Lib.hid (cntGe_no hq)
                go_wp2
                go_round
                case rel => exact ⟨m + 1, by omega, by go_num, by rw [HQ.out]⟩
                case measure => simp [intOf]; omega
            · obtain rfl : hs.length = m := by omega
              go_wp2_with (at_builtin; refine wpList_append_row rfl _ _ 22 rfl (w.heap.size) 3 Try.underlying22 infoInt rfl (.slice a' (k) c') (k) (vals (fI (fitL hs)) (k)) rfl (hown.alloc _) (some ⟨wr.heap.size, 0, none⟩) 1 1 (fun _ => .int .i64 (cntGe hs ((k : Int) + 1) hs.length : Nat)) rfl (row_one _ _ _) (fun _ _ => rfl) (by unfold maxLen; omega) (by omega) (by simp; omega) ?_; intro a2 c2 w5 hown5 hgrow5 hat5)
              go_roundw
              case rel =>
                refine ⟨k + 1, by omega, by go_num, a2, c2, rfl, ?_, below_push hbel hgrow5 fun j hj => (hown.lt j hj).1⟩
                rw [vals_snoc (f := fI (fitL hs)) (g := fun _ => Value.int .i64 (cntGe hs ((k : Int) + 1) hs.length : Nat)) (n := k) (by rw [fI_eq, HG.out])] at hown5
                exact hown5
              case measure => simp [intOf]; omega
        · obtain rfl : H = k := by omega
          go_wp2
          exact bodyPost_ret (v := .tuple #[.slice a' H c', .int .i64 0]) (by simp [results, Try.results12, go_sem, *]) rfl (by rw [fitR_yes HOK.out, HOK.out]; exact RetL.own hown (by rw [HL.out]; simp) (fun _ _ => rfl) hbel)

end Go.Proofs.Ytoiehdlcfehmlaa
