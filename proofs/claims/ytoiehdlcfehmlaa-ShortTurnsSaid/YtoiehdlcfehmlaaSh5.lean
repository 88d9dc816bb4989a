/- Fit: the program's. -/
import Derived.Test.YtoiehdlcfehmlaaProg
import Derived.Test.YtoiehdlcfehmlaaSh4
namespace Go.Proofs.Ytoiehdlcfehmlaa
open Go.RowKit
set_option linter.unusedVariables false

theorem own_one (w : World) (base e : Nat) (v : Value) (hb : base ≤ w.heap.size) (h1 : v.oneCell' = true) : (w.alloc (.cells #[v] e)).ownsRow base e 1 (.slice (some ⟨w.heap.size, 0, none⟩) 1 1) 1 [v] :=
  ⟨by simp, .inr ⟨w.heap.size, 1, #[v], rfl, hb, heap_alloc_new w _, Nat.le_refl _, by unfold maxLen; omega, by simp, by simp⟩⟩

set_option maxHeartbeats 2000000 in
theorem pfit_any (a : Option Addr) (c : Nat) (hs : List Int) (w : World) (ha : Row w a hs.length (fI hs)) :
    Calls Try.prog 11 #[.slice a hs.length c] w (RetL w (fitR hs) (fitErr hs)) := by
  by_cases h1 : 200 < hs.length
  · have HR := Lib.hid (RetL_err w w (fitErr_many h1) (by decide) (Below.refl _ _))
    go_enter Try.func11, Try.ntmps11
    go_wp2
    exact bodyPost_ret (v := .tuple #[.slice none 0 0, .int .i64 4]) (by simp [results, Try.results11, go_sem, *]) rfl HR.out
  by_cases h2 : hs.length = 0
  · have HR := Lib.hid (RetL_err w w (fitErr_none h2) (by decide) (Below.refl _ _))
    go_enter Try.func11, Try.ntmps11
    go_wp2
    exact bodyPost_ret (v := .tuple #[.slice none 0 0, .int .i64 2]) (by simp [results, Try.results11, go_sem, *]) rfl HR.out
  have h1' : hs.length ≤ 200 := by omega
  have h2' : 0 < hs.length := by omega
  have h2b : ((hs.length : Int) == 0) = false := by simpa using h2
  have h1b : decide ((200 : Int) < (hs.length : Int)) = false := by simp; omega
  have N1 := Lib.hid h1
  have N2 := Lib.hid h2
  clear h1 h2
  go_enter Try.func11, Try.ntmps11
  go_wp2
  go_loop [17] (fun i => ∃ k : Nat, k ≤ hs.length ∧ i = .int .i64 k ∧ (∀ j, j < k → fitOk hs j)) (fun i => hs.length - (intOf i).toNat)
  case atStart => exact ⟨0, Nat.zero_le _, rfl, not_lt_zero⟩
  case round =>
    obtain ⟨k, hk, rfl, hall⟩ := hrel
    have HA := Lib.hid hall
    clear hall
    by_cases hlt : k < hs.length
    · obtain ⟨b1, o1, e1, g1, hc1⟩ := ha k hlt
      rw [fI_eq] at hc1
      by_cases q1 : gI hs k < 0
      · have HR := Lib.hid (fitErr_bad N1.out N2.out hlt (.inl q1))
        subst e1
        go_wp2_with (first | (go_at_call 22; refine (within_no _ _ _ _ (by omega)).mono ?_; rintro e w1 ⟨rfl, rfl⟩))
        exact bodyPost_ret (v := .tuple #[.slice none 0 0, .int .i64 2]) (by simp [results, Try.results11, go_sem, *]) rfl (RetL_err _ _ HR.out (by decide) (by repeat (first | exact Below.refl _ _ | assumption | refine gdraws ?_ _ | refine gdrew ?_ | refine galloc ?_ _ | refine Below.setCell ?_ (by simp) _ | refine gtrans ?_ (by assumption) | refine Below.trans ?_ (Below.mono (by assumption) (by simp)))))
      by_cases q2 : 50 < gI hs k
      · have HR := Lib.hid (fitErr_bad N1.out N2.out hlt (.inr (.inl q2)))
        subst e1
        go_wp2_with (first | (go_at_call 22; refine (within_no _ _ _ _ (by omega)).mono ?_; rintro e w1 ⟨rfl, rfl⟩))
        exact bodyPost_ret (v := .tuple #[.slice none 0 0, .int .i64 2]) (by simp [results, Try.results11, go_sem, *]) rfl (RetL_err _ _ HR.out (by decide) (by repeat (first | exact Below.refl _ _ | assumption | refine gdraws ?_ _ | refine gdrew ?_ | refine galloc ?_ _ | refine Below.setCell ?_ (by simp) _ | refine gtrans ?_ (by assumption) | refine Below.trans ?_ (Below.mono (by assumption) (by simp)))))
      cases k with
      | zero =>
        subst e1
        rw [Nat.add_zero] at hc1
        have z2 : (0 : Int) < (hs.length : Int) := by omega
        go_wp2_with (first | (go_at_call 22; refine (within_yes _ _ _ _ (by omega) (by omega)).mono ?_; rintro e w1 ⟨rfl, rfl⟩))
        go_round
        case rel => exact ⟨1, by omega, by go_num, all_succ HA.out ⟨by omega, by omega, .inl rfl⟩⟩
        case measure => simp [intOf]; omega
      | succ k =>
        obtain ⟨b2, o2, e2, g2, hc2⟩ := ha k (by omega)
        rw [e1] at e2
        cases e2
        rw [fI_eq] at hc2
        subst e1
        by_cases q3 : gI hs k < gI hs (k + 1)
        · have HR := Lib.hid (fitErr_bad N1.out N2.out hlt (.inr (.inr ⟨by omega, q3⟩)))
          go_wp2_with (first | (go_at_call 22; refine (within_yes _ _ _ _ (by omega) (by omega)).mono ?_; rintro e w1 ⟨rfl, rfl⟩))
          exact bodyPost_ret (v := .tuple #[.slice none 0 0, .int .i64 2]) (by simp [results, Try.results11, go_sem, *]) rfl (RetL_err _ _ HR.out (by decide) (by repeat (first | exact Below.refl _ _ | assumption | refine gdraws ?_ _ | refine gdrew ?_ | refine galloc ?_ _ | refine Below.setCell ?_ (by simp) _ | refine gtrans ?_ (by assumption) | refine Below.trans ?_ (Below.mono (by assumption) (by simp)))))
        · go_wp2_with (first | (go_at_call 22; refine (within_yes _ _ _ _ (by omega) (by omega)).mono ?_; rintro e w1 ⟨rfl, rfl⟩))
          go_round
          case rel => exact ⟨k + 1 + 1, by omega, by go_num, all_succ HA.out ⟨by omega, by omega, .inr (by simp; omega)⟩⟩
          case measure => simp [intOf]; omega
    · obtain rfl : hs.length = k := by omega
      have hall : ∀ j, j < hs.length → fitOk hs j := HA.out
      have hok := fitErr_ok N1.out N2.out hall
      have HOK := Lib.hid hok
      clear hok
      have HALL := Lib.hid hall
      have hfl := falls (hs := hs) (n := hs.length) fun k hk => (hall k hk).2.2
      have HF := Lib.hid hfl
      obtain ⟨t1, t2, _⟩ := hall 0 h2'
      clear hall hfl
      obtain ⟨H, hH⟩ := Int.eq_ofNat_of_zero_le t1
      have hl := fitL_length hs
      rw [hH] at hl
      have HL := Lib.hid hl
      have HH := Lib.hid hH
      obtain ⟨b0, o0, e0, g0, hc0⟩ := ha 0 h2'
      subst e0
      rw [fI_eq, hH] at hc0
      simp at hc0
      rw [hH] at t2
      clear hH hl t1
      go_wp2
      go_loopw [6, 7] (fun o x wr => ∃ r : Nat, r ≤ H ∧ x = .int .i64 ((H : Int) - r) ∧ ∃ a' c', o = .slice a' r c' ∧ wr.ownsRow w.heap.size 3 1 (.slice a' r c') r (vals (fun j => fI (fitL hs) (H - r + j)) r) ∧ Below w.heap.size w wr) (fun _ x _ => (intOf x).toNat)
      case atStart => exact ⟨0, Nat.zero_le _, by simp, none, 0, rfl, World.ownsRow_nil _ _ _ _, (by repeat (first | exact Below.refl _ _ | assumption | refine gdraws ?_ _ | refine gdrew ?_ | refine galloc ?_ _ | refine Below.setCell ?_ (by simp) _ | refine gtrans ?_ (by assumption) | refine Below.trans ?_ (Below.mono (by assumption) (by simp))))⟩
      case round =>
        clear hc0 g0
        obtain ⟨r, hr, rfl, a', c', rfl, hown, hbel⟩ := hrel
        have hsz := hbel.size
        by_cases hlt : r < H
        · have hg := fitL_get (hs := hs) (k := H - (r + 1)) (by rw [HH.out]; simp; omega)
          rw [show ((H - (r + 1) : Nat) : Int) + 1 = (H : Int) - r from by omega] at hg
          have HG := Lib.hid hg
          clear hg
          go_wp2
          go_loop [8] (fun x => ∃ q : Nat, q + 1 ≤ hs.length ∧ x = .int .i64 (q + 1) ∧ (∀ j, q + 1 ≤ j → j < hs.length → gI hs j < (H : Int) - r)) (fun x => (intOf x).toNat)
          case atStart => exact ⟨hs.length - 1, by omega, by congr 1; omega, fun j h1 h2 => absurd h1 (by omega)⟩
          case round =>
            obtain ⟨q, hq, rfl, hab⟩ := hrel
            have HAB := Lib.hid hab
            clear hab
            obtain ⟨b1, o1, e1, g1, hc1⟩ := ha.below hbel q (by omega)
            cases e1
            rw [fI_eq] at hc1
            by_cases hq2 : gI hs q < (H : Int) - r
            · cases q with
              | zero => exact absurd HH.out (by omega)
              | succ q =>
                go_wp2
                go_round
                case rel => exact ⟨q, by omega, by go_num, fun j h1 h2 => by
                  by_cases e : j = q + 1
                  · subst e; exact hq2
                  · exact HAB.out j (by omega) h2⟩
                case measure => simp [intOf]; omega
            · have hcnt := cntGe_eq (hs := hs) (v := (H : Int) - r) (p := q + 1) (fun j hj => by have := HF.out q j (by omega) (by omega); omega) hq HAB.out
              rw [hcnt] at HG
              have hrow := ownsRow_row (hown.alloc (.cells #[.int .i64 ((q : Int) + 1)] 3)) (f := fun j => fI (fitL hs) (H - r + j)) (fun k hk => vals_get _ hk)
              obtain ⟨a3, c3, e3, hrow, _, _⟩ := hrow
              cases e3
              go_wp2_with (at_builtin; refine wpList_append_row rfl _ _ 22 rfl w.heap.size 3 Try.underlying22 infoInt rfl (.slice (some ⟨wr.heap.size, 0, none⟩) 1 1) 1 [.int .i64 ((q : Int) + 1)] rfl (own_one _ _ _ _ hsz rfl) a' r c' (fun j => fI (fitL hs) (H - r + j)) rfl hrow (fun _ _ => rfl) (by unfold maxLen; omega) (by omega) (by simp; omega) ?_; intro a2 c2 w5 hown5 hgrow5 hat5)
              go_roundw
              case rel =>
                rw [vals_cons (g := fun j => fI (fitL hs) (H - (r + 1) + j)) (by simp [fI_eq, HG.out]) (fun j hj => by rw [show H - (r + 1) + (j + 1) = H - r + j from by omega])] at hown5
                rw [Nat.add_comm 1 r] at hown5 ⊢
                exact ⟨r + 1, by omega, by go_num, a2, c2, rfl, hown5, below_push hbel hgrow5 fun j hj => by cases hj; exact hsz⟩
              case measure => simp [intOf]; omega
        · obtain rfl : H = r := by omega
          rw [Int.sub_self]
          go_wp2
          exact bodyPost_ret (v := .tuple #[.slice a' H c', .int .i64 0]) (by simp [results, Try.results11, go_sem, *]) rfl (by rw [fitR_yes HOK.out, HOK.out]; exact RetL.own hown (by rw [HL.out]; simp) (fun _ _ => by simp) hbel)

end Go.Proofs.Ytoiehdlcfehmlaa
