/- The program's Change: what it returns. -/
import Derived.Test.YtapohhkdpkapoaaProg
import Derived.Test.YtapohhkdpkapoaaRP2
import Derived.Test.YtapohhkdpkapoaaMapII
import Derived.Test.YtapohhkdpkapoaaG1
import Derived.Test.YtapohhkdpkapoaaT2
namespace Go.Proofs.Ytapohhkdpkapoaa
open Go.RowKit
set_option linter.unusedVariables false

theorem zeroInt (w : World) : (zeroValue 3).run Try.prog w = .ok (.int .i64 0) w := by kernel_rfl

/-- what is known of memory while the program changes a grid: what stays -/
def PI0 (w : World) (W H : Nat) (a : Option Addr) (c : Nat) (bs : List Bool) (p9 : Nat) (wr : World) : Prop :=
  Box3 wr w.heap.size (.int .i64 W) (.int .i64 H) (.slice a bs.length c) ∧ Box3 wr (w.heap.size + 1) (.int .i64 0) (.int .i64 0) (.slice none 0 0) ∧ (∀ i, wr.frozen? ⟨w.heap.size + 1, i, none⟩ = false) ∧ (∀ i, wr.frozen? ⟨p9, i, none⟩ = false) ∧ w.heap.size + 1 < p9 ∧ Below w.heap.size w wr
/-- .. and what grows -/
def PO (W H : Nat) (p9 av cnt : Nat) (F : Nat → Value) (wr : World) (a' : Option Addr) (c' : Nat) : Prop :=
  Box3 wr p9 (.int .i64 W) (.int .i64 H) (.slice a' cnt c') ∧ wr.ownsRow (p9 + 1) 4 1 (.slice a' cnt c') cnt (vals F cnt) ∧ (∀ k, (Value.slice a' cnt c').ownBlock = some k → k ≠ av)
def PI (w : World) (W H : Nat) (a : Option Addr) (c : Nat) (bs : List Bool) (p9 av cnt : Nat) (F : Nat → Value) (wr : World) : Prop :=
  PI0 w W H a c bs p9 wr ∧ ∃ a' c', PO W H p9 av cnt F wr a' c'

theorem PI0.keep {w : World} {W H : Nat} {a : Option Addr} {c : Nat} {bs : List Bool} {p9 : Nat} {wr wr' : World} (h : PI0 w W H a c bs p9 wr) (h9 : p9 < wr.heap.size) {B : Nat} (hb : Below B wr wr') (hB : p9 < B) : PI0 w W H a c bs p9 wr' := by
  obtain ⟨h1, h2, h3, h4, h5, h6⟩ := h
  refine ⟨h1.below hb (by omega), h2.below hb (by omega), fun i => ?_, fun i => ?_, h5, h6.trans (hb.mono ?_)⟩
  · rw [hb.frozen (p := ⟨w.heap.size + 1, i, none⟩) (show w.heap.size + 1 < B by omega)]; exact h3 i
  · rw [hb.frozen (p := ⟨p9, i, none⟩) (show p9 < B by omega)]; exact h4 i
  · omega
/-- a map is made, and filled -/
theorem PI.go {w : World} {W H : Nat} {a : Option Addr} {c : Nat} {bs : List Bool} {p9 av cnt : Nat} {F : Nat → Value} {wr wr' : World} (h : PI w W H a c bs p9 av cnt F wr) (hb : Below wr.heap.size wr wr') : PI w W H a c bs p9 wr.heap.size cnt F wr' := by
  obtain ⟨h0, a', c', h1, h2, h3⟩ := h
  refine ⟨h0.keep h1.2.2.2 hb h1.2.2.2, a', c', h1.below hb h1.2.2.2, ?_, fun k hk => by have := (h2.lt k hk).2; omega⟩
  refine ⟨h2.1, ?_⟩
  rcases h2.2 with h4 | ⟨g, cap, cur, hv, hg, hh, r⟩
  · exact .inl h4
  · exact .inr ⟨g, cap, cur, hv, hg, by rw [hb.block g (Array.getElem?_eq_some_iff.1 hh).1]; exact hh, r⟩
theorem PI.again {w : World} {W H : Nat} {a : Option Addr} {c : Nat} {bs : List Bool} {p9 av cnt : Nat} {F : Nat → Value} {wr : World} (h : PI w W H a c bs p9 av cnt F wr) : PI w W H a c bs p9 p9 cnt F wr := by
  obtain ⟨h0, a', c', h1, h2, h3⟩ := h
  exact ⟨h0, a', c', h1, h2, fun k hk => by have := (h2.lt k hk).1; omega⟩
/-- a cell more -/
theorem PI.push {w : World} {W H : Nat} {a : Option Addr} {c : Nat} {bs : List Bool} {p9 av cnt : Nat} {F : Nat → Value} {wr w5 : World} {a' a2 : Option Addr} {c' c2 : Nat} {X : Obj} (h0 : PI0 w W H a c bs p9 wr) (h1 : PO W H p9 av cnt F wr a' c')
    (hav : av < wr.heap.size) (hg : (wr.alloc X).grownBy w5 (Value.slice a' cnt c').ownBlock) (ho : w5.ownsRow (p9 + 1) 4 1 (.slice a2 (cnt + 1) c2) (cnt + 1) (vals F (cnt + 1)))
    (hat : (Value.slice a2 (cnt + 1) c2).ownBlock = (Value.slice a' cnt c').ownBlock ∨ (Value.slice a2 (cnt + 1) c2).ownBlock = some (wr.alloc X).heap.size) :
    PI w W H a c bs p9 av (cnt + 1) F (w5.setCell ⟨p9, 2, none⟩ (.slice a2 (cnt + 1) c2)) := by
  obtain ⟨hB, hown, hne⟩ := h1
  have hb : Below (p9 + 1) (wr.alloc X) w5 := (gcell hg (p9 + 1) (by have := hB.2.2.2; simp; omega) (fun k hk => (hown.lt k hk).1)).2.2
  have hb' : Below (p9 + 1) wr w5 := ((Below.refl (p9 + 1) wr).alloc (by have := hB.2.2.2; omega) X).trans hb
  have k0 := h0.keep hB.2.2.2 hb' (by omega)
  have k1 := hB.below hb' (by omega)
  obtain ⟨q1, q2, q3, q4, q5, q6⟩ := k0
  obtain ⟨o0, o1, o2, os⟩ := k1
  refine ⟨⟨?_, ?_, fun i => by rw [World.frozen?_setCell]; exact q3 i, fun i => by rw [World.frozen?_setCell]; exact q4 i, q5, q6.setCell (by simp; omega) _⟩, a2, c2, ⟨?_, ?_, ?_, by simpa using os⟩, ownsRow_setCell_below ho (by simp) _, ?_⟩
  · exact q1.set (by omega)
  · exact q2.set (by omega)
  · rw [World.cell?_setCell_other _ _ _ _ (fun e => absurd (congrArg Addr.off e) (by simp))]; exact o0
  · rw [World.cell?_setCell_other _ _ _ _ (fun e => absurd (congrArg Addr.off e) (by simp))]; exact o1
  · exact World.cell?_setCell_same _ _ _ o2
  · intro k hk
    rcases hat with h | h
    · rw [h] at hk; exact hne k hk
    · rw [h] at hk
      simp at hk
      omega

set_option maxHeartbeats 4000000 in
set_option maxRecDepth 100000 in
theorem pchange_any (W H : Int) (a b : Option Addr) (c d : Nat) (bs : List Bool) (ls : List Int) (w : World) (ha : Row w a bs.length (fB bs)) (hb : Row w b ls.length (fI ls)) (hcap : bs.length ≤ c) :
    Calls Try.prog 12 #[.agg #[.int .i64 W, .int .i64 H, .slice a bs.length c], .slice b ls.length d] w (RetG3 w (chW W H bs.length ls W) (chW W H bs.length ls H) (chL W H bs ls) (chN W H bs ls) (chE W H bs.length ls)) := by
  by_cases h0 : gridErr W H bs.length = 0
  case neg =>
    have d0 : (gridErr W H bs.length != 0) = true := by simpa using h0
    go_enter Try.func12, Try.ntmps12
    go_wp2_with (go_at_call 35; refine (gcheck_any _ _ _ _ _ _).mono ?_; rintro e w1 ⟨rfl, hb1⟩; (try replace hb1 := undrew hb1); (try replace hb1 := undraws hb1); obtain ⟨hc1, hf1⟩ := bcell hb1; have hz1 := hb1.size; (try simp at hz1); (try (have z0 : w.heap.size < w1.heap.size := by omega)); (try (have z1 : w.heap.size + 1 < w1.heap.size := by omega)); (try (have z2 : w.heap.size + 1 + 1 < w1.heap.size := by omega)))
    exact bodyPost_ret (v := .tuple #[.agg #[.int .i64 0, .int .i64 0, .slice none 0 0], .int .i64 0, .int .i64 (gridErr W H bs.length)]) (by simp [results, Try.results12, go_sem, *]) rfl (RetG3.err (chE_ne (.inl h0)) (chE_1 h0).symm (by repeat (first | exact Below.refl _ _ | assumption | refine gdraws ?_ _ | refine gdrew ?_ | refine galloc ?_ _ | refine Below.setCell ?_ (by simp) _ | refine gtrans ?_ (by assumption) | refine Below.trans ?_ (Below.mono (by assumption) (by simp)))))
  have d0 : (gridErr W H bs.length != 0) = false := by simpa using h0
  obtain ⟨w1, hh1, w2, hh2, hlen⟩ := gridErr_zero h0
  have HLEN := Lib.hid hlen
  clear hlen
  have H0 := Lib.hid h0
  clear h0
  by_cases h1 : listErr ls = 0
  case neg =>
    have d1 : (listErr ls != 0) = true := by simpa using h1
    go_enter Try.func12, Try.ntmps12
    go_wp2_with (first | (go_at_call 35; refine (gcheck_any _ _ _ _ _ _).mono ?_; rintro e w1 ⟨rfl, hb1⟩; (try replace hb1 := undrew hb1); (try replace hb1 := undraws hb1); obtain ⟨hc1, hf1⟩ := bcell hb1; have hz1 := hb1.size; (try simp at hz1); (try (have z0 : w.heap.size < w1.heap.size := by omega)); (try (have z1 : w.heap.size + 1 < w1.heap.size := by omega)); (try (have z2 : w.heap.size + 1 + 1 < w1.heap.size := by omega))) | (go_at_call 36; refine (check_any _ _ _ _ (by exact hb.below (by repeat (first | exact Below.refl _ _ | assumption | refine gdraws ?_ _ | refine gdrew ?_ | refine galloc ?_ _ | refine Below.setCell ?_ (by simp) _ | refine gtrans ?_ (by assumption) | refine Below.trans ?_ (Below.mono (by assumption) (by simp)))))).mono ?_; rintro e w1 ⟨rfl, hb1⟩; (try replace hb1 := undrew hb1); (try replace hb1 := undraws hb1); obtain ⟨hc1, hf1⟩ := bcell hb1; have hz1 := hb1.size; (try simp at hz1); (try (have z0 : w.heap.size < w1.heap.size := by omega)); (try (have z1 : w.heap.size + 1 < w1.heap.size := by omega)); (try (have z2 : w.heap.size + 1 + 1 < w1.heap.size := by omega))))
    exact bodyPost_ret (v := .tuple #[.agg #[.int .i64 0, .int .i64 0, .slice none 0 0], .int .i64 0, .int .i64 (listErr ls)]) (by simp [results, Try.results12, go_sem, *]) rfl (RetG3.err (chE_ne (.inr (.inl h1))) (chE_2 H0.out h1).symm (by repeat (first | exact Below.refl _ _ | assumption | refine gdraws ?_ _ | refine gdrew ?_ | refine galloc ?_ _ | refine Below.setCell ?_ (by simp) _ | refine gtrans ?_ (by assumption) | refine Below.trans ?_ (Below.mono (by assumption) (by simp)))))
  have d1 : (listErr ls != 0) = false := by simpa using h1
  have H1 := Lib.hid h1
  clear h1
  by_cases h2 : (ls.length : Int) = W
  case neg =>
    have d2 : ((ls.length : Int) != W) = true := by simpa using h2
    go_enter Try.func12, Try.ntmps12
    go_wp2_with (first | (go_at_call 35; refine (gcheck_any _ _ _ _ _ _).mono ?_; rintro e w1 ⟨rfl, hb1⟩; (try replace hb1 := undrew hb1); (try replace hb1 := undraws hb1); obtain ⟨hc1, hf1⟩ := bcell hb1; have hz1 := hb1.size; (try simp at hz1); (try (have z0 : w.heap.size < w1.heap.size := by omega)); (try (have z1 : w.heap.size + 1 < w1.heap.size := by omega)); (try (have z2 : w.heap.size + 1 + 1 < w1.heap.size := by omega))) | (go_at_call 36; refine (check_any _ _ _ _ (by exact hb.below (by repeat (first | exact Below.refl _ _ | assumption | refine gdraws ?_ _ | refine gdrew ?_ | refine galloc ?_ _ | refine Below.setCell ?_ (by simp) _ | refine gtrans ?_ (by assumption) | refine Below.trans ?_ (Below.mono (by assumption) (by simp)))))).mono ?_; rintro e w1 ⟨rfl, hb1⟩; (try replace hb1 := undrew hb1); (try replace hb1 := undraws hb1); obtain ⟨hc1, hf1⟩ := bcell hb1; have hz1 := hb1.size; (try simp at hz1); (try (have z0 : w.heap.size < w1.heap.size := by omega)); (try (have z1 : w.heap.size + 1 < w1.heap.size := by omega)); (try (have z2 : w.heap.size + 1 + 1 < w1.heap.size := by omega))))
    exact bodyPost_ret (v := .tuple #[.agg #[.int .i64 0, .int .i64 0, .slice none 0 0], .int .i64 0, .int .i64 26]) (by simp [results, Try.results12, go_sem, *]) rfl (RetG3.err (chE_ne (.inr (.inr h2))) (chE_3 H0.out H1.out h2).symm (by repeat (first | exact Below.refl _ _ | assumption | refine gdraws ?_ _ | refine gdrew ?_ | refine galloc ?_ _ | refine Below.setCell ?_ (by simp) _ | refine gtrans ?_ (by assumption) | refine Below.trans ?_ (Below.mono (by assumption) (by simp)))))
  obtain ⟨W', rfl⟩ := Int.eq_ofNat_of_zero_le (show 0 ≤ W by omega)
  obtain ⟨H', rfl⟩ := Int.eq_ofNat_of_zero_le (show 0 ≤ H by omega)
  have d2 : ((ls.length : Int) != (W' : Int)) = false := by simpa using h2
  have hok := chE_4 H0.out H1.out h2
  have HOK := Lib.hid hok
  have hw : ls.length = W' := by omega
  have hw1 : ls.length ≤ W' := by omega
  have hw2 : W' ≤ ls.length := by omega
  have HW := Lib.hid hw
  clear h2 hok hw
  have hlen' : bs.length = W' * H' := by have := HLEN.out; rw [← Int.natCast_mul] at this; omega
  have HLEN' := Lib.hid hlen'
  have hbl : bs.length ≤ 4096 := by rw [hlen']; exact Nat.mul_le_mul (show W' ≤ 64 by omega) (show H' ≤ 64 by omega)
  clear hlen'
  have HLS := Lib.hid (listErr_zero H1.out).2
  have hmm := @run_makeMap Try.prog
  go_enter Try.func12, Try.ntmps12
  go_wp2_with (first | (go_at_call 35; refine (gcheck_any _ _ _ _ _ _).mono ?_; rintro e w1 ⟨rfl, hb1⟩; (try replace hb1 := undrew hb1); (try replace hb1 := undraws hb1); obtain ⟨hc1, hf1⟩ := bcell hb1; have hz1 := hb1.size; (try simp at hz1); (try (have z0 : w.heap.size < w1.heap.size := by omega)); (try (have z1 : w.heap.size + 1 < w1.heap.size := by omega)); (try (have z2 : w.heap.size + 1 + 1 < w1.heap.size := by omega))) | (go_at_call 36; refine (check_any _ _ _ _ (by exact hb.below (by repeat (first | exact Below.refl _ _ | assumption | refine gdraws ?_ _ | refine gdrew ?_ | refine galloc ?_ _ | refine Below.setCell ?_ (by simp) _ | refine gtrans ?_ (by assumption) | refine Below.trans ?_ (Below.mono (by assumption) (by simp)))))).mono ?_; rintro e w1 ⟨rfl, hb1⟩; (try replace hb1 := undrew hb1); (try replace hb1 := undraws hb1); obtain ⟨hc1, hf1⟩ := bcell hb1; have hz1 := hb1.size; (try simp at hz1); (try (have z0 : w.heap.size < w1.heap.size := by omega)); (try (have z1 : w.heap.size + 1 < w1.heap.size := by omega)); (try (have z2 : w.heap.size + 1 + 1 < w1.heap.size := by omega))))
  refine wp_world (PI w W' H' a c bs w1.heap.size w1.heap.size 0 (cellsF bs ls W')) ⟨⟨?_, ?_, ?_, ?_, ?_, ?_⟩, none, 0, ?_, ?_, ?_⟩ ?_
  · simp [Box3, go_sem, *]
  · simp [Box3, go_sem, *]
  · intro i; simp [go_sem, *]
  · intro i; simp [go_sem]
  · omega
  · exact (by repeat (first | exact Below.refl _ _ | assumption | refine gdraws ?_ _ | refine gdrew ?_ | refine galloc ?_ _ | refine Below.setCell ?_ (by simp) _ | refine gtrans ?_ (by assumption) | refine Below.trans ?_ (Below.mono (by assumption) (by simp))))
  · exact Box3.new _ _ _ _ _
  · exact World.ownsRow_nil _ _ _ _
  · intro k hk; cases hk
  intro w3 hI
  clear z0 z1 hc1 hf1 hb1 hz1
  obtain ⟨p9, hp9⟩ : ∃ p9 : Nat, p9 = w1.heap.size := ⟨_, rfl⟩
  simp only [← hp9] at hI ⊢
  clear hp9
  go_loopw [43, 5] (fun y co wr => ∃ Y : Nat, Y ≤ H' ∧ y = .int .i64 Y ∧ co = .int .i64 (apartN (changedL bs ls W') bs (Y * W') : Nat) ∧ PI w W' H' a c bs p9 p9 (Y * W') (cellsF bs ls W') wr) (fun y _ _ => H' - (intOf y).toNat)
  case atStart => exact ⟨0, Nat.zero_le _, rfl, by simp [apartN], by rw [Nat.zero_mul]; exact hI⟩
  case round =>
    obtain ⟨Y, hY, rfl, rfl, hinv⟩ := hrel
    have HI := Lib.hid hinv
    by_cases hlt : Y < H'
    · obtain ⟨⟨⟨p0, p1, p2, ps⟩, ⟨r0, r1, r2, rs⟩, hfr, hf9, h9, hbelow⟩, a', c', ⟨o0, o1, o2, os⟩, hown, hav⟩ := hinv
      have hrs := row_slice (W := W') hlt
      rw [← HLEN'.out] at hrs
      have e1 : ((Y : Int) * (W' : Int)) = ((Y * W' : Nat) : Int) := by simp
      have e2 : (((Y : Int) + 1) * (W' : Int)) = ((Y * W' + W' : Nat) : Int) := by rw [Int.add_mul]; simp
      have b1 : (0 : Int) ≤ (Y : Int) * (W' : Int) ∧ (Y : Int) * (W' : Int) ≤ 4096 := by rw [e1]; omega
      have b2 : (0 : Int) ≤ ((Y : Int) + 1) * (W' : Int) ∧ ((Y : Int) + 1) * (W' : Int) ≤ 4096 := by rw [e2]; omega
      obtain ⟨b10, b11⟩ := b1
      obtain ⟨b20, b21⟩ := b2
      have b3 : (Y : Int) * (W' : Int) ≤ ((Y : Int) + 1) * (W' : Int) := by rw [e1, e2]; omega
      have b4 : ((Y : Int) + 1) * (W' : Int) ≤ (c : Int) := by rw [e2]; omega
      have E1 := Lib.hid e1
      have E2 := Lib.hid e2
      clear e1 e2
      have e3 : (Y + 1) * W' - Y * W' = W' := by rw [Nat.add_mul]; omega
      have b5 : Y * W' < c := by omega
      obtain ⟨ab, ao, ea, ga, _⟩ := ha 0 (by omega)
      cases ea
      go_wp2
      rw [e3]
      clear e3
      have hmap0 := OwnsII.made Try.prog 3 wr
      obtain ⟨wy, hwy⟩ : ∃ wy : World, wy = wr := ⟨_, rfl⟩
      subst hwy
      have h9y := os
      have hlsb := HLS.out
      have HLB := Lib.hid hlsb
      clear hlsb
      go_loopw [61] (fun x wr => ∃ k : Nat, k ≤ W' ∧ x = .int .i64 k ∧ OwnsII Try.prog 3 wr wy.heap.size k (moreF bs ls W' Y k) ∧ Below wy.heap.size wy wr) (fun x _ => W' - (intOf x).toNat)
      case atStart => exact ⟨0, Nat.zero_le _, rfl, hmap0, (by repeat (first | exact Below.refl _ _ | assumption | refine gdraws ?_ _ | refine gdrew ?_ | refine galloc ?_ _ | refine Below.setCell ?_ (by simp) _ | refine gtrans ?_ (by assumption) | refine Below.trans ?_ (Below.mono (by assumption) (by simp))))⟩
      case round =>
        obtain ⟨k, hk, rfl, hmap, hbi⟩ := hrel
        obtain ⟨hci, hfi⟩ := bcell hbi
        have hsz := hbi.size
        by_cases hltk : k < W'
        · have hix : Y * W' + k < bs.length := by omega
          obtain ⟨b1, o1', e5, g1, hcb⟩ := ha.below hbelow (Y * W' + k) hix
          cases e5
          obtain ⟨b2, o2', rfl, g2, hcx⟩ := hb.below hbelow k (by omega)
          rw [fB_eq, ← Nat.add_assoc] at hcb
          rw [fI_eq] at hcx
          have z0 : (0 : Int) ≤ (k : Int) := by omega
          have z1 : (k : Int) < (ls.length : Int) := by omega
          have hkb := HLB.out k (by omega)
          obtain ⟨hk1, hk2⟩ := hkb
          obtain ⟨m1, m2⟩ := moreF_bd bs ls W' Y (gI ls k) k
          cases hbit : gB bs (Y * W' + k)
          · rw [hbit] at hcb
            go_wp2_with (first
              | (at_lookup; refine wpList_lookup_ii rfl _ _ 65 rfl 3 Try.underlying65 Try.underlying3 (zeroInt _) wy.heap.size k (moreF bs ls W' Y k) (gI ls k) rfl rfl (by omega) hmap ?_)
              | (at_mapUpdate; refine wpList_update_ii rfl _ _ _ 65 rfl 3 Try.underlying65 Try.underlying3 wy.heap.size k (moreF bs ls W' Y k) (gI ls k) (moreF bs ls W' Y k (gI ls k) - 1) rfl rfl rfl (by omega) (by omega) (by unfold maxLen; omega) hmap (moreF bs ls W' Y (k + 1)) (moreF_dn hbit) ?_; intro w5 hmap5 hgrow5))
            go_roundw
            case rel => exact ⟨k + 1, by omega, by go_num, hmap5, hbi.grown hgrow5 hbi.size (fun j hj => by cases hj; exact Nat.le_refl _)⟩
            case measure => simp [intOf]; omega
          · rw [hbit] at hcb
            go_wp2_with (first
              | (at_lookup; refine wpList_lookup_ii rfl _ _ 65 rfl 3 Try.underlying65 Try.underlying3 (zeroInt _) wy.heap.size k (moreF bs ls W' Y k) (gI ls k) rfl rfl (by omega) hmap ?_)
              | (at_mapUpdate; refine wpList_update_ii rfl _ _ _ 65 rfl 3 Try.underlying65 Try.underlying3 wy.heap.size k (moreF bs ls W' Y k) (gI ls k) (moreF bs ls W' Y k (gI ls k) + 1) rfl rfl rfl (by omega) (by omega) (by unfold maxLen; omega) hmap (moreF bs ls W' Y (k + 1)) (moreF_up hbit) ?_; intro w5 hmap5 hgrow5))
            go_roundw
            case rel => exact ⟨k + 1, by omega, by go_num, hmap5, hbi.grown hgrow5 hbi.size (fun j hj => by cases hj; exact Nat.le_refl _)⟩
            case measure => simp [intOf]; omega
        · obtain rfl : W' = k := by omega
          go_wp2
          have hPI := HI.out.go hbi
          clear hci hfi p0 p1 p2 ps r0 r1 r2 rs hfr hf9 o0 o1 o2 os hown hav hbelow
          have hmlt := hmap.lt
          go_loopw [84, 5] (fun x co wr => ∃ k : Nat, k ≤ W' ∧ x = .int .i64 k ∧ co = .int .i64 (apartN (changedL bs ls W') bs (Y * W' + k) : Nat) ∧ PI w W' H' (some ⟨ab, ao, none⟩) c bs p9 wy.heap.size (Y * W' + k) (cellsF bs ls W') wr ∧ OwnsII Try.prog 3 wr wy.heap.size W' (moreF bs ls W' Y W')) (fun x _ _ => W' - (intOf x).toNat)
          case atStart => exact ⟨0, Nat.zero_le _, rfl, rfl, hPI, hmap⟩
          case round =>
            obtain ⟨k, hk, rfl, rfl, hinv, hmap⟩ := hrel
            have HJ := Lib.hid hinv
            obtain ⟨⟨⟨p0, p1, p2, ps⟩, ⟨r0, r1, r2, rs⟩, hfr, hf9, h9, hbelow⟩, a', c', ⟨o0, o1, o2, os⟩, hown, hav⟩ := hinv
            by_cases hltk : k < W'
            · have hix : Y * W' + k < bs.length := by omega
              obtain ⟨b1, o1', e5, g1, hcb⟩ := ha.below hbelow (Y * W' + k) hix
              cases e5
              obtain ⟨b2, o2', rfl, g2, hcx⟩ := hb.below hbelow k (by omega)
              rw [fB_eq, ← Nat.add_assoc] at hcb
              rw [fI_eq] at hcx
              have z0 : (0 : Int) ≤ (k : Int) := by omega
              have z1 : (k : Int) < (ls.length : Int) := by omega
              have hkb := HLB.out k (by omega)
              obtain ⟨hk1, hk2⟩ := hkb
              have hmb : decide (0 < moreF bs ls W' Y W' (gI ls k)) = cBit bs ls W' (Y * W' + k) := more_bit hltk
              have hap := apartN_le (changedL bs ls W') bs (Y * W' + k)
              have h0 : PI0 w W' H' (some ⟨ab, ao, none⟩) c bs p9 wr := ⟨⟨p0, p1, p2, ps⟩, ⟨r0, r1, r2, rs⟩, hfr, hf9, h9, hbelow⟩
              have h1 : PO W' H' p9 wy.heap.size (Y * W' + k) (cellsF bs ls W') wr a' c' := ⟨⟨o0, o1, o2, os⟩, hown, hav⟩
              have H0' := Lib.hid h0
              have H1' := Lib.hid h1
              clear h0 h1
              have hmlt2 := hmap.lt
              by_cases hq : cBit bs ls W' (Y * W' + k) = gB bs (Y * W' + k)
              · have dq : (cBit bs ls W' (Y * W' + k) == gB bs (Y * W' + k)) = true := by simpa using hq
                have HQ := Lib.hid (apart_changed hix hq)
                clear hq
                go_wp2_with (first
                  | (at_lookup; refine wpList_lookup_ii rfl _ _ 65 rfl 3 Try.underlying65 Try.underlying3 (zeroInt _) wy.heap.size W' (moreF bs ls W' Y W') (gI ls k) rfl rfl (by omega) hmap ?_)
                  | (at_builtin; refine wpList_append_row rfl _ _ 22 rfl (p9 + 1) 4 Try.underlying22 infoBool rfl (.slice a' (Y * W' + k) c') (Y * W' + k) (vals (cellsF bs ls W') (Y * W' + k)) rfl (hown.alloc _) (some ⟨wr.heap.size, 0, none⟩) 1 1 (fun _ => .bool (cBit bs ls W' (Y * W' + k))) rfl (row_one _ _ _) (fun _ _ => rfl) (by unfold maxLen; omega) (by omega) (by simp; omega) ?_; intro a2 c2 w5 hown5 hgrow5 hat5; obtain ⟨hc5, hf5, hb5⟩ := gcell hgrow5 (p9 + 1) (by simp; omega) (fun k hk => (hown.lt k hk).1)))
                go_roundw
                case rel => exact ⟨k + 1, by omega, by go_num, by rw [← Nat.add_assoc, HQ.out], by rw [← Nat.add_assoc]; exact PI.push H0'.out H1'.out hmlt2 hgrow5 (by rw [vals_snoc (f := cellsF bs ls W') (g := fun _ => Value.bool (cBit bs ls W' (Y * W' + k))) (n := Y * W' + k) rfl] at hown5; exact hown5) hat5, ((hmap.alloc _).kept hgrow5 (fun e => hav _ e.symm rfl)).block (Below.heap_setCell _ _ _ _ (by simp; omega))⟩
                case measure => simp [intOf]; omega
              · have dq : (cBit bs ls W' (Y * W' + k) == gB bs (Y * W' + k)) = false := by simpa using hq
                have HQ := Lib.hid (apart_changed' hix hq)
                clear hq
                go_wp2_with (first
                  | (at_lookup; refine wpList_lookup_ii rfl _ _ 65 rfl 3 Try.underlying65 Try.underlying3 (zeroInt _) wy.heap.size W' (moreF bs ls W' Y W') (gI ls k) rfl rfl (by omega) hmap ?_)
                  | (at_builtin; refine wpList_append_row rfl _ _ 22 rfl (p9 + 1) 4 Try.underlying22 infoBool rfl (.slice a' (Y * W' + k) c') (Y * W' + k) (vals (cellsF bs ls W') (Y * W' + k)) rfl (hown.alloc _) (some ⟨wr.heap.size, 0, none⟩) 1 1 (fun _ => .bool (cBit bs ls W' (Y * W' + k))) rfl (row_one _ _ _) (fun _ _ => rfl) (by unfold maxLen; omega) (by omega) (by simp; omega) ?_; intro a2 c2 w5 hown5 hgrow5 hat5; obtain ⟨hc5, hf5, hb5⟩ := gcell hgrow5 (p9 + 1) (by simp; omega) (fun k hk => (hown.lt k hk).1)))
                go_roundw
                case rel => exact ⟨k + 1, by omega, by go_num, by rw [← Nat.add_assoc, HQ.out]; go_num, by rw [← Nat.add_assoc]; exact PI.push H0'.out H1'.out hmlt2 hgrow5 (by rw [vals_snoc (f := cellsF bs ls W') (g := fun _ => Value.bool (cBit bs ls W' (Y * W' + k))) (n := Y * W' + k) rfl] at hown5; exact hown5) hat5, ((hmap.alloc _).kept hgrow5 (fun e => hav _ e.symm rfl)).block (Below.heap_setCell _ _ _ _ (by simp; omega))⟩
                case measure => simp [intOf]; omega
            · obtain rfl : W' = k := by omega
              go_wp2
              go_roundw
              case rel =>
                have e5 : (Y + 1) * W' = Y * W' + W' := by rw [Nat.add_mul, Nat.one_mul]
                exact ⟨Y + 1, by omega, by go_num, by rw [e5], by rw [e5]; exact HJ.out.again⟩
              case measure => simp [intOf]; omega
    · obtain rfl : H' = Y := by omega
      have ec : H' * W' = bs.length := by rw [HLEN'.out, Nat.mul_comm]
      rw [ec] at hinv ⊢
      clear ec
      obtain ⟨⟨⟨p0, p1, p2, ps⟩, ⟨r0, r1, r2, rs⟩, hfr, hf9, h9, hbelow⟩, a', c', ⟨o0, o1, o2, os⟩, hown, hav⟩ := hinv
      rw [cellsF_changed] at hown
      go_wp2
      have ho2 := ownsRow_setCell_below (ownsRow_setCell_below (ownsRow_setCell_below hown (a := ⟨w.heap.size + 1, 0, none⟩) (by simp; omega) (.int .i64 W')) (a := ⟨w.heap.size + 1, 1, none⟩) (by simp; omega) (.int .i64 H')) (a := ⟨w.heap.size + 1, 2, none⟩) (by simp; omega) (.slice a' bs.length c')
      obtain ⟨a2, c2, e2, hrow, _, _⟩ := ownsRow_row ho2 (f := fB (changedL bs ls W')) (fun k hk => vals_get _ hk)
      cases e2
      exact bodyPost_ret (v := .tuple #[.agg #[.int .i64 W', .int .i64 H', .slice a' bs.length c'], .int .i64 (apartN (changedL bs ls W') bs bs.length : Nat), .int .i64 0]) (by simp [results, Try.results12, go_sem, *]) rfl (RetG3.ok HOK.out hrow (by repeat (first | exact Below.refl _ _ | assumption | refine gdraws ?_ _ | refine gdrew ?_ | refine galloc ?_ _ | refine Below.setCell ?_ (by simp) _ | refine gtrans ?_ (by assumption) | refine Below.trans ?_ (Below.mono (by assumption) (by simp)))))

end Go.Proofs.Ytapohhkdpkapoaa
