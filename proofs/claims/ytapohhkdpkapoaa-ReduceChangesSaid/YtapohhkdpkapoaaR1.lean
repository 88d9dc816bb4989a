/- The reference's changed grid: what it returns. -/
import Derived.Test.YtapohhkdpkapoaaProg
import Derived.Test.YtapohhkdpkapoaaRP
import Derived.Test.YtapohhkdpkapoaaG4
import Derived.Test.YtapohhkdpkapoaaT1
namespace Go.Proofs.Ytapohhkdpkapoaa
open Go.RowKit
set_option linter.unusedVariables false

/-- what is known of memory while the changed grid is made -/
def ChInv (w : World) (W H : Nat) (a : Option Addr) (c : Nat) (bs : List Bool) (g c2 p5 : Nat) (F : Nat → Value) (wr : World) : Prop :=
  Box3 wr w.heap.size (.int .i64 W) (.int .i64 H) (.slice a bs.length c) ∧ Box3 wr (w.heap.size + 1) (.int .i64 0) (.int .i64 0) (.slice none 0 0) ∧ (∀ i, wr.frozen? ⟨w.heap.size + 1, i, none⟩ = false) ∧
  Box3 wr p5 (.int .i64 W) (.int .i64 H) (.slice (some ⟨g, 0, none⟩) bs.length c2) ∧ wr.ownsRow (w.heap.size + 2) 4 1 (.slice (some ⟨g, 0, none⟩) bs.length c2) bs.length (vals F bs.length) ∧
  w.heap.size + 2 ≤ p5 ∧ p5 ≠ g ∧ Below w.heap.size w wr
theorem ChInv.below {w : World} {W H : Nat} {a : Option Addr} {c : Nat} {bs : List Bool} {g c2 p5 : Nat} {F : Nat → Value} {wr wr' : World} (h : ChInv w W H a c bs g c2 p5 F wr) (hb : Below wr.heap.size wr wr') : ChInv w W H a c bs g c2 p5 F wr' := by
  obtain ⟨h1, h2, h3, h4, h5, h6, h7, h8⟩ := h
  have e2 := h2.2.2.2
  refine ⟨h1.below hb h1.2.2.2, h2.below hb e2, fun i => ?_, h4.below hb h4.2.2.2, ownsRow_below h5 hb (ownsRow_at h5).2, h6, h7, h8.trans (hb.mono h8.size)⟩
  rw [hb.frozen (p := ⟨w.heap.size + 1, i, none⟩) e2]
  exact h3 i
theorem Box3.set {w : World} {p : Nat} {x y z : Value} (h : Box3 w p x y z) {g j : Nat} {u : Value} (hg : ¬ g = p) : Box3 (w.setCell ⟨g, j, none⟩ u) p x y z := by
  obtain ⟨h0, h1, h2, h3⟩ := h
  refine ⟨?_, ?_, ?_, by simpa using h3⟩
  · rw [World.cell?_setCell_other _ _ _ _ (fun e => hg (congrArg Addr.block e))]; exact h0
  · rw [World.cell?_setCell_other _ _ _ _ (fun e => hg (congrArg Addr.block e))]; exact h1
  · rw [World.cell?_setCell_other _ _ _ _ (fun e => hg (congrArg Addr.block e))]; exact h2
theorem ChInv.set {w : World} {W H : Nat} {a : Option Addr} {c : Nat} {bs : List Bool} {g c2 p5 : Nat} {F G : Nat → Value} {wr : World} (h : ChInv w W H a c bs g c2 p5 F wr) {j : Nat} {u : Value}
    (hG : ∀ i, i < bs.length → (if i = j then u else F i) = G i) : ChInv w W H a c bs g c2 p5 G (wr.setCell ⟨g, j, none⟩ u) := by
  obtain ⟨h1, h2, h3, h4, h5, h6, h7, h8⟩ := h
  have hg := (ownsRow_at h5).1
  refine ⟨h1.set (by omega), h2.set (by omega), fun i => by rw [World.frozen?_setCell]; exact h3 i, h4.set (by omega), ?_, h6, h7, h8.setCell (by simp; omega) _⟩
  have := (h5.stored j u).1
  rw [vals_set, vals_congr hG] at this
  exact this

set_option maxHeartbeats 4000000 in
set_option maxRecDepth 100000 in
theorem changed_any (W H : Nat) (a b : Option Addr) (c d : Nat) (bs : List Bool) (ls : List Int) (w : World) (ha : Row w a bs.length (fB bs)) (hb : Row w b ls.length (fI ls))
    (hW : 1 ≤ W) (hW2 : W ≤ 64) (hH2 : H ≤ 64) (hn : bs.length = W * H) (hl : ls.length = W) :
    Calls Try.prog 38 #[.agg #[.int .i64 W, .int .i64 H, .slice a bs.length c], .slice b ls.length d] w (RetGO w W H (changedL bs ls W)) := by
  have HN := Lib.hid hn
  have HL := Lib.hid hl
  have hbl : bs.length ≤ 4096 := by rw [hn]; exact Nat.mul_le_mul hW2 hH2
  have hl1 : ls.length ≤ W := by omega
  have hl2 : W ≤ ls.length := by omega
  clear hn hl
  have HF := Lib.hid (fun i => chF_start bs ls W bs.length i)
  go_enter Try.func38, Try.ntmps38
  go_wp2_with fail
  refine (zero_any W H bs.length (by rw [HN.out]; simp) (by omega) _).mono ?_
  rintro e w1 ⟨g, c2, rfl, ho, hg, hb1⟩
  obtain ⟨hc1, hf1⟩ := bcell hb1
  simp only [List.length_replicate, World.size_alloc] at ho hg
  have gl : g < w1.heap.size := (ownsRow_at ho).2
  have hs1 : w.heap.size + 2 ≤ w1.heap.size := by have := hb1.size; simp at this; omega
  go_wp2
  refine wp_world (ChInv w W H a c bs g c2 w1.heap.size (chF bs ls W 0 0)) ⟨?_, ?_, ?_, ?_, ?_, hs1, by omega, ?_⟩ ?_
  · exact (((Box3.new w _ _ _ _).keep (galloc (Below.refl _ _) _)).keep hb1).keep (galloc (Below.refl _ _) _)
  · have h2 := ((Box3.new (w.alloc (.cells #[.int .i64 W, .int .i64 H, .slice a bs.length c] 24)) (.int .i64 0) (.int .i64 0) (.slice none 0 0) 24).keep hb1).keep (galloc (Below.refl _ _) (.cells #[.int .i64 W, .int .i64 H, .slice (some ⟨g, 0, none⟩) bs.length c2] 24))
    simpa using h2
  · intro i
    rw [(galloc (Below.refl w1.heap.size w1) _).frozen (p := ⟨w.heap.size + 1, i, none⟩) (show w.heap.size + 1 < w1.heap.size by omega), hf1 _ _ (by simp)]
    simp
  · simp [Box3]
  · have := ownsRow_below ho (B := w1.heap.size) (w' := w1.alloc (.cells #[.int .i64 W, .int .i64 H, .slice (some ⟨g, 0, none⟩) bs.length c2] 24)) (galloc (Below.refl _ _) _) gl
    rw [vals_congr (fun i _ => HF.out i)] at this
    exact this
  · exact (by repeat (first | exact Below.refl _ _ | assumption | refine gdraws ?_ _ | refine gdrew ?_ | refine galloc ?_ _ | refine Below.setCell ?_ (by simp) _ | refine gtrans ?_ (by assumption) | refine Below.trans ?_ (Below.mono (by assumption) (by simp))))
  intro w2 hI
  clear hc1 hf1 hb1 ho HF hg
  go_loopw [6] (fun x wr => ∃ X : Nat, X ≤ W ∧ x = .int .i64 X ∧ ChInv w W H a c bs g c2 w1.heap.size (chF bs ls W X 0) wr) (fun x _ => W - (intOf x).toNat)
  case atStart => exact ⟨0, Nat.zero_le _, rfl, hI⟩
  case round =>
    obtain ⟨X, hX, rfl, hinv⟩ := hrel
    have HI := Lib.hid hinv
    obtain ⟨⟨p0, p1, p2, ps⟩, ⟨r0, r1, r2, rs⟩, hfr, ⟨o0, o1, o2, os⟩, hown, _, _, hbl⟩ := hinv
    clear hown
    by_cases hlt : X < W
    · go_wp2
      clear p0 p1 p2 ps r0 r1 r2 rs hfr o0 o1 o2 os hbl
      go_loopw [7] (fun y wr => ∃ Y : Nat, Y ≤ H ∧ y = .int .i64 Y ∧ ChInv w W H a c bs g c2 w1.heap.size (chF bs ls W X Y) wr) (fun y _ => H - (intOf y).toNat)
      case atStart => exact ⟨0, Nat.zero_le _, rfl, HI.out⟩
      case round =>
        obtain ⟨Y, hY, rfl, hinv⟩ := hrel
        have HJ := Lib.hid hinv
        obtain ⟨⟨p0, p1, p2, ps⟩, ⟨r0, r1, r2, rs⟩, hfr, ⟨o0, o1, o2, os⟩, hown, _, _, hbl⟩ := hinv
        by_cases hlty : Y < H
        · have hidx (k : Nat) (hk : k < W) : Y * W + k < bs.length := by rw [HN.out]; exact idx_lt hk hlty
          have HX := Lib.hid hidx
          clear hidx
          have hyw : Y * W ≤ 4096 := Nat.mul_le_mul (show Y ≤ 64 by omega) hW2
          have hywi : ((Y : Int) * (W : Int)) = ((Y * W : Nat) : Int) := by simp
          have HYW := Lib.hid hywi
          clear hywi
          go_wp2
          obtain ⟨wm, hwm⟩ : ∃ wm : World, wm = wr := ⟨_, rfl⟩
          subst hwm
          go_loopw [8, 9, 10] (fun u dn z wi => ∃ k : Nat, k ≤ W ∧ z = .int .i64 k ∧ u = .int .i64 (upN bs ls W X Y k : Nat) ∧ dn = .int .i64 (dnN bs ls W X Y k : Nat) ∧ Below wm.heap.size wm wi) (fun _ _ z _ => W - (intOf z).toNat)
          case atStart => exact ⟨0, Nat.zero_le _, rfl, rfl, rfl, Below.refl _ _⟩
          case round =>
            obtain ⟨k, hk, rfl, rfl, rfl, hbi⟩ := hrel
            obtain ⟨hci, hfi⟩ := bcell hbi
            have hsz := hbi.size
            have hps : w.heap.size < wr.heap.size := by omega
            have hrs : w.heap.size + 1 < wr.heap.size := by omega
            have hos : w1.heap.size < wr.heap.size := by omega
            have hu := upN_le bs ls W X Y k
            have hd := dnN_le bs ls W X Y k
            by_cases hltz : k < W
            · obtain ⟨b1, o1', rfl, g1, hcz⟩ := hb.below hbl k (by omega)
              obtain ⟨b2, o2', e2, g2, hcx⟩ := hb.below hbl X (by omega)
              cases e2
              rw [fI_eq] at hcz hcx
              have g1i : b1 < wr.heap.size := by omega
              have z0 : (0 : Int) ≤ (k : Int) := by omega
              have z1 : (k : Int) < (ls.length : Int) := by omega
              have z2 : (0 : Int) ≤ (X : Int) := by omega
              have z3 : (X : Int) < (ls.length : Int) := by omega
              have hra : Row wr a bs.length (fB bs) := (ha.below hbl).below hbi
              have hix := HX.out k hltz
              by_cases q : gI ls k = gI ls X
              · have d1 : (gI ls k == gI ls X) = true := by simpa using q
                cases hbit : gB bs (Y * W + k)
                · have HU := Lib.hid (ud_dn q hbit)
                  clear q
                  go_wp2
                  go_region_held3 (fun w' => w'.cell? ⟨b1, o1' + k, none⟩ = some (.int .i64 (gI ls k)) ∧ w'.cell? ⟨b1, o1' + X, none⟩ = some (.int .i64 (gI ls X)) ∧ w'.cell? ⟨w.heap.size, 0, none⟩ = some (.int .i64 W) ∧ w'.cell? ⟨w.heap.size, 1, none⟩ = some (.int .i64 H) ∧ w'.cell? ⟨w.heap.size, 2, none⟩ = some (.slice a bs.length c)) (first | go_keep | (refine ⟨?_, ?_, ?_, ?_, ?_⟩ <;> first | (rw [hc5 _ _ g1i]; simp [*]; done) | (rw [hc5 _ _ hps]; simp [*]; done)))
                    (first | (go_at_call 22; refine (at_any _ _ _ _ _ _ _ _ (by exact hra) (by rw [HYW.out]; omega) (by rw [HYW.out]; omega) (by omega) (by rw [HYW.out]; omega) (by omega)).mono ?_; rintro e w5 ⟨rfl, hb5⟩; obtain ⟨hc5, hf5⟩ := bcell hb5; rw [idx_nat, hbit]))
                  go_wp2
                  go_quiet (fail)
                  go_wp2
                  go_roundw
                  case rel => exact ⟨k + 1, by omega, by go_num, by rw [HU.out.1], by rw [HU.out.2]; go_num, (by repeat (first | exact Below.refl _ _ | assumption | refine gdraws ?_ _ | refine gdrew ?_ | refine galloc ?_ _ | refine Below.setCell ?_ (by simp) _ | refine gtrans ?_ (by assumption) | refine Below.trans ?_ (Below.mono (by assumption) (by simp))))⟩
                  case measure => simp [intOf]; omega
                · have HU := Lib.hid (ud_up q hbit)
                  clear q
                  go_wp2
                  go_region_held3 (fun w' => w'.cell? ⟨b1, o1' + k, none⟩ = some (.int .i64 (gI ls k)) ∧ w'.cell? ⟨b1, o1' + X, none⟩ = some (.int .i64 (gI ls X)) ∧ w'.cell? ⟨w.heap.size, 0, none⟩ = some (.int .i64 W) ∧ w'.cell? ⟨w.heap.size, 1, none⟩ = some (.int .i64 H) ∧ w'.cell? ⟨w.heap.size, 2, none⟩ = some (.slice a bs.length c)) (first | go_keep | (refine ⟨?_, ?_, ?_, ?_, ?_⟩ <;> first | (rw [hc5 _ _ g1i]; simp [*]; done) | (rw [hc5 _ _ hps]; simp [*]; done)))
                    (first | (go_at_call 22; refine (at_any _ _ _ _ _ _ _ _ (by exact hra) (by rw [HYW.out]; omega) (by rw [HYW.out]; omega) (by omega) (by rw [HYW.out]; omega) (by omega)).mono ?_; rintro e w5 ⟨rfl, hb5⟩; obtain ⟨hc5, hf5⟩ := bcell hb5; rw [idx_nat, hbit]))
                  go_wp2
                  go_roundw
                  case rel => exact ⟨k + 1, by omega, by go_num, by rw [HU.out.1]; go_num, by rw [HU.out.2], (by repeat (first | exact Below.refl _ _ | assumption | refine gdraws ?_ _ | refine gdrew ?_ | refine galloc ?_ _ | refine Below.setCell ?_ (by simp) _ | refine gtrans ?_ (by assumption) | refine Below.trans ?_ (Below.mono (by assumption) (by simp))))⟩
                  case measure => simp [intOf]; omega
              · have d1 : (gI ls k == gI ls X) = false := by simpa using q
                have HU := Lib.hid (ud_ne (bs := bs) (W := W) (y := Y) q)
                clear q
                go_wp2
                go_quiet (fail)
                go_wp2
                go_quiet (fail)
                go_wp2
                go_roundw
                case rel => exact ⟨k + 1, by omega, by go_num, by rw [HU.out.1], by rw [HU.out.2], (by repeat (first | exact Below.refl _ _ | assumption | refine gdraws ?_ _ | refine gdrew ?_ | refine galloc ?_ _ | refine Below.setCell ?_ (by simp) _ | refine gtrans ?_ (by assumption) | refine Below.trans ?_ (Below.mono (by assumption) (by simp))))⟩
                case measure => simp [intOf]; omega
            · obtain rfl : W = k := by omega
              have hix := HX.out X hlt
              have hinv2 := HJ.out.below hbi
              obtain ⟨_, _, _, ⟨v0, v1, v2, vs⟩, hown2, _, _, _⟩ := hinv2
              have hcell := hown2.cellAt (Y * W + X) (by omega)
              rw [vals_get _ hix] at hcell
              have hfz := hown2.frozenAt (Y * W + X)
              have hgw := (ownsRow_at hown2).2
              have HC := Lib.hid hcell
              have HZ := Lib.hid hfz
              clear hown2 hcell hfz
              go_wp2_with (go_at_call 48; refine (set_any _ _ _ _ g _ _ _ _ _ (by rw [HYW.out]; omega) (by rw [HYW.out]; omega) (by omega) (by rw [HYW.out]; omega) (by omega) (by exact hgw) (by rw [idx_nat]; exact HC.out) (by rw [idx_nat]; exact HZ.out)).mono ?_; rintro e w6 ⟨rfl, rfl⟩)
              go_roundw
              case rel =>
                refine ⟨Y + 1, by omega, by go_num, ?_⟩
                refine ((HJ.out.below hbi).set (fun i _ => ?_)).below (galloc (Below.refl _ _) _)
                rw [← chF_step hlt]
              case measure => simp [intOf]; omega
        · obtain rfl : H = Y := by omega
          go_wp2
          go_roundw
          case rel =>
            refine ⟨X + 1, by omega, by go_num, ?_⟩
            obtain ⟨i1, i2, i3, i4, i5, i6, i7, i8⟩ := HJ.out
            refine ⟨i1, i2, i3, i4, ?_, i6, i7, i8⟩
            rw [← vals_congr (fun i hi => chF_col (by rw [← HN.out]; exact hi))]
            exact i5
          case measure => simp [intOf]; omega
    · obtain rfl : W = X := by omega
      go_wp2
      have hl3 := changedL_length bs ls W
      obtain ⟨_, _, _, _, i5, _, _, i8⟩ := HI.out
      have e5 : vals (chF bs ls W W 0) bs.length = vals (fB (changedL bs ls W)) bs.length := vals_congr fun i hi => chF_end (by omega) hi
      rw [e5] at i5
      have ho2 := ownsRow_setCell_below (ownsRow_setCell_below (ownsRow_setCell_below i5 (a := ⟨w.heap.size + 1, 0, none⟩) (by simp) (.int .i64 W)) (a := ⟨w.heap.size + 1, 1, none⟩) (by simp) (.int .i64 H)) (a := ⟨w.heap.size + 1, 2, none⟩) (by simp) (.slice (some ⟨g, 0, none⟩) bs.length c2)
      exact bodyPost_ret (v := .agg #[.int .i64 W, .int .i64 H, .slice (some ⟨g, 0, none⟩) bs.length c2]) (by simp [results, Try.results38, go_sem, r0, r1, r2]) rfl ⟨g, c2, by rw [hl3], by rw [hl3]; exact ownsRow_base ho2 (by omega), by have := (ownsRow_at i5).1; omega, (by repeat (first | exact Below.refl _ _ | assumption | refine gdraws ?_ _ | refine gdrew ?_ | refine galloc ?_ _ | refine Below.setCell ?_ (by simp) _ | refine gtrans ?_ (by assumption) | refine Below.trans ?_ (Below.mono (by assumption) (by simp))))⟩

end Go.Proofs.Ytapohhkdpkapoaa
