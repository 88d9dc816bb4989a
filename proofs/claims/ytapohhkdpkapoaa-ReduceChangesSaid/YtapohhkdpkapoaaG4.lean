/- Zero and Set of the reference: what they return and write. -/
import Derived.Test.YtapohhkdpkapoaaProg
import Derived.Test.YtapohhkdpkapoaaG3
namespace Go.Proofs.Ytapohhkdpkapoaa
open Go.RowKit
set_option linter.unusedVariables false

/-- a grid comes back whose cells the caller owns from now on -/
def RetGO (w0 : World) (W H : Int) (xs : List Bool) (e : Ending) (w' : World) : Prop :=
  ∃ g c, e = .returned (.agg #[.int .i64 W, .int .i64 H, .slice (some ⟨g, 0, none⟩) xs.length c]) ∧ w'.ownsRow w0.heap.size 4 1 (.slice (some ⟨g, 0, none⟩) xs.length c) xs.length (vals (fB xs) xs.length) ∧ w0.heap.size ≤ g ∧ Below w0.heap.size w0 w'

theorem zeros_vals (n : Nat) : (madeCells (Value.bool false).cells (n * 1)).toList = vals (fB (List.replicate n false)) n := by
  have : (Value.bool false).cells = #[.bool false] := rfl
  rw [this, toList_madeCells_one, Nat.mul_one]
  apply List.ext_getElem?
  intro k
  by_cases hk : k < n
  · rw [vals_get _ hk]
    simp [hk, fB, gB]
  · simp [vals, hk]

set_option maxHeartbeats 1000000 in
theorem zero_any (W H : Int) (n : Nat) (hn : W * H = n) (h1 : n ≤ 1000000) (w : World) :
    Calls Try.prog 32 #[.int .i64 W, .int .i64 H] w (RetGO w W H (List.replicate n false)) := by
  obtain ⟨i, hi, hz, hs, hby⟩ := info_parts infoBool
  have HN := Lib.hid hn
  have hlo : 0 ≤ W * H := by omega
  have hhi : W * H ≤ 1000000 := by omega
  clear hn
  go_enter Try.func32, Try.ntmps32
  go_wp2_with (at_make; refine wpList_make_full _ rfl _ _ 22 rfl (w.heap.size + 1) 4 i (.bool false) 1 Try.underlying22 hi hz hs .i64 .i64 _ _ n rfl rfl HN.out HN.out (by rw [hby]; omega) (by unfold maxLen; omega) (by simp) ?_)
  intro w1 hown hg
  have hb1 := (gcell hg (w.heap.size + 1) (by simp) (by simp)).2.2
  obtain ⟨hc1, hf1, _⟩ := gcell hg (w.heap.size + 1) (by simp) (by simp)
  go_wp2
  have e0 : (madeCells #[Value.bool false] n).toList = vals (fB (List.replicate n false)) n := by
    have := zeros_vals n
    rw [Nat.mul_one] at this
    exact this
  rw [e0] at hown
  have ho2 := ownsRow_setCell_below (ownsRow_setCell_below (ownsRow_setCell_below hown (a := ⟨w.heap.size, 0, none⟩) (by simp) (.int .i64 W)) (a := ⟨w.heap.size, 1, none⟩) (by simp) (.int .i64 H)) (a := ⟨w.heap.size, 2, none⟩) (by simp) (.slice (some ⟨w.heap.size + 1, 0, none⟩) n n)
  have hl : (List.replicate n false).length = n := by simp
  exact bodyPost_ret (v := .agg #[.int .i64 W, .int .i64 H, .slice (some ⟨w.heap.size + 1, 0, none⟩) n n]) (by simp [results, Try.results32, go_sem, hc1]) rfl ⟨w.heap.size + 1, n, by rw [hl], by rw [hl]; exact ownsRow_base ho2 (by omega), by omega, (by repeat (first | exact Below.refl _ _ | assumption | refine gdraws ?_ _ | refine gdrew ?_ | refine galloc ?_ _ | refine Below.setCell ?_ (by simp) _ | refine gtrans ?_ (by assumption) | refine Below.trans ?_ (Below.mono (by assumption) (by simp))))⟩

theorem set_any (W H x y : Int) (g n c : Nat) (up : Bool) (u : Value) (w : World) (h1 : 0 ≤ y * W) (h2 : y * W ≤ 1000000) (h3 : 0 ≤ x) (h4 : y * W + x < n) (h5 : n ≤ 1000000) (hg : g < w.heap.size)
    (hc : w.cell? ⟨g, (y * W + x).toNat, none⟩ = some u) (hf : w.frozen? ⟨g, (y * W + x).toNat, none⟩ = false) :
    Calls Try.prog 48 #[.agg #[.int .i64 W, .int .i64 H, .slice (some ⟨g, 0, none⟩) n c], .int .i64 x, .int .i64 y, .bool up] w fun e w' => e = .returned (.tuple #[]) ∧ (w.setCell ⟨g, (y * W + x).toNat, none⟩ (.bool up)).alloc (.cells #[.int .i64 W, .int .i64 H, .slice (some ⟨g, 0, none⟩) n c] 24) = w' := by
  have hne : ¬ g = w.heap.size := by omega
  go_enter Try.func48, Try.ntmps48
  go_wp2
  go_end0
  exact ⟨rfl, rfl⟩

end Go.Proofs.Ytapohhkdpkapoaa
