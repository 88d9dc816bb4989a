/- Twin and Zero of the reference: what they return. -/
import Derived.Test.YtapohhkdpkapoaaProg
import Derived.Test.YtapohhkdpkapoaaOwn
import Derived.Test.YtapohhkdpkapoaaG2
namespace Go.Proofs.Ytapohhkdpkapoaa
open Go.RowKit
set_option linter.unusedVariables false

/-- a grid comes back: W by H, its cells in memory that is not older than the call -/
def RetG (w0 : World) (W H : Int) (xs : List Bool) (e : Ending) (w' : World) : Prop :=
  ∃ a c, e = .returned (.agg #[.int .i64 W, .int .i64 H, .slice a xs.length c]) ∧ Row w' a xs.length (fB xs) ∧ (a = none → xs.length = 0) ∧ (∀ p, a = some p → w0.heap.size ≤ p.block) ∧ xs.length ≤ c ∧ Below w0.heap.size w0 w'

theorem infoBool : (Try.prog.info? 4).map (fun i => (i.zero, i.size, i.bytes)) = some (some (.bool false), 1, 1) := by kernel_rfl
theorem vals_fB {xs : List Bool} {k : Nat} (h : k < xs.length) : (vals (fB xs) xs.length)[k]? = some (fB xs k) := vals_get _ h
theorem fB_cell (xs : List Bool) (k : Nat) : (fB xs k).oneCell' = true := rfl
theorem fI_cell (xs : List Int) (k : Nat) : (fI xs k).oneCell' = true := rfl

set_option maxHeartbeats 1000000 in
theorem twin_any (W H : Int) (a : Option Addr) (c : Nat) (xs : List Bool) (w : World) (hr : Row w a xs.length (fB xs)) (hn : xs.length ≤ 1000000) :
    Calls Try.prog 11 #[.agg #[.int .i64 W, .int .i64 H, .slice a xs.length c]] w (RetG w W H xs) := by
  go_enter Try.func11, Try.ntmps11
  go_wp2_with fail
  go_region_held3 (fun w' => w'.cell? ⟨w.heap.size, 0, none⟩ = some (.int .i64 W) ∧ w'.cell? ⟨w.heap.size, 1, none⟩ = some (.int .i64 H) ∧ w'.cell? ⟨w.heap.size, 2, none⟩ = some (.slice a xs.length c)) (first | go_keep | (trace_state; fail))
    (((refine step_append_row rfl (.tmp 7) (.tmp 9) 22 rfl (w.heap.size + 2) 4 Try.underlying22 infoBool rfl (.slice (some ⟨w.heap.size + 1 + 1, 0, none⟩) 0 0) 0 [] rfl (own_empty_drew _ _ _ _ (by simp) (by simp)) a xs.length c (fB xs) rfl (by exact hr.below (by repeat (first | exact Below.refl _ _ | assumption | refine gdraws ?_ _ | refine gdrew ?_ | refine galloc ?_ _ | refine Below.setCell ?_ (by simp) _ | refine gtrans ?_ (by assumption) | refine Below.trans ?_ (Below.mono (by assumption) (by simp))))) (fun k _ => fB_cell xs k) (by unfold maxLen; omega) (by omega) (by simp) ?_); intro a1 c1 w1 hown1 hgrow hat; obtain ⟨hc1, hf1, hb1⟩ := gcell hgrow (w.heap.size + 2) (by simp) (by intro k hk; simp [Value.ownBlock] at hk; omega)))
  go_wp2
  simp only [Nat.zero_add, List.nil_append] at hown1
  have ho2 := ownsRow_setCell_below (ownsRow_setCell_below (ownsRow_setCell_below hown1 (a := ⟨w.heap.size + 1, 0, none⟩) (by simp) (.int .i64 W)) (a := ⟨w.heap.size + 1, 1, none⟩) (by simp) (.int .i64 H)) (a := ⟨w.heap.size + 1, 2, none⟩) (by simp) (.slice a1 xs.length c1)
  obtain ⟨a2, c2, e2, hrow, hnil, hat2⟩ := ownsRow_row ho2 (f := fB xs) (fun k hk => vals_fB hk)
  cases e2
  exact bodyPost_ret (v := .agg #[.int .i64 W, .int .i64 H, .slice a1 xs.length c1]) (by simp [results, Try.results11, go_sem, hc1]) rfl ⟨a1, c1, rfl, hrow, hnil, fun p hp => by have := (hat2 p hp).1; omega, ownsRow_cap hown1, (by repeat (first | exact Below.refl _ _ | assumption | refine gdraws ?_ _ | refine gdrew ?_ | refine galloc ?_ _ | refine Below.setCell ?_ (by simp) _ | refine gtrans ?_ (by assumption) | refine Below.trans ?_ (Below.mono (by assumption) (by simp))))⟩

end Go.Proofs.Ytapohhkdpkapoaa
