/- The law ReduceChanges answers true. -/
import Derived.Test.YtapohhkdpkapoaaProg
import Derived.Test.YtapohhkdpkapoaaR3
import Derived.Test.YtapohhkdpkapoaaT1
namespace Go.Proofs.Ytapohhkdpkapoaa
open Go.RowKit
set_option linter.unusedVariables false

theorem infoInt : (Try.prog.info? 3).map (fun i => (i.zero, i.size, i.bytes)) = some (some (.int .i64 0), 1, 8) := by kernel_rfl
theorem greatL_false {n : Nat} (h : greatL n = false) : n ≤ 420 := by
  simp [greatL] at h
  omega

theorem chL_len (W H : Int) (bs : List Bool) (ls : List Int) : (chL W H bs ls).length ≤ bs.length := by
  unfold chL
  split
  · rw [changedL_length]; exact Nat.le_refl _
  · simp
theorem gridEq_self (W H : Int) (xs : List Bool) : gridEq W H xs W H xs = true := gridEq_all rfl fun _ _ => rfl
theorem sameInts_self (xs : List Int) : sameInts xs xs = true := sameInts_all rfl fun _ _ => rfl

set_option maxHeartbeats 4000000 in
set_option maxRecDepth 100000 in
theorem changes_true (W H V I : Int) (a b l : Option Addr) (c d m : Nat) (xs ys : List Bool) (ls : List Int) (w : World) (ha : Row w a xs.length (fB xs)) (hb : Row w b ys.length (fB ys)) (hl : Row w l ls.length (fI ls)) :
    Calls Try.prog 3 #[.agg #[.int .i64 W, .int .i64 H, .slice a xs.length c], .agg #[.int .i64 V, .int .i64 I, .slice b ys.length d], .slice l ls.length m] w fun e w' => e = .returned (.bool true) ∧ Below w.heap.size w w' := by
  by_cases g1 : (4200 : Int) < (xs.length : Int)
  · go_enter Try.func3, Try.ntmps3
    go_wp2_with (first | (go_at_call 9; refine (great_any _ _ _ _ _ _).mono ?_; rintro e w1 ⟨rfl, hb1⟩; (try replace hb1 := undrew hb1); (try replace hb1 := undraws hb1); obtain ⟨hc1, hf1⟩ := bcell hb1; have hz1 := hb1.size; (try simp at hz1); (try (have z0 : w.heap.size < w1.heap.size := by omega)); (try (have z1 : w.heap.size + 1 < w1.heap.size := by omega)); (try (have z2 : w.heap.size + 1 + 1 < w1.heap.size := by omega))))
    go_ret
    exact ⟨rfl, (by repeat (first | exact Below.refl _ _ | assumption | refine gdraws ?_ _ | refine gdrew ?_ | refine galloc ?_ _ | refine Below.setCell ?_ (by simp) _ | refine gtrans ?_ (by assumption) | refine Below.trans ?_ (Below.mono (by assumption) (by simp))))⟩
  by_cases g2 : (4200 : Int) < (ys.length : Int)
  · go_enter Try.func3, Try.ntmps3
    go_wp2_with (first | (go_at_call 9; refine (great_any _ _ _ _ _ _).mono ?_; rintro e w1 ⟨rfl, hb1⟩; (try replace hb1 := undrew hb1); (try replace hb1 := undraws hb1); obtain ⟨hc1, hf1⟩ := bcell hb1; have hz1 := hb1.size; (try simp at hz1); (try (have z0 : w.heap.size < w1.heap.size := by omega)); (try (have z1 : w.heap.size + 1 < w1.heap.size := by omega)); (try (have z2 : w.heap.size + 1 + 1 < w1.heap.size := by omega))))
    go_ret
    exact ⟨rfl, (by repeat (first | exact Below.refl _ _ | assumption | refine gdraws ?_ _ | refine gdrew ?_ | refine galloc ?_ _ | refine Below.setCell ?_ (by simp) _ | refine gtrans ?_ (by assumption) | refine Below.trans ?_ (Below.mono (by assumption) (by simp))))⟩
  have d1 : decide ((4200 : Int) < (xs.length : Int)) = false := by simpa using g1
  have d2 : decide ((4200 : Int) < (ys.length : Int)) = false := by simpa using g2
  have b1 : xs.length ≤ 4200 := by omega
  have b2 : ys.length ≤ 4200 := by omega
  clear g1 g2
  cases g3 : greatL ls.length
  case true =>
    go_enter Try.func3, Try.ntmps3
    go_wp2_with (first | (go_at_call 9; refine (great_any _ _ _ _ _ _).mono ?_; rintro e w1 ⟨rfl, hb1⟩; (try replace hb1 := undrew hb1); (try replace hb1 := undraws hb1); obtain ⟨hc1, hf1⟩ := bcell hb1; have hz1 := hb1.size; (try simp at hz1); (try (have z0 : w.heap.size < w1.heap.size := by omega)); (try (have z1 : w.heap.size + 1 < w1.heap.size := by omega)); (try (have z2 : w.heap.size + 1 + 1 < w1.heap.size := by omega))) | (go_at_call 10; refine (greatl_any _ _ _ _).mono ?_; rintro e w1 ⟨rfl, rfl⟩))
    go_ret
    exact ⟨rfl, (by repeat (first | exact Below.refl _ _ | assumption | refine gdraws ?_ _ | refine gdrew ?_ | refine galloc ?_ _ | refine Below.setCell ?_ (by simp) _ | refine gtrans ?_ (by assumption) | refine Below.trans ?_ (Below.mono (by assumption) (by simp))))⟩
  have b3 := greatL_false g3
  go_enter Try.func3, Try.ntmps3
  go_wp2_with (first | (go_at_call 9; refine (great_any _ _ _ _ _ _).mono ?_; rintro e w1 ⟨rfl, hb1⟩; (try replace hb1 := undrew hb1); (try replace hb1 := undraws hb1); obtain ⟨hc1, hf1⟩ := bcell hb1; have hz1 := hb1.size; (try simp at hz1); (try (have z0 : w.heap.size < w1.heap.size := by omega)); (try (have z1 : w.heap.size + 1 < w1.heap.size := by omega)); (try (have z2 : w.heap.size + 1 + 1 < w1.heap.size := by omega))) | (go_at_call 10; refine (greatl_any _ _ _ _).mono ?_; rintro e w1 ⟨rfl, rfl⟩))
  refine (twin_any _ _ _ _ _ _ (by exact ha.below (by repeat (first | exact Below.refl _ _ | assumption | refine gdraws ?_ _ | refine gdrew ?_ | refine galloc ?_ _ | refine Below.setCell ?_ (by simp) _ | refine gtrans ?_ (by assumption) | refine Below.trans ?_ (Below.mono (by assumption) (by simp))))) (by omega)).mono ?_
  rintro e t1 ⟨a1, c1, rfl, hr1, _, _, hcap1, hb1⟩
  obtain ⟨hc1, hf1⟩ := bcell hb1
  have z10 : w.heap.size < t1.heap.size := by have := hb1.size; omega
  have z11 : w.heap.size + 1 < t1.heap.size := by have := hb1.size; omega
  go_wp2_with (at_builtin; refine wpList_append_row rfl _ _ 25 rfl t1.heap.size 3 Try.underlying25 infoInt rfl (.slice (some ⟨t1.heap.size, 0, none⟩) 0 0) 0 [] rfl (own_empty _ _ _ _ rfl (Nat.le_refl _)) l ls.length m (fI ls) rfl (by exact hl.below (by repeat (first | exact Below.refl _ _ | assumption | refine gdraws ?_ _ | refine gdrew ?_ | refine galloc ?_ _ | refine Below.setCell ?_ (by simp) _ | refine gtrans ?_ (by assumption) | refine Below.trans ?_ (Below.mono (by assumption) (by simp))))) (fun _ _ => rfl) (by unfold maxLen; omega) (by omega) (by simp) ?_; intro a2 c2 t2 hown2 hgrow2 _)
  simp only [Nat.zero_add, List.nil_append] at hown2
  have hb2 : Below t1.heap.size t1 t2 := (galloc (Below.refl t1.heap.size t1) _).trans (gcell hgrow2 t1.heap.size (by simp) (by intro k hk; simp [Value.ownBlock] at hk; omega)).2.2
  obtain ⟨_, _, e2, hr2, _, _⟩ := ownsRow_row hown2 (f := fI ls) (fun k hk => vals_get _ hk)
  cases e2
  clear hown2 hgrow2
  obtain ⟨hc2, hf2⟩ := bcell hb2
  have z20 : w.heap.size < t2.heap.size := by have := hb2.size; omega
  have z21 : w.heap.size + 1 < t2.heap.size := by have := hb2.size; omega
  refine (pchange_any W H a1 a2 c1 c2 xs ls _ (by exact hr1.below (by repeat (first | exact Below.refl _ _ | assumption | refine gdraws ?_ _ | refine gdrew ?_ | refine galloc ?_ _ | refine Below.setCell ?_ (by simp) _ | refine gtrans ?_ (by assumption) | refine Below.trans ?_ (Below.mono (by assumption) (by simp))))) (by exact hr2.below (by repeat (first | exact Below.refl _ _ | assumption | refine gdraws ?_ _ | refine gdrew ?_ | refine galloc ?_ _ | refine Below.setCell ?_ (by simp) _ | refine gtrans ?_ (by assumption) | refine Below.trans ?_ (Below.mono (by assumption) (by simp))))) hcap1).mono ?_
  rintro e t3 ⟨a3, c3, rfl, hr3, hb3⟩
  obtain ⟨hc3, hf3⟩ := bcell hb3
  have hs3 := hb3.size
  simp only [World.size_alloc] at hs3
  have z30 : w.heap.size < t3.heap.size := by omega
  have z31 : w.heap.size + 1 < t3.heap.size := by omega
  have z32 : t2.heap.size < t3.heap.size := by omega
  go_wp2_with fail
  refine (rchange_any W H a l c m xs ls _ (by exact ha.below (by repeat (first | exact Below.refl _ _ | assumption | refine gdraws ?_ _ | refine gdrew ?_ | refine galloc ?_ _ | refine Below.setCell ?_ (by simp) _ | refine gtrans ?_ (by assumption) | refine Below.trans ?_ (Below.mono (by assumption) (by simp))))) (by exact hl.below (by repeat (first | exact Below.refl _ _ | assumption | refine gdraws ?_ _ | refine gdrew ?_ | refine galloc ?_ _ | refine Below.setCell ?_ (by simp) _ | refine gtrans ?_ (by assumption) | refine Below.trans ?_ (Below.mono (by assumption) (by simp)))))).mono ?_
  rintro e t4 ⟨a4, c4, rfl, hr4, hb4⟩
  obtain ⟨hc4, hf4⟩ := bcell hb4
  have hs4 := hb4.size
  simp only [World.size_alloc] at hs4
  have z40 : w.heap.size < t4.heap.size := by omega
  have z41 : w.heap.size + 1 < t4.heap.size := by omega
  have z42 : t2.heap.size < t4.heap.size := by omega
  have z43 : t3.heap.size < t4.heap.size := by omega
  go_wp2_with fail
  refine (pdist_any W H V I a1 b c1 d xs ys _ (by exact hr1.below (by repeat (first | exact Below.refl _ _ | assumption | refine gdraws ?_ _ | refine gdrew ?_ | refine galloc ?_ _ | refine Below.setCell ?_ (by simp) _ | refine gtrans ?_ (by assumption) | refine Below.trans ?_ (Below.mono (by assumption) (by simp))))) (by exact hb.below (by repeat (first | exact Below.refl _ _ | assumption | refine gdraws ?_ _ | refine gdrew ?_ | refine galloc ?_ _ | refine Below.setCell ?_ (by simp) _ | refine gtrans ?_ (by assumption) | refine Below.trans ?_ (Below.mono (by assumption) (by simp)))))).mono ?_
  rintro e t5 ⟨rfl, hb5⟩
  obtain ⟨hc5, hf5⟩ := bcell hb5
  have hs5 := hb5.size
  simp only [World.size_alloc] at hs5
  have z50 : w.heap.size < t5.heap.size := by omega
  have z51 : w.heap.size + 1 < t5.heap.size := by omega
  have z52 : t2.heap.size < t5.heap.size := by omega
  have z53 : t3.heap.size < t5.heap.size := by omega
  have z54 : t4.heap.size < t5.heap.size := by omega
  go_wp2_with fail
  refine (rdist_any W H V I a b c d xs ys _ (by exact ha.below (by repeat (first | exact Below.refl _ _ | assumption | refine gdraws ?_ _ | refine gdrew ?_ | refine galloc ?_ _ | refine Below.setCell ?_ (by simp) _ | refine gtrans ?_ (by assumption) | refine Below.trans ?_ (Below.mono (by assumption) (by simp))))) (by exact hb.below (by repeat (first | exact Below.refl _ _ | assumption | refine gdraws ?_ _ | refine gdrew ?_ | refine galloc ?_ _ | refine Below.setCell ?_ (by simp) _ | refine gtrans ?_ (by assumption) | refine Below.trans ?_ (Below.mono (by assumption) (by simp)))))).mono ?_
  rintro e t6 ⟨rfl, hb6⟩
  obtain ⟨hc6, hf6⟩ := bcell hb6
  have hs6 := hb6.size
  have z60 : w.heap.size < t6.heap.size := by omega
  have z61 : w.heap.size + 1 < t6.heap.size := by omega
  have z62 : t2.heap.size < t6.heap.size := by omega
  have z63 : t3.heap.size < t6.heap.size := by omega
  have z64 : t4.heap.size < t6.heap.size := by omega
  go_wp2_with fail
  refine (same_any _ _ _ _ a3 a4 c3 c4 (chL W H xs ls) (chL W H xs ls) _ (by exact hr3.below (by repeat (first | exact Below.refl _ _ | assumption | refine gdraws ?_ _ | refine gdrew ?_ | refine galloc ?_ _ | refine Below.setCell ?_ (by simp) _ | refine gtrans ?_ (by assumption) | refine Below.trans ?_ (Below.mono (by assumption) (by simp))))) (by exact hr4.below (by repeat (first | exact Below.refl _ _ | assumption | refine gdraws ?_ _ | refine gdrew ?_ | refine galloc ?_ _ | refine Below.setCell ?_ (by simp) _ | refine gtrans ?_ (by assumption) | refine Below.trans ?_ (Below.mono (by assumption) (by simp))))) (by have := chL_len W H xs ls; omega)).mono ?_
  rintro e t7 ⟨rfl, hb7⟩
  rw [gridEq_self]
  obtain ⟨hc7, hf7⟩ := bcell hb7
  have hs7 := hb7.size
  have z70 : w.heap.size < t7.heap.size := by omega
  have z72 : t2.heap.size < t7.heap.size := by omega
  go_wp2_with fail
  refine (same_any _ _ _ _ a1 a c1 c xs xs _ (by exact hr1.below (by repeat (first | exact Below.refl _ _ | assumption | refine gdraws ?_ _ | refine gdrew ?_ | refine galloc ?_ _ | refine Below.setCell ?_ (by simp) _ | refine gtrans ?_ (by assumption) | refine Below.trans ?_ (Below.mono (by assumption) (by simp))))) (by exact ha.below (by repeat (first | exact Below.refl _ _ | assumption | refine gdraws ?_ _ | refine gdrew ?_ | refine galloc ?_ _ | refine Below.setCell ?_ (by simp) _ | refine gtrans ?_ (by assumption) | refine Below.trans ?_ (Below.mono (by assumption) (by simp))))) (by omega)).mono ?_
  rintro e t8 ⟨rfl, hb8⟩
  rw [gridEq_self]
  go_wp2_with fail
  refine (samel_any a2 l c2 m ls ls _ (by exact hr2.below (by repeat (first | exact Below.refl _ _ | assumption | refine gdraws ?_ _ | refine gdrew ?_ | refine galloc ?_ _ | refine Below.setCell ?_ (by simp) _ | refine gtrans ?_ (by assumption) | refine Below.trans ?_ (Below.mono (by assumption) (by simp))))) (by exact hl.below (by repeat (first | exact Below.refl _ _ | assumption | refine gdraws ?_ _ | refine gdrew ?_ | refine galloc ?_ _ | refine Below.setCell ?_ (by simp) _ | refine gtrans ?_ (by assumption) | refine Below.trans ?_ (Below.mono (by assumption) (by simp))))) (by omega)).mono ?_
  rintro e t9 ⟨rfl, hb9⟩
  rw [sameInts_self]
  go_wp2
  go_ret
  exact ⟨rfl, (by repeat (first | exact Below.refl _ _ | assumption | refine gdraws ?_ _ | refine gdrew ?_ | refine galloc ?_ _ | refine Below.setCell ?_ (by simp) _ | refine gtrans ?_ (by assumption) | refine Below.trans ?_ (Below.mono (by assumption) (by simp))))⟩

end Go.Proofs.Ytapohhkdpkapoaa
