/- The law ShortTurns answers true. -/
import Derived.Test.YtoiehdlcfehmlaaProg
import Derived.Test.YtoiehdlcfehmlaaSh5
import Derived.Test.YtoiehdlcfehmlaaS36
namespace Go.Proofs.Ytoiehdlcfehmlaa
open Go.RowKit
set_option linter.unusedVariables false

theorem sameInts_self (xs : List Int) : sameInts xs xs = true := sameInts_all rfl fun _ _ => rfl
theorem hgtL_len (n : Int) (ts : List Int) : (hgtL n ts).length ≤ 1000 := by
  unfold hgtL
  split
  · rename_i h
    have := shErr_zero h
    rw [heightsL_length]
    omega
  · simp
theorem trnL_len (n r : Int) : (trnL n r).length ≤ 1000 := by
  by_cases h : (n < 1 ∨ 200 < n) ∨ (r < 0 ∨ n < r ∨ 50 < r)
  · simp [trnL_no h]
  · rw [trnL_yes h, turnsL_length]
    omega
theorem fitErr_zero {hs : List Int} (h : fitErr hs = 0) : ∀ k, k < hs.length → gI hs k ≤ 50 := by
  unfold fitErr at h
  by_cases h1 : 200 < hs.length
  · rw [if_pos h1] at h; cases h
  rw [if_neg h1] at h
  by_cases h2 : hs.length = 0
  · rw [if_pos h2] at h; cases h
  rw [if_neg h2] at h
  intro k hk
  by_cases h3 : ∃ k, k < hs.length ∧ (gI hs k < 0 ∨ 50 < gI hs k ∨ (0 < k ∧ gI hs (k - 1) < gI hs k))
  · rw [if_pos h3] at h; cases h
  by_cases hc : gI hs k ≤ 50
  · exact hc
  · exact absurd ⟨k, hk, .inr (.inl (by omega))⟩ h3
theorem fitR_len (hs : List Int) : (fitR hs).length ≤ 1000 := by
  unfold fitR
  split
  · rename_i h
    rw [fitL_length]
    by_cases h0 : 0 < hs.length
    · have := fitErr_zero h 0 h0
      omega
    · obtain rfl : hs = [] := List.length_eq_zero_iff.1 (by omega)
      simp [gI]
  · simp

set_option maxHeartbeats 4000000 in
set_option maxRecDepth 100000 in
theorem turns_true (n r : Int) (a b : Option Addr) (c d : Nat) (ts hs : List Int) (w : World) (ha : Row w a ts.length (fI ts)) (hb : Row w b hs.length (fI hs)) :
    Calls Try.prog 3 #[.int .i64 n, .int .i64 r, .slice a ts.length c, .slice b hs.length d] w fun e w' => e = .returned (.bool true) ∧ Below w.heap.size w w' := by
  by_cases g1 : (220 : Int) < (ts.length : Int)
  · go_enter Try.func3, Try.ntmps3
    go_wp2
    go_ret
    exact ⟨rfl, (by repeat (first | exact Below.refl _ _ | assumption | refine gdraws ?_ _ | refine gdrew ?_ | refine galloc ?_ _ | refine Below.setCell ?_ (by simp) _ | refine gtrans ?_ (by assumption) | refine Below.trans ?_ (Below.mono (by assumption) (by simp))))⟩
  have d1 : decide ((220 : Int) < (ts.length : Int)) = false := by simpa using g1
  by_cases g2 : (220 : Int) < (hs.length : Int)
  · go_enter Try.func3, Try.ntmps3
    go_wp2
    go_ret
    exact ⟨rfl, (by repeat (first | exact Below.refl _ _ | assumption | refine gdraws ?_ _ | refine gdrew ?_ | refine galloc ?_ _ | refine Below.setCell ?_ (by simp) _ | refine gtrans ?_ (by assumption) | refine Below.trans ?_ (Below.mono (by assumption) (by simp))))⟩
  have d2 : decide ((220 : Int) < (hs.length : Int)) = false := by simpa using g2
  have b1 : ts.length ≤ 220 := by omega
  have b2 : hs.length ≤ 220 := by omega
  clear g1 g2
  go_enter Try.func3, Try.ntmps3
  go_wp2_with (first
    | (at_builtin; refine wpList_append_row rfl _ _ 22 rfl w.heap.size 3 Try.underlying22 infoInt rfl (.slice (some ⟨w.heap.size, 0, none⟩) 0 0) 0 [] rfl (own_empty _ _ _ _ rfl (Nat.le_refl _)) a ts.length c (fI ts) rfl (by exact ha.below (by repeat (first | exact Below.refl _ _ | assumption | refine gdraws ?_ _ | refine gdrew ?_ | refine galloc ?_ _ | refine Below.setCell ?_ (by simp) _ | refine gtrans ?_ (by assumption) | refine Below.trans ?_ (Below.mono (by assumption) (by simp))))) (fun _ _ => rfl) (by unfold maxLen; omega) (by omega) (by simp) ?_; intro a1 c1 t1 hown1 hgrow1 _; have hb1 : Below w.heap.size w t1 := (galloc (Below.refl w.heap.size w) _).trans (gcell hgrow1 w.heap.size (by simp) (by intro k hk; simp [Value.ownBlock] at hk; omega)).2.2)
    | (at_builtin; refine wpList_append_row rfl _ _ 22 rfl t1.heap.size 3 Try.underlying22 infoInt rfl (.slice (some ⟨t1.heap.size, 0, none⟩) 0 0) 0 [] rfl (own_empty _ _ _ _ rfl (Nat.le_refl _)) b hs.length d (fI hs) rfl (by exact hb.below (by repeat (first | exact Below.refl _ _ | assumption | refine gdraws ?_ _ | refine gdrew ?_ | refine galloc ?_ _ | refine Below.setCell ?_ (by simp) _ | refine gtrans ?_ (by assumption) | refine Below.trans ?_ (Below.mono (by assumption) (by simp))))) (fun _ _ => rfl) (by unfold maxLen; omega) (by omega) (by simp) ?_; intro a2 c2 t2 hown2 hgrow2 _))
  simp only [Nat.zero_add, List.nil_append] at hown1 hown2
  have hb2 : Below t1.heap.size t1 t2 := (galloc (Below.refl t1.heap.size t1) _).trans (gcell hgrow2 t1.heap.size (by simp) (by intro k hk; simp [Value.ownBlock] at hk; omega)).2.2
  obtain ⟨_, _, e1, hr1, _, _⟩ := ownsRow_row hown1 (f := fI ts) (fun k hk => vals_get _ hk)
  cases e1
  obtain ⟨_, _, e2, hr2, _, _⟩ := ownsRow_row hown2 (f := fI hs) (fun k hk => vals_get _ hk)
  cases e2
  clear hown1 hgrow1 hown2 hgrow2
  refine (pheights_any n a c ts _ (by exact ha.below (by repeat (first | exact Below.refl _ _ | assumption | refine gdraws ?_ _ | refine gdrew ?_ | refine galloc ?_ _ | refine Below.setCell ?_ (by simp) _ | refine gtrans ?_ (by assumption) | refine Below.trans ?_ (Below.mono (by assumption) (by simp)))))).mono ?_
  rintro e t3 ⟨a3, c3, rfl, hr3, hcap3, hb3⟩
  go_wp2_with fail
  refine (rheights_any n a1 c1 ts _ (by exact hr1.below (by repeat (first | exact Below.refl _ _ | assumption | refine gdraws ?_ _ | refine gdrew ?_ | refine galloc ?_ _ | refine Below.setCell ?_ (by simp) _ | refine gtrans ?_ (by assumption) | refine Below.trans ?_ (Below.mono (by assumption) (by simp)))))).mono ?_
  rintro e t4 ⟨a4, c4, rfl, hr4, hcap4, hb4⟩
  go_wp2_with fail
  refine (pworked_any n a c ts _ (by exact ha.below (by repeat (first | exact Below.refl _ _ | assumption | refine gdraws ?_ _ | refine gdrew ?_ | refine galloc ?_ _ | refine Below.setCell ?_ (by simp) _ | refine gtrans ?_ (by assumption) | refine Below.trans ?_ (Below.mono (by assumption) (by simp)))))).mono ?_
  rintro e t5 ⟨rfl, rfl⟩
  go_wp2_with fail
  refine (rworked_any n a1 c1 ts _ (by exact hr1.below (by repeat (first | exact Below.refl _ _ | assumption | refine gdraws ?_ _ | refine gdrew ?_ | refine galloc ?_ _ | refine Below.setCell ?_ (by simp) _ | refine gtrans ?_ (by assumption) | refine Below.trans ?_ (Below.mono (by assumption) (by simp)))))).mono ?_
  rintro e t6 ⟨rfl, rfl⟩
  go_wp2_with fail
  refine (pturns_any n r _).mono ?_
  rintro e t7 ⟨a7, c7, rfl, hr7, hcap7, hb7⟩
  go_wp2_with fail
  refine (rturns_any n r _).mono ?_
  rintro e t8 ⟨a8, c8, rfl, hr8, hcap8, hb8⟩
  go_wp2_with fail
  refine (pfit_any b d hs _ (by exact hb.below (by repeat (first | exact Below.refl _ _ | assumption | refine gdraws ?_ _ | refine gdrew ?_ | refine galloc ?_ _ | refine Below.setCell ?_ (by simp) _ | refine gtrans ?_ (by assumption) | refine Below.trans ?_ (Below.mono (by assumption) (by simp)))))).mono ?_
  rintro e t9 ⟨a9, c9, rfl, hr9, hcap9, hb9⟩
  go_wp2_with fail
  refine (rfit_any a2 c2 hs _ (by exact hr2.below (by repeat (first | exact Below.refl _ _ | assumption | refine gdraws ?_ _ | refine gdrew ?_ | refine galloc ?_ _ | refine Below.setCell ?_ (by simp) _ | refine gtrans ?_ (by assumption) | refine Below.trans ?_ (Below.mono (by assumption) (by simp)))))).mono ?_
  rintro e t10 ⟨a10, c10, rfl, hr10, hcap10, hb10⟩
  go_wp2_with fail
  refine (same36_any a3 a4 c3 c4 (hgtL n ts) (hgtL n ts) _ (by exact hr3.below (by repeat (first | exact Below.refl _ _ | assumption | refine gdraws ?_ _ | refine gdrew ?_ | refine galloc ?_ _ | refine Below.setCell ?_ (by simp) _ | refine gtrans ?_ (by assumption) | refine Below.trans ?_ (Below.mono (by assumption) (by simp))))) (by exact hr4.below (by repeat (first | exact Below.refl _ _ | assumption | refine gdraws ?_ _ | refine gdrew ?_ | refine galloc ?_ _ | refine Below.setCell ?_ (by simp) _ | refine gtrans ?_ (by assumption) | refine Below.trans ?_ (Below.mono (by assumption) (by simp))))) (by have := hgtL_len n ts; omega)).mono ?_
  rintro e t11 ⟨rfl, hb11⟩
  rw [sameInts_self]
  go_wp2_with fail
  refine (same36_any a7 a8 c7 c8 (trnL n r) (trnL n r) _ (by exact hr7.below (by repeat (first | exact Below.refl _ _ | assumption | refine gdraws ?_ _ | refine gdrew ?_ | refine galloc ?_ _ | refine Below.setCell ?_ (by simp) _ | refine gtrans ?_ (by assumption) | refine Below.trans ?_ (Below.mono (by assumption) (by simp))))) (by exact hr8.below (by repeat (first | exact Below.refl _ _ | assumption | refine gdraws ?_ _ | refine gdrew ?_ | refine galloc ?_ _ | refine Below.setCell ?_ (by simp) _ | refine gtrans ?_ (by assumption) | refine Below.trans ?_ (Below.mono (by assumption) (by simp))))) (by have := trnL_len n r; omega)).mono ?_
  rintro e t12 ⟨rfl, hb12⟩
  rw [sameInts_self]
  go_wp2_with fail
  refine (same36_any a9 a10 c9 c10 (fitR hs) (fitR hs) _ (by exact hr9.below (by repeat (first | exact Below.refl _ _ | assumption | refine gdraws ?_ _ | refine gdrew ?_ | refine galloc ?_ _ | refine Below.setCell ?_ (by simp) _ | refine gtrans ?_ (by assumption) | refine Below.trans ?_ (Below.mono (by assumption) (by simp))))) (by exact hr10.below (by repeat (first | exact Below.refl _ _ | assumption | refine gdraws ?_ _ | refine gdrew ?_ | refine galloc ?_ _ | refine Below.setCell ?_ (by simp) _ | refine gtrans ?_ (by assumption) | refine Below.trans ?_ (Below.mono (by assumption) (by simp))))) (by have := fitR_len hs; omega)).mono ?_
  rintro e t13 ⟨rfl, hb13⟩
  rw [sameInts_self]
  go_wp2_with fail
  refine (same36_any a1 a c1 c ts ts _ (by exact hr1.below (by repeat (first | exact Below.refl _ _ | assumption | refine gdraws ?_ _ | refine gdrew ?_ | refine galloc ?_ _ | refine Below.setCell ?_ (by simp) _ | refine gtrans ?_ (by assumption) | refine Below.trans ?_ (Below.mono (by assumption) (by simp))))) (by exact ha.below (by repeat (first | exact Below.refl _ _ | assumption | refine gdraws ?_ _ | refine gdrew ?_ | refine galloc ?_ _ | refine Below.setCell ?_ (by simp) _ | refine gtrans ?_ (by assumption) | refine Below.trans ?_ (Below.mono (by assumption) (by simp))))) (by omega)).mono ?_
  rintro e t14 ⟨rfl, hb14⟩
  rw [sameInts_self]
  go_wp2_with fail
  refine (same36_any a2 b c2 d hs hs _ (by exact hr2.below (by repeat (first | exact Below.refl _ _ | assumption | refine gdraws ?_ _ | refine gdrew ?_ | refine galloc ?_ _ | refine Below.setCell ?_ (by simp) _ | refine gtrans ?_ (by assumption) | refine Below.trans ?_ (Below.mono (by assumption) (by simp))))) (by exact hb.below (by repeat (first | exact Below.refl _ _ | assumption | refine gdraws ?_ _ | refine gdrew ?_ | refine galloc ?_ _ | refine Below.setCell ?_ (by simp) _ | refine gtrans ?_ (by assumption) | refine Below.trans ?_ (Below.mono (by assumption) (by simp))))) (by omega)).mono ?_
  rintro e t15 ⟨rfl, hb15⟩
  rw [sameInts_self]
  go_wp2
  go_ret
  exact ⟨rfl, (by repeat (first | exact Below.refl _ _ | assumption | refine gdraws ?_ _ | refine gdrew ?_ | refine galloc ?_ _ | refine Below.setCell ?_ (by simp) _ | refine gtrans ?_ (by assumption) | refine Below.trans ?_ (Below.mono (by assumption) (by simp))))⟩

end Go.Proofs.Ytoiehdlcfehmlaa
