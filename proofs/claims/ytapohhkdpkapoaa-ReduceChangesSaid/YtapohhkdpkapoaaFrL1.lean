/- The law ReduceChanges: for every two grids and every list the program's Change and Distance return what the reference returns, and leave their arguments as they are. -/
import Derived.Test.YtapohhkdpkapoaaRows
import Derived.Test.YtapohhkdpkapoaaL1
import Derived.Test.YtapohhkdpkapoaaOpen
namespace Go.Proofs.Ytapohhkdpkapoaa
open Go.RowKit
set_option linter.unusedVariables false

namespace frame1
open Go.ChangeShapes Go.WideShapes Go.ChangeAt Go.Joins

theorem own : ownKnob Try.prog.godebug = none := by kernel_rfl
theorem laidOut : laidOutB Try.prog = true := by kernel_rfl

theorem openGrid {H : Type} {enc : TypeId × Value → H} {w : World} {base b0 : Nat} {spare : Nat → Bool} {held : Bool} {r : Reach} {v : Value} {d : DataW H} {p : List MemPlace} (hv : Value.okWide Try.prog w r b0 24 v) (h : DataW.Trod enc Try.prog w base spare held 24 v d p) :
    ∃ W H' a xs c, v = .agg #[.int .i64 W, .int .i64 H', .slice a (List.length xs) c] ∧ xs.length ≤ c ∧ Row w a xs.length (fB xs) := by
  obtain ⟨v0, v1, v2, y0, y1, y2, n, rfl, _, _, h0, h1, h2⟩ := open_agg3 Try.underlying24 (by kernel_rfl) (by kernel_rfl) hv h
  obtain ⟨W, e0, _, _⟩ := DataW.trod_int Try.underlying3 h0
  obtain ⟨H', e1, _, _⟩ := DataW.trod_int Try.underlying3 h1
  obtain ⟨a, xs, c, rfl, hc, _, hr⟩ := open_bools Try.underlying22 Try.underlying4 (by kernel_rfl) h2
  simp at e0 e1
  subst e0 e1
  exact ⟨W, H', a, xs, c, rfl, hc, hr⟩

set_option maxRecDepth 100000 in
theorem lifted (os : Os) (started : os.Started) (H : Type) (enc : TypeId × Value → H) :
    ReturnsInHanded {} Try.checked os 3 .any (Rows.reduceChangesSpec.pre6 enc Try.prog Try.f3 Rows.reduceChangesRow.domain false) (Rows.reduceChangesSpec.post enc Try.prog Try.f3 false true false false) := by
  refine returnsInHanded_of_change (C := Try.checked) own started (by kernel_rfl) Try.func3
    (ChangeSpec.witness6 (enc := enc) (C := Try.checked) false ⟨#[], #[.agg #[.int .i64 0, .int .i64 0, .slice none 0 0], .agg #[.int .i64 0, .int .i64 0, .slice none 0 0], .slice none 0 0], []⟩ 8 (by kernel_rfl) (by kernel_rfl) (by kernel_rfl) (by kernel_rfl)) ?_
  intro W base args ds gs before hval0 hW hcnd _
  have hval : ∀ (j : Nat) t v, Try.f3.params[j]? = some t → args[j]? = some v → Value.okWide Try.prog W .any base t v := hval0
  have hW' := hW
  obtain ⟨p, q, hA0, hV, rfl, hfz, hnd⟩ := hW
  have hA : DataW.TrodAll enc Try.prog W 0 (fun _ => true) true Try.f3.params.toList args.toList ds p := hA0
  rw [Try.params3] at hA hval
  obtain ⟨v0, vs0, d0, ds0, p0, q0, hargs, rfl, rfl, h0, r0⟩ := trodAll_cons hA
  obtain ⟨v1, vs1, d1, ds1, p1, q1, rfl, rfl, rfl, h1, r1⟩ := trodAll_cons r0
  obtain ⟨v2, vs2, d2, ds2, p2, q2, rfl, rfl, rfl, h2, r2⟩ := trodAll_cons r1
  obtain ⟨rfl, rfl, rfl⟩ := trodAll_nil r2
  obtain rfl : args = #[v0, v1, v2] := by cases args; simp_all
  obtain ⟨rfl, rfl⟩ := trodVars_none hV
  have k0 := h0
  have lt0 : ∀ x ∈ p0, x.block < W.heap.size := by obtain ⟨m, hm⟩ := k0; exact DataW.trod_lt m _ _ _ hm
  have k1 := h1
  have lt1 : ∀ x ∈ p1, x.block < W.heap.size := by obtain ⟨m, hm⟩ := k1; exact DataW.trod_lt m _ _ _ hm
  have k2 := h2
  have lt2 : ∀ x ∈ p2, x.block < W.heap.size := by obtain ⟨m, hm⟩ := k2; exact DataW.trod_lt m _ _ _ hm
  obtain ⟨W0, H0, a0, xs0, c0, rfl, _, hr0⟩ := openGrid (hval 0 _ v0 rfl rfl) h0
  obtain ⟨W1, H1, a1, xs1, c1, rfl, _, hr1⟩ := openGrid (hval 1 _ v1 rfl rfl) h1
  obtain ⟨a2, n2, c2, rfl⟩ := okWide_slice Try.underlying25 (hval 2 _ v2 rfl rfl)
  obtain ⟨_, ls, _, e2, _, _, hr2, _⟩ := (fun (h : DataW.Trod enc Try.prog W 0 (fun _ => true) true 25 (.slice a2 n2 c2) d2 p2) => open_numbers (v := .slice a2 n2 c2) Try.underlying25 Try.underlying3 (by kernel_rfl) h.choose_spec) h2
  cases e2
  clear hA0 hval0
  refine (changes_true W0 H0 W1 H1 a0 a1 _ c0 c1 _ xs0 xs1 ls W hr0 hr1 hr2).mono fun e W' ⟨he, bel⟩ => ?_
  subst he
  exact ⟨_, rfl, _, _, _, [], _, [], hW', trodAll_mk1 (shut_bool Try.underlying4 _), (trodAll_cons_mk (Below.trod laidOut (by kernel_rfl) (of_decide_eq_true (by kernel_rfl)) k0 bel lt0) (trodAll_cons_mk (Below.trod laidOut (by kernel_rfl) (of_decide_eq_true (by kernel_rfl)) k1 bel lt1) (trodAll_cons_mk (Below.trod laidOut (by kernel_rfl) (of_decide_eq_true (by kernel_rfl)) k2 bel lt2) trodAll_mk0))), rfl, bel.frame _, fun h => by cases h⟩

theorem over : Rows.reduceChangesRow.holds Try.pinned (OpenSpec.ofChange Rows.reduceChangesSpec) :=
  OpenClaim.holds_of_wide 3 Try.f3 rfl rfl rfl rfl rfl rfl rfl ⟨rfl, rfl, rfl, rfl, rfl⟩ rfl rfl rfl rfl rfl (by kernel_rfl) Try.func3 (by kernel_rfl)
    (of_decide_eq_true (by kernel_rfl)) (by unfold Func.isWrapper; first | (rw [if_pos (by decide +kernel)]; kernel_rfl) | (rw [if_neg (by decide +kernel)]; exact ⟨rfl, rfl⟩))
    (fun os started H enc _ => lifted os started H enc)
end frame1

theorem reduceChanges_holds : Rows.ReduceChangesSaid := frame1.over

end Go.Proofs.Ytapohhkdpkapoaa
