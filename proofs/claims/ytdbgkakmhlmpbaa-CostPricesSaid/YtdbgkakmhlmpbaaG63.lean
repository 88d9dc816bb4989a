import Derived.Test.YtdbgkakmhlmpbaaGTy
namespace Go.Proofs.Ytdbgkakmhlmpbaa
open Go.RowKit
set_option linter.unusedVariables false

noncomputable def F_yarn_floor (p0 : Int) (p1 : Int) : Option Int :=
  Option.bind (quoI p0 p1) fun z3 =>
  Option.bind (α := Int) (
    Option.bind (remI p0 p1) fun z9 =>
    if decide (z9 < 0) then
      some (w64 (z3 - 1))
    else
      some z3) fun o5 =>
  some o5
set_option maxHeartbeats 4000000 in
set_option maxRecDepth 100000 in
theorem c_yarn_floor (E : Nat → Prop) (w0 : World) (p0 : Int) (p1 : Int) (r : Int) (h : F_yarn_floor p0 p1 = some r) (S : St0 E [] w0 w0 [] []) :
    Calls Try.prog 63 #[.int .i64 p0, .int .i64 p1] w0 (Ret (X := Unit) E [] w0 (fun _ => .int .i64 r) (fun _ => []) (fun _ => [])) := by
  unfold F_yarn_floor at h
  refine sEnter (args := [.int .i64 p0, .int .i64 p1]) 16 Try.func63 rfl rfl (by simp) S (fun a S => ?_)
  refine sSeq (fun K1 hK1 => ?_)
  refine sRegion ?_
  refine sMove (.int .i64 0) S (wN rfl) (.inr rfl) (by kernel_rfl) rfl (by decide) (fun a S => ?_)
  refine leafL (leafT (hK1 _ _ ?_))
  refine sSeq (fun K2 hK2 => ?_)
  refine sRegion ?_
  refine sMove (.int .i64 p0) S (wN rfl) (.inl rfl) (by kernel_rfl) rfl (by decide) (fun a S => ?_)
  refine sMove (.int .i64 p1) S (wN rfl) (.inl rfl) (by kernel_rfl) rfl (by decide) (fun a S => ?_)
  obtain ⟨z3, hx4, h⟩ := bindSome h
  refine sBin (.int .i64 z3) S (wN rfl) rfl (by kernel_rfl) (by kernel_rfl) (bQuo _ _ _ _ (x := p0) (y := p1) hx4) rfl (by decide) (fun a S => ?_)
  refine sMove (.int .i64 z3) S (wN rfl) (.inr rfl) (by kernel_rfl) rfl (by decide) (fun a S => ?_)
  refine leafL (leafT (hK2 _ _ ?_))
  obtain ⟨t6, h, g7⟩ := bindSome h
  refine sCut (fun a w => ∃ o5, o5 = t6 ∧ St [] E [] w0 16 a w [(5, .int .i64 o5)] [] []) ?_ (fun a w hI => ?_)
  · refine sSeq (fun K8 hK8 => ?_)
    refine sRegion ?_
    refine sMove (.int .i64 p0) S (wN rfl) (.inl rfl) (by kernel_rfl) rfl (by decide) (fun a S => ?_)
    refine sMove (.int .i64 p1) S (wN rfl) (.inl rfl) (by kernel_rfl) rfl (by decide) (fun a S => ?_)
    obtain ⟨z9, hx10, h⟩ := bindSome h
    refine sBin (.int .i64 z9) S (wN rfl) rfl (by kernel_rfl) (by kernel_rfl) (bRem _ _ _ _ (x := p0) (y := p1) hx10) rfl (by decide) (fun a S => ?_)
    refine sBin (.bool (decide (z9 < 0))) S (wN rfl) rfl (by kernel_rfl) (by kernel_rfl) (bLt _ _ _ _ .i64 z9 0) rfl (by decide) (fun a S => ?_)
    refine leafL (leafT (hK8 _ _ ?_))
    rcases iteSome h with ⟨hc11, h⟩ | ⟨hc11, h⟩
    · refine sCondT (b := decide (z9 < 0)) S (by kernel_rfl) hc11 ?_
      refine sRegion ?_
      refine sMove (.int .i64 z3) S (wN rfl) (.inl rfl) (by kernel_rfl) rfl (by decide) (fun a S => ?_)
      refine sBin (.int .i64 (w64 (z3 - 1))) S (wN rfl) rfl (by kernel_rfl) (by kernel_rfl) (bSub _ _ _ _ z3 1) rfl (by decide) (fun a S => ?_)
      refine sMove (.int .i64 (w64 (z3 - 1))) S (wN rfl) (.inr rfl) (by kernel_rfl) rfl (by decide) (fun a S => ?_)
      exact leafL (leafT (⟨w64 (z3 - 1), Option.some.inj h, S.fix [] [] (by decide) (by kernel_rfl) (by kernel_rfl) (by kernel_rfl)⟩))
    · refine sCondF (b := decide (z9 < 0)) S (by kernel_rfl) hc11 ?_
      exact wp_skip (leafT (⟨z3, Option.some.inj h, S.fix [] [] (by decide) (by kernel_rfl) (by kernel_rfl) (by kernel_rfl)⟩))
  · obtain ⟨o5, rfl, S⟩ := hI
    have h := g7
    clear g7
    try dsimp only at h
    refine sSeq (fun K12 hK12 => ?_)
    refine sRegion ?_
    refine sMove (.int .i64 o5) S (wN rfl) (.inl rfl) (by kernel_rfl) rfl (by decide) (fun a S => ?_)
    refine sMove (.int .i64 o5) S (wN rfl) (.inr rfl) (by kernel_rfl) rfl (by decide) (fun a S => ?_)
    refine leafL (leafT (hK12 _ _ ?_))
    obtain rfl := Option.some.inj h
    exact wp_ret (sRet (.int .i64 o5) S (rsl1 rfl (rvT (t := 4) (v := .int .i64 o5) S (by kernel_rfl))) ⟨(), rfl, S.mem.sel [] [] (by decide) (by kernel_rfl) (by kernel_rfl)⟩)

end Go.Proofs.Ytdbgkakmhlmpbaa
