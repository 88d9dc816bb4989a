import Derived.Test.YtjndecalogklhaaGTy
namespace Go.Proofs.Ytjndecalogklhaa
open Go.RowKit
set_option linter.unusedVariables false

noncomputable def F_sett_over_int64_ (p0 : Int) (p1 : Int) (p2 : Bool) : Option Int :=
  Option.bind (α := Int) (
    if p2 then
      some (w64 (p0 + (w64 (p1 - 1))))
    else
      some p0) fun o2 =>
  Option.bind (quoI o2 p1) fun z8 =>
  some z8
set_option maxHeartbeats 4000000 in
set_option maxRecDepth 100000 in
theorem c_sett_over_int64_ (E : Nat → Prop) (w0 : World) (p0 : Int) (p1 : Int) (p2 : Bool) (r : Int) (h : F_sett_over_int64_ p0 p1 p2 = some r) (S : St0 E [] w0 w0 [] []) :
    Calls Try.prog 49 #[.int .i64 p0, .int .i64 p1, .bool p2] w0 (Ret (X := Unit) E [] w0 (fun _ => .int .i64 r) (fun _ => []) (fun _ => [])) := by
  unfold F_sett_over_int64_ at h
  refine sEnter (args := [.int .i64 p0, .int .i64 p1, .bool p2]) 15 Try.func49 rfl rfl (by simp) S (fun a S => ?_)
  refine sSeq (fun K1 hK1 => ?_)
  refine sRegion ?_
  refine sMove (.int .i64 0) S (wN rfl) (.inr rfl) (by kernel_rfl) rfl (by decide) (fun a S => ?_)
  refine leafL (leafT (hK1 _ _ ?_))
  obtain ⟨t3, h, g4⟩ := bindSome h
  refine sCut (fun a w => ∃ o2, o2 = t3 ∧ St E [] w0 15 a w [(0, .int .i64 o2), (1, .int .i64 p1)] [] []) ?_ (fun a w hI => ?_)
  · refine sSeq (fun K5 hK5 => ?_)
    refine sRegion ?_
    refine sMove (.bool p2) S (wN rfl) (.inl rfl) (by kernel_rfl) rfl (by decide) (fun a S => ?_)
    refine leafL (leafT (hK5 _ _ ?_))
    rcases iteSome h with ⟨hc6, h⟩ | ⟨hc6, h⟩
    · refine sCondT (b := p2) S (by kernel_rfl) hc6 ?_
      refine sRegion ?_
      refine sMove (.int .i64 p0) S (wN rfl) (.inl rfl) (by kernel_rfl) rfl (by decide) (fun a S => ?_)
      refine sMove (.int .i64 p1) S (wN rfl) (.inl rfl) (by kernel_rfl) rfl (by decide) (fun a S => ?_)
      refine sBin (.int .i64 (w64 (p1 - 1))) S (wN rfl) rfl (by kernel_rfl) (by kernel_rfl) (bSub _ _ _ _ p1 1) rfl (by decide) (fun a S => ?_)
      refine sBin (.int .i64 (w64 (p0 + (w64 (p1 - 1))))) S (wN rfl) rfl (by kernel_rfl) (by kernel_rfl) (bAdd _ _ _ _ p0 (w64 (p1 - 1))) rfl (by decide) (fun a S => ?_)
      refine sMove (.int .i64 (w64 (p0 + (w64 (p1 - 1))))) S (wN rfl) (.inr rfl) (by kernel_rfl) rfl (by decide) (fun a S => ?_)
      exact leafL (leafT (⟨w64 (p0 + (w64 (p1 - 1))), Option.some.inj h, S.fix [] [] (by decide) (by kernel_rfl) (by kernel_rfl) (by kernel_rfl)⟩))
    · refine sCondF (b := p2) S (by kernel_rfl) hc6 ?_
      exact wp_skip (leafT (⟨p0, Option.some.inj h, S.fix [] [] (by decide) (by kernel_rfl) (by kernel_rfl) (by kernel_rfl)⟩))
  · obtain ⟨o2, rfl, S⟩ := hI
    have h := g4
    clear g4
    try dsimp only at h
    refine sSeq (fun K7 hK7 => ?_)
    refine sRegion ?_
    refine sMove (.int .i64 o2) S (wN rfl) (.inl rfl) (by kernel_rfl) rfl (by decide) (fun a S => ?_)
    refine sMove (.int .i64 p1) S (wN rfl) (.inl rfl) (by kernel_rfl) rfl (by decide) (fun a S => ?_)
    obtain ⟨z8, hx9, h⟩ := bindSome h
    refine sBin (.int .i64 z8) S (wN rfl) rfl (by kernel_rfl) (by kernel_rfl) (bQuo _ _ _ _ (x := o2) (y := p1) hx9) rfl (by decide) (fun a S => ?_)
    refine sMove (.int .i64 z8) S (wN rfl) (.inr rfl) (by kernel_rfl) rfl (by decide) (fun a S => ?_)
    refine leafL (leafT (hK7 _ _ ?_))
    obtain rfl := Option.some.inj h
    exact wp_ret (sRet (.int .i64 z8) S (rsl1 rfl (rvT (t := 6) (v := .int .i64 z8) S (by kernel_rfl))) ⟨(), rfl, S.mem.sel [] [] (by decide) (by kernel_rfl) (by kernel_rfl)⟩)

end Go.Proofs.Ytjndecalogklhaa
