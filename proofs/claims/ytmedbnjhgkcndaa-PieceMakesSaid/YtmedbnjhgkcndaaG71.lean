import Derived.Test.YtmedbnjhgkcndaaGTy
namespace Go.Proofs.Ytmedbnjhgkcndaa
open Go.RowKit
set_option linter.unusedVariables false

noncomputable def F_raddleref36_down (p0 : Int) (p1 : Int) : Option Int :=
  Option.bind (quoI p0 p1) fun z3 =>
  Option.bind (α := Int) (
    Option.bind (α := Bool) (
      if decide (p0 < 0) then
        some ((w64 (z3 * p1)) != p0)
      else
        some false) fun o8 =>
    if o8 then
      some (w64 (z3 - 1))
    else
      some z3) fun o5 =>
  some o5
set_option maxHeartbeats 4000000 in
set_option maxRecDepth 100000 in
theorem c_raddleref36_down (E : Nat → Prop) (w0 : World) (p0 : Int) (p1 : Int) (r : Int) (h : F_raddleref36_down p0 p1 = some r) (S : St0 E [] w0 w0 [] []) :
    Calls Try.prog 71 #[.int .i64 p0, .int .i64 p1] w0 (Ret (X := Unit) E [] w0 (fun _ => .int .i64 r) (fun _ => []) (fun _ => [])) := by
  unfold F_raddleref36_down at h
  refine sEnter (args := [.int .i64 p0, .int .i64 p1]) 21 Try.func71 rfl rfl (by simp) S (fun a S => ?_)
  refine sSeq (fun K1 hK1 => ?_)
  refine sRegion ?_
  refine sMove (.int .i64 0) S (wN rfl) (.inr rfl) (by kernel_rfl) rfl (by decide) (fun a S => ?_)
  refine leafL (leafT (hK1 _ _ ?_))
  refine sSeq (fun K2 hK2 => ?_)
  refine sRegion ?_
  refine sMove (.int .i64 p0) S (wN rfl) (.inl rfl) (by kernel_rfl) rfl (by decide) (fun a S => ?_)
  refine sMove (.int .i64 p1) S (wN rfl) (.inl rfl) (by kernel_rfl) rfl (by decide) (fun a S => ?_)
  obtain ⟨z3, hx4, h⟩ := bindSome h
  refine sBin (.int .i64 z3) S (wN rfl) rfl (by kernel_rfl) (by kernel_rfl) (bQuo _ _ _ _ (x := p0) (y := p1) hx4) rfl (by decide) (fun a S => ?_)
  refine sMove (.int .i64 z3) S (wN rfl) (.inr rfl) (by kernel_rfl) rfl (by decide) (fun a S => ?_)
  refine leafL (leafT (hK2 _ _ ?_))
  obtain ⟨t6, h, g7⟩ := bindSome h
  refine sCut (fun a w => ∃ o5, o5 = t6 ∧ St E [] w0 21 a w [(5, .int .i64 o5)] [] []) ?_ (fun a w hI => ?_)
  · obtain ⟨t9, h, g10⟩ := bindSome h
    refine sCut (fun a w => ∃ o8, o8 = t9 ∧ St E [] w0 21 a w [(5, .int .i64 z3), (17, .bool o8)] [] []) ?_ (fun a w hI => ?_)
    · refine sRegion ?_
      refine sMove (.int .i64 p0) S (wN rfl) (.inl rfl) (by kernel_rfl) rfl (by decide) (fun a S => ?_)
      refine sBin (.bool (decide (p0 < 0))) S (wN rfl) rfl (by kernel_rfl) (by kernel_rfl) (bLt _ _ _ _ .i64 p0 0) rfl (by decide) (fun a S => ?_)
      refine sMove (.bool (decide (p0 < 0))) S (wN rfl) (.inl rfl) (by kernel_rfl) rfl (by decide) (fun a S => ?_)
      rcases iteSome h with ⟨hc11, h⟩ | ⟨hc11, h⟩
      · refine sMove (.int .i64 z3) S (wG (c := decide (p0 < 0)) 2 true 11 rfl rfl (by kernel_rfl) hc11) (.inl rfl) (by kernel_rfl) rfl (by decide) (fun a S => ?_)
        refine sMove (.int .i64 p1) S (wG (c := decide (p0 < 0)) 2 true 11 rfl rfl (by kernel_rfl) hc11) (.inl rfl) (by kernel_rfl) rfl (by decide) (fun a S => ?_)
        refine sBin (.int .i64 (w64 (z3 * p1))) S (wG (c := decide (p0 < 0)) 2 true 11 rfl rfl (by kernel_rfl) hc11) rfl (by kernel_rfl) (by kernel_rfl) (bMul _ _ _ _ z3 p1) rfl (by decide) (fun a S => ?_)
        refine sMove (.int .i64 p0) S (wG (c := decide (p0 < 0)) 2 true 11 rfl rfl (by kernel_rfl) hc11) (.inl rfl) (by kernel_rfl) rfl (by decide) (fun a S => ?_)
        refine sBin (.bool ((w64 (z3 * p1)) != p0)) S (wG (c := decide (p0 < 0)) 2 true 11 rfl rfl (by kernel_rfl) hc11) rfl (by kernel_rfl) (by kernel_rfl) (bNe _ _ _ _ .i64 (w64 (z3 * p1)) p0) rfl (by decide) (fun a S => ?_)
        refine sPickT (b := decide (p0 < 0)) (.bool ((w64 (z3 * p1)) != p0)) S (wN rfl) rfl (by kernel_rfl) hc11 (by kernel_rfl) rfl (by decide) (fun a S => ?_)
        exact leafL (leafT (⟨(w64 (z3 * p1)) != p0, Option.some.inj h, S.fix [] [] (by decide) (by kernel_rfl) (by kernel_rfl) (by kernel_rfl)⟩))
      · refine sSkip (c := decide (p0 < 0)) 2 true 11 12 S rfl rfl (by kernel_rfl) hc11 rfl (by decide) (fun a S => ?_)
        refine sSkip (c := decide (p0 < 0)) 2 true 11 13 S rfl rfl (by kernel_rfl) hc11 rfl (by decide) (fun a S => ?_)
        refine sSkip (c := decide (p0 < 0)) 2 true 11 14 S rfl rfl (by kernel_rfl) hc11 rfl (by decide) (fun a S => ?_)
        refine sSkip (c := decide (p0 < 0)) 2 true 11 15 S rfl rfl (by kernel_rfl) hc11 rfl (by decide) (fun a S => ?_)
        refine sSkip (c := decide (p0 < 0)) 2 true 11 16 S rfl rfl (by kernel_rfl) hc11 rfl (by decide) (fun a S => ?_)
        refine sPickF (b := decide (p0 < 0)) (.bool false) S (wN rfl) rfl (by kernel_rfl) hc11 (by kernel_rfl) rfl (by decide) (fun a S => ?_)
        exact leafL (leafT (⟨false, Option.some.inj h, S.fix [] [] (by decide) (by kernel_rfl) (by kernel_rfl) (by kernel_rfl)⟩))
    · obtain ⟨o8, rfl, S⟩ := hI
      have h := g10
      clear g10
      try dsimp only at h
      rcases iteSome h with ⟨hc12, h⟩ | ⟨hc12, h⟩
      · refine sCondT (b := o8) S (by kernel_rfl) hc12 ?_
        refine sRegion ?_
        refine sMove (.int .i64 z3) S (wN rfl) (.inl rfl) (by kernel_rfl) rfl (by decide) (fun a S => ?_)
        refine sBin (.int .i64 (w64 (z3 - 1))) S (wN rfl) rfl (by kernel_rfl) (by kernel_rfl) (bSub _ _ _ _ z3 1) rfl (by decide) (fun a S => ?_)
        refine sMove (.int .i64 (w64 (z3 - 1))) S (wN rfl) (.inr rfl) (by kernel_rfl) rfl (by decide) (fun a S => ?_)
        exact leafL (leafT (⟨w64 (z3 - 1), Option.some.inj h, S.fix [] [] (by decide) (by kernel_rfl) (by kernel_rfl) (by kernel_rfl)⟩))
      · refine sCondF (b := o8) S (by kernel_rfl) hc12 ?_
        exact wp_skip (leafT (⟨z3, Option.some.inj h, S.fix [] [] (by decide) (by kernel_rfl) (by kernel_rfl) (by kernel_rfl)⟩))
  · obtain ⟨o5, rfl, S⟩ := hI
    have h := g7
    clear g7
    try dsimp only at h
    refine sSeq (fun K13 hK13 => ?_)
    refine sRegion ?_
    refine sMove (.int .i64 o5) S (wN rfl) (.inl rfl) (by kernel_rfl) rfl (by decide) (fun a S => ?_)
    refine sMove (.int .i64 o5) S (wN rfl) (.inr rfl) (by kernel_rfl) rfl (by decide) (fun a S => ?_)
    refine leafL (leafT (hK13 _ _ ?_))
    obtain rfl := Option.some.inj h
    exact wp_ret (sRet (.int .i64 o5) S (rsl1 rfl (rvT (t := 4) (v := .int .i64 o5) S (by kernel_rfl))) ⟨(), rfl, S.mem.sel [] [] (by decide) (by kernel_rfl) (by kernel_rfl)⟩)

end Go.Proofs.Ytmedbnjhgkcndaa
