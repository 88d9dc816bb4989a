import Derived.Test.YtmedbnjhgkcndaaGTy
namespace Go.Proofs.Ytmedbnjhgkcndaa
open Go.RowKit
set_option linter.unusedVariables false

noncomputable def F_raddleref37_in (p0 : Int) : Option Bool :=
  Option.bind (α := Bool) (
    if decide ((-500) ≤ p0) then
      some (decide (p0 ≤ 500))
    else
      some false) fun o2 =>
  some o2
set_option maxHeartbeats 4000000 in
set_option maxRecDepth 100000 in
theorem c_raddleref37_in (E : Nat → Prop) (w0 : World) (p0 : Int) (r : Bool) (h : F_raddleref37_in p0 = some r) (S : St0 E [] w0 w0 [] []) :
    Calls Try.prog 34 #[.int .i64 p0] w0 (Ret (X := Unit) E [] w0 (fun _ => .bool r) (fun _ => []) (fun _ => [])) := by
  unfold F_raddleref37_in at h
  refine sEnter (args := [.int .i64 p0]) 9 Try.func34 rfl rfl (by simp) S (fun a S => ?_)
  refine sSeq (fun K1 hK1 => ?_)
  refine sRegion ?_
  refine sMove (.bool false) S (wN rfl) (.inr rfl) (by kernel_rfl) rfl (by decide) (fun a S => ?_)
  refine leafL (leafT (hK1 _ _ ?_))
  obtain ⟨t3, h, g4⟩ := bindSome h
  refine sCut (fun a w => ∃ o2, o2 = t3 ∧ St E [] w0 9 a w [(2, .bool o2)] [] []) ?_ (fun a w hI => ?_)
  · refine sRegion ?_
    refine sMove (.int .i64 p0) S (wN rfl) (.inl rfl) (by kernel_rfl) rfl (by decide) (fun a S => ?_)
    refine sBin (.bool (decide ((-500) ≤ p0))) S (wN rfl) rfl (by kernel_rfl) (by kernel_rfl) (bGe _ _ _ _ .i64 p0 (-500)) rfl (by decide) (fun a S => ?_)
    refine sMove (.bool (decide ((-500) ≤ p0))) S (wN rfl) (.inl rfl) (by kernel_rfl) rfl (by decide) (fun a S => ?_)
    rcases iteSome h with ⟨hc5, h⟩ | ⟨hc5, h⟩
    · refine sMove (.int .i64 p0) S (wG (c := decide ((-500) ≤ p0)) 2 true 5 rfl rfl (by kernel_rfl) hc5) (.inl rfl) (by kernel_rfl) rfl (by decide) (fun a S => ?_)
      refine sBin (.bool (decide (p0 ≤ 500))) S (wG (c := decide ((-500) ≤ p0)) 2 true 5 rfl rfl (by kernel_rfl) hc5) rfl (by kernel_rfl) (by kernel_rfl) (bLe _ _ _ _ .i64 p0 500) rfl (by decide) (fun a S => ?_)
      refine sPickT (b := decide ((-500) ≤ p0)) (.bool (decide (p0 ≤ 500))) S (wN rfl) rfl (by kernel_rfl) hc5 (by kernel_rfl) rfl (by decide) (fun a S => ?_)
      refine sMove (.bool (decide (p0 ≤ 500))) S (wN rfl) (.inr rfl) (by kernel_rfl) rfl (by decide) (fun a S => ?_)
      exact leafL (leafT (⟨decide (p0 ≤ 500), Option.some.inj h, S.fix [] [] (by decide) (by kernel_rfl) (by kernel_rfl) (by kernel_rfl)⟩))
    · refine sSkip (c := decide ((-500) ≤ p0)) 2 true 5 6 S rfl rfl (by kernel_rfl) hc5 rfl (by decide) (fun a S => ?_)
      refine sSkip (c := decide ((-500) ≤ p0)) 2 true 5 7 S rfl rfl (by kernel_rfl) hc5 rfl (by decide) (fun a S => ?_)
      refine sPickF (b := decide ((-500) ≤ p0)) (.bool false) S (wN rfl) rfl (by kernel_rfl) hc5 (by kernel_rfl) rfl (by decide) (fun a S => ?_)
      refine sMove (.bool false) S (wN rfl) (.inr rfl) (by kernel_rfl) rfl (by decide) (fun a S => ?_)
      exact leafL (leafT (⟨false, Option.some.inj h, S.fix [] [] (by decide) (by kernel_rfl) (by kernel_rfl) (by kernel_rfl)⟩))
  · obtain ⟨o2, rfl, S⟩ := hI
    have h := g4
    clear g4
    try dsimp only at h
    obtain rfl := Option.some.inj h
    exact wp_ret (sRet (.bool o2) S (rsl1 rfl (rvT (t := 2) (v := .bool o2) S (by kernel_rfl))) ⟨(), rfl, S.mem.sel [] [] (by decide) (by kernel_rfl) (by kernel_rfl)⟩)

end Go.Proofs.Ytmedbnjhgkcndaa
