import Derived.Test.YtmedbnjhgkcndaaGTy
import Derived.Test.YtmedbnjhgkcndaaG85
namespace Go.Proofs.Ytmedbnjhgkcndaa
open Go.RowKit
set_option linter.unusedVariables false

noncomputable def F_raddleref35_scaled (p0 : Int) (p1 : Int) (p2 : Int) (p3 : Int) (p4 : Int) : Option (Int × Int) :=
  Option.bind (α := Bool) (
    if decide (p0 < 0) then
      some true
    else
      some (decide (p1 < p0))) fun o3 =>
  if o3 then
    some (0, 2)
  else
    Option.bind (F_raddleref35_Nearest (w64 (p0 * p2)) p3) fun r10 =>
    if decide (p4 < r10) then
      some (0, 16)
    else
      some (r10, 0)
set_option maxHeartbeats 4000000 in
set_option maxRecDepth 100000 in
theorem c_raddleref35_scaled (E : Nat → Prop) (w0 : World) (p0 : Int) (p1 : Int) (p2 : Int) (p3 : Int) (p4 : Int) (r : (Int × Int)) (h : F_raddleref35_scaled p0 p1 p2 p3 p4 = some r) (S : St0 E [] w0 w0 [] []) :
    Calls Try.prog 83 #[.int .i64 p0, .int .i64 p1, .int .i64 p2, .int .i64 p3, .int .i64 p4] w0 (Ret (X := Unit) E [] w0 (fun _ => .tuple #[.int .i64 r.1, .int .i64 r.2]) (fun _ => []) (fun _ => [])) := by
  unfold F_raddleref35_scaled at h
  refine sEnter (args := [.int .i64 p0, .int .i64 p1, .int .i64 p2, .int .i64 p3, .int .i64 p4]) 29 Try.func83 rfl rfl (by simp) S (fun a S => ?_)
  refine sSeq (fun K1 hK1 => ?_)
  refine sRegion ?_
  refine sMove (.int .i64 0) S (wN rfl) (.inr rfl) (by kernel_rfl) rfl (by decide) (fun a S => ?_)
  refine sMove (.int .i64 0) S (wN rfl) (.inr rfl) (by kernel_rfl) rfl (by decide) (fun a S => ?_)
  refine leafL (leafT (hK1 _ _ ?_))
  refine sSeq (fun K2 hK2 => ?_)
  obtain ⟨t4, h, g5⟩ := bindSome h
  refine sCut (fun a w => ∃ o3, o3 = t4 ∧ St E [] w0 29 a w [(0, .int .i64 p0), (2, .int .i64 p2), (3, .int .i64 p3), (4, .int .i64 p4), (19, .bool o3)] [] []) ?_ (fun a w hI => ?_)
  · refine sRegion ?_
    refine sMove (.int .i64 p0) S (wN rfl) (.inl rfl) (by kernel_rfl) rfl (by decide) (fun a S => ?_)
    refine sBin (.bool (decide (p0 < 0))) S (wN rfl) rfl (by kernel_rfl) (by kernel_rfl) (bLt _ _ _ _ .i64 p0 0) rfl (by decide) (fun a S => ?_)
    refine sMove (.bool (decide (p0 < 0))) S (wN rfl) (.inl rfl) (by kernel_rfl) rfl (by decide) (fun a S => ?_)
    rcases iteSome h with ⟨hc6, h⟩ | ⟨hc6, h⟩
    · refine sSkip (c := decide (p0 < 0)) 2 false 15 16 S rfl rfl (by kernel_rfl) hc6 rfl (by decide) (fun a S => ?_)
      refine sSkip (c := decide (p0 < 0)) 2 false 15 17 S rfl rfl (by kernel_rfl) hc6 rfl (by decide) (fun a S => ?_)
      refine sSkip (c := decide (p0 < 0)) 2 false 15 18 S rfl rfl (by kernel_rfl) hc6 rfl (by decide) (fun a S => ?_)
      refine sPickT (b := decide (p0 < 0)) (.bool true) S (wN rfl) rfl (by kernel_rfl) hc6 (by kernel_rfl) rfl (by decide) (fun a S => ?_)
      exact leafL (leafT (⟨true, Option.some.inj h, S.fix [] [] (by decide) (by kernel_rfl) (by kernel_rfl) (by kernel_rfl)⟩))
    · refine sMove (.int .i64 p0) S (wG (c := decide (p0 < 0)) 2 false 15 rfl rfl (by kernel_rfl) hc6) (.inl rfl) (by kernel_rfl) rfl (by decide) (fun a S => ?_)
      refine sMove (.int .i64 p1) S (wG (c := decide (p0 < 0)) 2 false 15 rfl rfl (by kernel_rfl) hc6) (.inl rfl) (by kernel_rfl) rfl (by decide) (fun a S => ?_)
      refine sBin (.bool (decide (p1 < p0))) S (wG (c := decide (p0 < 0)) 2 false 15 rfl rfl (by kernel_rfl) hc6) rfl (by kernel_rfl) (by kernel_rfl) (bGt _ _ _ _ .i64 p0 p1) rfl (by decide) (fun a S => ?_)
      refine sPickF (b := decide (p0 < 0)) (.bool (decide (p1 < p0))) S (wN rfl) rfl (by kernel_rfl) hc6 (by kernel_rfl) rfl (by decide) (fun a S => ?_)
      exact leafL (leafT (⟨decide (p1 < p0), Option.some.inj h, S.fix [] [] (by decide) (by kernel_rfl) (by kernel_rfl) (by kernel_rfl)⟩))
  · obtain ⟨o3, rfl, S⟩ := hI
    have h := g5
    clear g5
    try dsimp only at h
    rcases iteSome h with ⟨hc7, h⟩ | ⟨hc7, h⟩
    · refine sCondT (b := o3) S (by kernel_rfl) hc7 ?_
      refine sSeq (fun K8 hK8 => ?_)
      refine sRegion ?_
      refine sMove (.int .i64 0) S (wN rfl) (.inr rfl) (by kernel_rfl) rfl (by decide) (fun a S => ?_)
      refine sMove (.int .i64 2) S (wN rfl) (.inr rfl) (by kernel_rfl) rfl (by decide) (fun a S => ?_)
      refine leafL (leafT (hK8 _ _ ?_))
      obtain rfl := Option.some.inj h
      exact wp_ret (rThen (sRet (.tuple #[.int .i64 0, .int .i64 2]) S (rsl2 rfl (rvT (t := 10) (v := .int .i64 0) S (by kernel_rfl)) (rvT (t := 11) (v := .int .i64 2) S (by kernel_rfl))) ⟨(), rfl, S.mem.sel [] [] (by decide) (by kernel_rfl) (by kernel_rfl)⟩))
    · refine sCondF (b := o3) S (by kernel_rfl) hc7 ?_
      refine wp_skip (leafT (hK2 _ _ ?_))
      refine sSeq (fun K9 hK9 => ?_)
      refine sRegion ?_
      refine sMove (.int .i64 p0) S (wN rfl) (.inl rfl) (by kernel_rfl) rfl (by decide) (fun a S => ?_)
      refine sMove (.int .i64 p2) S (wN rfl) (.inl rfl) (by kernel_rfl) rfl (by decide) (fun a S => ?_)
      refine sBin (.int .i64 (w64 (p0 * p2))) S (wN rfl) rfl (by kernel_rfl) (by kernel_rfl) (bMul _ _ _ _ p0 p2) rfl (by decide) (fun a S => ?_)
      refine sMove (.int .i64 p3) S (wN rfl) (.inl rfl) (by kernel_rfl) rfl (by decide) (fun a S => ?_)
      obtain ⟨r10, hx11, h⟩ := bindSome h
      have S1 := S.mem
      refine sCallQ (X := Unit) (f := 85) (vs := [.int .i64 (w64 (p0 * p2)), .int .i64 p3]) (val := fun _ => .int .i64 r10) S (wN rfl) rfl callee85 (by kernel_rfl) (S1.quiet [] (by kernel_rfl)) (fun E1 w1 S1 => c_raddleref35_Nearest E1 w1 (w64 (p0 * p2)) p3 r10 hx11 S1) rfl (by decide) (fun _ a w S => ?_)
      refine sMove (.int .i64 r10) S (wN rfl) (.inr rfl) (by kernel_rfl) rfl (by decide) (fun a S => ?_)
      refine leafL (leafT (hK9 _ _ ?_))
      refine sSeq (fun K12 hK12 => ?_)
      refine sSeq (fun K13 hK13 => ?_)
      refine sRegion ?_
      refine sMove (.int .i64 r10) S (wN rfl) (.inl rfl) (by kernel_rfl) rfl (by decide) (fun a S => ?_)
      refine sMove (.int .i64 p4) S (wN rfl) (.inl rfl) (by kernel_rfl) rfl (by decide) (fun a S => ?_)
      refine sBin (.bool (decide (p4 < r10))) S (wN rfl) rfl (by kernel_rfl) (by kernel_rfl) (bGt _ _ _ _ .i64 r10 p4) rfl (by decide) (fun a S => ?_)
      refine leafL (leafT (hK13 _ _ ?_))
      rcases iteSome h with ⟨hc14, h⟩ | ⟨hc14, h⟩
      · refine sCondT (b := decide (p4 < r10)) S (by kernel_rfl) hc14 ?_
        refine sSeq (fun K15 hK15 => ?_)
        refine sRegion ?_
        refine sMove (.int .i64 0) S (wN rfl) (.inr rfl) (by kernel_rfl) rfl (by decide) (fun a S => ?_)
        refine sMove (.int .i64 16) S (wN rfl) (.inr rfl) (by kernel_rfl) rfl (by decide) (fun a S => ?_)
        refine leafL (leafT (hK15 _ _ ?_))
        obtain rfl := Option.some.inj h
        exact wp_ret (rThen (sRet (.tuple #[.int .i64 0, .int .i64 16]) S (rsl2 rfl (rvT (t := 10) (v := .int .i64 0) S (by kernel_rfl)) (rvT (t := 11) (v := .int .i64 16) S (by kernel_rfl))) ⟨(), rfl, S.mem.sel [] [] (by decide) (by kernel_rfl) (by kernel_rfl)⟩))
      · refine sCondF (b := decide (p4 < r10)) S (by kernel_rfl) hc14 ?_
        refine wp_skip (leafT (hK12 _ _ ?_))
        refine sSeq (fun K16 hK16 => ?_)
        refine sRegion ?_
        refine sMove (.int .i64 r10) S (wN rfl) (.inl rfl) (by kernel_rfl) rfl (by decide) (fun a S => ?_)
        refine sMove (.int .i64 r10) S (wN rfl) (.inr rfl) (by kernel_rfl) rfl (by decide) (fun a S => ?_)
        refine sMove (.int .i64 0) S (wN rfl) (.inr rfl) (by kernel_rfl) rfl (by decide) (fun a S => ?_)
        refine leafL (leafT (hK16 _ _ ?_))
        obtain rfl := Option.some.inj h
        exact wp_ret (sRet (.tuple #[.int .i64 r10, .int .i64 0]) S (rsl2 rfl (rvT (t := 10) (v := .int .i64 r10) S (by kernel_rfl)) (rvT (t := 11) (v := .int .i64 0) S (by kernel_rfl))) ⟨(), rfl, S.mem.sel [] [] (by decide) (by kernel_rfl) (by kernel_rfl)⟩)

end Go.Proofs.Ytmedbnjhgkcndaa
