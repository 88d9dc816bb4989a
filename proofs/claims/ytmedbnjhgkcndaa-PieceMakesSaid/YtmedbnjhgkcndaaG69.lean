import Derived.Test.YtmedbnjhgkcndaaGTy
namespace Go.Proofs.Ytmedbnjhgkcndaa
open Go.RowKit
set_option linter.unusedVariables false

noncomputable def F_slope_at (p0 : Int) (p1 : Int) (p2 : Int) (p3 : Int) : Option Int :=
  Option.bind (quoI (w64 ((w64 (2 * (w64 ((w64 ((w64 (p0 + 1000)) * (w64 (p2 - p3)))) + (w64 ((w64 (p1 + 1000)) * p3)))))) + p2)) (w64 (2 * p2))) fun z4 =>
  some (w64 (z4 - 1000))
set_option maxHeartbeats 4000000 in
set_option maxRecDepth 100000 in
theorem c_slope_at (E : Nat → Prop) (w0 : World) (p0 : Int) (p1 : Int) (p2 : Int) (p3 : Int) (r : Int) (h : F_slope_at p0 p1 p2 p3 = some r) (S : St0 E [] w0 w0 [] []) :
    Calls Try.prog 69 #[.int .i64 p0, .int .i64 p1, .int .i64 p2, .int .i64 p3] w0 (Ret (X := Unit) E [] w0 (fun _ => .int .i64 r) (fun _ => []) (fun _ => [])) := by
  unfold F_slope_at at h
  refine sEnter (args := [.int .i64 p0, .int .i64 p1, .int .i64 p2, .int .i64 p3]) 31 Try.func69 rfl rfl (by simp) S (fun a S => ?_)
  refine sSeq (fun K1 hK1 => ?_)
  refine sRegion ?_
  refine sMove (.int .i64 0) S (wN rfl) (.inr rfl) (by kernel_rfl) rfl (by decide) (fun a S => ?_)
  refine leafL (leafT (hK1 _ _ ?_))
  refine sSeq (fun K2 hK2 => ?_)
  refine sRegion ?_
  refine sMove (.int .i64 p0) S (wN rfl) (.inl rfl) (by kernel_rfl) rfl (by decide) (fun a S => ?_)
  refine sBin (.int .i64 (w64 (p0 + 1000))) S (wN rfl) rfl (by kernel_rfl) (by kernel_rfl) (bAdd _ _ _ _ p0 1000) rfl (by decide) (fun a S => ?_)
  refine sMove (.int .i64 p1) S (wN rfl) (.inl rfl) (by kernel_rfl) rfl (by decide) (fun a S => ?_)
  refine sBin (.int .i64 (w64 (p1 + 1000))) S (wN rfl) rfl (by kernel_rfl) (by kernel_rfl) (bAdd _ _ _ _ p1 1000) rfl (by decide) (fun a S => ?_)
  refine sMove (.int .i64 (w64 (p0 + 1000))) S (wN rfl) (.inr rfl) (by kernel_rfl) rfl (by decide) (fun a S => ?_)
  refine sMove (.int .i64 (w64 (p1 + 1000))) S (wN rfl) (.inr rfl) (by kernel_rfl) rfl (by decide) (fun a S => ?_)
  refine leafL (leafT (hK2 _ _ ?_))
  refine sSeq (fun K3 hK3 => ?_)
  refine sRegion ?_
  refine sMove (.int .i64 (w64 (p0 + 1000))) S (wN rfl) (.inl rfl) (by kernel_rfl) rfl (by decide) (fun a S => ?_)
  refine sMove (.int .i64 p2) S (wN rfl) (.inl rfl) (by kernel_rfl) rfl (by decide) (fun a S => ?_)
  refine sMove (.int .i64 p3) S (wN rfl) (.inl rfl) (by kernel_rfl) rfl (by decide) (fun a S => ?_)
  refine sBin (.int .i64 (w64 (p2 - p3))) S (wN rfl) rfl (by kernel_rfl) (by kernel_rfl) (bSub _ _ _ _ p2 p3) rfl (by decide) (fun a S => ?_)
  refine sBin (.int .i64 (w64 ((w64 (p0 + 1000)) * (w64 (p2 - p3))))) S (wN rfl) rfl (by kernel_rfl) (by kernel_rfl) (bMul _ _ _ _ (w64 (p0 + 1000)) (w64 (p2 - p3))) rfl (by decide) (fun a S => ?_)
  refine sMove (.int .i64 (w64 (p1 + 1000))) S (wN rfl) (.inl rfl) (by kernel_rfl) rfl (by decide) (fun a S => ?_)
  refine sMove (.int .i64 p3) S (wN rfl) (.inl rfl) (by kernel_rfl) rfl (by decide) (fun a S => ?_)
  refine sBin (.int .i64 (w64 ((w64 (p1 + 1000)) * p3))) S (wN rfl) rfl (by kernel_rfl) (by kernel_rfl) (bMul _ _ _ _ (w64 (p1 + 1000)) p3) rfl (by decide) (fun a S => ?_)
  refine sBin (.int .i64 (w64 ((w64 ((w64 (p0 + 1000)) * (w64 (p2 - p3)))) + (w64 ((w64 (p1 + 1000)) * p3))))) S (wN rfl) rfl (by kernel_rfl) (by kernel_rfl) (bAdd _ _ _ _ (w64 ((w64 (p0 + 1000)) * (w64 (p2 - p3)))) (w64 ((w64 (p1 + 1000)) * p3))) rfl (by decide) (fun a S => ?_)
  refine sBin (.int .i64 (w64 (2 * (w64 ((w64 ((w64 (p0 + 1000)) * (w64 (p2 - p3)))) + (w64 ((w64 (p1 + 1000)) * p3))))))) S (wN rfl) rfl (by kernel_rfl) (by kernel_rfl) (bMul _ _ _ _ 2 (w64 ((w64 ((w64 (p0 + 1000)) * (w64 (p2 - p3)))) + (w64 ((w64 (p1 + 1000)) * p3))))) rfl (by decide) (fun a S => ?_)
  refine sMove (.int .i64 p2) S (wN rfl) (.inl rfl) (by kernel_rfl) rfl (by decide) (fun a S => ?_)
  refine sBin (.int .i64 (w64 ((w64 (2 * (w64 ((w64 ((w64 (p0 + 1000)) * (w64 (p2 - p3)))) + (w64 ((w64 (p1 + 1000)) * p3)))))) + p2))) S (wN rfl) rfl (by kernel_rfl) (by kernel_rfl) (bAdd _ _ _ _ (w64 (2 * (w64 ((w64 ((w64 (p0 + 1000)) * (w64 (p2 - p3)))) + (w64 ((w64 (p1 + 1000)) * p3)))))) p2) rfl (by decide) (fun a S => ?_)
  refine sMove (.int .i64 p2) S (wN rfl) (.inl rfl) (by kernel_rfl) rfl (by decide) (fun a S => ?_)
  refine sBin (.int .i64 (w64 (2 * p2))) S (wN rfl) rfl (by kernel_rfl) (by kernel_rfl) (bMul _ _ _ _ 2 p2) rfl (by decide) (fun a S => ?_)
  obtain ⟨z4, hx5, h⟩ := bindSome h
  refine sBin (.int .i64 z4) S (wN rfl) rfl (by kernel_rfl) (by kernel_rfl) (bQuo _ _ _ _ (x := w64 ((w64 (2 * (w64 ((w64 ((w64 (p0 + 1000)) * (w64 (p2 - p3)))) + (w64 ((w64 (p1 + 1000)) * p3)))))) + p2)) (y := w64 (2 * p2)) hx5) rfl (by decide) (fun a S => ?_)
  refine sBin (.int .i64 (w64 (z4 - 1000))) S (wN rfl) rfl (by kernel_rfl) (by kernel_rfl) (bSub _ _ _ _ z4 1000) rfl (by decide) (fun a S => ?_)
  refine sMove (.int .i64 (w64 (z4 - 1000))) S (wN rfl) (.inr rfl) (by kernel_rfl) rfl (by decide) (fun a S => ?_)
  refine leafL (leafT (hK3 _ _ ?_))
  obtain rfl := Option.some.inj h
  exact wp_ret (sRet (.int .i64 (w64 (z4 - 1000))) S (rsl1 rfl (rvT (t := 8) (v := .int .i64 (w64 (z4 - 1000))) S (by kernel_rfl))) ⟨(), rfl, S.mem.sel [] [] (by decide) (by kernel_rfl) (by kernel_rfl)⟩)

end Go.Proofs.Ytmedbnjhgkcndaa
