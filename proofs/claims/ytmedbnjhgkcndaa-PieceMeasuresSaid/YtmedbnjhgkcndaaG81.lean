import Derived.Test.YtmedbnjhgkcndaaGTy
namespace Go.Proofs.Ytmedbnjhgkcndaa
open Go.RowKit
set_option linter.unusedVariables false

noncomputable def F_gauge_ratio_of (p0 : gauge_ratio) (p1 : Int) : Option Int :=
  Option.bind (quoI (w64 ((w64 ((w64 (2 * p1)) * p0.num)) + p0.den)) (w64 (2 * p0.den))) fun z4 =>
  some z4
set_option maxHeartbeats 4000000 in
set_option maxRecDepth 100000 in
theorem c_gauge_ratio_of (E : Nat → Prop) (w0 : World) (p0 : gauge_ratio) (v0 : Value) (p1 : Int) (r : Int) (h : F_gauge_ratio_of p0 p1 = some r) (S : St0 E [] w0 w0 [] [fRep r_gauge_ratio v0 p0]) :
    Calls Try.prog 81 #[v0, .int .i64 p1] w0 (Ret (X := Unit) E [] w0 (fun _ => .int .i64 r) (fun _ => []) (fun _ => [])) := by
  unfold F_gauge_ratio_of at h
  obtain rfl : v0 = .agg #[.int .i64 p0.num, .int .i64 p0.den] := S.know (i := 0) (e := fRep r_gauge_ratio (v0) p0) (by kernel_rfl)
  refine sEnter (args := [.agg #[.int .i64 p0.num, .int .i64 p0.den], .int .i64 p1]) 17 Try.func81 rfl rfl (by simp) S (fun a S => ?_)
  refine sSeq (fun K1 hK1 => ?_)
  refine sRegion ?_
  refine sBox (v := .agg #[.int .i64 p0.num, .int .i64 p0.den]) S (wN rfl) rfl (by kernel_rfl) [.int .i64 p0.num, .int .i64 p0.den] rfl rfl (by decide) (fun a b2 w S => ?_)
  refine sMove (.int .i64 0) S (wN rfl) (.inr rfl) (by kernel_rfl) rfl (by decide) (fun a S => ?_)
  refine leafL (leafT (hK1 _ _ ?_))
  refine sSeq (fun K3 hK3 => ?_)
  refine sRegion ?_
  refine sMove (.int .i64 p1) S (wN rfl) (.inl rfl) (by kernel_rfl) rfl (by decide) (fun a S => ?_)
  refine sBin (.int .i64 (w64 (2 * p1))) S (wN rfl) rfl (by kernel_rfl) (by kernel_rfl) (bMul _ _ _ _ 2 p1) rfl (by decide) (fun a S => ?_)
  refine sField (b := b2) (off := 0) 0 0 S (wN rfl) rfl (by kernel_rfl) (by kernel_rfl) rfl rfl (by decide) (fun a S => ?_)
  refine sLoad1 (p := b2) (off := 0) (T := 121) (vs := [.int .i64 p0.num, .int .i64 p0.den]) 0 (.int .i64 p0.num) S (wN rfl) rfl (by kernel_rfl) (by kernel_rfl) (by kernel_rfl) rfl rfl (by decide) (fun a S => ?_)
  refine sBin (.int .i64 (w64 ((w64 (2 * p1)) * p0.num))) S (wN rfl) rfl (by kernel_rfl) (by kernel_rfl) (bMul _ _ _ _ (w64 (2 * p1)) p0.num) rfl (by decide) (fun a S => ?_)
  refine sField (b := b2) (off := 0) 1 1 S (wN rfl) rfl (by kernel_rfl) (by kernel_rfl) rfl rfl (by decide) (fun a S => ?_)
  refine sLoad1 (p := b2) (off := 1) (T := 121) (vs := [.int .i64 p0.num, .int .i64 p0.den]) 0 (.int .i64 p0.den) S (wN rfl) rfl (by kernel_rfl) (by kernel_rfl) (by kernel_rfl) rfl rfl (by decide) (fun a S => ?_)
  refine sBin (.int .i64 (w64 ((w64 ((w64 (2 * p1)) * p0.num)) + p0.den))) S (wN rfl) rfl (by kernel_rfl) (by kernel_rfl) (bAdd _ _ _ _ (w64 ((w64 (2 * p1)) * p0.num)) p0.den) rfl (by decide) (fun a S => ?_)
  refine sField (b := b2) (off := 0) 1 1 S (wN rfl) rfl (by kernel_rfl) (by kernel_rfl) rfl rfl (by decide) (fun a S => ?_)
  refine sLoad1 (p := b2) (off := 1) (T := 121) (vs := [.int .i64 p0.num, .int .i64 p0.den]) 0 (.int .i64 p0.den) S (wN rfl) rfl (by kernel_rfl) (by kernel_rfl) (by kernel_rfl) rfl rfl (by decide) (fun a S => ?_)
  refine sBin (.int .i64 (w64 (2 * p0.den))) S (wN rfl) rfl (by kernel_rfl) (by kernel_rfl) (bMul _ _ _ _ 2 p0.den) rfl (by decide) (fun a S => ?_)
  obtain ⟨z4, hx5, h⟩ := bindSome h
  refine sBin (.int .i64 z4) S (wN rfl) rfl (by kernel_rfl) (by kernel_rfl) (bQuo _ _ _ _ (x := w64 ((w64 ((w64 (2 * p1)) * p0.num)) + p0.den)) (y := w64 (2 * p0.den)) hx5) rfl (by decide) (fun a S => ?_)
  refine sMove (.int .i64 z4) S (wN rfl) (.inr rfl) (by kernel_rfl) rfl (by decide) (fun a S => ?_)
  refine leafL (leafT (hK3 _ _ ?_))
  obtain rfl := Option.some.inj h
  exact wp_ret (sRet (.int .i64 z4) S (rsl1 rfl (rvT (t := 4) (v := .int .i64 z4) S (by kernel_rfl))) ⟨(), rfl, S.mem.sel [] [] (by decide) (by kernel_rfl) (by kernel_rfl)⟩)

end Go.Proofs.Ytmedbnjhgkcndaa
