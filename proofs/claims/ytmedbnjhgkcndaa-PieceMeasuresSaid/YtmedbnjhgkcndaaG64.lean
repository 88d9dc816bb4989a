import Derived.Test.YtmedbnjhgkcndaaGTy
import Derived.Test.YtmedbnjhgkcndaaG82
import Derived.Test.YtmedbnjhgkcndaaG83
namespace Go.Proofs.Ytmedbnjhgkcndaa
open Go.RowKit
set_option linter.unusedVariables false

noncomputable def F_raddleref35_Stitches (p0 : api_Gauge) (p1 : Int) : Option (Int × Int) :=
  Option.bind (F_raddleref35_Check p0) fun r5 =>
  if r5 != 0 then
    some (0, 8)
  else
    Option.bind (F_raddleref35_scaled p1 1000000 p0.Stitches p0.Width 1000000) fun r10 =>
    some (r10.1, r10.2)
set_option maxHeartbeats 4000000 in
set_option maxRecDepth 100000 in
theorem c_raddleref35_Stitches (E : Nat → Prop) (w0 : World) (p0 : api_Gauge) (v0 : Value) (p1 : Int) (r : (Int × Int)) (h : F_raddleref35_Stitches p0 p1 = some r) (S : St0 E [] w0 w0 [] [fRep r_api_Gauge v0 p0]) :
    Calls Try.prog 64 #[v0, .int .i64 p1] w0 (Ret (X := Unit) E [] w0 (fun _ => .tuple #[.int .i64 r.1, .int .i64 r.2]) (fun _ => []) (fun _ => [])) := by
  unfold F_raddleref35_Stitches at h
  obtain rfl : v0 = .agg #[.int .i64 p0.Stitches, .int .i64 p0.Width, .int .i64 p0.Rows, .int .i64 p0.Height] := S.know (i := 0) (e := fRep r_api_Gauge (v0) p0) (by kernel_rfl)
  refine sEnter (args := [.agg #[.int .i64 p0.Stitches, .int .i64 p0.Width, .int .i64 p0.Rows, .int .i64 p0.Height], .int .i64 p1]) 17 Try.func64 rfl rfl (by simp) S (fun a S => ?_)
  refine sSeq (fun K1 hK1 => ?_)
  refine sRegion ?_
  refine sBox (v := .agg #[.int .i64 p0.Stitches, .int .i64 p0.Width, .int .i64 p0.Rows, .int .i64 p0.Height]) S (wN rfl) rfl (by kernel_rfl) [.int .i64 p0.Stitches, .int .i64 p0.Width, .int .i64 p0.Rows, .int .i64 p0.Height] rfl rfl (by decide) (fun a b2 w S => ?_)
  refine sMove (.int .i64 0) S (wN rfl) (.inr rfl) (by kernel_rfl) rfl (by decide) (fun a S => ?_)
  refine sMove (.int .i64 0) S (wN rfl) (.inr rfl) (by kernel_rfl) rfl (by decide) (fun a S => ?_)
  refine leafL (leafT (hK1 _ _ ?_))
  refine sSeq (fun K3 hK3 => ?_)
  refine sSeq (fun K4 hK4 => ?_)
  refine sRegion ?_
  refine sLoadN (p := b2) (off := 0) (T := 23) (vs := [.int .i64 p0.Stitches, .int .i64 p0.Width, .int .i64 p0.Rows, .int .i64 p0.Height]) 0 [.int .i64 p0.Stitches, .int .i64 p0.Width, .int .i64 p0.Rows, .int .i64 p0.Height] S (wN rfl) rfl (by kernel_rfl) (by kernel_rfl) (by kernel_rfl) (by kernel_rfl) rfl rfl (by decide) (fun a S => ?_)
  obtain ⟨r5, hx6, h⟩ := bindSome h
  have S1 := S.mem
  refine sCallQ (X := Unit) (f := 82) (vs := [.agg #[.int .i64 p0.Stitches, .int .i64 p0.Width, .int .i64 p0.Rows, .int .i64 p0.Height]]) (val := fun _ => .int .i64 r5) S (wN rfl) rfl callee82 (by kernel_rfl) (S1.quiet [0] (by kernel_rfl)) (fun E1 w1 S1 => c_raddleref35_Check E1 w1 p0 (.agg #[.int .i64 p0.Stitches, .int .i64 p0.Width, .int .i64 p0.Rows, .int .i64 p0.Height]) r5 hx6 S1) rfl (by decide) (fun _ a w S => ?_)
  refine sBin (.bool (r5 != 0)) S (wN rfl) rfl (by kernel_rfl) (by kernel_rfl) (bNe _ _ _ _ .i64 r5 0) rfl (by decide) (fun a S => ?_)
  refine leafL (leafT (hK4 _ _ ?_))
  rcases iteSome h with ⟨hc7, h⟩ | ⟨hc7, h⟩
  · refine sCondT (b := r5 != 0) S (by kernel_rfl) hc7 ?_
    refine sSeq (fun K8 hK8 => ?_)
    refine sRegion ?_
    refine sMove (.int .i64 0) S (wN rfl) (.inr rfl) (by kernel_rfl) rfl (by decide) (fun a S => ?_)
    refine sMove (.int .i64 8) S (wN rfl) (.inr rfl) (by kernel_rfl) rfl (by decide) (fun a S => ?_)
    refine leafL (leafT (hK8 _ _ ?_))
    obtain rfl := Option.some.inj h
    exact wp_ret (rThen (sRet (.tuple #[.int .i64 0, .int .i64 8]) S (rsl2 rfl (rvT (t := 4) (v := .int .i64 0) S (by kernel_rfl)) (rvT (t := 5) (v := .int .i64 8) S (by kernel_rfl))) ⟨(), rfl, S.mem.sel [] [] (by decide) (by kernel_rfl) (by kernel_rfl)⟩))
  · refine sCondF (b := r5 != 0) S (by kernel_rfl) hc7 ?_
    refine wp_skip (leafT (hK3 _ _ ?_))
    refine sSeq (fun K9 hK9 => ?_)
    refine sRegion ?_
    refine sMove (.int .i64 p1) S (wN rfl) (.inl rfl) (by kernel_rfl) rfl (by decide) (fun a S => ?_)
    refine sField (b := b2) (off := 0) 0 0 S (wN rfl) rfl (by kernel_rfl) (by kernel_rfl) rfl rfl (by decide) (fun a S => ?_)
    refine sLoad1 (p := b2) (off := 0) (T := 23) (vs := [.int .i64 p0.Stitches, .int .i64 p0.Width, .int .i64 p0.Rows, .int .i64 p0.Height]) 0 (.int .i64 p0.Stitches) S (wN rfl) rfl (by kernel_rfl) (by kernel_rfl) (by kernel_rfl) rfl rfl (by decide) (fun a S => ?_)
    refine sField (b := b2) (off := 0) 1 1 S (wN rfl) rfl (by kernel_rfl) (by kernel_rfl) rfl rfl (by decide) (fun a S => ?_)
    refine sLoad1 (p := b2) (off := 1) (T := 23) (vs := [.int .i64 p0.Stitches, .int .i64 p0.Width, .int .i64 p0.Rows, .int .i64 p0.Height]) 0 (.int .i64 p0.Width) S (wN rfl) rfl (by kernel_rfl) (by kernel_rfl) (by kernel_rfl) rfl rfl (by decide) (fun a S => ?_)
    obtain ⟨r10, hx11, h⟩ := bindSome h
    have S1 := S.mem
    refine sCallQ (X := Unit) (f := 83) (vs := [.int .i64 p1, .int .i64 1000000, .int .i64 p0.Stitches, .int .i64 p0.Width, .int .i64 1000000]) (val := fun _ => .tuple #[.int .i64 r10.1, .int .i64 r10.2]) S (wN rfl) rfl callee83 (by kernel_rfl) (S1.quiet [] (by kernel_rfl)) (fun E1 w1 S1 => c_raddleref35_scaled E1 w1 p1 1000000 p0.Stitches p0.Width 1000000 r10 hx11 S1) rfl (by decide) (fun _ a w S => ?_)
    refine sExtract (vs := [.int .i64 r10.1, .int .i64 r10.2]) (.int .i64 r10.1) S (wN rfl) rfl (by kernel_rfl) rfl rfl (by decide) (fun a S => ?_)
    refine sExtract (vs := [.int .i64 r10.1, .int .i64 r10.2]) (.int .i64 r10.2) S (wN rfl) rfl (by kernel_rfl) rfl rfl (by decide) (fun a S => ?_)
    refine sMove (.int .i64 r10.1) S (wN rfl) (.inr rfl) (by kernel_rfl) rfl (by decide) (fun a S => ?_)
    refine sMove (.int .i64 r10.2) S (wN rfl) (.inr rfl) (by kernel_rfl) rfl (by decide) (fun a S => ?_)
    refine leafL (leafT (hK9 _ _ ?_))
    obtain rfl := Option.some.inj h
    exact wp_ret (sRet (.tuple #[.int .i64 r10.1, .int .i64 r10.2]) S (rsl2 rfl (rvT (t := 4) (v := .int .i64 r10.1) S (by kernel_rfl)) (rvT (t := 5) (v := .int .i64 r10.2) S (by kernel_rfl))) ⟨(), rfl, S.mem.sel [] [] (by decide) (by kernel_rfl) (by kernel_rfl)⟩)

end Go.Proofs.Ytmedbnjhgkcndaa
