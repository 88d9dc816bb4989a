import Derived.Test.YtmedbnjhgkcndaaGTy
import Derived.Test.YtmedbnjhgkcndaaG69
namespace Go.Proofs.Ytmedbnjhgkcndaa
open Go.RowKit
set_option linter.unusedVariables false

noncomputable def F_slope_Line_1_s0 (p0 : Int) (p1 : Int) (p2 : Int) (p3 : Int) : Option Int :=
  Option.bind (F_slope_at p1 p2 p3 p0) fun r6 =>
  some r6
set_option maxHeartbeats 4000000 in
set_option maxRecDepth 100000 in
theorem c_slope_Line_1_s0 (E : Nat → Prop) (w0 : World) (p0 : Int) (p1 : Int) (v1 : Value) (p2 : Int) (v2 : Value) (p3 : Int) (v3 : Value) (r : Int) (h : F_slope_Line_1_s0 p0 p1 p2 p3 = some r) (S : St0 E [] w0 w0 [] [fPtr (rI .i64) (v1) p1, fPtr (rI .i64) (v2) p2, fPtr (rI .i64) (v3) p3]) :
    Calls Try.prog 68 #[.int .i64 p0, v1, v2, v3] w0 (Ret (X := Unit) E [] w0 (fun _ => .int .i64 r) (fun _ => []) (fun _ => [])) := by
  unfold F_slope_Line_1_s0 at h
  refine sEnter (args := [.int .i64 p0, v1, v2, v3]) 11 Try.func68 rfl rfl (by simp) S (fun a S => ?_)
  refine sSeq (fun K1 hK1 => ?_)
  refine sRegion ?_
  refine sMove (.int .i64 0) S (wN rfl) (.inr rfl) (by kernel_rfl) rfl (by decide) (fun a S => ?_)
  refine leafL (leafT (hK1 _ _ ?_))
  refine sSeq (fun K2 hK2 => ?_)
  refine sRegion ?_
  obtain ⟨u3, S⟩ := pLoad (r := (rI .i64)) (q := v1) (x := p1) 0 S (by kernel_rfl)
  obtain rfl : u3 = .int .i64 p1 := S.mem.know (i := 1) (e := fRep (rI .i64) (u3) p1) (by kernel_rfl)
  refine sLoadV1 (vq := v1) 0 (.int .i64 p1) S (wN rfl) rfl (by kernel_rfl) (by kernel_rfl) (by kernel_rfl) rfl (by decide) (fun a S => ?_)
  obtain ⟨u4, S⟩ := pLoad (r := (rI .i64)) (q := v2) (x := p2) 3 S (by kernel_rfl)
  obtain rfl : u4 = .int .i64 p2 := S.mem.know (i := 1) (e := fRep (rI .i64) (u4) p2) (by kernel_rfl)
  refine sLoadV1 (vq := v2) 0 (.int .i64 p2) S (wN rfl) rfl (by kernel_rfl) (by kernel_rfl) (by kernel_rfl) rfl (by decide) (fun a S => ?_)
  obtain ⟨u5, S⟩ := pLoad (r := (rI .i64)) (q := v3) (x := p3) 6 S (by kernel_rfl)
  obtain rfl : u5 = .int .i64 p3 := S.mem.know (i := 1) (e := fRep (rI .i64) (u5) p3) (by kernel_rfl)
  refine sLoadV1 (vq := v3) 0 (.int .i64 p3) S (wN rfl) rfl (by kernel_rfl) (by kernel_rfl) (by kernel_rfl) rfl (by decide) (fun a S => ?_)
  refine sMove (.int .i64 p0) S (wN rfl) (.inl rfl) (by kernel_rfl) rfl (by decide) (fun a S => ?_)
  obtain ⟨r6, hx7, h⟩ := bindSome h
  have S1 := S.mem
  refine sCallQ (X := Unit) (f := 69) (vs := [.int .i64 p1, .int .i64 p2, .int .i64 p3, .int .i64 p0]) (val := fun _ => .int .i64 r6) S (wN rfl) rfl callee69 (by kernel_rfl) (S1.quiet [] (by kernel_rfl)) (fun E1 w1 S1 => c_slope_at E1 w1 p1 p2 p3 p0 r6 hx7 S1) rfl (by decide) (fun _ a w S => ?_)
  refine sMove (.int .i64 r6) S (wN rfl) (.inr rfl) (by kernel_rfl) rfl (by decide) (fun a S => ?_)
  refine leafL (leafT (hK2 _ _ ?_))
  obtain rfl := Option.some.inj h
  exact wp_ret (sRet (.int .i64 r6) S (rsl1 rfl (rvT (t := 5) (v := .int .i64 r6) S (by kernel_rfl))) ⟨(), rfl, S.mem.sel [] [] (by decide) (by kernel_rfl) (by kernel_rfl)⟩)

end Go.Proofs.Ytmedbnjhgkcndaa
