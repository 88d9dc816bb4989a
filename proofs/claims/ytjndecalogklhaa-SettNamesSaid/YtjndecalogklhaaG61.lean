import Derived.Test.YtjndecalogklhaaGTy
import Derived.Test.YtjndecalogklhaaG62
namespace Go.Proofs.Ytjndecalogklhaa
open Go.RowKit
set_option linter.unusedVariables false

noncomputable def F_math_bits_LeadingZeros64 (p0 : Int) : Option Int :=
  Option.bind (F_math_bits_Len64 p0) fun r3 =>
  some (w64 (64 - r3))
set_option maxHeartbeats 4000000 in
set_option maxRecDepth 100000 in
theorem c_math_bits_LeadingZeros64 (E : Nat → Prop) (w0 : World) (p0 : Int) (r : Int) (h : F_math_bits_LeadingZeros64 p0 = some r) (S : St0 E [] w0 w0 [] []) :
    Calls Try.prog 61 #[.int .u64 p0] w0 (Ret (X := Unit) E [] w0 (fun _ => .int .i64 r) (fun _ => []) (fun _ => [])) := by
  unfold F_math_bits_LeadingZeros64 at h
  refine sEnter (args := [.int .u64 p0]) 6 Try.func61 rfl rfl (by simp) S (fun a S => ?_)
  refine sSeq (fun K1 hK1 => ?_)
  refine sRegion ?_
  refine sMove (.int .i64 0) S (wN rfl) (.inr rfl) (by kernel_rfl) rfl (by decide) (fun a S => ?_)
  refine leafL (leafT (hK1 _ _ ?_))
  refine sSeq (fun K2 hK2 => ?_)
  refine sRegion ?_
  refine sMove (.int .u64 p0) S (wN rfl) (.inl rfl) (by kernel_rfl) rfl (by decide) (fun a S => ?_)
  obtain ⟨r3, hx4, h⟩ := bindSome h
  have S1 := S.mem
  refine sCallQ (X := Unit) (f := 62) (vs := [.int .u64 p0]) (val := fun _ => .int .i64 r3) S (wN rfl) rfl callee62 (by kernel_rfl) (S1.quiet [] (by kernel_rfl)) (fun E1 w1 S1 => c_math_bits_Len64 E1 w1 p0 r3 hx4 S1) rfl (by decide) (fun _ a w S => ?_)
  refine sBin (.int .i64 (w64 (64 - r3))) S (wN rfl) rfl (by kernel_rfl) (by kernel_rfl) (bSub _ _ _ _ 64 r3) rfl (by decide) (fun a S => ?_)
  refine sMove (.int .i64 (w64 (64 - r3))) S (wN rfl) (.inr rfl) (by kernel_rfl) rfl (by decide) (fun a S => ?_)
  refine leafL (leafT (hK2 _ _ ?_))
  obtain rfl := Option.some.inj h
  exact wp_ret (sRet (.int .i64 (w64 (64 - r3))) S (rsl1 rfl (rvT (t := 2) (v := .int .i64 (w64 (64 - r3))) S (by kernel_rfl))) ⟨(), rfl, S.mem.sel [] [] (by decide) (by kernel_rfl) (by kernel_rfl)⟩)

end Go.Proofs.Ytjndecalogklhaa
