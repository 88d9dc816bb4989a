import Derived.Test.YtjndecalogklhaaGTy
namespace Go.Proofs.Ytjndecalogklhaa
open Go.RowKit
set_option linter.unusedVariables false

noncomputable def F_math_bits_Mul64 (p0 : Int) (p1 : Int) : Option (Int × Int) :=
  Option.bind (shrI .u64 p0 32) fun z4 =>
  Option.bind (shrI .u64 p1 32) fun z8 =>
  Option.bind (shrI .u64 (IntKind.u64.wrap ((andI .u64 p0 4294967295) * (andI .u64 p1 4294967295))) 32) fun z12 =>
  Option.bind (shrI .u64 (IntKind.u64.wrap ((IntKind.u64.wrap (z4 * (andI .u64 p1 4294967295))) + z12)) 32) fun z16 =>
  Option.bind (shrI .u64 (IntKind.u64.wrap ((andI .u64 (IntKind.u64.wrap ((IntKind.u64.wrap (z4 * (andI .u64 p1 4294967295))) + z12)) 4294967295) + (IntKind.u64.wrap ((andI .u64 p0 4294967295) * z8)))) 32) fun z20 =>
  some (IntKind.u64.wrap ((IntKind.u64.wrap ((IntKind.u64.wrap (z4 * z8)) + z16)) + z20), IntKind.u64.wrap (p0 * p1))
set_option maxHeartbeats 4000000 in
set_option maxRecDepth 100000 in
theorem c_math_bits_Mul64 (E : Nat → Prop) (w0 : World) (p0 : Int) (p1 : Int) (r : (Int × Int)) (h : F_math_bits_Mul64 p0 p1 = some r) (S : St0 E [] w0 w0 [] []) :
    Calls Try.prog 47 #[.int .u64 p0, .int .u64 p1] w0 (Ret (X := Unit) E [] w0 (fun _ => .tuple #[.int .u64 r.1, .int .u64 r.2]) (fun _ => []) (fun _ => [])) := by
  unfold F_math_bits_Mul64 at h
  refine sEnter (args := [.int .u64 p0, .int .u64 p1]) 51 Try.func47 rfl rfl (by simp) S (fun a S => ?_)
  refine sSeq (fun K1 hK1 => ?_)
  refine sRegion ?_
  refine sMove (.int .u64 0) S (wN rfl) (.inr rfl) (by kernel_rfl) rfl (by decide) (fun a S => ?_)
  refine sMove (.int .u64 0) S (wN rfl) (.inr rfl) (by kernel_rfl) rfl (by decide) (fun a S => ?_)
  refine leafL (leafT (hK1 _ _ ?_))
  refine sSeq (fun K2 hK2 => ?_)
  refine sRegion ?_
  refine sMove (.int .u64 p0) S (wN rfl) (.inl rfl) (by kernel_rfl) rfl (by decide) (fun a S => ?_)
  refine sBin (.int .u64 (andI .u64 p0 4294967295)) S (wN rfl) rfl (by kernel_rfl) (by kernel_rfl) (bAndK _ _ _ _ .u64 p0 4294967295) rfl (by decide) (fun a S => ?_)
  refine sMove (.int .u64 (andI .u64 p0 4294967295)) S (wN rfl) (.inr rfl) (by kernel_rfl) rfl (by decide) (fun a S => ?_)
  refine leafL (leafT (hK2 _ _ ?_))
  refine sSeq (fun K3 hK3 => ?_)
  refine sRegion ?_
  refine sMove (.int .u64 p0) S (wN rfl) (.inl rfl) (by kernel_rfl) rfl (by decide) (fun a S => ?_)
  obtain ⟨z4, hx5, h⟩ := bindSome h
  refine sBin (.int .u64 z4) S (wN rfl) rfl (by kernel_rfl) (by kernel_rfl) (bShrK _ _ _ _ (k := .u64) (k' := .u64) (x := p0) (y := 32) hx5) rfl (by decide) (fun a S => ?_)
  refine sMove (.int .u64 z4) S (wN rfl) (.inr rfl) (by kernel_rfl) rfl (by decide) (fun a S => ?_)
  refine leafL (leafT (hK3 _ _ ?_))
  refine sSeq (fun K6 hK6 => ?_)
  refine sRegion ?_
  refine sMove (.int .u64 p1) S (wN rfl) (.inl rfl) (by kernel_rfl) rfl (by decide) (fun a S => ?_)
  refine sBin (.int .u64 (andI .u64 p1 4294967295)) S (wN rfl) rfl (by kernel_rfl) (by kernel_rfl) (bAndK _ _ _ _ .u64 p1 4294967295) rfl (by decide) (fun a S => ?_)
  refine sMove (.int .u64 (andI .u64 p1 4294967295)) S (wN rfl) (.inr rfl) (by kernel_rfl) rfl (by decide) (fun a S => ?_)
  refine leafL (leafT (hK6 _ _ ?_))
  refine sSeq (fun K7 hK7 => ?_)
  refine sRegion ?_
  refine sMove (.int .u64 p1) S (wN rfl) (.inl rfl) (by kernel_rfl) rfl (by decide) (fun a S => ?_)
  obtain ⟨z8, hx9, h⟩ := bindSome h
  refine sBin (.int .u64 z8) S (wN rfl) rfl (by kernel_rfl) (by kernel_rfl) (bShrK _ _ _ _ (k := .u64) (k' := .u64) (x := p1) (y := 32) hx9) rfl (by decide) (fun a S => ?_)
  refine sMove (.int .u64 z8) S (wN rfl) (.inr rfl) (by kernel_rfl) rfl (by decide) (fun a S => ?_)
  refine leafL (leafT (hK7 _ _ ?_))
  refine sSeq (fun K10 hK10 => ?_)
  refine sRegion ?_
  refine sMove (.int .u64 (andI .u64 p0 4294967295)) S (wN rfl) (.inl rfl) (by kernel_rfl) rfl (by decide) (fun a S => ?_)
  refine sMove (.int .u64 (andI .u64 p1 4294967295)) S (wN rfl) (.inl rfl) (by kernel_rfl) rfl (by decide) (fun a S => ?_)
  refine sBin (.int .u64 (IntKind.u64.wrap ((andI .u64 p0 4294967295) * (andI .u64 p1 4294967295)))) S (wN rfl) rfl (by kernel_rfl) (by kernel_rfl) (bMulK _ _ _ _ .u64 (andI .u64 p0 4294967295) (andI .u64 p1 4294967295)) rfl (by decide) (fun a S => ?_)
  refine sMove (.int .u64 (IntKind.u64.wrap ((andI .u64 p0 4294967295) * (andI .u64 p1 4294967295)))) S (wN rfl) (.inr rfl) (by kernel_rfl) rfl (by decide) (fun a S => ?_)
  refine leafL (leafT (hK10 _ _ ?_))
  refine sSeq (fun K11 hK11 => ?_)
  refine sRegion ?_
  refine sMove (.int .u64 z4) S (wN rfl) (.inl rfl) (by kernel_rfl) rfl (by decide) (fun a S => ?_)
  refine sMove (.int .u64 (andI .u64 p1 4294967295)) S (wN rfl) (.inl rfl) (by kernel_rfl) rfl (by decide) (fun a S => ?_)
  refine sBin (.int .u64 (IntKind.u64.wrap (z4 * (andI .u64 p1 4294967295)))) S (wN rfl) rfl (by kernel_rfl) (by kernel_rfl) (bMulK _ _ _ _ .u64 z4 (andI .u64 p1 4294967295)) rfl (by decide) (fun a S => ?_)
  refine sMove (.int .u64 (IntKind.u64.wrap ((andI .u64 p0 4294967295) * (andI .u64 p1 4294967295)))) S (wN rfl) (.inl rfl) (by kernel_rfl) rfl (by decide) (fun a S => ?_)
  obtain ⟨z12, hx13, h⟩ := bindSome h
  refine sBin (.int .u64 z12) S (wN rfl) rfl (by kernel_rfl) (by kernel_rfl) (bShrK _ _ _ _ (k := .u64) (k' := .u64) (x := IntKind.u64.wrap ((andI .u64 p0 4294967295) * (andI .u64 p1 4294967295))) (y := 32) hx13) rfl (by decide) (fun a S => ?_)
  refine sBin (.int .u64 (IntKind.u64.wrap ((IntKind.u64.wrap (z4 * (andI .u64 p1 4294967295))) + z12))) S (wN rfl) rfl (by kernel_rfl) (by kernel_rfl) (bAddK _ _ _ _ .u64 (IntKind.u64.wrap (z4 * (andI .u64 p1 4294967295))) z12) rfl (by decide) (fun a S => ?_)
  refine sMove (.int .u64 (IntKind.u64.wrap ((IntKind.u64.wrap (z4 * (andI .u64 p1 4294967295))) + z12))) S (wN rfl) (.inr rfl) (by kernel_rfl) rfl (by decide) (fun a S => ?_)
  refine leafL (leafT (hK11 _ _ ?_))
  refine sSeq (fun K14 hK14 => ?_)
  refine sRegion ?_
  refine sMove (.int .u64 (IntKind.u64.wrap ((IntKind.u64.wrap (z4 * (andI .u64 p1 4294967295))) + z12))) S (wN rfl) (.inl rfl) (by kernel_rfl) rfl (by decide) (fun a S => ?_)
  refine sBin (.int .u64 (andI .u64 (IntKind.u64.wrap ((IntKind.u64.wrap (z4 * (andI .u64 p1 4294967295))) + z12)) 4294967295)) S (wN rfl) rfl (by kernel_rfl) (by kernel_rfl) (bAndK _ _ _ _ .u64 (IntKind.u64.wrap ((IntKind.u64.wrap (z4 * (andI .u64 p1 4294967295))) + z12)) 4294967295) rfl (by decide) (fun a S => ?_)
  refine sMove (.int .u64 (andI .u64 (IntKind.u64.wrap ((IntKind.u64.wrap (z4 * (andI .u64 p1 4294967295))) + z12)) 4294967295)) S (wN rfl) (.inr rfl) (by kernel_rfl) rfl (by decide) (fun a S => ?_)
  refine leafL (leafT (hK14 _ _ ?_))
  refine sSeq (fun K15 hK15 => ?_)
  refine sRegion ?_
  refine sMove (.int .u64 (IntKind.u64.wrap ((IntKind.u64.wrap (z4 * (andI .u64 p1 4294967295))) + z12))) S (wN rfl) (.inl rfl) (by kernel_rfl) rfl (by decide) (fun a S => ?_)
  obtain ⟨z16, hx17, h⟩ := bindSome h
  refine sBin (.int .u64 z16) S (wN rfl) rfl (by kernel_rfl) (by kernel_rfl) (bShrK _ _ _ _ (k := .u64) (k' := .u64) (x := IntKind.u64.wrap ((IntKind.u64.wrap (z4 * (andI .u64 p1 4294967295))) + z12)) (y := 32) hx17) rfl (by decide) (fun a S => ?_)
  refine sMove (.int .u64 z16) S (wN rfl) (.inr rfl) (by kernel_rfl) rfl (by decide) (fun a S => ?_)
  refine leafL (leafT (hK15 _ _ ?_))
  refine sSeq (fun K18 hK18 => ?_)
  refine sRegion ?_
  refine sMove (.int .u64 (andI .u64 (IntKind.u64.wrap ((IntKind.u64.wrap (z4 * (andI .u64 p1 4294967295))) + z12)) 4294967295)) S (wN rfl) (.inl rfl) (by kernel_rfl) rfl (by decide) (fun a S => ?_)
  refine sMove (.int .u64 (andI .u64 p0 4294967295)) S (wN rfl) (.inl rfl) (by kernel_rfl) rfl (by decide) (fun a S => ?_)
  refine sMove (.int .u64 z8) S (wN rfl) (.inl rfl) (by kernel_rfl) rfl (by decide) (fun a S => ?_)
  refine sBin (.int .u64 (IntKind.u64.wrap ((andI .u64 p0 4294967295) * z8))) S (wN rfl) rfl (by kernel_rfl) (by kernel_rfl) (bMulK _ _ _ _ .u64 (andI .u64 p0 4294967295) z8) rfl (by decide) (fun a S => ?_)
  refine sBin (.int .u64 (IntKind.u64.wrap ((andI .u64 (IntKind.u64.wrap ((IntKind.u64.wrap (z4 * (andI .u64 p1 4294967295))) + z12)) 4294967295) + (IntKind.u64.wrap ((andI .u64 p0 4294967295) * z8))))) S (wN rfl) rfl (by kernel_rfl) (by kernel_rfl) (bAddK _ _ _ _ .u64 (andI .u64 (IntKind.u64.wrap ((IntKind.u64.wrap (z4 * (andI .u64 p1 4294967295))) + z12)) 4294967295) (IntKind.u64.wrap ((andI .u64 p0 4294967295) * z8))) rfl (by decide) (fun a S => ?_)
  refine sMove (.int .u64 (IntKind.u64.wrap ((andI .u64 (IntKind.u64.wrap ((IntKind.u64.wrap (z4 * (andI .u64 p1 4294967295))) + z12)) 4294967295) + (IntKind.u64.wrap ((andI .u64 p0 4294967295) * z8))))) S (wN rfl) (.inr rfl) (by kernel_rfl) rfl (by decide) (fun a S => ?_)
  refine leafL (leafT (hK18 _ _ ?_))
  refine sSeq (fun K19 hK19 => ?_)
  refine sRegion ?_
  refine sMove (.int .u64 z4) S (wN rfl) (.inl rfl) (by kernel_rfl) rfl (by decide) (fun a S => ?_)
  refine sMove (.int .u64 z8) S (wN rfl) (.inl rfl) (by kernel_rfl) rfl (by decide) (fun a S => ?_)
  refine sBin (.int .u64 (IntKind.u64.wrap (z4 * z8))) S (wN rfl) rfl (by kernel_rfl) (by kernel_rfl) (bMulK _ _ _ _ .u64 z4 z8) rfl (by decide) (fun a S => ?_)
  refine sMove (.int .u64 z16) S (wN rfl) (.inl rfl) (by kernel_rfl) rfl (by decide) (fun a S => ?_)
  refine sBin (.int .u64 (IntKind.u64.wrap ((IntKind.u64.wrap (z4 * z8)) + z16))) S (wN rfl) rfl (by kernel_rfl) (by kernel_rfl) (bAddK _ _ _ _ .u64 (IntKind.u64.wrap (z4 * z8)) z16) rfl (by decide) (fun a S => ?_)
  refine sMove (.int .u64 (IntKind.u64.wrap ((andI .u64 (IntKind.u64.wrap ((IntKind.u64.wrap (z4 * (andI .u64 p1 4294967295))) + z12)) 4294967295) + (IntKind.u64.wrap ((andI .u64 p0 4294967295) * z8))))) S (wN rfl) (.inl rfl) (by kernel_rfl) rfl (by decide) (fun a S => ?_)
  obtain ⟨z20, hx21, h⟩ := bindSome h
  refine sBin (.int .u64 z20) S (wN rfl) rfl (by kernel_rfl) (by kernel_rfl) (bShrK _ _ _ _ (k := .u64) (k' := .u64) (x := IntKind.u64.wrap ((andI .u64 (IntKind.u64.wrap ((IntKind.u64.wrap (z4 * (andI .u64 p1 4294967295))) + z12)) 4294967295) + (IntKind.u64.wrap ((andI .u64 p0 4294967295) * z8)))) (y := 32) hx21) rfl (by decide) (fun a S => ?_)
  refine sBin (.int .u64 (IntKind.u64.wrap ((IntKind.u64.wrap ((IntKind.u64.wrap (z4 * z8)) + z16)) + z20))) S (wN rfl) rfl (by kernel_rfl) (by kernel_rfl) (bAddK _ _ _ _ .u64 (IntKind.u64.wrap ((IntKind.u64.wrap (z4 * z8)) + z16)) z20) rfl (by decide) (fun a S => ?_)
  refine sMove (.int .u64 (IntKind.u64.wrap ((IntKind.u64.wrap ((IntKind.u64.wrap (z4 * z8)) + z16)) + z20))) S (wN rfl) (.inr rfl) (by kernel_rfl) rfl (by decide) (fun a S => ?_)
  refine leafL (leafT (hK19 _ _ ?_))
  refine sSeq (fun K22 hK22 => ?_)
  refine sRegion ?_
  refine sMove (.int .u64 p0) S (wN rfl) (.inl rfl) (by kernel_rfl) rfl (by decide) (fun a S => ?_)
  refine sMove (.int .u64 p1) S (wN rfl) (.inl rfl) (by kernel_rfl) rfl (by decide) (fun a S => ?_)
  refine sBin (.int .u64 (IntKind.u64.wrap (p0 * p1))) S (wN rfl) rfl (by kernel_rfl) (by kernel_rfl) (bMulK _ _ _ _ .u64 p0 p1) rfl (by decide) (fun a S => ?_)
  refine sMove (.int .u64 (IntKind.u64.wrap (p0 * p1))) S (wN rfl) (.inr rfl) (by kernel_rfl) rfl (by decide) (fun a S => ?_)
  refine leafL (leafT (hK22 _ _ ?_))
  obtain rfl := Option.some.inj h
  exact wp_ret (sRet (.tuple #[.int .u64 (IntKind.u64.wrap ((IntKind.u64.wrap ((IntKind.u64.wrap (z4 * z8)) + z16)) + z20)), .int .u64 (IntKind.u64.wrap (p0 * p1))]) S (rsl2 rfl (rvT (t := 4) (v := .int .u64 (IntKind.u64.wrap ((IntKind.u64.wrap ((IntKind.u64.wrap (z4 * z8)) + z16)) + z20))) S (by kernel_rfl)) (rvT (t := 5) (v := .int .u64 (IntKind.u64.wrap (p0 * p1))) S (by kernel_rfl))) ⟨(), rfl, S.mem.sel [] [] (by decide) (by kernel_rfl) (by kernel_rfl)⟩)

end Go.Proofs.Ytjndecalogklhaa
