import Derived.Test.YtdbgkakmhlmpbaaGTy
import Derived.Test.YtdbgkakmhlmpbaaG61
import Derived.Test.YtdbgkakmhlmpbaaG62
namespace Go.Proofs.Ytdbgkakmhlmpbaa
open Go.RowKit
set_option linter.unusedVariables false

noncomputable def F_raddleref23_Weigh (p0 : api_Count) (p1 : Int) : Option (api_Ratio × Int) :=
  Option.bind (F_raddleref23_tex p0 p1) fun r5 =>
  if r5.2 != 0 then
    some ((api_Ratio.mk 0 0), r5.2)
  else
    Option.bind (F_raddleref23_Make (w64 (p1 * r5.1.Num)) (w64 (10000 * r5.1.Den))) fun r14 =>
    some (r14.1, r14.2)
def c_raddleref23_Weigh_val (r : (api_Ratio × Int)) (x : Value) : Value := .tuple #[x, .int .i64 r.2]
def c_raddleref23_Weigh_D (r : (api_Ratio × Int)) (x : Value) : List Fact := [fRep r_api_Ratio x r.1]
set_option maxHeartbeats 4000000 in
set_option maxRecDepth 100000 in
theorem c_raddleref23_Weigh (E : Nat → Prop) (w0 : World) (p0 : api_Count) (v0 : Value) (p1 : Int) (r : (api_Ratio × Int)) (h : F_raddleref23_Weigh p0 p1 = some r) (S : St0 E [] w0 w0 [] [fRep r_api_Count (v0) p0]) :
    Calls Try.prog 38 #[v0, .int .i64 p1] w0 (Ret (X := Value) E [] w0 (c_raddleref23_Weigh_val r) (fun _ => []) (c_raddleref23_Weigh_D r)) := by
  unfold F_raddleref23_Weigh at h
  obtain rfl : v0 = .agg #[.int .u8 p0.System, .int .i64 p0.N.Num, .int .i64 p0.N.Den] := S.know (i := 0) (e := fRep r_api_Count (v0) p0) (by kernel_rfl)
  refine sEnter (args := [.agg #[.int .u8 p0.System, .int .i64 p0.N.Num, .int .i64 p0.N.Den], .int .i64 p1]) 28 Try.func38 rfl rfl (by simp) S (fun a S => ?_)
  refine sSeq (fun K1 hK1 => ?_)
  refine sRegion ?_
  refine sBox (v := .agg #[.int .u8 p0.System, .int .i64 p0.N.Num, .int .i64 p0.N.Den]) S (wN rfl) rfl (by kernel_rfl) [.int .u8 p0.System, .int .i64 p0.N.Num, .int .i64 p0.N.Den] rfl rfl (by decide) (fun a b2 w S => ?_)
  refine sAlloc (.agg #[.int .i64 0, .int .i64 0]) S (wN rfl) rfl (by kernel_rfl) [.int .i64 0, .int .i64 0] rfl rfl (by decide) (fun a b3 w S => ?_)
  refine sMove (.int .i64 0) S (wN rfl) (.inr rfl) (by kernel_rfl) rfl (by decide) (fun a S => ?_)
  refine leafL (leafT (hK1 _ _ ?_))
  refine sSeq (fun K4 hK4 => ?_)
  refine sRegion ?_
  refine sLoadN (p := b2) (off := 0) (T := 27) (vs := [.int .u8 p0.System, .int .i64 p0.N.Num, .int .i64 p0.N.Den]) 1 [.int .u8 p0.System, .int .i64 p0.N.Num, .int .i64 p0.N.Den] S (wN rfl) rfl (by kernel_rfl) (by kernel_rfl) (by kernel_rfl) (by kernel_rfl) rfl rfl (by decide) (fun a S => ?_)
  refine sMove (.int .i64 p1) S (wN rfl) (.inl rfl) (by kernel_rfl) rfl (by decide) (fun a S => ?_)
  obtain ⟨r5, hx6, h⟩ := bindSome h
  refine sCall (X := Value) (f := 61) (vs := [.agg #[.int .u8 p0.System, .int .i64 p0.N.Num, .int .i64 p0.N.Den], .int .i64 p1]) (val := c_raddleref23_tex_val r5) (B' := fun _ => []) (D' := c_raddleref23_tex_D r5) [] [eBox b3 25 [.int .i64 0, .int .i64 0], eBox b2 27 [.int .u8 p0.System, .int .i64 p0.N.Num, .int .i64 p0.N.Den]] [fRep r_api_Count (.agg #[.int .u8 p0.System, .int .i64 p0.N.Num, .int .i64 p0.N.Den]) p0] [0, 1] [0] S (wN rfl) rfl callee61 (by kernel_rfl) (by decide) (by kernel_rfl) (by kernel_rfl) (fun E1 w1 S1 => c_raddleref23_tex E1 w1 p0 (.agg #[.int .u8 p0.System, .int .i64 p0.N.Num, .int .i64 p0.N.Den]) p1 r5 hx6 S1) rfl (by decide) (fun u7 a w S => ?_)
  obtain rfl : u7 = .agg #[.int .i64 r5.1.Num, .int .i64 r5.1.Den] := S.mem.know (i := 0) (e := fRep r_api_Ratio (u7) r5.1) (by kernel_rfl)
  refine sMove (.tuple #[.agg #[.int .i64 r5.1.Num, .int .i64 r5.1.Den], .int .i64 r5.2]) S (wN rfl) (.inl rfl) (by kernel_rfl) rfl (by decide) (fun a S => ?_)
  refine sExtract (vs := [.agg #[.int .i64 r5.1.Num, .int .i64 r5.1.Den], .int .i64 r5.2]) (.agg #[.int .i64 r5.1.Num, .int .i64 r5.1.Den]) S (wN rfl) rfl (by kernel_rfl) rfl rfl (by decide) (fun a S => ?_)
  refine sExtract (vs := [.agg #[.int .i64 r5.1.Num, .int .i64 r5.1.Den], .int .i64 r5.2]) (.int .i64 r5.2) S (wN rfl) rfl (by kernel_rfl) rfl rfl (by decide) (fun a S => ?_)
  refine sAlloc (.agg #[.int .i64 0, .int .i64 0]) S (wN rfl) rfl (by kernel_rfl) [.int .i64 0, .int .i64 0] rfl rfl (by decide) (fun a b8 w S => ?_)
  refine sStore (p := b8) (off := 0) (T := 25) (vs := [.int .i64 0, .int .i64 0]) (v := .agg #[.int .i64 r5.1.Num, .int .i64 r5.1.Den]) 0 [.int .i64 r5.1.Num, .int .i64 r5.1.Den] S (wN rfl) rfl (by kernel_rfl) (by kernel_rfl) rfl (by kernel_rfl) (by kernel_rfl) rfl (by simp) rfl (fun a w S => ?_)
  refine sMove (.int .i64 r5.2) S (wN rfl) (.inr rfl) (by kernel_rfl) rfl (by decide) (fun a S => ?_)
  refine leafL (leafT (hK4 _ _ ?_))
  refine sSeq (fun K9 hK9 => ?_)
  refine sSeq (fun K10 hK10 => ?_)
  refine sRegion ?_
  refine sMove (.int .i64 r5.2) S (wN rfl) (.inl rfl) (by kernel_rfl) rfl (by decide) (fun a S => ?_)
  refine sBin (.bool (r5.2 != 0)) S (wN rfl) rfl (by kernel_rfl) (by kernel_rfl) (bNe _ _ _ _ .i64 r5.2 0) rfl (by decide) (fun a S => ?_)
  refine leafL (leafT (hK10 _ _ ?_))
  rcases iteSome h with ⟨hc11, h⟩ | ⟨hc11, h⟩
  · refine sCondT (b := r5.2 != 0) S (by kernel_rfl) hc11 ?_
    refine sSeq (fun K12 hK12 => ?_)
    refine sRegion ?_
    refine sBuild [] [.int .i64 0, .int .i64 0] S (wN rfl) rfl (by kernel_rfl) (by kernel_rfl) rfl (by decide) (fun a S => ?_)
    refine sMove (.int .i64 r5.2) S (wN rfl) (.inl rfl) (by kernel_rfl) rfl (by decide) (fun a S => ?_)
    refine sStore (p := b3) (off := 0) (T := 25) (vs := [.int .i64 0, .int .i64 0]) (v := .agg #[.int .i64 0, .int .i64 0]) 1 [.int .i64 0, .int .i64 0] S (wN rfl) rfl (by kernel_rfl) (by kernel_rfl) rfl (by kernel_rfl) (by kernel_rfl) rfl (by simp) rfl (fun a w S => ?_)
    refine sMove (.int .i64 r5.2) S (wN rfl) (.inr rfl) (by kernel_rfl) rfl (by decide) (fun a S => ?_)
    refine leafL (leafT (hK12 _ _ ?_))
    obtain rfl := Option.some.inj h
    have S := S.learn (fRep r_api_Ratio (.agg #[.int .i64 0, .int .i64 0]) (api_Ratio.mk 0 0)) rfl
    exact wp_ret (rThen (sRet (.tuple #[.agg #[.int .i64 0, .int .i64 0], .int .i64 r5.2]) S (rsl2 rfl (rvN (c := 4) (t := 25) (T := 25) (p := b3) 0 [.int .i64 0, .int .i64 0] S (by kernel_rfl) (by kernel_rfl) (by kernel_rfl) (by kernel_rfl)) (rvT (t := 5) (v := .int .i64 r5.2) S (by kernel_rfl))) ⟨(.agg #[.int .i64 0, .int .i64 0]), rfl, S.mem.sel [] [0] (by decide) (by kernel_rfl) (by kernel_rfl)⟩))
  · refine sCondF (b := r5.2 != 0) S (by kernel_rfl) hc11 ?_
    refine wp_skip (leafT (hK9 _ _ ?_))
    refine sSeq (fun K13 hK13 => ?_)
    refine sRegion ?_
    refine sMove (.int .i64 p1) S (wN rfl) (.inl rfl) (by kernel_rfl) rfl (by decide) (fun a S => ?_)
    refine sField (b := b8) (off := 0) 0 0 S (wN rfl) rfl (by kernel_rfl) (by kernel_rfl) rfl rfl (by decide) (fun a S => ?_)
    refine sLoad1 (p := b8) (off := 0) (T := 25) (vs := [.int .i64 r5.1.Num, .int .i64 r5.1.Den]) 0 (.int .i64 r5.1.Num) S (wN rfl) rfl (by kernel_rfl) (by kernel_rfl) (by kernel_rfl) rfl rfl (by decide) (fun a S => ?_)
    refine sBin (.int .i64 (w64 (p1 * r5.1.Num))) S (wN rfl) rfl (by kernel_rfl) (by kernel_rfl) (bMul _ _ _ _ p1 r5.1.Num) rfl (by decide) (fun a S => ?_)
    refine sField (b := b8) (off := 0) 1 1 S (wN rfl) rfl (by kernel_rfl) (by kernel_rfl) rfl rfl (by decide) (fun a S => ?_)
    refine sLoad1 (p := b8) (off := 1) (T := 25) (vs := [.int .i64 r5.1.Num, .int .i64 r5.1.Den]) 0 (.int .i64 r5.1.Den) S (wN rfl) rfl (by kernel_rfl) (by kernel_rfl) (by kernel_rfl) rfl rfl (by decide) (fun a S => ?_)
    refine sBin (.int .i64 (w64 (10000 * r5.1.Den))) S (wN rfl) rfl (by kernel_rfl) (by kernel_rfl) (bMul _ _ _ _ 10000 r5.1.Den) rfl (by decide) (fun a S => ?_)
    obtain ⟨r14, hx15, h⟩ := bindSome h
    refine sCall (X := Value) (f := 62) (vs := [.int .i64 (w64 (p1 * r5.1.Num)), .int .i64 (w64 (10000 * r5.1.Den))]) (val := c_raddleref23_Make_val r14) (B' := fun _ => []) (D' := c_raddleref23_Make_D r14) [] [eBox b8 25 [.int .i64 r5.1.Num, .int .i64 r5.1.Den], eBox b3 25 [.int .i64 0, .int .i64 0], eBox b2 27 [.int .u8 p0.System, .int .i64 p0.N.Num, .int .i64 p0.N.Den]] [] [0, 1, 2] [] S (wN rfl) rfl callee62 (by kernel_rfl) (by decide) (by kernel_rfl) (by kernel_rfl) (fun E1 w1 S1 => c_raddleref23_Make E1 w1 (w64 (p1 * r5.1.Num)) (w64 (10000 * r5.1.Den)) r14 hx15 S1) rfl (by decide) (fun u16 a w S => ?_)
    obtain rfl : u16 = .agg #[.int .i64 r14.1.Num, .int .i64 r14.1.Den] := S.mem.know (i := 0) (e := fRep r_api_Ratio (u16) r14.1) (by kernel_rfl)
    refine sExtract (vs := [.agg #[.int .i64 r14.1.Num, .int .i64 r14.1.Den], .int .i64 r14.2]) (.agg #[.int .i64 r14.1.Num, .int .i64 r14.1.Den]) S (wN rfl) rfl (by kernel_rfl) rfl rfl (by decide) (fun a S => ?_)
    refine sExtract (vs := [.agg #[.int .i64 r14.1.Num, .int .i64 r14.1.Den], .int .i64 r14.2]) (.int .i64 r14.2) S (wN rfl) rfl (by kernel_rfl) rfl rfl (by decide) (fun a S => ?_)
    refine sStore (p := b3) (off := 0) (T := 25) (vs := [.int .i64 0, .int .i64 0]) (v := .agg #[.int .i64 r14.1.Num, .int .i64 r14.1.Den]) 1 [.int .i64 r14.1.Num, .int .i64 r14.1.Den] S (wN rfl) rfl (by kernel_rfl) (by kernel_rfl) rfl (by kernel_rfl) (by kernel_rfl) rfl (by simp) rfl (fun a w S => ?_)
    refine sMove (.int .i64 r14.2) S (wN rfl) (.inr rfl) (by kernel_rfl) rfl (by decide) (fun a S => ?_)
    refine leafL (leafT (hK13 _ _ ?_))
    obtain rfl := Option.some.inj h
    exact wp_ret (sRet (.tuple #[.agg #[.int .i64 r14.1.Num, .int .i64 r14.1.Den], .int .i64 r14.2]) S (rsl2 rfl (rvN (c := 4) (t := 25) (T := 25) (p := b3) 0 [.int .i64 r14.1.Num, .int .i64 r14.1.Den] S (by kernel_rfl) (by kernel_rfl) (by kernel_rfl) (by kernel_rfl)) (rvT (t := 5) (v := .int .i64 r14.2) S (by kernel_rfl))) ⟨(.agg #[.int .i64 r14.1.Num, .int .i64 r14.1.Den]), rfl, S.mem.sel [] [0] (by decide) (by kernel_rfl) (by kernel_rfl)⟩)

end Go.Proofs.Ytdbgkakmhlmpbaa
