import Derived.Test.YtdfjcpnflmgdoaaGTy
import Derived.Test.YtdfjcpnflmgdoaaG27
import Derived.Test.YtdfjcpnflmgdoaaG28
import Derived.Test.YtdfjcpnflmgdoaaG29
import Derived.Test.YtdfjcpnflmgdoaaG30
import Derived.Test.YtdfjcpnflmgdoaaG31
import Derived.Test.YtdfjcpnflmgdoaaG32
namespace Go.Proofs.Ytdfjcpnflmgdoaa
open Go.RowKit
set_option linter.unusedVariables false

noncomputable def F_raddlelaw23_YarnWeighs (p0 : api_Count) (p1 : Int) (p2 : Int) : Option Bool :=
  Option.bind (F_yarn_Weigh p0 p1) fun r4 =>
  Option.bind (F_raddleref23_Weigh p0 p1) fun r9 =>
  Option.bind (F_yarn_Reach p0 p2) fun r14 =>
  Option.bind (F_raddleref23_Reach p0 p2) fun r19 =>
  Option.bind (F_yarn_Skeins p0 p1 p2) fun r24 =>
  Option.bind (F_raddleref23_Skeins p0 p1 p2) fun r27 =>
  Option.bind (α := Bool) (
    if ((r4.1.Num == r9.1.Num) && ((r4.1.Den == r9.1.Den) && true)) then
      if r4.2 == r9.2 then
        if ((r14.1.Num == r19.1.Num) && ((r14.1.Den == r19.1.Den) && true)) then
          if r14.2 == r19.2 then
            if r24.1 == r27.1 then
              some (r24.2 == r27.2)
            else
              some false
          else
            some false
        else
          some false
      else
        some false
    else
      some false) fun o29 =>
  some o29
set_option maxHeartbeats 4000000 in
set_option maxRecDepth 100000 in
theorem c_raddlelaw23_YarnWeighs (E : Nat → Prop) (w0 : World) (p0 : api_Count) (v0 : Value) (p1 : Int) (p2 : Int) (r : Bool) (h : F_raddlelaw23_YarnWeighs p0 p1 p2 = some r) (S : St0 E [] w0 w0 [] [fRep r_api_Count (v0) p0]) :
    Calls Try.prog 5 #[v0, .int .i64 p1, .int .i64 p2] w0 (Ret (X := Unit) E [] w0 (fun _ => .bool r) (fun _ => []) (fun _ => [])) := by
  unfold F_raddlelaw23_YarnWeighs at h
  obtain rfl : v0 = .agg #[.int .u8 p0.System, .int .i64 p0.N.Num, .int .i64 p0.N.Den] := S.know (i := 0) (e := fRep r_api_Count (v0) p0) (by kernel_rfl)
  refine sEnter (args := [.agg #[.int .u8 p0.System, .int .i64 p0.N.Num, .int .i64 p0.N.Den], .int .i64 p1, .int .i64 p2]) 85 Try.func5 rfl rfl (by simp) S (fun a S => ?_)
  refine sSeq (fun K1 hK1 => ?_)
  refine sRegion ?_
  refine sBox (v := .agg #[.int .u8 p0.System, .int .i64 p0.N.Num, .int .i64 p0.N.Den]) S (wN rfl) rfl (by kernel_rfl) [.int .u8 p0.System, .int .i64 p0.N.Num, .int .i64 p0.N.Den] rfl rfl (by decide) (fun a b2 w S => ?_)
  refine sMove (.bool false) S (wN rfl) (.inr rfl) (by kernel_rfl) rfl (by decide) (fun a S => ?_)
  refine leafL (leafT (hK1 _ _ ?_))
  refine sSeq (fun K3 hK3 => ?_)
  refine sRegion ?_
  refine sLoadN (p := b2) (off := 0) (T := 41) (vs := [.int .u8 p0.System, .int .i64 p0.N.Num, .int .i64 p0.N.Den]) 0 [.int .u8 p0.System, .int .i64 p0.N.Num, .int .i64 p0.N.Den] S (wN rfl) rfl (by kernel_rfl) (by kernel_rfl) (by kernel_rfl) (by kernel_rfl) rfl rfl (by decide) (fun a S => ?_)
  refine sMove (.int .i64 p1) S (wN rfl) (.inl rfl) (by kernel_rfl) rfl (by decide) (fun a S => ?_)
  obtain ⟨r4, hx5, h⟩ := bindSome h
  refine sCall (X := Value) (f := 27) (vs := [.agg #[.int .u8 p0.System, .int .i64 p0.N.Num, .int .i64 p0.N.Den], .int .i64 p1]) (val := c_yarn_Weigh_val r4) (B' := fun _ => []) (D' := c_yarn_Weigh_D r4) [] [eBox b2 41 [.int .u8 p0.System, .int .i64 p0.N.Num, .int .i64 p0.N.Den]] [fRep r_api_Count (.agg #[.int .u8 p0.System, .int .i64 p0.N.Num, .int .i64 p0.N.Den]) p0] [0] [0] S (wN rfl) rfl callee27 (by kernel_rfl) (by decide) (by kernel_rfl) (by kernel_rfl) (fun E1 w1 S1 => c_yarn_Weigh E1 w1 p0 (.agg #[.int .u8 p0.System, .int .i64 p0.N.Num, .int .i64 p0.N.Den]) p1 r4 hx5 S1) rfl (by decide) (fun u6 a w S => ?_)
  obtain rfl : u6 = .agg #[.int .i64 r4.1.Num, .int .i64 r4.1.Den] := S.mem.know (i := 0) (e := fRep r_api_Ratio (u6) r4.1) (by kernel_rfl)
  refine sMove (.tuple #[.agg #[.int .i64 r4.1.Num, .int .i64 r4.1.Den], .int .i64 r4.2]) S (wN rfl) (.inl rfl) (by kernel_rfl) rfl (by decide) (fun a S => ?_)
  refine sExtract (vs := [.agg #[.int .i64 r4.1.Num, .int .i64 r4.1.Den], .int .i64 r4.2]) (.agg #[.int .i64 r4.1.Num, .int .i64 r4.1.Den]) S (wN rfl) rfl (by kernel_rfl) rfl rfl (by decide) (fun a S => ?_)
  refine sExtract (vs := [.agg #[.int .i64 r4.1.Num, .int .i64 r4.1.Den], .int .i64 r4.2]) (.int .i64 r4.2) S (wN rfl) rfl (by kernel_rfl) rfl rfl (by decide) (fun a S => ?_)
  refine sAlloc (.agg #[.int .i64 0, .int .i64 0]) S (wN rfl) rfl (by kernel_rfl) [.int .i64 0, .int .i64 0] rfl rfl (by decide) (fun a b7 w S => ?_)
  refine sStore (p := b7) (off := 0) (T := 23) (vs := [.int .i64 0, .int .i64 0]) (v := .agg #[.int .i64 r4.1.Num, .int .i64 r4.1.Den]) 0 [.int .i64 r4.1.Num, .int .i64 r4.1.Den] S (wN rfl) rfl (by kernel_rfl) (by kernel_rfl) rfl (by kernel_rfl) (by kernel_rfl) rfl (by simp) rfl (fun a w S => ?_)
  refine sMove (.int .i64 r4.2) S (wN rfl) (.inr rfl) (by kernel_rfl) rfl (by decide) (fun a S => ?_)
  refine leafL (leafT (hK3 _ _ ?_))
  refine sSeq (fun K8 hK8 => ?_)
  refine sRegion ?_
  refine sLoadN (p := b2) (off := 0) (T := 41) (vs := [.int .u8 p0.System, .int .i64 p0.N.Num, .int .i64 p0.N.Den]) 1 [.int .u8 p0.System, .int .i64 p0.N.Num, .int .i64 p0.N.Den] S (wN rfl) rfl (by kernel_rfl) (by kernel_rfl) (by kernel_rfl) (by kernel_rfl) rfl rfl (by decide) (fun a S => ?_)
  refine sMove (.int .i64 p1) S (wN rfl) (.inl rfl) (by kernel_rfl) rfl (by decide) (fun a S => ?_)
  obtain ⟨r9, hx10, h⟩ := bindSome h
  refine sCall (X := Value) (f := 28) (vs := [.agg #[.int .u8 p0.System, .int .i64 p0.N.Num, .int .i64 p0.N.Den], .int .i64 p1]) (val := c_raddleref23_Weigh_val r9) (B' := fun _ => []) (D' := c_raddleref23_Weigh_D r9) [] [eBox b7 23 [.int .i64 r4.1.Num, .int .i64 r4.1.Den], eBox b2 41 [.int .u8 p0.System, .int .i64 p0.N.Num, .int .i64 p0.N.Den]] [fRep r_api_Count (.agg #[.int .u8 p0.System, .int .i64 p0.N.Num, .int .i64 p0.N.Den]) p0] [0, 1] [1] S (wN rfl) rfl callee28 (by kernel_rfl) (by decide) (by kernel_rfl) (by kernel_rfl) (fun E1 w1 S1 => c_raddleref23_Weigh E1 w1 p0 (.agg #[.int .u8 p0.System, .int .i64 p0.N.Num, .int .i64 p0.N.Den]) p1 r9 hx10 S1) rfl (by decide) (fun u11 a w S => ?_)
  obtain rfl : u11 = .agg #[.int .i64 r9.1.Num, .int .i64 r9.1.Den] := S.mem.know (i := 0) (e := fRep r_api_Ratio (u11) r9.1) (by kernel_rfl)
  refine sMove (.tuple #[.agg #[.int .i64 r9.1.Num, .int .i64 r9.1.Den], .int .i64 r9.2]) S (wN rfl) (.inl rfl) (by kernel_rfl) rfl (by decide) (fun a S => ?_)
  refine sExtract (vs := [.agg #[.int .i64 r9.1.Num, .int .i64 r9.1.Den], .int .i64 r9.2]) (.agg #[.int .i64 r9.1.Num, .int .i64 r9.1.Den]) S (wN rfl) rfl (by kernel_rfl) rfl rfl (by decide) (fun a S => ?_)
  refine sExtract (vs := [.agg #[.int .i64 r9.1.Num, .int .i64 r9.1.Den], .int .i64 r9.2]) (.int .i64 r9.2) S (wN rfl) rfl (by kernel_rfl) rfl rfl (by decide) (fun a S => ?_)
  refine sAlloc (.agg #[.int .i64 0, .int .i64 0]) S (wN rfl) rfl (by kernel_rfl) [.int .i64 0, .int .i64 0] rfl rfl (by decide) (fun a b12 w S => ?_)
  refine sStore (p := b12) (off := 0) (T := 23) (vs := [.int .i64 0, .int .i64 0]) (v := .agg #[.int .i64 r9.1.Num, .int .i64 r9.1.Den]) 0 [.int .i64 r9.1.Num, .int .i64 r9.1.Den] S (wN rfl) rfl (by kernel_rfl) (by kernel_rfl) rfl (by kernel_rfl) (by kernel_rfl) rfl (by simp) rfl (fun a w S => ?_)
  refine sMove (.int .i64 r9.2) S (wN rfl) (.inr rfl) (by kernel_rfl) rfl (by decide) (fun a S => ?_)
  refine leafL (leafT (hK8 _ _ ?_))
  refine sSeq (fun K13 hK13 => ?_)
  refine sRegion ?_
  refine sLoadN (p := b2) (off := 0) (T := 41) (vs := [.int .u8 p0.System, .int .i64 p0.N.Num, .int .i64 p0.N.Den]) 2 [.int .u8 p0.System, .int .i64 p0.N.Num, .int .i64 p0.N.Den] S (wN rfl) rfl (by kernel_rfl) (by kernel_rfl) (by kernel_rfl) (by kernel_rfl) rfl rfl (by decide) (fun a S => ?_)
  refine sMove (.int .i64 p2) S (wN rfl) (.inl rfl) (by kernel_rfl) rfl (by decide) (fun a S => ?_)
  obtain ⟨r14, hx15, h⟩ := bindSome h
  refine sCall (X := Value) (f := 29) (vs := [.agg #[.int .u8 p0.System, .int .i64 p0.N.Num, .int .i64 p0.N.Den], .int .i64 p2]) (val := c_yarn_Reach_val r14) (B' := fun _ => []) (D' := c_yarn_Reach_D r14) [] [eBox b12 23 [.int .i64 r9.1.Num, .int .i64 r9.1.Den], eBox b7 23 [.int .i64 r4.1.Num, .int .i64 r4.1.Den], eBox b2 41 [.int .u8 p0.System, .int .i64 p0.N.Num, .int .i64 p0.N.Den]] [fRep r_api_Count (.agg #[.int .u8 p0.System, .int .i64 p0.N.Num, .int .i64 p0.N.Den]) p0] [0, 1, 2] [2] S (wN rfl) rfl callee29 (by kernel_rfl) (by decide) (by kernel_rfl) (by kernel_rfl) (fun E1 w1 S1 => c_yarn_Reach E1 w1 p0 (.agg #[.int .u8 p0.System, .int .i64 p0.N.Num, .int .i64 p0.N.Den]) p2 r14 hx15 S1) rfl (by decide) (fun u16 a w S => ?_)
  obtain rfl : u16 = .agg #[.int .i64 r14.1.Num, .int .i64 r14.1.Den] := S.mem.know (i := 0) (e := fRep r_api_Ratio (u16) r14.1) (by kernel_rfl)
  refine sMove (.tuple #[.agg #[.int .i64 r14.1.Num, .int .i64 r14.1.Den], .int .i64 r14.2]) S (wN rfl) (.inl rfl) (by kernel_rfl) rfl (by decide) (fun a S => ?_)
  refine sExtract (vs := [.agg #[.int .i64 r14.1.Num, .int .i64 r14.1.Den], .int .i64 r14.2]) (.agg #[.int .i64 r14.1.Num, .int .i64 r14.1.Den]) S (wN rfl) rfl (by kernel_rfl) rfl rfl (by decide) (fun a S => ?_)
  refine sExtract (vs := [.agg #[.int .i64 r14.1.Num, .int .i64 r14.1.Den], .int .i64 r14.2]) (.int .i64 r14.2) S (wN rfl) rfl (by kernel_rfl) rfl rfl (by decide) (fun a S => ?_)
  refine sAlloc (.agg #[.int .i64 0, .int .i64 0]) S (wN rfl) rfl (by kernel_rfl) [.int .i64 0, .int .i64 0] rfl rfl (by decide) (fun a b17 w S => ?_)
  refine sStore (p := b17) (off := 0) (T := 23) (vs := [.int .i64 0, .int .i64 0]) (v := .agg #[.int .i64 r14.1.Num, .int .i64 r14.1.Den]) 0 [.int .i64 r14.1.Num, .int .i64 r14.1.Den] S (wN rfl) rfl (by kernel_rfl) (by kernel_rfl) rfl (by kernel_rfl) (by kernel_rfl) rfl (by simp) rfl (fun a w S => ?_)
  refine sMove (.int .i64 r14.2) S (wN rfl) (.inr rfl) (by kernel_rfl) rfl (by decide) (fun a S => ?_)
  refine leafL (leafT (hK13 _ _ ?_))
  refine sSeq (fun K18 hK18 => ?_)
  refine sRegion ?_
  refine sLoadN (p := b2) (off := 0) (T := 41) (vs := [.int .u8 p0.System, .int .i64 p0.N.Num, .int .i64 p0.N.Den]) 3 [.int .u8 p0.System, .int .i64 p0.N.Num, .int .i64 p0.N.Den] S (wN rfl) rfl (by kernel_rfl) (by kernel_rfl) (by kernel_rfl) (by kernel_rfl) rfl rfl (by decide) (fun a S => ?_)
  refine sMove (.int .i64 p2) S (wN rfl) (.inl rfl) (by kernel_rfl) rfl (by decide) (fun a S => ?_)
  obtain ⟨r19, hx20, h⟩ := bindSome h
  refine sCall (X := Value) (f := 30) (vs := [.agg #[.int .u8 p0.System, .int .i64 p0.N.Num, .int .i64 p0.N.Den], .int .i64 p2]) (val := c_raddleref23_Reach_val r19) (B' := fun _ => []) (D' := c_raddleref23_Reach_D r19) [] [eBox b17 23 [.int .i64 r14.1.Num, .int .i64 r14.1.Den], eBox b12 23 [.int .i64 r9.1.Num, .int .i64 r9.1.Den], eBox b7 23 [.int .i64 r4.1.Num, .int .i64 r4.1.Den], eBox b2 41 [.int .u8 p0.System, .int .i64 p0.N.Num, .int .i64 p0.N.Den]] [fRep r_api_Count (.agg #[.int .u8 p0.System, .int .i64 p0.N.Num, .int .i64 p0.N.Den]) p0] [0, 1, 2, 3] [3] S (wN rfl) rfl callee30 (by kernel_rfl) (by decide) (by kernel_rfl) (by kernel_rfl) (fun E1 w1 S1 => c_raddleref23_Reach E1 w1 p0 (.agg #[.int .u8 p0.System, .int .i64 p0.N.Num, .int .i64 p0.N.Den]) p2 r19 hx20 S1) rfl (by decide) (fun u21 a w S => ?_)
  obtain rfl : u21 = .agg #[.int .i64 r19.1.Num, .int .i64 r19.1.Den] := S.mem.know (i := 0) (e := fRep r_api_Ratio (u21) r19.1) (by kernel_rfl)
  refine sMove (.tuple #[.agg #[.int .i64 r19.1.Num, .int .i64 r19.1.Den], .int .i64 r19.2]) S (wN rfl) (.inl rfl) (by kernel_rfl) rfl (by decide) (fun a S => ?_)
  refine sExtract (vs := [.agg #[.int .i64 r19.1.Num, .int .i64 r19.1.Den], .int .i64 r19.2]) (.agg #[.int .i64 r19.1.Num, .int .i64 r19.1.Den]) S (wN rfl) rfl (by kernel_rfl) rfl rfl (by decide) (fun a S => ?_)
  refine sExtract (vs := [.agg #[.int .i64 r19.1.Num, .int .i64 r19.1.Den], .int .i64 r19.2]) (.int .i64 r19.2) S (wN rfl) rfl (by kernel_rfl) rfl rfl (by decide) (fun a S => ?_)
  refine sAlloc (.agg #[.int .i64 0, .int .i64 0]) S (wN rfl) rfl (by kernel_rfl) [.int .i64 0, .int .i64 0] rfl rfl (by decide) (fun a b22 w S => ?_)
  refine sStore (p := b22) (off := 0) (T := 23) (vs := [.int .i64 0, .int .i64 0]) (v := .agg #[.int .i64 r19.1.Num, .int .i64 r19.1.Den]) 0 [.int .i64 r19.1.Num, .int .i64 r19.1.Den] S (wN rfl) rfl (by kernel_rfl) (by kernel_rfl) rfl (by kernel_rfl) (by kernel_rfl) rfl (by simp) rfl (fun a w S => ?_)
  refine sMove (.int .i64 r19.2) S (wN rfl) (.inr rfl) (by kernel_rfl) rfl (by decide) (fun a S => ?_)
  refine leafL (leafT (hK18 _ _ ?_))
  refine sSeq (fun K23 hK23 => ?_)
  refine sRegion ?_
  refine sLoadN (p := b2) (off := 0) (T := 41) (vs := [.int .u8 p0.System, .int .i64 p0.N.Num, .int .i64 p0.N.Den]) 4 [.int .u8 p0.System, .int .i64 p0.N.Num, .int .i64 p0.N.Den] S (wN rfl) rfl (by kernel_rfl) (by kernel_rfl) (by kernel_rfl) (by kernel_rfl) rfl rfl (by decide) (fun a S => ?_)
  refine sMove (.int .i64 p1) S (wN rfl) (.inl rfl) (by kernel_rfl) rfl (by decide) (fun a S => ?_)
  refine sMove (.int .i64 p2) S (wN rfl) (.inl rfl) (by kernel_rfl) rfl (by decide) (fun a S => ?_)
  obtain ⟨r24, hx25, h⟩ := bindSome h
  have S1 := S.mem
  refine sCallQ (X := Unit) (f := 31) (vs := [.agg #[.int .u8 p0.System, .int .i64 p0.N.Num, .int .i64 p0.N.Den], .int .i64 p1, .int .i64 p2]) (val := fun _ => .tuple #[.int .i64 r24.1, .int .i64 r24.2]) S (wN rfl) rfl callee31 (by kernel_rfl) (S1.quiet [4] (by kernel_rfl)) (fun E1 w1 S1 => c_yarn_Skeins E1 w1 p0 (.agg #[.int .u8 p0.System, .int .i64 p0.N.Num, .int .i64 p0.N.Den]) p1 p2 r24 hx25 S1) rfl (by decide) (fun _ a w S => ?_)
  refine sMove (.tuple #[.int .i64 r24.1, .int .i64 r24.2]) S (wN rfl) (.inl rfl) (by kernel_rfl) rfl (by decide) (fun a S => ?_)
  refine sExtract (vs := [.int .i64 r24.1, .int .i64 r24.2]) (.int .i64 r24.1) S (wN rfl) rfl (by kernel_rfl) rfl rfl (by decide) (fun a S => ?_)
  refine sExtract (vs := [.int .i64 r24.1, .int .i64 r24.2]) (.int .i64 r24.2) S (wN rfl) rfl (by kernel_rfl) rfl rfl (by decide) (fun a S => ?_)
  refine sMove (.int .i64 r24.1) S (wN rfl) (.inr rfl) (by kernel_rfl) rfl (by decide) (fun a S => ?_)
  refine sMove (.int .i64 r24.2) S (wN rfl) (.inr rfl) (by kernel_rfl) rfl (by decide) (fun a S => ?_)
  refine leafL (leafT (hK23 _ _ ?_))
  refine sSeq (fun K26 hK26 => ?_)
  refine sRegion ?_
  refine sLoadN (p := b2) (off := 0) (T := 41) (vs := [.int .u8 p0.System, .int .i64 p0.N.Num, .int .i64 p0.N.Den]) 4 [.int .u8 p0.System, .int .i64 p0.N.Num, .int .i64 p0.N.Den] S (wN rfl) rfl (by kernel_rfl) (by kernel_rfl) (by kernel_rfl) (by kernel_rfl) rfl rfl (by decide) (fun a S => ?_)
  refine sMove (.int .i64 p1) S (wN rfl) (.inl rfl) (by kernel_rfl) rfl (by decide) (fun a S => ?_)
  refine sMove (.int .i64 p2) S (wN rfl) (.inl rfl) (by kernel_rfl) rfl (by decide) (fun a S => ?_)
  obtain ⟨r27, hx28, h⟩ := bindSome h
  have S1 := S.mem
  refine sCallQ (X := Unit) (f := 32) (vs := [.agg #[.int .u8 p0.System, .int .i64 p0.N.Num, .int .i64 p0.N.Den], .int .i64 p1, .int .i64 p2]) (val := fun _ => .tuple #[.int .i64 r27.1, .int .i64 r27.2]) S (wN rfl) rfl callee32 (by kernel_rfl) (S1.quiet [4] (by kernel_rfl)) (fun E1 w1 S1 => c_raddleref23_Skeins E1 w1 p0 (.agg #[.int .u8 p0.System, .int .i64 p0.N.Num, .int .i64 p0.N.Den]) p1 p2 r27 hx28 S1) rfl (by decide) (fun _ a w S => ?_)
  refine sMove (.tuple #[.int .i64 r27.1, .int .i64 r27.2]) S (wN rfl) (.inl rfl) (by kernel_rfl) rfl (by decide) (fun a S => ?_)
  refine sExtract (vs := [.int .i64 r27.1, .int .i64 r27.2]) (.int .i64 r27.1) S (wN rfl) rfl (by kernel_rfl) rfl rfl (by decide) (fun a S => ?_)
  refine sExtract (vs := [.int .i64 r27.1, .int .i64 r27.2]) (.int .i64 r27.2) S (wN rfl) rfl (by kernel_rfl) rfl rfl (by decide) (fun a S => ?_)
  refine sMove (.int .i64 r27.1) S (wN rfl) (.inr rfl) (by kernel_rfl) rfl (by decide) (fun a S => ?_)
  refine sMove (.int .i64 r27.2) S (wN rfl) (.inr rfl) (by kernel_rfl) rfl (by decide) (fun a S => ?_)
  refine leafL (leafT (hK26 _ _ ?_))
  obtain ⟨t30, h, g31⟩ := bindSome h
  refine sCut (fun a w => ∃ o29, o29 = t30 ∧ St E [] w0 85 a w [(6, .bool o29)] [] []) ?_ (fun a w hI => ?_)
  · refine sRegion ?_
    refine sLoadN (p := b7) (off := 0) (T := 23) (vs := [.int .i64 r4.1.Num, .int .i64 r4.1.Den]) 3 [.int .i64 r4.1.Num, .int .i64 r4.1.Den] S (wN rfl) rfl (by kernel_rfl) (by kernel_rfl) (by kernel_rfl) (by kernel_rfl) rfl rfl (by decide) (fun a S => ?_)
    refine sLoadN (p := b12) (off := 0) (T := 23) (vs := [.int .i64 r9.1.Num, .int .i64 r9.1.Den]) 2 [.int .i64 r9.1.Num, .int .i64 r9.1.Den] S (wN rfl) rfl (by kernel_rfl) (by kernel_rfl) (by kernel_rfl) (by kernel_rfl) rfl rfl (by decide) (fun a S => ?_)
    refine sBin (.bool ((r4.1.Num == r9.1.Num) && ((r4.1.Den == r9.1.Den) && true))) S (wN rfl) rfl (by kernel_rfl) (by kernel_rfl) (bEqV _ _ _ _ #[.int .i64 r4.1.Num, .int .i64 r4.1.Den] #[.int .i64 r9.1.Num, .int .i64 r9.1.Den] ((r4.1.Num == r9.1.Num) && ((r4.1.Den == r9.1.Den) && true)) (by kernel_rfl) (eqlV_of (by kernel_rfl))) rfl (by decide) (fun a S => ?_)
    refine sMove (.bool ((r4.1.Num == r9.1.Num) && ((r4.1.Den == r9.1.Den) && true))) S (wN rfl) (.inl rfl) (by kernel_rfl) rfl (by decide) (fun a S => ?_)
    rcases iteSome h with ⟨hc32, h⟩ | ⟨hc32, h⟩
    · refine sMove (.int .i64 r4.2) S (wG (c := ((r4.1.Num == r9.1.Num) && ((r4.1.Den == r9.1.Den) && true))) 3 true 60 rfl rfl (by kernel_rfl) hc32) (.inl rfl) (by kernel_rfl) rfl (by decide) (fun a S => ?_)
      refine sMove (.int .i64 r9.2) S (wG (c := ((r4.1.Num == r9.1.Num) && ((r4.1.Den == r9.1.Den) && true))) 3 true 60 rfl rfl (by kernel_rfl) hc32) (.inl rfl) (by kernel_rfl) rfl (by decide) (fun a S => ?_)
      refine sBin (.bool (r4.2 == r9.2)) S (wG (c := ((r4.1.Num == r9.1.Num) && ((r4.1.Den == r9.1.Den) && true))) 3 true 60 rfl rfl (by kernel_rfl) hc32) rfl (by kernel_rfl) (by kernel_rfl) (bEq _ _ _ _ .i64 r4.2 r9.2) rfl (by decide) (fun a S => ?_)
      refine sPickT (b := ((r4.1.Num == r9.1.Num) && ((r4.1.Den == r9.1.Den) && true))) (.bool (r4.2 == r9.2)) S (wN rfl) rfl (by kernel_rfl) hc32 (by kernel_rfl) rfl (by decide) (fun a S => ?_)
      refine sMove (.bool (r4.2 == r9.2)) S (wN rfl) (.inl rfl) (by kernel_rfl) rfl (by decide) (fun a S => ?_)
      rcases iteSome h with ⟨hc33, h⟩ | ⟨hc33, h⟩
      · refine sLoadN (p := b17) (off := 0) (T := 23) (vs := [.int .i64 r14.1.Num, .int .i64 r14.1.Den]) 1 [.int .i64 r14.1.Num, .int .i64 r14.1.Den] S (wG (c := r4.2 == r9.2) 8 true 65 rfl rfl (by kernel_rfl) hc33) rfl (by kernel_rfl) (by kernel_rfl) (by kernel_rfl) (by kernel_rfl) rfl rfl (by decide) (fun a S => ?_)
        refine sLoadN (p := b22) (off := 0) (T := 23) (vs := [.int .i64 r19.1.Num, .int .i64 r19.1.Den]) 0 [.int .i64 r19.1.Num, .int .i64 r19.1.Den] S (wG (c := r4.2 == r9.2) 8 true 65 rfl rfl (by kernel_rfl) hc33) rfl (by kernel_rfl) (by kernel_rfl) (by kernel_rfl) (by kernel_rfl) rfl rfl (by decide) (fun a S => ?_)
        refine sBin (.bool ((r14.1.Num == r19.1.Num) && ((r14.1.Den == r19.1.Den) && true))) S (wG (c := r4.2 == r9.2) 8 true 65 rfl rfl (by kernel_rfl) hc33) rfl (by kernel_rfl) (by kernel_rfl) (bEqV _ _ _ _ #[.int .i64 r14.1.Num, .int .i64 r14.1.Den] #[.int .i64 r19.1.Num, .int .i64 r19.1.Den] ((r14.1.Num == r19.1.Num) && ((r14.1.Den == r19.1.Den) && true)) (by kernel_rfl) (eqlV_of (by kernel_rfl))) rfl (by decide) (fun a S => ?_)
        refine sPickT (b := r4.2 == r9.2) (.bool ((r14.1.Num == r19.1.Num) && ((r14.1.Den == r19.1.Den) && true))) S (wN rfl) rfl (by kernel_rfl) hc33 (by kernel_rfl) rfl (by decide) (fun a S => ?_)
        refine sMove (.bool ((r14.1.Num == r19.1.Num) && ((r14.1.Den == r19.1.Den) && true))) S (wN rfl) (.inl rfl) (by kernel_rfl) rfl (by decide) (fun a S => ?_)
        rcases iteSome h with ⟨hc34, h⟩ | ⟨hc34, h⟩
        · refine sMove (.int .i64 r14.2) S (wG (c := ((r14.1.Num == r19.1.Num) && ((r14.1.Den == r19.1.Den) && true))) 13 true 70 rfl rfl (by kernel_rfl) hc34) (.inl rfl) (by kernel_rfl) rfl (by decide) (fun a S => ?_)
          refine sMove (.int .i64 r19.2) S (wG (c := ((r14.1.Num == r19.1.Num) && ((r14.1.Den == r19.1.Den) && true))) 13 true 70 rfl rfl (by kernel_rfl) hc34) (.inl rfl) (by kernel_rfl) rfl (by decide) (fun a S => ?_)
          refine sBin (.bool (r14.2 == r19.2)) S (wG (c := ((r14.1.Num == r19.1.Num) && ((r14.1.Den == r19.1.Den) && true))) 13 true 70 rfl rfl (by kernel_rfl) hc34) rfl (by kernel_rfl) (by kernel_rfl) (bEq _ _ _ _ .i64 r14.2 r19.2) rfl (by decide) (fun a S => ?_)
          refine sPickT (b := ((r14.1.Num == r19.1.Num) && ((r14.1.Den == r19.1.Den) && true))) (.bool (r14.2 == r19.2)) S (wN rfl) rfl (by kernel_rfl) hc34 (by kernel_rfl) rfl (by decide) (fun a S => ?_)
          refine sMove (.bool (r14.2 == r19.2)) S (wN rfl) (.inl rfl) (by kernel_rfl) rfl (by decide) (fun a S => ?_)
          rcases iteSome h with ⟨hc35, h⟩ | ⟨hc35, h⟩
          · refine sMove (.int .i64 r24.1) S (wG (c := r14.2 == r19.2) 18 true 75 rfl rfl (by kernel_rfl) hc35) (.inl rfl) (by kernel_rfl) rfl (by decide) (fun a S => ?_)
            refine sMove (.int .i64 r27.1) S (wG (c := r14.2 == r19.2) 18 true 75 rfl rfl (by kernel_rfl) hc35) (.inl rfl) (by kernel_rfl) rfl (by decide) (fun a S => ?_)
            refine sBin (.bool (r24.1 == r27.1)) S (wG (c := r14.2 == r19.2) 18 true 75 rfl rfl (by kernel_rfl) hc35) rfl (by kernel_rfl) (by kernel_rfl) (bEq _ _ _ _ .i64 r24.1 r27.1) rfl (by decide) (fun a S => ?_)
            refine sPickT (b := r14.2 == r19.2) (.bool (r24.1 == r27.1)) S (wN rfl) rfl (by kernel_rfl) hc35 (by kernel_rfl) rfl (by decide) (fun a S => ?_)
            refine sMove (.bool (r24.1 == r27.1)) S (wN rfl) (.inl rfl) (by kernel_rfl) rfl (by decide) (fun a S => ?_)
            rcases iteSome h with ⟨hc36, h⟩ | ⟨hc36, h⟩
            · refine sMove (.int .i64 r24.2) S (wG (c := r24.1 == r27.1) 23 true 80 rfl rfl (by kernel_rfl) hc36) (.inl rfl) (by kernel_rfl) rfl (by decide) (fun a S => ?_)
              refine sMove (.int .i64 r27.2) S (wG (c := r24.1 == r27.1) 23 true 80 rfl rfl (by kernel_rfl) hc36) (.inl rfl) (by kernel_rfl) rfl (by decide) (fun a S => ?_)
              refine sBin (.bool (r24.2 == r27.2)) S (wG (c := r24.1 == r27.1) 23 true 80 rfl rfl (by kernel_rfl) hc36) rfl (by kernel_rfl) (by kernel_rfl) (bEq _ _ _ _ .i64 r24.2 r27.2) rfl (by decide) (fun a S => ?_)
              refine sPickT (b := r24.1 == r27.1) (.bool (r24.2 == r27.2)) S (wN rfl) rfl (by kernel_rfl) hc36 (by kernel_rfl) rfl (by decide) (fun a S => ?_)
              refine sMove (.bool (r24.2 == r27.2)) S (wN rfl) (.inr rfl) (by kernel_rfl) rfl (by decide) (fun a S => ?_)
              exact leafL (leafT (⟨r24.2 == r27.2, Option.some.inj h, S.fix [] [] (by decide) (by kernel_rfl) (by kernel_rfl) (by kernel_rfl)⟩))
            · refine sSkip (c := r24.1 == r27.1) 23 true 80 81 S rfl rfl (by kernel_rfl) hc36 rfl (by decide) (fun a S => ?_)
              refine sSkip (c := r24.1 == r27.1) 23 true 80 82 S rfl rfl (by kernel_rfl) hc36 rfl (by decide) (fun a S => ?_)
              refine sSkip (c := r24.1 == r27.1) 23 true 80 83 S rfl rfl (by kernel_rfl) hc36 rfl (by decide) (fun a S => ?_)
              refine sPickF (b := r24.1 == r27.1) (.bool false) S (wN rfl) rfl (by kernel_rfl) hc36 (by kernel_rfl) rfl (by decide) (fun a S => ?_)
              refine sMove (.bool false) S (wN rfl) (.inr rfl) (by kernel_rfl) rfl (by decide) (fun a S => ?_)
              exact leafL (leafT (⟨false, Option.some.inj h, S.fix [] [] (by decide) (by kernel_rfl) (by kernel_rfl) (by kernel_rfl)⟩))
          · refine sSkip (c := r14.2 == r19.2) 18 true 75 76 S rfl rfl (by kernel_rfl) hc35 rfl (by decide) (fun a S => ?_)
            refine sSkip (c := r14.2 == r19.2) 18 true 75 77 S rfl rfl (by kernel_rfl) hc35 rfl (by decide) (fun a S => ?_)
            refine sSkip (c := r14.2 == r19.2) 18 true 75 78 S rfl rfl (by kernel_rfl) hc35 rfl (by decide) (fun a S => ?_)
            refine sPickF (b := r14.2 == r19.2) (.bool false) S (wN rfl) rfl (by kernel_rfl) hc35 (by kernel_rfl) rfl (by decide) (fun a S => ?_)
            refine sMove (.bool false) S (wN rfl) (.inl rfl) (by kernel_rfl) rfl (by decide) (fun a S => ?_)
            refine sSkip (c := false) 23 true 80 81 S rfl rfl (by kernel_rfl) rfl rfl (by decide) (fun a S => ?_)
            refine sSkip (c := false) 23 true 80 82 S rfl rfl (by kernel_rfl) rfl rfl (by decide) (fun a S => ?_)
            refine sSkip (c := false) 23 true 80 83 S rfl rfl (by kernel_rfl) rfl rfl (by decide) (fun a S => ?_)
            refine sPickF (b := false) (.bool false) S (wN rfl) rfl (by kernel_rfl) rfl (by kernel_rfl) rfl (by decide) (fun a S => ?_)
            refine sMove (.bool false) S (wN rfl) (.inr rfl) (by kernel_rfl) rfl (by decide) (fun a S => ?_)
            exact leafL (leafT (⟨false, Option.some.inj h, S.fix [] [] (by decide) (by kernel_rfl) (by kernel_rfl) (by kernel_rfl)⟩))
        · refine sSkip (c := ((r14.1.Num == r19.1.Num) && ((r14.1.Den == r19.1.Den) && true))) 13 true 70 71 S rfl rfl (by kernel_rfl) hc34 rfl (by decide) (fun a S => ?_)
          refine sSkip (c := ((r14.1.Num == r19.1.Num) && ((r14.1.Den == r19.1.Den) && true))) 13 true 70 72 S rfl rfl (by kernel_rfl) hc34 rfl (by decide) (fun a S => ?_)
          refine sSkip (c := ((r14.1.Num == r19.1.Num) && ((r14.1.Den == r19.1.Den) && true))) 13 true 70 73 S rfl rfl (by kernel_rfl) hc34 rfl (by decide) (fun a S => ?_)
          refine sPickF (b := ((r14.1.Num == r19.1.Num) && ((r14.1.Den == r19.1.Den) && true))) (.bool false) S (wN rfl) rfl (by kernel_rfl) hc34 (by kernel_rfl) rfl (by decide) (fun a S => ?_)
          refine sMove (.bool false) S (wN rfl) (.inl rfl) (by kernel_rfl) rfl (by decide) (fun a S => ?_)
          refine sSkip (c := false) 18 true 75 76 S rfl rfl (by kernel_rfl) rfl rfl (by decide) (fun a S => ?_)
          refine sSkip (c := false) 18 true 75 77 S rfl rfl (by kernel_rfl) rfl rfl (by decide) (fun a S => ?_)
          refine sSkip (c := false) 18 true 75 78 S rfl rfl (by kernel_rfl) rfl rfl (by decide) (fun a S => ?_)
          refine sPickF (b := false) (.bool false) S (wN rfl) rfl (by kernel_rfl) rfl (by kernel_rfl) rfl (by decide) (fun a S => ?_)
          refine sMove (.bool false) S (wN rfl) (.inl rfl) (by kernel_rfl) rfl (by decide) (fun a S => ?_)
          refine sSkip (c := false) 23 true 80 81 S rfl rfl (by kernel_rfl) rfl rfl (by decide) (fun a S => ?_)
          refine sSkip (c := false) 23 true 80 82 S rfl rfl (by kernel_rfl) rfl rfl (by decide) (fun a S => ?_)
          refine sSkip (c := false) 23 true 80 83 S rfl rfl (by kernel_rfl) rfl rfl (by decide) (fun a S => ?_)
          refine sPickF (b := false) (.bool false) S (wN rfl) rfl (by kernel_rfl) rfl (by kernel_rfl) rfl (by decide) (fun a S => ?_)
          refine sMove (.bool false) S (wN rfl) (.inr rfl) (by kernel_rfl) rfl (by decide) (fun a S => ?_)
          exact leafL (leafT (⟨false, Option.some.inj h, S.fix [] [] (by decide) (by kernel_rfl) (by kernel_rfl) (by kernel_rfl)⟩))
      · refine sSkip (c := r4.2 == r9.2) 8 true 65 66 S rfl rfl (by kernel_rfl) hc33 rfl (by decide) (fun a S => ?_)
        refine sSkip (c := r4.2 == r9.2) 8 true 65 67 S rfl rfl (by kernel_rfl) hc33 rfl (by decide) (fun a S => ?_)
        refine sSkip (c := r4.2 == r9.2) 8 true 65 68 S rfl rfl (by kernel_rfl) hc33 rfl (by decide) (fun a S => ?_)
        refine sPickF (b := r4.2 == r9.2) (.bool false) S (wN rfl) rfl (by kernel_rfl) hc33 (by kernel_rfl) rfl (by decide) (fun a S => ?_)
        refine sMove (.bool false) S (wN rfl) (.inl rfl) (by kernel_rfl) rfl (by decide) (fun a S => ?_)
        refine sSkip (c := false) 13 true 70 71 S rfl rfl (by kernel_rfl) rfl rfl (by decide) (fun a S => ?_)
        refine sSkip (c := false) 13 true 70 72 S rfl rfl (by kernel_rfl) rfl rfl (by decide) (fun a S => ?_)
        refine sSkip (c := false) 13 true 70 73 S rfl rfl (by kernel_rfl) rfl rfl (by decide) (fun a S => ?_)
        refine sPickF (b := false) (.bool false) S (wN rfl) rfl (by kernel_rfl) rfl (by kernel_rfl) rfl (by decide) (fun a S => ?_)
        refine sMove (.bool false) S (wN rfl) (.inl rfl) (by kernel_rfl) rfl (by decide) (fun a S => ?_)
        refine sSkip (c := false) 18 true 75 76 S rfl rfl (by kernel_rfl) rfl rfl (by decide) (fun a S => ?_)
        refine sSkip (c := false) 18 true 75 77 S rfl rfl (by kernel_rfl) rfl rfl (by decide) (fun a S => ?_)
        refine sSkip (c := false) 18 true 75 78 S rfl rfl (by kernel_rfl) rfl rfl (by decide) (fun a S => ?_)
        refine sPickF (b := false) (.bool false) S (wN rfl) rfl (by kernel_rfl) rfl (by kernel_rfl) rfl (by decide) (fun a S => ?_)
        refine sMove (.bool false) S (wN rfl) (.inl rfl) (by kernel_rfl) rfl (by decide) (fun a S => ?_)
        refine sSkip (c := false) 23 true 80 81 S rfl rfl (by kernel_rfl) rfl rfl (by decide) (fun a S => ?_)
        refine sSkip (c := false) 23 true 80 82 S rfl rfl (by kernel_rfl) rfl rfl (by decide) (fun a S => ?_)
        refine sSkip (c := false) 23 true 80 83 S rfl rfl (by kernel_rfl) rfl rfl (by decide) (fun a S => ?_)
        refine sPickF (b := false) (.bool false) S (wN rfl) rfl (by kernel_rfl) rfl (by kernel_rfl) rfl (by decide) (fun a S => ?_)
        refine sMove (.bool false) S (wN rfl) (.inr rfl) (by kernel_rfl) rfl (by decide) (fun a S => ?_)
        exact leafL (leafT (⟨false, Option.some.inj h, S.fix [] [] (by decide) (by kernel_rfl) (by kernel_rfl) (by kernel_rfl)⟩))
    · refine sSkip (c := ((r4.1.Num == r9.1.Num) && ((r4.1.Den == r9.1.Den) && true))) 3 true 60 61 S rfl rfl (by kernel_rfl) hc32 rfl (by decide) (fun a S => ?_)
      refine sSkip (c := ((r4.1.Num == r9.1.Num) && ((r4.1.Den == r9.1.Den) && true))) 3 true 60 62 S rfl rfl (by kernel_rfl) hc32 rfl (by decide) (fun a S => ?_)
      refine sSkip (c := ((r4.1.Num == r9.1.Num) && ((r4.1.Den == r9.1.Den) && true))) 3 true 60 63 S rfl rfl (by kernel_rfl) hc32 rfl (by decide) (fun a S => ?_)
      refine sPickF (b := ((r4.1.Num == r9.1.Num) && ((r4.1.Den == r9.1.Den) && true))) (.bool false) S (wN rfl) rfl (by kernel_rfl) hc32 (by kernel_rfl) rfl (by decide) (fun a S => ?_)
      refine sMove (.bool false) S (wN rfl) (.inl rfl) (by kernel_rfl) rfl (by decide) (fun a S => ?_)
      refine sSkip (c := false) 8 true 65 66 S rfl rfl (by kernel_rfl) rfl rfl (by decide) (fun a S => ?_)
      refine sSkip (c := false) 8 true 65 67 S rfl rfl (by kernel_rfl) rfl rfl (by decide) (fun a S => ?_)
      refine sSkip (c := false) 8 true 65 68 S rfl rfl (by kernel_rfl) rfl rfl (by decide) (fun a S => ?_)
      refine sPickF (b := false) (.bool false) S (wN rfl) rfl (by kernel_rfl) rfl (by kernel_rfl) rfl (by decide) (fun a S => ?_)
      refine sMove (.bool false) S (wN rfl) (.inl rfl) (by kernel_rfl) rfl (by decide) (fun a S => ?_)
      refine sSkip (c := false) 13 true 70 71 S rfl rfl (by kernel_rfl) rfl rfl (by decide) (fun a S => ?_)
      refine sSkip (c := false) 13 true 70 72 S rfl rfl (by kernel_rfl) rfl rfl (by decide) (fun a S => ?_)
      refine sSkip (c := false) 13 true 70 73 S rfl rfl (by kernel_rfl) rfl rfl (by decide) (fun a S => ?_)
      refine sPickF (b := false) (.bool false) S (wN rfl) rfl (by kernel_rfl) rfl (by kernel_rfl) rfl (by decide) (fun a S => ?_)
      refine sMove (.bool false) S (wN rfl) (.inl rfl) (by kernel_rfl) rfl (by decide) (fun a S => ?_)
      refine sSkip (c := false) 18 true 75 76 S rfl rfl (by kernel_rfl) rfl rfl (by decide) (fun a S => ?_)
      refine sSkip (c := false) 18 true 75 77 S rfl rfl (by kernel_rfl) rfl rfl (by decide) (fun a S => ?_)
      refine sSkip (c := false) 18 true 75 78 S rfl rfl (by kernel_rfl) rfl rfl (by decide) (fun a S => ?_)
      refine sPickF (b := false) (.bool false) S (wN rfl) rfl (by kernel_rfl) rfl (by kernel_rfl) rfl (by decide) (fun a S => ?_)
      refine sMove (.bool false) S (wN rfl) (.inl rfl) (by kernel_rfl) rfl (by decide) (fun a S => ?_)
      refine sSkip (c := false) 23 true 80 81 S rfl rfl (by kernel_rfl) rfl rfl (by decide) (fun a S => ?_)
      refine sSkip (c := false) 23 true 80 82 S rfl rfl (by kernel_rfl) rfl rfl (by decide) (fun a S => ?_)
      refine sSkip (c := false) 23 true 80 83 S rfl rfl (by kernel_rfl) rfl rfl (by decide) (fun a S => ?_)
      refine sPickF (b := false) (.bool false) S (wN rfl) rfl (by kernel_rfl) rfl (by kernel_rfl) rfl (by decide) (fun a S => ?_)
      refine sMove (.bool false) S (wN rfl) (.inr rfl) (by kernel_rfl) rfl (by decide) (fun a S => ?_)
      exact leafL (leafT (⟨false, Option.some.inj h, S.fix [] [] (by decide) (by kernel_rfl) (by kernel_rfl) (by kernel_rfl)⟩))
  · obtain ⟨o29, rfl, S⟩ := hI
    have h := g31
    clear g31
    try dsimp only at h
    obtain rfl := Option.some.inj h
    exact wp_ret (sRet (.bool o29) S (rsl1 rfl (rvT (t := 6) (v := .bool o29) S (by kernel_rfl))) ⟨(), rfl, S.mem.sel [] [] (by decide) (by kernel_rfl) (by kernel_rfl)⟩)

end Go.Proofs.Ytdfjcpnflmgdoaa
