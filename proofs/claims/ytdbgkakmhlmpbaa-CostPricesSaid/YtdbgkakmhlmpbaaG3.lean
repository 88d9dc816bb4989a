import Derived.Test.YtdbgkakmhlmpbaaGTy
import Derived.Test.YtdbgkakmhlmpbaaG10
import Derived.Test.YtdbgkakmhlmpbaaG11
import Derived.Test.YtdbgkakmhlmpbaaG12
import Derived.Test.YtdbgkakmhlmpbaaG13
namespace Go.Proofs.Ytdbgkakmhlmpbaa
open Go.RowKit
set_option linter.unusedVariables false

noncomputable def F_raddlelaw45_CostPrices (p0 : api_Bill) (p1 : api_Count) (p2 : Int) (p3 : Int) : Option Bool :=
  Option.bind (F_cost_Weight p0 p1) fun r5 =>
  Option.bind (F_raddleref45_Weight p0 p1) fun r10 =>
  Option.bind (F_cost_Price p0 p1 p2 p3) fun r15 =>
  Option.bind (F_raddleref45_Price p0 p1 p2 p3) fun r18 =>
  Option.bind (α := Bool) (
    if ((r5.1.Num == r10.1.Num) && ((r5.1.Den == r10.1.Den) && true)) then
      if r5.2 == r10.2 then
        if r15.1 == r18.1 then
          if r15.2.1 == r18.2.1 then
            some (r15.2.2 == r18.2.2)
          else
            some false
        else
          some false
      else
        some false
    else
      some false) fun o20 =>
  some o20
set_option maxHeartbeats 4000000 in
set_option maxRecDepth 100000 in
theorem c_raddlelaw45_CostPrices (E : Nat → Prop) (w0 : World) (p0 : api_Bill) (v0 : Value) (p1 : api_Count) (v1 : Value) (p2 : Int) (p3 : Int) (r : Bool) (h : F_raddlelaw45_CostPrices p0 p1 p2 p3 = some r) (S : St0 E [] w0 w0 [] [fRep r_api_Bill (v0) p0, fRep r_api_Count (v1) p1]) :
    Calls Try.prog 3 #[v0, v1, .int .i64 p2, .int .i64 p3] w0 (Ret (X := Unit) E [] w0 (fun _ => .bool r) (fun _ => []) (fun _ => [])) := by
  unfold F_raddlelaw45_CostPrices at h
  obtain rfl : v0 = .agg #[.int .i64 p0.Length, .int .i64 p0.Time] := S.know (i := 0) (e := fRep r_api_Bill (v0) p0) (by kernel_rfl)
  obtain rfl : v1 = .agg #[.int .u8 p1.System, .int .i64 p1.N.Num, .int .i64 p1.N.Den] := S.know (i := 1) (e := fRep r_api_Count (v1) p1) (by kernel_rfl)
  refine sEnter (args := [.agg #[.int .i64 p0.Length, .int .i64 p0.Time], .agg #[.int .u8 p1.System, .int .i64 p1.N.Num, .int .i64 p1.N.Den], .int .i64 p2, .int .i64 p3]) 72 Try.func3 rfl rfl (by simp) S (fun a S => ?_)
  refine sSeq (fun K1 hK1 => ?_)
  refine sRegion ?_
  refine sBox (v := .agg #[.int .i64 p0.Length, .int .i64 p0.Time]) S (wN rfl) rfl (by kernel_rfl) [.int .i64 p0.Length, .int .i64 p0.Time] rfl rfl (by decide) (fun a b2 w S => ?_)
  refine sBox (v := .agg #[.int .u8 p1.System, .int .i64 p1.N.Num, .int .i64 p1.N.Den]) S (wN rfl) rfl (by kernel_rfl) [.int .u8 p1.System, .int .i64 p1.N.Num, .int .i64 p1.N.Den] rfl rfl (by decide) (fun a b3 w S => ?_)
  refine sMove (.bool false) S (wN rfl) (.inr rfl) (by kernel_rfl) rfl (by decide) (fun a S => ?_)
  refine leafL (leafT (hK1 _ _ ?_))
  refine sSeq (fun K4 hK4 => ?_)
  refine sRegion ?_
  refine sLoadN (p := b2) (off := 0) (T := 23) (vs := [.int .i64 p0.Length, .int .i64 p0.Time]) 1 [.int .i64 p0.Length, .int .i64 p0.Time] S (wN rfl) rfl (by kernel_rfl) (by kernel_rfl) (by kernel_rfl) (by kernel_rfl) rfl rfl (by decide) (fun a S => ?_)
  refine sLoadN (p := b3) (off := 0) (T := 27) (vs := [.int .u8 p1.System, .int .i64 p1.N.Num, .int .i64 p1.N.Den]) 0 [.int .u8 p1.System, .int .i64 p1.N.Num, .int .i64 p1.N.Den] S (wN rfl) rfl (by kernel_rfl) (by kernel_rfl) (by kernel_rfl) (by kernel_rfl) rfl rfl (by decide) (fun a S => ?_)
  obtain ⟨r5, hx6, h⟩ := bindSome h
  refine sCall (X := Value) (f := 10) (vs := [.agg #[.int .i64 p0.Length, .int .i64 p0.Time], .agg #[.int .u8 p1.System, .int .i64 p1.N.Num, .int .i64 p1.N.Den]]) (val := c_cost_Weight_val r5) (B' := fun _ => []) (D' := c_cost_Weight_D r5) [] [eBox b3 27 [.int .u8 p1.System, .int .i64 p1.N.Num, .int .i64 p1.N.Den], eBox b2 23 [.int .i64 p0.Length, .int .i64 p0.Time]] [fRep r_api_Bill (.agg #[.int .i64 p0.Length, .int .i64 p0.Time]) p0, fRep r_api_Count (.agg #[.int .u8 p1.System, .int .i64 p1.N.Num, .int .i64 p1.N.Den]) p1] [0, 1] [0, 1] S (wN rfl) rfl callee10 (by kernel_rfl) (by decide) (by kernel_rfl) (by kernel_rfl) (fun E1 w1 S1 => c_cost_Weight E1 w1 p0 (.agg #[.int .i64 p0.Length, .int .i64 p0.Time]) p1 (.agg #[.int .u8 p1.System, .int .i64 p1.N.Num, .int .i64 p1.N.Den]) r5 hx6 S1) rfl (by decide) (fun u7 a w S => ?_)
  obtain rfl : u7 = .agg #[.int .i64 r5.1.Num, .int .i64 r5.1.Den] := S.mem.know (i := 0) (e := fRep r_api_Ratio (u7) r5.1) (by kernel_rfl)
  refine sMove (.tuple #[.agg #[.int .i64 r5.1.Num, .int .i64 r5.1.Den], .int .i64 r5.2]) S (wN rfl) (.inl rfl) (by kernel_rfl) rfl (by decide) (fun a S => ?_)
  refine sExtract (vs := [.agg #[.int .i64 r5.1.Num, .int .i64 r5.1.Den], .int .i64 r5.2]) (.agg #[.int .i64 r5.1.Num, .int .i64 r5.1.Den]) S (wN rfl) rfl (by kernel_rfl) rfl rfl (by decide) (fun a S => ?_)
  refine sExtract (vs := [.agg #[.int .i64 r5.1.Num, .int .i64 r5.1.Den], .int .i64 r5.2]) (.int .i64 r5.2) S (wN rfl) rfl (by kernel_rfl) rfl rfl (by decide) (fun a S => ?_)
  refine sAlloc (.agg #[.int .i64 0, .int .i64 0]) S (wN rfl) rfl (by kernel_rfl) [.int .i64 0, .int .i64 0] rfl rfl (by decide) (fun a b8 w S => ?_)
  refine sStore (p := b8) (off := 0) (T := 25) (vs := [.int .i64 0, .int .i64 0]) (v := .agg #[.int .i64 r5.1.Num, .int .i64 r5.1.Den]) 0 [.int .i64 r5.1.Num, .int .i64 r5.1.Den] S (wN rfl) rfl (by kernel_rfl) (by kernel_rfl) rfl (by kernel_rfl) (by kernel_rfl) rfl (by simp) rfl (fun a w S => ?_)
  refine sMove (.int .i64 r5.2) S (wN rfl) (.inr rfl) (by kernel_rfl) rfl (by decide) (fun a S => ?_)
  refine leafL (leafT (hK4 _ _ ?_))
  refine sSeq (fun K9 hK9 => ?_)
  refine sRegion ?_
  refine sLoadN (p := b2) (off := 0) (T := 23) (vs := [.int .i64 p0.Length, .int .i64 p0.Time]) 2 [.int .i64 p0.Length, .int .i64 p0.Time] S (wN rfl) rfl (by kernel_rfl) (by kernel_rfl) (by kernel_rfl) (by kernel_rfl) rfl rfl (by decide) (fun a S => ?_)
  refine sLoadN (p := b3) (off := 0) (T := 27) (vs := [.int .u8 p1.System, .int .i64 p1.N.Num, .int .i64 p1.N.Den]) 1 [.int .u8 p1.System, .int .i64 p1.N.Num, .int .i64 p1.N.Den] S (wN rfl) rfl (by kernel_rfl) (by kernel_rfl) (by kernel_rfl) (by kernel_rfl) rfl rfl (by decide) (fun a S => ?_)
  obtain ⟨r10, hx11, h⟩ := bindSome h
  refine sCall (X := Value) (f := 11) (vs := [.agg #[.int .i64 p0.Length, .int .i64 p0.Time], .agg #[.int .u8 p1.System, .int .i64 p1.N.Num, .int .i64 p1.N.Den]]) (val := c_raddleref45_Weight_val r10) (B' := fun _ => []) (D' := c_raddleref45_Weight_D r10) [] [eBox b8 25 [.int .i64 r5.1.Num, .int .i64 r5.1.Den], eBox b3 27 [.int .u8 p1.System, .int .i64 p1.N.Num, .int .i64 p1.N.Den], eBox b2 23 [.int .i64 p0.Length, .int .i64 p0.Time]] [fRep r_api_Bill (.agg #[.int .i64 p0.Length, .int .i64 p0.Time]) p0, fRep r_api_Count (.agg #[.int .u8 p1.System, .int .i64 p1.N.Num, .int .i64 p1.N.Den]) p1] [0, 1, 2] [1, 2] S (wN rfl) rfl callee11 (by kernel_rfl) (by decide) (by kernel_rfl) (by kernel_rfl) (fun E1 w1 S1 => c_raddleref45_Weight E1 w1 p0 (.agg #[.int .i64 p0.Length, .int .i64 p0.Time]) p1 (.agg #[.int .u8 p1.System, .int .i64 p1.N.Num, .int .i64 p1.N.Den]) r10 hx11 S1) rfl (by decide) (fun u12 a w S => ?_)
  obtain rfl : u12 = .agg #[.int .i64 r10.1.Num, .int .i64 r10.1.Den] := S.mem.know (i := 0) (e := fRep r_api_Ratio (u12) r10.1) (by kernel_rfl)
  refine sMove (.tuple #[.agg #[.int .i64 r10.1.Num, .int .i64 r10.1.Den], .int .i64 r10.2]) S (wN rfl) (.inl rfl) (by kernel_rfl) rfl (by decide) (fun a S => ?_)
  refine sExtract (vs := [.agg #[.int .i64 r10.1.Num, .int .i64 r10.1.Den], .int .i64 r10.2]) (.agg #[.int .i64 r10.1.Num, .int .i64 r10.1.Den]) S (wN rfl) rfl (by kernel_rfl) rfl rfl (by decide) (fun a S => ?_)
  refine sExtract (vs := [.agg #[.int .i64 r10.1.Num, .int .i64 r10.1.Den], .int .i64 r10.2]) (.int .i64 r10.2) S (wN rfl) rfl (by kernel_rfl) rfl rfl (by decide) (fun a S => ?_)
  refine sAlloc (.agg #[.int .i64 0, .int .i64 0]) S (wN rfl) rfl (by kernel_rfl) [.int .i64 0, .int .i64 0] rfl rfl (by decide) (fun a b13 w S => ?_)
  refine sStore (p := b13) (off := 0) (T := 25) (vs := [.int .i64 0, .int .i64 0]) (v := .agg #[.int .i64 r10.1.Num, .int .i64 r10.1.Den]) 0 [.int .i64 r10.1.Num, .int .i64 r10.1.Den] S (wN rfl) rfl (by kernel_rfl) (by kernel_rfl) rfl (by kernel_rfl) (by kernel_rfl) rfl (by simp) rfl (fun a w S => ?_)
  refine sMove (.int .i64 r10.2) S (wN rfl) (.inr rfl) (by kernel_rfl) rfl (by decide) (fun a S => ?_)
  refine leafL (leafT (hK9 _ _ ?_))
  refine sSeq (fun K14 hK14 => ?_)
  refine sRegion ?_
  refine sLoadN (p := b2) (off := 0) (T := 23) (vs := [.int .i64 p0.Length, .int .i64 p0.Time]) 3 [.int .i64 p0.Length, .int .i64 p0.Time] S (wN rfl) rfl (by kernel_rfl) (by kernel_rfl) (by kernel_rfl) (by kernel_rfl) rfl rfl (by decide) (fun a S => ?_)
  refine sLoadN (p := b3) (off := 0) (T := 27) (vs := [.int .u8 p1.System, .int .i64 p1.N.Num, .int .i64 p1.N.Den]) 2 [.int .u8 p1.System, .int .i64 p1.N.Num, .int .i64 p1.N.Den] S (wN rfl) rfl (by kernel_rfl) (by kernel_rfl) (by kernel_rfl) (by kernel_rfl) rfl rfl (by decide) (fun a S => ?_)
  refine sMove (.int .i64 p2) S (wN rfl) (.inl rfl) (by kernel_rfl) rfl (by decide) (fun a S => ?_)
  refine sMove (.int .i64 p3) S (wN rfl) (.inl rfl) (by kernel_rfl) rfl (by decide) (fun a S => ?_)
  obtain ⟨r15, hx16, h⟩ := bindSome h
  have S1 := S.mem
  refine sCallQ (X := Unit) (f := 12) (vs := [.agg #[.int .i64 p0.Length, .int .i64 p0.Time], .agg #[.int .u8 p1.System, .int .i64 p1.N.Num, .int .i64 p1.N.Den], .int .i64 p2, .int .i64 p3]) (val := fun _ => .tuple #[.int .i64 r15.1, .int .i64 r15.2.1, .int .i64 r15.2.2]) S (wN rfl) rfl callee12 (by kernel_rfl) (S1.quiet [2, 3] (by kernel_rfl)) (fun E1 w1 S1 => c_cost_Price E1 w1 p0 (.agg #[.int .i64 p0.Length, .int .i64 p0.Time]) p1 (.agg #[.int .u8 p1.System, .int .i64 p1.N.Num, .int .i64 p1.N.Den]) p2 p3 r15 hx16 S1) rfl (by decide) (fun _ a w S => ?_)
  refine sMove (.tuple #[.int .i64 r15.1, .int .i64 r15.2.1, .int .i64 r15.2.2]) S (wN rfl) (.inl rfl) (by kernel_rfl) rfl (by decide) (fun a S => ?_)
  refine sExtract (vs := [.int .i64 r15.1, .int .i64 r15.2.1, .int .i64 r15.2.2]) (.int .i64 r15.1) S (wN rfl) rfl (by kernel_rfl) rfl rfl (by decide) (fun a S => ?_)
  refine sExtract (vs := [.int .i64 r15.1, .int .i64 r15.2.1, .int .i64 r15.2.2]) (.int .i64 r15.2.1) S (wN rfl) rfl (by kernel_rfl) rfl rfl (by decide) (fun a S => ?_)
  refine sExtract (vs := [.int .i64 r15.1, .int .i64 r15.2.1, .int .i64 r15.2.2]) (.int .i64 r15.2.2) S (wN rfl) rfl (by kernel_rfl) rfl rfl (by decide) (fun a S => ?_)
  refine sMove (.int .i64 r15.1) S (wN rfl) (.inr rfl) (by kernel_rfl) rfl (by decide) (fun a S => ?_)
  refine sMove (.int .i64 r15.2.1) S (wN rfl) (.inr rfl) (by kernel_rfl) rfl (by decide) (fun a S => ?_)
  refine sMove (.int .i64 r15.2.2) S (wN rfl) (.inr rfl) (by kernel_rfl) rfl (by decide) (fun a S => ?_)
  refine leafL (leafT (hK14 _ _ ?_))
  refine sSeq (fun K17 hK17 => ?_)
  refine sRegion ?_
  refine sLoadN (p := b2) (off := 0) (T := 23) (vs := [.int .i64 p0.Length, .int .i64 p0.Time]) 3 [.int .i64 p0.Length, .int .i64 p0.Time] S (wN rfl) rfl (by kernel_rfl) (by kernel_rfl) (by kernel_rfl) (by kernel_rfl) rfl rfl (by decide) (fun a S => ?_)
  refine sLoadN (p := b3) (off := 0) (T := 27) (vs := [.int .u8 p1.System, .int .i64 p1.N.Num, .int .i64 p1.N.Den]) 2 [.int .u8 p1.System, .int .i64 p1.N.Num, .int .i64 p1.N.Den] S (wN rfl) rfl (by kernel_rfl) (by kernel_rfl) (by kernel_rfl) (by kernel_rfl) rfl rfl (by decide) (fun a S => ?_)
  refine sMove (.int .i64 p2) S (wN rfl) (.inl rfl) (by kernel_rfl) rfl (by decide) (fun a S => ?_)
  refine sMove (.int .i64 p3) S (wN rfl) (.inl rfl) (by kernel_rfl) rfl (by decide) (fun a S => ?_)
  obtain ⟨r18, hx19, h⟩ := bindSome h
  have S1 := S.mem
  refine sCallQ (X := Unit) (f := 13) (vs := [.agg #[.int .i64 p0.Length, .int .i64 p0.Time], .agg #[.int .u8 p1.System, .int .i64 p1.N.Num, .int .i64 p1.N.Den], .int .i64 p2, .int .i64 p3]) (val := fun _ => .tuple #[.int .i64 r18.1, .int .i64 r18.2.1, .int .i64 r18.2.2]) S (wN rfl) rfl callee13 (by kernel_rfl) (S1.quiet [2, 3] (by kernel_rfl)) (fun E1 w1 S1 => c_raddleref45_Price E1 w1 p0 (.agg #[.int .i64 p0.Length, .int .i64 p0.Time]) p1 (.agg #[.int .u8 p1.System, .int .i64 p1.N.Num, .int .i64 p1.N.Den]) p2 p3 r18 hx19 S1) rfl (by decide) (fun _ a w S => ?_)
  refine sMove (.tuple #[.int .i64 r18.1, .int .i64 r18.2.1, .int .i64 r18.2.2]) S (wN rfl) (.inl rfl) (by kernel_rfl) rfl (by decide) (fun a S => ?_)
  refine sExtract (vs := [.int .i64 r18.1, .int .i64 r18.2.1, .int .i64 r18.2.2]) (.int .i64 r18.1) S (wN rfl) rfl (by kernel_rfl) rfl rfl (by decide) (fun a S => ?_)
  refine sExtract (vs := [.int .i64 r18.1, .int .i64 r18.2.1, .int .i64 r18.2.2]) (.int .i64 r18.2.1) S (wN rfl) rfl (by kernel_rfl) rfl rfl (by decide) (fun a S => ?_)
  refine sExtract (vs := [.int .i64 r18.1, .int .i64 r18.2.1, .int .i64 r18.2.2]) (.int .i64 r18.2.2) S (wN rfl) rfl (by kernel_rfl) rfl rfl (by decide) (fun a S => ?_)
  refine sMove (.int .i64 r18.1) S (wN rfl) (.inr rfl) (by kernel_rfl) rfl (by decide) (fun a S => ?_)
  refine sMove (.int .i64 r18.2.1) S (wN rfl) (.inr rfl) (by kernel_rfl) rfl (by decide) (fun a S => ?_)
  refine sMove (.int .i64 r18.2.2) S (wN rfl) (.inr rfl) (by kernel_rfl) rfl (by decide) (fun a S => ?_)
  refine leafL (leafT (hK17 _ _ ?_))
  obtain ⟨t21, h, g22⟩ := bindSome h
  refine sCut (fun a w => ∃ o20, o20 = t21 ∧ St [] E [] w0 72 a w [(8, .bool o20)] [] []) ?_ (fun a w hI => ?_)
  · refine sRegion ?_
    refine sLoadN (p := b8) (off := 0) (T := 25) (vs := [.int .i64 r5.1.Num, .int .i64 r5.1.Den]) 1 [.int .i64 r5.1.Num, .int .i64 r5.1.Den] S (wN rfl) rfl (by kernel_rfl) (by kernel_rfl) (by kernel_rfl) (by kernel_rfl) rfl rfl (by decide) (fun a S => ?_)
    refine sLoadN (p := b13) (off := 0) (T := 25) (vs := [.int .i64 r10.1.Num, .int .i64 r10.1.Den]) 0 [.int .i64 r10.1.Num, .int .i64 r10.1.Den] S (wN rfl) rfl (by kernel_rfl) (by kernel_rfl) (by kernel_rfl) (by kernel_rfl) rfl rfl (by decide) (fun a S => ?_)
    refine sBin (.bool ((r5.1.Num == r10.1.Num) && ((r5.1.Den == r10.1.Den) && true))) S (wN rfl) rfl (by kernel_rfl) (by kernel_rfl) (bEqV _ _ _ _ #[.int .i64 r5.1.Num, .int .i64 r5.1.Den] #[.int .i64 r10.1.Num, .int .i64 r10.1.Den] ((r5.1.Num == r10.1.Num) && ((r5.1.Den == r10.1.Den) && true)) (by kernel_rfl) (eqlV_of (by kernel_rfl))) rfl (by decide) (fun a S => ?_)
    refine sMove (.bool ((r5.1.Num == r10.1.Num) && ((r5.1.Den == r10.1.Den) && true))) S (wN rfl) (.inl rfl) (by kernel_rfl) rfl (by decide) (fun a S => ?_)
    rcases iteSome h with ⟨hc23, h⟩ | ⟨hc23, h⟩
    · refine sMove (.int .i64 r5.2) S (wG (c := ((r5.1.Num == r10.1.Num) && ((r5.1.Den == r10.1.Den) && true))) 3 true 52 rfl rfl (by kernel_rfl) hc23) (.inl rfl) (by kernel_rfl) rfl (by decide) (fun a S => ?_)
      refine sMove (.int .i64 r10.2) S (wG (c := ((r5.1.Num == r10.1.Num) && ((r5.1.Den == r10.1.Den) && true))) 3 true 52 rfl rfl (by kernel_rfl) hc23) (.inl rfl) (by kernel_rfl) rfl (by decide) (fun a S => ?_)
      refine sBin (.bool (r5.2 == r10.2)) S (wG (c := ((r5.1.Num == r10.1.Num) && ((r5.1.Den == r10.1.Den) && true))) 3 true 52 rfl rfl (by kernel_rfl) hc23) rfl (by kernel_rfl) (by kernel_rfl) (bEq _ _ _ _ .i64 r5.2 r10.2) rfl (by decide) (fun a S => ?_)
      refine sPickT (b := ((r5.1.Num == r10.1.Num) && ((r5.1.Den == r10.1.Den) && true))) (.bool (r5.2 == r10.2)) S (wN rfl) rfl (by kernel_rfl) hc23 (by kernel_rfl) rfl (by decide) (fun a S => ?_)
      refine sMove (.bool (r5.2 == r10.2)) S (wN rfl) (.inl rfl) (by kernel_rfl) rfl (by decide) (fun a S => ?_)
      rcases iteSome h with ⟨hc24, h⟩ | ⟨hc24, h⟩
      · refine sMove (.int .i64 r15.1) S (wG (c := r5.2 == r10.2) 8 true 57 rfl rfl (by kernel_rfl) hc24) (.inl rfl) (by kernel_rfl) rfl (by decide) (fun a S => ?_)
        refine sMove (.int .i64 r18.1) S (wG (c := r5.2 == r10.2) 8 true 57 rfl rfl (by kernel_rfl) hc24) (.inl rfl) (by kernel_rfl) rfl (by decide) (fun a S => ?_)
        refine sBin (.bool (r15.1 == r18.1)) S (wG (c := r5.2 == r10.2) 8 true 57 rfl rfl (by kernel_rfl) hc24) rfl (by kernel_rfl) (by kernel_rfl) (bEq _ _ _ _ .i64 r15.1 r18.1) rfl (by decide) (fun a S => ?_)
        refine sPickT (b := r5.2 == r10.2) (.bool (r15.1 == r18.1)) S (wN rfl) rfl (by kernel_rfl) hc24 (by kernel_rfl) rfl (by decide) (fun a S => ?_)
        refine sMove (.bool (r15.1 == r18.1)) S (wN rfl) (.inl rfl) (by kernel_rfl) rfl (by decide) (fun a S => ?_)
        rcases iteSome h with ⟨hc25, h⟩ | ⟨hc25, h⟩
        · refine sMove (.int .i64 r15.2.1) S (wG (c := r15.1 == r18.1) 13 true 62 rfl rfl (by kernel_rfl) hc25) (.inl rfl) (by kernel_rfl) rfl (by decide) (fun a S => ?_)
          refine sMove (.int .i64 r18.2.1) S (wG (c := r15.1 == r18.1) 13 true 62 rfl rfl (by kernel_rfl) hc25) (.inl rfl) (by kernel_rfl) rfl (by decide) (fun a S => ?_)
          refine sBin (.bool (r15.2.1 == r18.2.1)) S (wG (c := r15.1 == r18.1) 13 true 62 rfl rfl (by kernel_rfl) hc25) rfl (by kernel_rfl) (by kernel_rfl) (bEq _ _ _ _ .i64 r15.2.1 r18.2.1) rfl (by decide) (fun a S => ?_)
          refine sPickT (b := r15.1 == r18.1) (.bool (r15.2.1 == r18.2.1)) S (wN rfl) rfl (by kernel_rfl) hc25 (by kernel_rfl) rfl (by decide) (fun a S => ?_)
          refine sMove (.bool (r15.2.1 == r18.2.1)) S (wN rfl) (.inl rfl) (by kernel_rfl) rfl (by decide) (fun a S => ?_)
          rcases iteSome h with ⟨hc26, h⟩ | ⟨hc26, h⟩
          · refine sMove (.int .i64 r15.2.2) S (wG (c := r15.2.1 == r18.2.1) 18 true 67 rfl rfl (by kernel_rfl) hc26) (.inl rfl) (by kernel_rfl) rfl (by decide) (fun a S => ?_)
            refine sMove (.int .i64 r18.2.2) S (wG (c := r15.2.1 == r18.2.1) 18 true 67 rfl rfl (by kernel_rfl) hc26) (.inl rfl) (by kernel_rfl) rfl (by decide) (fun a S => ?_)
            refine sBin (.bool (r15.2.2 == r18.2.2)) S (wG (c := r15.2.1 == r18.2.1) 18 true 67 rfl rfl (by kernel_rfl) hc26) rfl (by kernel_rfl) (by kernel_rfl) (bEq _ _ _ _ .i64 r15.2.2 r18.2.2) rfl (by decide) (fun a S => ?_)
            refine sPickT (b := r15.2.1 == r18.2.1) (.bool (r15.2.2 == r18.2.2)) S (wN rfl) rfl (by kernel_rfl) hc26 (by kernel_rfl) rfl (by decide) (fun a S => ?_)
            refine sMove (.bool (r15.2.2 == r18.2.2)) S (wN rfl) (.inr rfl) (by kernel_rfl) rfl (by decide) (fun a S => ?_)
            exact leafL (leafT (⟨r15.2.2 == r18.2.2, Option.some.inj h, S.fix [] [] (by decide) (by kernel_rfl) (by kernel_rfl) (by kernel_rfl)⟩))
          · refine sSkip (c := r15.2.1 == r18.2.1) 18 true 67 68 S rfl rfl (by kernel_rfl) hc26 rfl (by decide) (fun a S => ?_)
            refine sSkip (c := r15.2.1 == r18.2.1) 18 true 67 69 S rfl rfl (by kernel_rfl) hc26 rfl (by decide) (fun a S => ?_)
            refine sSkip (c := r15.2.1 == r18.2.1) 18 true 67 70 S rfl rfl (by kernel_rfl) hc26 rfl (by decide) (fun a S => ?_)
            refine sPickF (b := r15.2.1 == r18.2.1) (.bool false) S (wN rfl) rfl (by kernel_rfl) hc26 (by kernel_rfl) rfl (by decide) (fun a S => ?_)
            refine sMove (.bool false) S (wN rfl) (.inr rfl) (by kernel_rfl) rfl (by decide) (fun a S => ?_)
            exact leafL (leafT (⟨false, Option.some.inj h, S.fix [] [] (by decide) (by kernel_rfl) (by kernel_rfl) (by kernel_rfl)⟩))
        · refine sSkip (c := r15.1 == r18.1) 13 true 62 63 S rfl rfl (by kernel_rfl) hc25 rfl (by decide) (fun a S => ?_)
          refine sSkip (c := r15.1 == r18.1) 13 true 62 64 S rfl rfl (by kernel_rfl) hc25 rfl (by decide) (fun a S => ?_)
          refine sSkip (c := r15.1 == r18.1) 13 true 62 65 S rfl rfl (by kernel_rfl) hc25 rfl (by decide) (fun a S => ?_)
          refine sPickF (b := r15.1 == r18.1) (.bool false) S (wN rfl) rfl (by kernel_rfl) hc25 (by kernel_rfl) rfl (by decide) (fun a S => ?_)
          refine sMove (.bool false) S (wN rfl) (.inl rfl) (by kernel_rfl) rfl (by decide) (fun a S => ?_)
          refine sSkip (c := false) 18 true 67 68 S rfl rfl (by kernel_rfl) rfl rfl (by decide) (fun a S => ?_)
          refine sSkip (c := false) 18 true 67 69 S rfl rfl (by kernel_rfl) rfl rfl (by decide) (fun a S => ?_)
          refine sSkip (c := false) 18 true 67 70 S rfl rfl (by kernel_rfl) rfl rfl (by decide) (fun a S => ?_)
          refine sPickF (b := false) (.bool false) S (wN rfl) rfl (by kernel_rfl) rfl (by kernel_rfl) rfl (by decide) (fun a S => ?_)
          refine sMove (.bool false) S (wN rfl) (.inr rfl) (by kernel_rfl) rfl (by decide) (fun a S => ?_)
          exact leafL (leafT (⟨false, Option.some.inj h, S.fix [] [] (by decide) (by kernel_rfl) (by kernel_rfl) (by kernel_rfl)⟩))
      · refine sSkip (c := r5.2 == r10.2) 8 true 57 58 S rfl rfl (by kernel_rfl) hc24 rfl (by decide) (fun a S => ?_)
        refine sSkip (c := r5.2 == r10.2) 8 true 57 59 S rfl rfl (by kernel_rfl) hc24 rfl (by decide) (fun a S => ?_)
        refine sSkip (c := r5.2 == r10.2) 8 true 57 60 S rfl rfl (by kernel_rfl) hc24 rfl (by decide) (fun a S => ?_)
        refine sPickF (b := r5.2 == r10.2) (.bool false) S (wN rfl) rfl (by kernel_rfl) hc24 (by kernel_rfl) rfl (by decide) (fun a S => ?_)
        refine sMove (.bool false) S (wN rfl) (.inl rfl) (by kernel_rfl) rfl (by decide) (fun a S => ?_)
        refine sSkip (c := false) 13 true 62 63 S rfl rfl (by kernel_rfl) rfl rfl (by decide) (fun a S => ?_)
        refine sSkip (c := false) 13 true 62 64 S rfl rfl (by kernel_rfl) rfl rfl (by decide) (fun a S => ?_)
        refine sSkip (c := false) 13 true 62 65 S rfl rfl (by kernel_rfl) rfl rfl (by decide) (fun a S => ?_)
        refine sPickF (b := false) (.bool false) S (wN rfl) rfl (by kernel_rfl) rfl (by kernel_rfl) rfl (by decide) (fun a S => ?_)
        refine sMove (.bool false) S (wN rfl) (.inl rfl) (by kernel_rfl) rfl (by decide) (fun a S => ?_)
        refine sSkip (c := false) 18 true 67 68 S rfl rfl (by kernel_rfl) rfl rfl (by decide) (fun a S => ?_)
        refine sSkip (c := false) 18 true 67 69 S rfl rfl (by kernel_rfl) rfl rfl (by decide) (fun a S => ?_)
        refine sSkip (c := false) 18 true 67 70 S rfl rfl (by kernel_rfl) rfl rfl (by decide) (fun a S => ?_)
        refine sPickF (b := false) (.bool false) S (wN rfl) rfl (by kernel_rfl) rfl (by kernel_rfl) rfl (by decide) (fun a S => ?_)
        refine sMove (.bool false) S (wN rfl) (.inr rfl) (by kernel_rfl) rfl (by decide) (fun a S => ?_)
        exact leafL (leafT (⟨false, Option.some.inj h, S.fix [] [] (by decide) (by kernel_rfl) (by kernel_rfl) (by kernel_rfl)⟩))
    · refine sSkip (c := ((r5.1.Num == r10.1.Num) && ((r5.1.Den == r10.1.Den) && true))) 3 true 52 53 S rfl rfl (by kernel_rfl) hc23 rfl (by decide) (fun a S => ?_)
      refine sSkip (c := ((r5.1.Num == r10.1.Num) && ((r5.1.Den == r10.1.Den) && true))) 3 true 52 54 S rfl rfl (by kernel_rfl) hc23 rfl (by decide) (fun a S => ?_)
      refine sSkip (c := ((r5.1.Num == r10.1.Num) && ((r5.1.Den == r10.1.Den) && true))) 3 true 52 55 S rfl rfl (by kernel_rfl) hc23 rfl (by decide) (fun a S => ?_)
      refine sPickF (b := ((r5.1.Num == r10.1.Num) && ((r5.1.Den == r10.1.Den) && true))) (.bool false) S (wN rfl) rfl (by kernel_rfl) hc23 (by kernel_rfl) rfl (by decide) (fun a S => ?_)
      refine sMove (.bool false) S (wN rfl) (.inl rfl) (by kernel_rfl) rfl (by decide) (fun a S => ?_)
      refine sSkip (c := false) 8 true 57 58 S rfl rfl (by kernel_rfl) rfl rfl (by decide) (fun a S => ?_)
      refine sSkip (c := false) 8 true 57 59 S rfl rfl (by kernel_rfl) rfl rfl (by decide) (fun a S => ?_)
      refine sSkip (c := false) 8 true 57 60 S rfl rfl (by kernel_rfl) rfl rfl (by decide) (fun a S => ?_)
      refine sPickF (b := false) (.bool false) S (wN rfl) rfl (by kernel_rfl) rfl (by kernel_rfl) rfl (by decide) (fun a S => ?_)
      refine sMove (.bool false) S (wN rfl) (.inl rfl) (by kernel_rfl) rfl (by decide) (fun a S => ?_)
      refine sSkip (c := false) 13 true 62 63 S rfl rfl (by kernel_rfl) rfl rfl (by decide) (fun a S => ?_)
      refine sSkip (c := false) 13 true 62 64 S rfl rfl (by kernel_rfl) rfl rfl (by decide) (fun a S => ?_)
      refine sSkip (c := false) 13 true 62 65 S rfl rfl (by kernel_rfl) rfl rfl (by decide) (fun a S => ?_)
      refine sPickF (b := false) (.bool false) S (wN rfl) rfl (by kernel_rfl) rfl (by kernel_rfl) rfl (by decide) (fun a S => ?_)
      refine sMove (.bool false) S (wN rfl) (.inl rfl) (by kernel_rfl) rfl (by decide) (fun a S => ?_)
      refine sSkip (c := false) 18 true 67 68 S rfl rfl (by kernel_rfl) rfl rfl (by decide) (fun a S => ?_)
      refine sSkip (c := false) 18 true 67 69 S rfl rfl (by kernel_rfl) rfl rfl (by decide) (fun a S => ?_)
      refine sSkip (c := false) 18 true 67 70 S rfl rfl (by kernel_rfl) rfl rfl (by decide) (fun a S => ?_)
      refine sPickF (b := false) (.bool false) S (wN rfl) rfl (by kernel_rfl) rfl (by kernel_rfl) rfl (by decide) (fun a S => ?_)
      refine sMove (.bool false) S (wN rfl) (.inr rfl) (by kernel_rfl) rfl (by decide) (fun a S => ?_)
      exact leafL (leafT (⟨false, Option.some.inj h, S.fix [] [] (by decide) (by kernel_rfl) (by kernel_rfl) (by kernel_rfl)⟩))
  · obtain ⟨o20, rfl, S⟩ := hI
    have h := g22
    clear g22
    try dsimp only at h
    obtain rfl := Option.some.inj h
    exact wp_ret (sRet (.bool o20) S (rsl1 rfl (rvT (t := 8) (v := .bool o20) S (by kernel_rfl))) ⟨(), rfl, S.mem.sel [] [] (by decide) (by kernel_rfl) (by kernel_rfl)⟩)

end Go.Proofs.Ytdbgkakmhlmpbaa
