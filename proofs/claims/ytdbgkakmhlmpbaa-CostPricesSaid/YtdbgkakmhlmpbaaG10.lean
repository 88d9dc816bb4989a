import Derived.Test.YtdbgkakmhlmpbaaGTy
import Derived.Test.YtdbgkakmhlmpbaaG37
namespace Go.Proofs.Ytdbgkakmhlmpbaa
open Go.RowKit
set_option linter.unusedVariables false

noncomputable def F_cost_Weight (p0 : api_Bill) (p1 : api_Count) : Option (api_Ratio × Int) :=
  Option.bind (α := Bool) (
    if decide (p0.Length < 0) then
      some true
    else
      some (decide (p0.Time < 0))) fun o6 =>
  if o6 then
    some ((api_Ratio.mk 0 0), 2)
  else
    Option.bind (F_yarn_Weigh p1 p0.Length) fun r13 =>
    some (r13.1, r13.2)
def c_cost_Weight_val (r : (api_Ratio × Int)) (x : Value) : Value := .tuple #[x, .int .i64 r.2]
def c_cost_Weight_D (r : (api_Ratio × Int)) (x : Value) : List Fact := [fRep r_api_Ratio x r.1]
set_option maxHeartbeats 4000000 in
set_option maxRecDepth 100000 in
theorem c_cost_Weight (E : Nat → Prop) (w0 : World) (p0 : api_Bill) (v0 : Value) (p1 : api_Count) (v1 : Value) (r : (api_Ratio × Int)) (h : F_cost_Weight p0 p1 = some r) (S : St0 E [] w0 w0 [] [fRep r_api_Bill (v0) p0, fRep r_api_Count (v1) p1]) :
    Calls Try.prog 10 #[v0, v1] w0 (Ret (X := Value) E [] w0 (c_cost_Weight_val r) (fun _ => []) (c_cost_Weight_D r)) := by
  unfold F_cost_Weight at h
  obtain rfl : v0 = .agg #[.int .i64 p0.Length, .int .i64 p0.Time] := S.know (i := 0) (e := fRep r_api_Bill (v0) p0) (by kernel_rfl)
  obtain rfl : v1 = .agg #[.int .u8 p1.System, .int .i64 p1.N.Num, .int .i64 p1.N.Den] := S.know (i := 1) (e := fRep r_api_Count (v1) p1) (by kernel_rfl)
  refine sEnter (args := [.agg #[.int .i64 p0.Length, .int .i64 p0.Time], .agg #[.int .u8 p1.System, .int .i64 p1.N.Num, .int .i64 p1.N.Den]]) 21 Try.func10 rfl rfl (by simp) S (fun a S => ?_)
  refine sSeq (fun K1 hK1 => ?_)
  refine sRegion ?_
  refine sBox (v := .agg #[.int .i64 p0.Length, .int .i64 p0.Time]) S (wN rfl) rfl (by kernel_rfl) [.int .i64 p0.Length, .int .i64 p0.Time] rfl rfl (by decide) (fun a b2 w S => ?_)
  refine sBox (v := .agg #[.int .u8 p1.System, .int .i64 p1.N.Num, .int .i64 p1.N.Den]) S (wN rfl) rfl (by kernel_rfl) [.int .u8 p1.System, .int .i64 p1.N.Num, .int .i64 p1.N.Den] rfl rfl (by decide) (fun a b3 w S => ?_)
  refine sAlloc (.agg #[.int .i64 0, .int .i64 0]) S (wN rfl) rfl (by kernel_rfl) [.int .i64 0, .int .i64 0] rfl rfl (by decide) (fun a b4 w S => ?_)
  refine sMove (.int .i64 0) S (wN rfl) (.inr rfl) (by kernel_rfl) rfl (by decide) (fun a S => ?_)
  refine leafL (leafT (hK1 _ _ ?_))
  refine sSeq (fun K5 hK5 => ?_)
  obtain ⟨t7, h, g8⟩ := bindSome h
  refine sCut (fun a w => ∃ o6, o6 = t7 ∧ St [] E [] w0 21 a w [(2, .pointer (some ⟨b2, 0, none⟩)), (3, .pointer (some ⟨b3, 0, none⟩)), (4, .pointer (some ⟨b4, 0, none⟩)), (13, .bool o6)] [eBox b2 23 [.int .i64 p0.Length, .int .i64 p0.Time], eBox b3 27 [.int .u8 p1.System, .int .i64 p1.N.Num, .int .i64 p1.N.Den], eBox b4 25 [.int .i64 0, .int .i64 0]] []) ?_ (fun a w hI => ?_)
  · refine sRegion ?_
    refine sField (b := b2) (off := 0) 0 0 S (wN rfl) rfl (by kernel_rfl) (by kernel_rfl) rfl rfl (by decide) (fun a S => ?_)
    refine sLoad1 (p := b2) (off := 0) (T := 23) (vs := [.int .i64 p0.Length, .int .i64 p0.Time]) 2 (.int .i64 p0.Length) S (wN rfl) rfl (by kernel_rfl) (by kernel_rfl) (by kernel_rfl) rfl rfl (by decide) (fun a S => ?_)
    refine sBin (.bool (decide (p0.Length < 0))) S (wN rfl) rfl (by kernel_rfl) (by kernel_rfl) (bLt _ _ _ _ .i64 p0.Length 0) rfl (by decide) (fun a S => ?_)
    refine sMove (.bool (decide (p0.Length < 0))) S (wN rfl) (.inl rfl) (by kernel_rfl) rfl (by decide) (fun a S => ?_)
    rcases iteSome h with ⟨hc9, h⟩ | ⟨hc9, h⟩
    · refine sSkip (c := decide (p0.Length < 0)) 3 false 9 10 S rfl rfl (by kernel_rfl) hc9 rfl (by decide) (fun a S => ?_)
      refine sSkip (c := decide (p0.Length < 0)) 3 false 9 11 S rfl rfl (by kernel_rfl) hc9 rfl (by decide) (fun a S => ?_)
      refine sSkip (c := decide (p0.Length < 0)) 3 false 9 12 S rfl rfl (by kernel_rfl) hc9 rfl (by decide) (fun a S => ?_)
      refine sPickT (b := decide (p0.Length < 0)) (.bool true) S (wN rfl) rfl (by kernel_rfl) hc9 (by kernel_rfl) rfl (by decide) (fun a S => ?_)
      exact leafL (leafT (⟨true, Option.some.inj h, S.fix [2, 1, 0] [] (by decide) (by kernel_rfl) (by kernel_rfl) (by kernel_rfl)⟩))
    · refine sField (b := b2) (off := 0) 1 1 S (wG (c := decide (p0.Length < 0)) 3 false 9 rfl rfl (by kernel_rfl) hc9) rfl (by kernel_rfl) (by kernel_rfl) rfl rfl (by decide) (fun a S => ?_)
      refine sLoad1 (p := b2) (off := 1) (T := 23) (vs := [.int .i64 p0.Length, .int .i64 p0.Time]) 2 (.int .i64 p0.Time) S (wG (c := decide (p0.Length < 0)) 3 false 9 rfl rfl (by kernel_rfl) hc9) rfl (by kernel_rfl) (by kernel_rfl) (by kernel_rfl) rfl rfl (by decide) (fun a S => ?_)
      refine sBin (.bool (decide (p0.Time < 0))) S (wG (c := decide (p0.Length < 0)) 3 false 9 rfl rfl (by kernel_rfl) hc9) rfl (by kernel_rfl) (by kernel_rfl) (bLt _ _ _ _ .i64 p0.Time 0) rfl (by decide) (fun a S => ?_)
      refine sPickF (b := decide (p0.Length < 0)) (.bool (decide (p0.Time < 0))) S (wN rfl) rfl (by kernel_rfl) hc9 (by kernel_rfl) rfl (by decide) (fun a S => ?_)
      exact leafL (leafT (⟨decide (p0.Time < 0), Option.some.inj h, S.fix [2, 1, 0] [] (by decide) (by kernel_rfl) (by kernel_rfl) (by kernel_rfl)⟩))
  · obtain ⟨o6, rfl, S⟩ := hI
    have h := g8
    clear g8
    try dsimp only at h
    rcases iteSome h with ⟨hc10, h⟩ | ⟨hc10, h⟩
    · refine sCondT (b := o6) S (by kernel_rfl) hc10 ?_
      refine sSeq (fun K11 hK11 => ?_)
      refine sRegion ?_
      refine sBuild [] [.int .i64 0, .int .i64 0] S (wN rfl) rfl (by kernel_rfl) (by kernel_rfl) rfl (by decide) (fun a S => ?_)
      refine sStore (p := b4) (off := 0) (T := 25) (vs := [.int .i64 0, .int .i64 0]) (v := .agg #[.int .i64 0, .int .i64 0]) 2 [.int .i64 0, .int .i64 0] S (wN rfl) rfl (by kernel_rfl) (by kernel_rfl) rfl (by kernel_rfl) (by kernel_rfl) rfl (by simp) rfl (fun a w S => ?_)
      refine sMove (.int .i64 2) S (wN rfl) (.inr rfl) (by kernel_rfl) rfl (by decide) (fun a S => ?_)
      refine leafL (leafT (hK11 _ _ ?_))
      obtain rfl := Option.some.inj h
      have S := S.learn (fRep r_api_Ratio (.agg #[.int .i64 0, .int .i64 0]) (api_Ratio.mk 0 0)) rfl
      exact wp_ret (rThen (sRet (.tuple #[.agg #[.int .i64 0, .int .i64 0], .int .i64 2]) S (rsl2 rfl (rvN (c := 4) (t := 25) (T := 25) (p := b4) 0 [.int .i64 0, .int .i64 0] S (by kernel_rfl) (by kernel_rfl) (by kernel_rfl) (by kernel_rfl)) (rvT (t := 5) (v := .int .i64 2) S (by kernel_rfl))) ⟨(.agg #[.int .i64 0, .int .i64 0]), rfl, S.mem.sel [] [0] (by decide) (by kernel_rfl) (by kernel_rfl)⟩))
    · refine sCondF (b := o6) S (by kernel_rfl) hc10 ?_
      refine wp_skip (leafT (hK5 _ _ ?_))
      refine sSeq (fun K12 hK12 => ?_)
      refine sRegion ?_
      refine sLoadN (p := b3) (off := 0) (T := 27) (vs := [.int .u8 p1.System, .int .i64 p1.N.Num, .int .i64 p1.N.Den]) 1 [.int .u8 p1.System, .int .i64 p1.N.Num, .int .i64 p1.N.Den] S (wN rfl) rfl (by kernel_rfl) (by kernel_rfl) (by kernel_rfl) (by kernel_rfl) rfl rfl (by decide) (fun a S => ?_)
      refine sField (b := b2) (off := 0) 0 0 S (wN rfl) rfl (by kernel_rfl) (by kernel_rfl) rfl rfl (by decide) (fun a S => ?_)
      refine sLoad1 (p := b2) (off := 0) (T := 23) (vs := [.int .i64 p0.Length, .int .i64 p0.Time]) 0 (.int .i64 p0.Length) S (wN rfl) rfl (by kernel_rfl) (by kernel_rfl) (by kernel_rfl) rfl rfl (by decide) (fun a S => ?_)
      obtain ⟨r13, hx14, h⟩ := bindSome h
      have S := S.learn (fRep r_api_Count (.agg #[.int .u8 p1.System, .int .i64 p1.N.Num, .int .i64 p1.N.Den]) p1) rfl
      refine sCall (X := Value) (f := 37) (vs := [.agg #[.int .u8 p1.System, .int .i64 p1.N.Num, .int .i64 p1.N.Den], .int .i64 p0.Length]) (val := c_yarn_Weigh_val r13) (B' := fun _ => []) (D' := c_yarn_Weigh_D r13) [] [eBox b2 23 [.int .i64 p0.Length, .int .i64 p0.Time], eBox b3 27 [.int .u8 p1.System, .int .i64 p1.N.Num, .int .i64 p1.N.Den], eBox b4 25 [.int .i64 0, .int .i64 0]] [fRep r_api_Count (.agg #[.int .u8 p1.System, .int .i64 p1.N.Num, .int .i64 p1.N.Den]) p1] [0, 1, 2] [0] S (wN rfl) rfl callee37 (by kernel_rfl) (by decide) (by kernel_rfl) (by kernel_rfl) (fun E1 w1 S1 => c_yarn_Weigh E1 w1 p1 (.agg #[.int .u8 p1.System, .int .i64 p1.N.Num, .int .i64 p1.N.Den]) p0.Length r13 hx14 S1) rfl (by decide) (fun u15 a w S => ?_)
      obtain rfl : u15 = .agg #[.int .i64 r13.1.Num, .int .i64 r13.1.Den] := S.mem.know (i := 0) (e := fRep r_api_Ratio (u15) r13.1) (by kernel_rfl)
      refine sExtract (vs := [.agg #[.int .i64 r13.1.Num, .int .i64 r13.1.Den], .int .i64 r13.2]) (.agg #[.int .i64 r13.1.Num, .int .i64 r13.1.Den]) S (wN rfl) rfl (by kernel_rfl) rfl rfl (by decide) (fun a S => ?_)
      refine sExtract (vs := [.agg #[.int .i64 r13.1.Num, .int .i64 r13.1.Den], .int .i64 r13.2]) (.int .i64 r13.2) S (wN rfl) rfl (by kernel_rfl) rfl rfl (by decide) (fun a S => ?_)
      refine sStore (p := b4) (off := 0) (T := 25) (vs := [.int .i64 0, .int .i64 0]) (v := .agg #[.int .i64 r13.1.Num, .int .i64 r13.1.Den]) 2 [.int .i64 r13.1.Num, .int .i64 r13.1.Den] S (wN rfl) rfl (by kernel_rfl) (by kernel_rfl) rfl (by kernel_rfl) (by kernel_rfl) rfl (by simp) rfl (fun a w S => ?_)
      refine sMove (.int .i64 r13.2) S (wN rfl) (.inr rfl) (by kernel_rfl) rfl (by decide) (fun a S => ?_)
      refine leafL (leafT (hK12 _ _ ?_))
      obtain rfl := Option.some.inj h
      exact wp_ret (sRet (.tuple #[.agg #[.int .i64 r13.1.Num, .int .i64 r13.1.Den], .int .i64 r13.2]) S (rsl2 rfl (rvN (c := 4) (t := 25) (T := 25) (p := b4) 0 [.int .i64 r13.1.Num, .int .i64 r13.1.Den] S (by kernel_rfl) (by kernel_rfl) (by kernel_rfl) (by kernel_rfl)) (rvT (t := 5) (v := .int .i64 r13.2) S (by kernel_rfl))) ⟨(.agg #[.int .i64 r13.1.Num, .int .i64 r13.1.Den]), rfl, S.mem.sel [] [0] (by decide) (by kernel_rfl) (by kernel_rfl)⟩)

end Go.Proofs.Ytdbgkakmhlmpbaa
