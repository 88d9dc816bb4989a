import Derived.Test.YtdbgkakmhlmpbaaGTy
import Derived.Test.YtdbgkakmhlmpbaaG58
import Derived.Test.YtdbgkakmhlmpbaaG59
import Derived.Test.YtdbgkakmhlmpbaaG60
namespace Go.Proofs.Ytdbgkakmhlmpbaa
open Go.RowKit
set_option linter.unusedVariables false

noncomputable def F_yarn_Weigh (p0 : api_Count) (p1 : Int) : Option (api_Ratio × Int) :=
  Option.bind (F_yarn_counted p0) fun r6 =>
  if r6 != 0 then
    some ((api_Ratio.mk 0 0), r6)
  else
    Option.bind (α := Bool) (
      if decide (p1 < 0) then
        some true
      else
        some (decide (1000000000 < p1))) fun o12 =>
    if o12 then
      some ((api_Ratio.mk 0 0), 2)
    else
      Option.bind (F_yarn_Convert p0 1) fun r19 =>
      if r19.2 != 0 then
        some ((api_Ratio.mk 0 0), r19.2)
      else
        Option.bind (F_yarn_Make (w64 (p1 * r19.1.N.Num)) (w64 (10000 * r19.1.N.Den))) fun r28 =>
        some (r28.1, r28.2)
def c_yarn_Weigh_val (r : (api_Ratio × Int)) (x : Value) : Value := .tuple #[x, .int .i64 r.2]
def c_yarn_Weigh_D (r : (api_Ratio × Int)) (x : Value) : List Fact := [fRep r_api_Ratio x r.1]
set_option maxHeartbeats 4000000 in
set_option maxRecDepth 100000 in
theorem c_yarn_Weigh (E : Nat → Prop) (w0 : World) (p0 : api_Count) (v0 : Value) (p1 : Int) (r : (api_Ratio × Int)) (h : F_yarn_Weigh p0 p1 = some r) (S : St0 E [] w0 w0 [] [fRep r_api_Count (v0) p0]) :
    Calls Try.prog 37 #[v0, .int .i64 p1] w0 (Ret (X := Value) E [] w0 (c_yarn_Weigh_val r) (fun _ => []) (c_yarn_Weigh_D r)) := by
  unfold F_yarn_Weigh at h
  obtain rfl : v0 = .agg #[.int .u8 p0.System, .int .i64 p0.N.Num, .int .i64 p0.N.Den] := S.know (i := 0) (e := fRep r_api_Count (v0) p0) (by kernel_rfl)
  refine sEnter (args := [.agg #[.int .u8 p0.System, .int .i64 p0.N.Num, .int .i64 p0.N.Den], .int .i64 p1]) 43 Try.func37 rfl rfl (by simp) S (fun a S => ?_)
  refine sSeq (fun K1 hK1 => ?_)
  refine sRegion ?_
  refine sBox (v := .agg #[.int .u8 p0.System, .int .i64 p0.N.Num, .int .i64 p0.N.Den]) S (wN rfl) rfl (by kernel_rfl) [.int .u8 p0.System, .int .i64 p0.N.Num, .int .i64 p0.N.Den] rfl rfl (by decide) (fun a b2 w S => ?_)
  refine sAlloc (.agg #[.int .i64 0, .int .i64 0]) S (wN rfl) rfl (by kernel_rfl) [.int .i64 0, .int .i64 0] rfl rfl (by decide) (fun a b3 w S => ?_)
  refine sMove (.int .i64 0) S (wN rfl) (.inr rfl) (by kernel_rfl) rfl (by decide) (fun a S => ?_)
  refine leafL (leafT (hK1 _ _ ?_))
  refine sSeq (fun K4 hK4 => ?_)
  refine sSeq (fun K5 hK5 => ?_)
  refine sRegion ?_
  refine sLoadN (p := b2) (off := 0) (T := 27) (vs := [.int .u8 p0.System, .int .i64 p0.N.Num, .int .i64 p0.N.Den]) 1 [.int .u8 p0.System, .int .i64 p0.N.Num, .int .i64 p0.N.Den] S (wN rfl) rfl (by kernel_rfl) (by kernel_rfl) (by kernel_rfl) (by kernel_rfl) rfl rfl (by decide) (fun a S => ?_)
  obtain ⟨r6, hx7, h⟩ := bindSome h
  have S1 := S.mem
  refine sCallQ (X := Unit) (f := 58) (vs := [.agg #[.int .u8 p0.System, .int .i64 p0.N.Num, .int .i64 p0.N.Den]]) (val := fun _ => .int .i64 r6) S (wN rfl) rfl callee58 (by kernel_rfl) (S1.quiet [0] (by kernel_rfl)) (fun E1 w1 S1 => c_yarn_counted E1 w1 p0 (.agg #[.int .u8 p0.System, .int .i64 p0.N.Num, .int .i64 p0.N.Den]) r6 hx7 S1) rfl (by decide) (fun _ a w S => ?_)
  refine sMove (.int .i64 r6) S (wN rfl) (.inr rfl) (by kernel_rfl) rfl (by decide) (fun a S => ?_)
  refine leafL (leafT (hK5 _ _ ?_))
  refine sSeq (fun K8 hK8 => ?_)
  refine sRegion ?_
  refine sMove (.int .i64 r6) S (wN rfl) (.inl rfl) (by kernel_rfl) rfl (by decide) (fun a S => ?_)
  refine sBin (.bool (r6 != 0)) S (wN rfl) rfl (by kernel_rfl) (by kernel_rfl) (bNe _ _ _ _ .i64 r6 0) rfl (by decide) (fun a S => ?_)
  refine leafL (leafT (hK8 _ _ ?_))
  rcases iteSome h with ⟨hc9, h⟩ | ⟨hc9, h⟩
  · refine sCondT (b := r6 != 0) S (by kernel_rfl) hc9 ?_
    refine sSeq (fun K10 hK10 => ?_)
    refine sRegion ?_
    refine sBuild [] [.int .i64 0, .int .i64 0] S (wN rfl) rfl (by kernel_rfl) (by kernel_rfl) rfl (by decide) (fun a S => ?_)
    refine sMove (.int .i64 r6) S (wN rfl) (.inl rfl) (by kernel_rfl) rfl (by decide) (fun a S => ?_)
    refine sStore (p := b3) (off := 0) (T := 25) (vs := [.int .i64 0, .int .i64 0]) (v := .agg #[.int .i64 0, .int .i64 0]) 0 [.int .i64 0, .int .i64 0] S (wN rfl) rfl (by kernel_rfl) (by kernel_rfl) rfl (by kernel_rfl) (by kernel_rfl) rfl (by simp) rfl (fun a w S => ?_)
    refine sMove (.int .i64 r6) S (wN rfl) (.inr rfl) (by kernel_rfl) rfl (by decide) (fun a S => ?_)
    refine leafL (leafT (hK10 _ _ ?_))
    obtain rfl := Option.some.inj h
    have S := S.learn (fRep r_api_Ratio (.agg #[.int .i64 0, .int .i64 0]) (api_Ratio.mk 0 0)) rfl
    exact wp_ret (rThen (sRet (.tuple #[.agg #[.int .i64 0, .int .i64 0], .int .i64 r6]) S (rsl2 rfl (rvN (c := 4) (t := 25) (T := 25) (p := b3) 0 [.int .i64 0, .int .i64 0] S (by kernel_rfl) (by kernel_rfl) (by kernel_rfl) (by kernel_rfl)) (rvT (t := 5) (v := .int .i64 r6) S (by kernel_rfl))) ⟨(.agg #[.int .i64 0, .int .i64 0]), rfl, S.mem.sel [] [0] (by decide) (by kernel_rfl) (by kernel_rfl)⟩))
  · refine sCondF (b := r6 != 0) S (by kernel_rfl) hc9 ?_
    refine wp_skip (leafT (hK4 _ _ ?_))
    refine sSeq (fun K11 hK11 => ?_)
    obtain ⟨t13, h, g14⟩ := bindSome h
    refine sCut (fun a w => ∃ o12, o12 = t13 ∧ St [] E [] w0 43 a w [(1, .int .i64 p1), (2, .pointer (some ⟨b2, 0, none⟩)), (4, .pointer (some ⟨b3, 0, none⟩)), (20, .bool o12)] [eBox b2 27 [.int .u8 p0.System, .int .i64 p0.N.Num, .int .i64 p0.N.Den], eBox b3 25 [.int .i64 0, .int .i64 0]] []) ?_ (fun a w hI => ?_)
    · refine sRegion ?_
      refine sMove (.int .i64 p1) S (wN rfl) (.inl rfl) (by kernel_rfl) rfl (by decide) (fun a S => ?_)
      refine sBin (.bool (decide (p1 < 0))) S (wN rfl) rfl (by kernel_rfl) (by kernel_rfl) (bLt _ _ _ _ .i64 p1 0) rfl (by decide) (fun a S => ?_)
      refine sMove (.bool (decide (p1 < 0))) S (wN rfl) (.inl rfl) (by kernel_rfl) rfl (by decide) (fun a S => ?_)
      rcases iteSome h with ⟨hc15, h⟩ | ⟨hc15, h⟩
      · refine sSkip (c := decide (p1 < 0)) 2 false 17 18 S rfl rfl (by kernel_rfl) hc15 rfl (by decide) (fun a S => ?_)
        refine sSkip (c := decide (p1 < 0)) 2 false 17 19 S rfl rfl (by kernel_rfl) hc15 rfl (by decide) (fun a S => ?_)
        refine sPickT (b := decide (p1 < 0)) (.bool true) S (wN rfl) rfl (by kernel_rfl) hc15 (by kernel_rfl) rfl (by decide) (fun a S => ?_)
        exact leafL (leafT (⟨true, Option.some.inj h, S.fix [1, 0] [] (by decide) (by kernel_rfl) (by kernel_rfl) (by kernel_rfl)⟩))
      · refine sMove (.int .i64 p1) S (wG (c := decide (p1 < 0)) 2 false 17 rfl rfl (by kernel_rfl) hc15) (.inl rfl) (by kernel_rfl) rfl (by decide) (fun a S => ?_)
        refine sBin (.bool (decide (1000000000 < p1))) S (wG (c := decide (p1 < 0)) 2 false 17 rfl rfl (by kernel_rfl) hc15) rfl (by kernel_rfl) (by kernel_rfl) (bGt _ _ _ _ .i64 p1 1000000000) rfl (by decide) (fun a S => ?_)
        refine sPickF (b := decide (p1 < 0)) (.bool (decide (1000000000 < p1))) S (wN rfl) rfl (by kernel_rfl) hc15 (by kernel_rfl) rfl (by decide) (fun a S => ?_)
        exact leafL (leafT (⟨decide (1000000000 < p1), Option.some.inj h, S.fix [1, 0] [] (by decide) (by kernel_rfl) (by kernel_rfl) (by kernel_rfl)⟩))
    · obtain ⟨o12, rfl, S⟩ := hI
      have h := g14
      clear g14
      try dsimp only at h
      rcases iteSome h with ⟨hc16, h⟩ | ⟨hc16, h⟩
      · refine sCondT (b := o12) S (by kernel_rfl) hc16 ?_
        refine sSeq (fun K17 hK17 => ?_)
        refine sRegion ?_
        refine sBuild [] [.int .i64 0, .int .i64 0] S (wN rfl) rfl (by kernel_rfl) (by kernel_rfl) rfl (by decide) (fun a S => ?_)
        refine sStore (p := b3) (off := 0) (T := 25) (vs := [.int .i64 0, .int .i64 0]) (v := .agg #[.int .i64 0, .int .i64 0]) 1 [.int .i64 0, .int .i64 0] S (wN rfl) rfl (by kernel_rfl) (by kernel_rfl) rfl (by kernel_rfl) (by kernel_rfl) rfl (by simp) rfl (fun a w S => ?_)
        refine sMove (.int .i64 2) S (wN rfl) (.inr rfl) (by kernel_rfl) rfl (by decide) (fun a S => ?_)
        refine leafL (leafT (hK17 _ _ ?_))
        obtain rfl := Option.some.inj h
        have S := S.learn (fRep r_api_Ratio (.agg #[.int .i64 0, .int .i64 0]) (api_Ratio.mk 0 0)) rfl
        exact wp_ret (rThen (sRet (.tuple #[.agg #[.int .i64 0, .int .i64 0], .int .i64 2]) S (rsl2 rfl (rvN (c := 4) (t := 25) (T := 25) (p := b3) 0 [.int .i64 0, .int .i64 0] S (by kernel_rfl) (by kernel_rfl) (by kernel_rfl) (by kernel_rfl)) (rvT (t := 5) (v := .int .i64 2) S (by kernel_rfl))) ⟨(.agg #[.int .i64 0, .int .i64 0]), rfl, S.mem.sel [] [0] (by decide) (by kernel_rfl) (by kernel_rfl)⟩))
      · refine sCondF (b := o12) S (by kernel_rfl) hc16 ?_
        refine wp_skip (leafT (hK11 _ _ ?_))
        refine sSeq (fun K18 hK18 => ?_)
        refine sRegion ?_
        refine sLoadN (p := b2) (off := 0) (T := 27) (vs := [.int .u8 p0.System, .int .i64 p0.N.Num, .int .i64 p0.N.Den]) 0 [.int .u8 p0.System, .int .i64 p0.N.Num, .int .i64 p0.N.Den] S (wN rfl) rfl (by kernel_rfl) (by kernel_rfl) (by kernel_rfl) (by kernel_rfl) rfl rfl (by decide) (fun a S => ?_)
        obtain ⟨r19, hx20, h⟩ := bindSome h
        have S := S.learn (fRep r_api_Count (.agg #[.int .u8 p0.System, .int .i64 p0.N.Num, .int .i64 p0.N.Den]) p0) rfl
        refine sCall (X := Value) (f := 59) (vs := [.agg #[.int .u8 p0.System, .int .i64 p0.N.Num, .int .i64 p0.N.Den], .int .u8 1]) (val := c_yarn_Convert_val r19) (B' := fun _ => []) (D' := c_yarn_Convert_D r19) [] [eBox b2 27 [.int .u8 p0.System, .int .i64 p0.N.Num, .int .i64 p0.N.Den], eBox b3 25 [.int .i64 0, .int .i64 0]] [fRep r_api_Count (.agg #[.int .u8 p0.System, .int .i64 p0.N.Num, .int .i64 p0.N.Den]) p0] [0, 1] [0] S (wN rfl) rfl callee59 (by kernel_rfl) (by decide) (by kernel_rfl) (by kernel_rfl) (fun E1 w1 S1 => c_yarn_Convert E1 w1 p0 (.agg #[.int .u8 p0.System, .int .i64 p0.N.Num, .int .i64 p0.N.Den]) 1 r19 hx20 S1) rfl (by decide) (fun u21 a w S => ?_)
        obtain rfl : u21 = .agg #[.int .u8 r19.1.System, .int .i64 r19.1.N.Num, .int .i64 r19.1.N.Den] := S.mem.know (i := 0) (e := fRep r_api_Count (u21) r19.1) (by kernel_rfl)
        refine sMove (.tuple #[.agg #[.int .u8 r19.1.System, .int .i64 r19.1.N.Num, .int .i64 r19.1.N.Den], .int .i64 r19.2]) S (wN rfl) (.inl rfl) (by kernel_rfl) rfl (by decide) (fun a S => ?_)
        refine sExtract (vs := [.agg #[.int .u8 r19.1.System, .int .i64 r19.1.N.Num, .int .i64 r19.1.N.Den], .int .i64 r19.2]) (.agg #[.int .u8 r19.1.System, .int .i64 r19.1.N.Num, .int .i64 r19.1.N.Den]) S (wN rfl) rfl (by kernel_rfl) rfl rfl (by decide) (fun a S => ?_)
        refine sExtract (vs := [.agg #[.int .u8 r19.1.System, .int .i64 r19.1.N.Num, .int .i64 r19.1.N.Den], .int .i64 r19.2]) (.int .i64 r19.2) S (wN rfl) rfl (by kernel_rfl) rfl rfl (by decide) (fun a S => ?_)
        refine sAlloc (.agg #[.int .u8 0, .int .i64 0, .int .i64 0]) S (wN rfl) rfl (by kernel_rfl) [.int .u8 0, .int .i64 0, .int .i64 0] rfl rfl (by decide) (fun a b22 w S => ?_)
        refine sStore (p := b22) (off := 0) (T := 27) (vs := [.int .u8 0, .int .i64 0, .int .i64 0]) (v := .agg #[.int .u8 r19.1.System, .int .i64 r19.1.N.Num, .int .i64 r19.1.N.Den]) 0 [.int .u8 r19.1.System, .int .i64 r19.1.N.Num, .int .i64 r19.1.N.Den] S (wN rfl) rfl (by kernel_rfl) (by kernel_rfl) rfl (by kernel_rfl) (by kernel_rfl) rfl (by simp) rfl (fun a w S => ?_)
        refine sMove (.int .i64 r19.2) S (wN rfl) (.inr rfl) (by kernel_rfl) rfl (by decide) (fun a S => ?_)
        refine leafL (leafT (hK18 _ _ ?_))
        refine sSeq (fun K23 hK23 => ?_)
        refine sSeq (fun K24 hK24 => ?_)
        refine sRegion ?_
        refine sMove (.int .i64 r19.2) S (wN rfl) (.inl rfl) (by kernel_rfl) rfl (by decide) (fun a S => ?_)
        refine sBin (.bool (r19.2 != 0)) S (wN rfl) rfl (by kernel_rfl) (by kernel_rfl) (bNe _ _ _ _ .i64 r19.2 0) rfl (by decide) (fun a S => ?_)
        refine leafL (leafT (hK24 _ _ ?_))
        rcases iteSome h with ⟨hc25, h⟩ | ⟨hc25, h⟩
        · refine sCondT (b := r19.2 != 0) S (by kernel_rfl) hc25 ?_
          refine sSeq (fun K26 hK26 => ?_)
          refine sRegion ?_
          refine sBuild [] [.int .i64 0, .int .i64 0] S (wN rfl) rfl (by kernel_rfl) (by kernel_rfl) rfl (by decide) (fun a S => ?_)
          refine sMove (.int .i64 r19.2) S (wN rfl) (.inl rfl) (by kernel_rfl) rfl (by decide) (fun a S => ?_)
          refine sStore (p := b3) (off := 0) (T := 25) (vs := [.int .i64 0, .int .i64 0]) (v := .agg #[.int .i64 0, .int .i64 0]) 2 [.int .i64 0, .int .i64 0] S (wN rfl) rfl (by kernel_rfl) (by kernel_rfl) rfl (by kernel_rfl) (by kernel_rfl) rfl (by simp) rfl (fun a w S => ?_)
          refine sMove (.int .i64 r19.2) S (wN rfl) (.inr rfl) (by kernel_rfl) rfl (by decide) (fun a S => ?_)
          refine leafL (leafT (hK26 _ _ ?_))
          obtain rfl := Option.some.inj h
          have S := S.learn (fRep r_api_Ratio (.agg #[.int .i64 0, .int .i64 0]) (api_Ratio.mk 0 0)) rfl
          exact wp_ret (rThen (sRet (.tuple #[.agg #[.int .i64 0, .int .i64 0], .int .i64 r19.2]) S (rsl2 rfl (rvN (c := 4) (t := 25) (T := 25) (p := b3) 0 [.int .i64 0, .int .i64 0] S (by kernel_rfl) (by kernel_rfl) (by kernel_rfl) (by kernel_rfl)) (rvT (t := 5) (v := .int .i64 r19.2) S (by kernel_rfl))) ⟨(.agg #[.int .i64 0, .int .i64 0]), rfl, S.mem.sel [] [0] (by decide) (by kernel_rfl) (by kernel_rfl)⟩))
        · refine sCondF (b := r19.2 != 0) S (by kernel_rfl) hc25 ?_
          refine wp_skip (leafT (hK23 _ _ ?_))
          refine sSeq (fun K27 hK27 => ?_)
          refine sRegion ?_
          refine sMove (.int .i64 p1) S (wN rfl) (.inl rfl) (by kernel_rfl) rfl (by decide) (fun a S => ?_)
          refine sField (b := b22) (off := 0) 1 1 S (wN rfl) rfl (by kernel_rfl) (by kernel_rfl) rfl rfl (by decide) (fun a S => ?_)
          refine sField (b := b22) (off := 1) 0 1 S (wN rfl) rfl (by kernel_rfl) (by kernel_rfl) rfl rfl (by decide) (fun a S => ?_)
          refine sLoad1 (p := b22) (off := 1) (T := 27) (vs := [.int .u8 r19.1.System, .int .i64 r19.1.N.Num, .int .i64 r19.1.N.Den]) 0 (.int .i64 r19.1.N.Num) S (wN rfl) rfl (by kernel_rfl) (by kernel_rfl) (by kernel_rfl) rfl rfl (by decide) (fun a S => ?_)
          refine sBin (.int .i64 (w64 (p1 * r19.1.N.Num))) S (wN rfl) rfl (by kernel_rfl) (by kernel_rfl) (bMul _ _ _ _ p1 r19.1.N.Num) rfl (by decide) (fun a S => ?_)
          refine sField (b := b22) (off := 0) 1 1 S (wN rfl) rfl (by kernel_rfl) (by kernel_rfl) rfl rfl (by decide) (fun a S => ?_)
          refine sField (b := b22) (off := 1) 1 2 S (wN rfl) rfl (by kernel_rfl) (by kernel_rfl) rfl rfl (by decide) (fun a S => ?_)
          refine sLoad1 (p := b22) (off := 2) (T := 27) (vs := [.int .u8 r19.1.System, .int .i64 r19.1.N.Num, .int .i64 r19.1.N.Den]) 0 (.int .i64 r19.1.N.Den) S (wN rfl) rfl (by kernel_rfl) (by kernel_rfl) (by kernel_rfl) rfl rfl (by decide) (fun a S => ?_)
          refine sBin (.int .i64 (w64 (10000 * r19.1.N.Den))) S (wN rfl) rfl (by kernel_rfl) (by kernel_rfl) (bMul _ _ _ _ 10000 r19.1.N.Den) rfl (by decide) (fun a S => ?_)
          obtain ⟨r28, hx29, h⟩ := bindSome h
          refine sCall (X := Value) (f := 60) (vs := [.int .i64 (w64 (p1 * r19.1.N.Num)), .int .i64 (w64 (10000 * r19.1.N.Den))]) (val := c_yarn_Make_val r28) (B' := fun _ => []) (D' := c_yarn_Make_D r28) [] [eBox b22 27 [.int .u8 r19.1.System, .int .i64 r19.1.N.Num, .int .i64 r19.1.N.Den], eBox b2 27 [.int .u8 p0.System, .int .i64 p0.N.Num, .int .i64 p0.N.Den], eBox b3 25 [.int .i64 0, .int .i64 0]] [] [0, 1, 2] [] S (wN rfl) rfl callee60 (by kernel_rfl) (by decide) (by kernel_rfl) (by kernel_rfl) (fun E1 w1 S1 => c_yarn_Make E1 w1 (w64 (p1 * r19.1.N.Num)) (w64 (10000 * r19.1.N.Den)) r28 hx29 S1) rfl (by decide) (fun u30 a w S => ?_)
          obtain rfl : u30 = .agg #[.int .i64 r28.1.Num, .int .i64 r28.1.Den] := S.mem.know (i := 0) (e := fRep r_api_Ratio (u30) r28.1) (by kernel_rfl)
          refine sExtract (vs := [.agg #[.int .i64 r28.1.Num, .int .i64 r28.1.Den], .int .i64 r28.2]) (.agg #[.int .i64 r28.1.Num, .int .i64 r28.1.Den]) S (wN rfl) rfl (by kernel_rfl) rfl rfl (by decide) (fun a S => ?_)
          refine sExtract (vs := [.agg #[.int .i64 r28.1.Num, .int .i64 r28.1.Den], .int .i64 r28.2]) (.int .i64 r28.2) S (wN rfl) rfl (by kernel_rfl) rfl rfl (by decide) (fun a S => ?_)
          refine sStore (p := b3) (off := 0) (T := 25) (vs := [.int .i64 0, .int .i64 0]) (v := .agg #[.int .i64 r28.1.Num, .int .i64 r28.1.Den]) 2 [.int .i64 r28.1.Num, .int .i64 r28.1.Den] S (wN rfl) rfl (by kernel_rfl) (by kernel_rfl) rfl (by kernel_rfl) (by kernel_rfl) rfl (by simp) rfl (fun a w S => ?_)
          refine sMove (.int .i64 r28.2) S (wN rfl) (.inr rfl) (by kernel_rfl) rfl (by decide) (fun a S => ?_)
          refine leafL (leafT (hK27 _ _ ?_))
          obtain rfl := Option.some.inj h
          exact wp_ret (sRet (.tuple #[.agg #[.int .i64 r28.1.Num, .int .i64 r28.1.Den], .int .i64 r28.2]) S (rsl2 rfl (rvN (c := 4) (t := 25) (T := 25) (p := b3) 0 [.int .i64 r28.1.Num, .int .i64 r28.1.Den] S (by kernel_rfl) (by kernel_rfl) (by kernel_rfl) (by kernel_rfl)) (rvT (t := 5) (v := .int .i64 r28.2) S (by kernel_rfl))) ⟨(.agg #[.int .i64 r28.1.Num, .int .i64 r28.1.Den]), rfl, S.mem.sel [] [0] (by decide) (by kernel_rfl) (by kernel_rfl)⟩)

end Go.Proofs.Ytdbgkakmhlmpbaa
