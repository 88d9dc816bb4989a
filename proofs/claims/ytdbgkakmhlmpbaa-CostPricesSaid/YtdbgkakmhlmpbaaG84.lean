import Derived.Test.YtdbgkakmhlmpbaaGTy
import Derived.Test.YtdbgkakmhlmpbaaG83
import Derived.Test.YtdbgkakmhlmpbaaG94
namespace Go.Proofs.Ytdbgkakmhlmpbaa
open Go.RowKit
set_option linter.unusedVariables false

noncomputable def F_raddleref23_Convert (p0 : api_Count) (p1 : Int) : Option (api_Count × Int) :=
  Option.bind (F_raddleref23_Counted p0) fun r6 =>
  if r6 != 0 then
    some ((api_Count.mk 0 (api_Ratio.mk 0 0)), r6)
  else
    Option.bind (α := Bool) (
      if decide (p1 < 1) then
        some true
      else
        some (decide (4 < p1))) fun o11 =>
    if o11 then
      some ((api_Count.mk 0 (api_Ratio.mk 0 0)), 2)
    else
      Option.bind (F_raddleref23_converted p0 p1) fun r18 =>
      if r18.2 != 0 then
        some ((api_Count.mk 0 (api_Ratio.mk 0 0)), r18.2)
      else
        some ((api_Count.mk p1 r18.1), 0)
def c_raddleref23_Convert_val (r : (api_Count × Int)) (x : Value) : Value := .tuple #[x, .int .i64 r.2]
def c_raddleref23_Convert_D (r : (api_Count × Int)) (x : Value) : List Fact := [fRep r_api_Count x r.1]
set_option maxHeartbeats 4000000 in
set_option maxRecDepth 100000 in
theorem c_raddleref23_Convert (E : Nat → Prop) (w0 : World) (p0 : api_Count) (v0 : Value) (p1 : Int) (r : (api_Count × Int)) (h : F_raddleref23_Convert p0 p1 = some r) (S : St0 E [] w0 w0 [] [fRep r_api_Count (v0) p0]) :
    Calls Try.prog 84 #[v0, .int .u8 p1] w0 (Ret (X := Value) E [] w0 (c_raddleref23_Convert_val r) (fun _ => []) (c_raddleref23_Convert_D r)) := by
  unfold F_raddleref23_Convert at h
  obtain rfl : v0 = .agg #[.int .u8 p0.System, .int .i64 p0.N.Num, .int .i64 p0.N.Den] := S.know (i := 0) (e := fRep r_api_Count (v0) p0) (by kernel_rfl)
  refine sEnter (args := [.agg #[.int .u8 p0.System, .int .i64 p0.N.Num, .int .i64 p0.N.Den], .int .u8 p1]) 34 Try.func84 rfl rfl (by simp) S (fun a S => ?_)
  refine sSeq (fun K1 hK1 => ?_)
  refine sRegion ?_
  refine sBox (v := .agg #[.int .u8 p0.System, .int .i64 p0.N.Num, .int .i64 p0.N.Den]) S (wN rfl) rfl (by kernel_rfl) [.int .u8 p0.System, .int .i64 p0.N.Num, .int .i64 p0.N.Den] rfl rfl (by decide) (fun a b2 w S => ?_)
  refine sAlloc (.agg #[.int .u8 0, .int .i64 0, .int .i64 0]) S (wN rfl) rfl (by kernel_rfl) [.int .u8 0, .int .i64 0, .int .i64 0] rfl rfl (by decide) (fun a b3 w S => ?_)
  refine sMove (.int .i64 0) S (wN rfl) (.inr rfl) (by kernel_rfl) rfl (by decide) (fun a S => ?_)
  refine leafL (leafT (hK1 _ _ ?_))
  refine sSeq (fun K4 hK4 => ?_)
  refine sSeq (fun K5 hK5 => ?_)
  refine sRegion ?_
  refine sLoadN (p := b2) (off := 0) (T := 27) (vs := [.int .u8 p0.System, .int .i64 p0.N.Num, .int .i64 p0.N.Den]) 1 [.int .u8 p0.System, .int .i64 p0.N.Num, .int .i64 p0.N.Den] S (wN rfl) rfl (by kernel_rfl) (by kernel_rfl) (by kernel_rfl) (by kernel_rfl) rfl rfl (by decide) (fun a S => ?_)
  obtain ⟨r6, hx7, h⟩ := bindSome h
  have S1 := S.mem
  refine sCallQ (X := Unit) (f := 83) (vs := [.agg #[.int .u8 p0.System, .int .i64 p0.N.Num, .int .i64 p0.N.Den]]) (val := fun _ => .int .i64 r6) S (wN rfl) rfl callee83 (by kernel_rfl) (S1.quiet [0] (by kernel_rfl)) (fun E1 w1 S1 => c_raddleref23_Counted E1 w1 p0 (.agg #[.int .u8 p0.System, .int .i64 p0.N.Num, .int .i64 p0.N.Den]) r6 hx7 S1) rfl (by decide) (fun _ a w S => ?_)
  refine sBin (.bool (r6 != 0)) S (wN rfl) rfl (by kernel_rfl) (by kernel_rfl) (bNe _ _ _ _ .i64 r6 0) rfl (by decide) (fun a S => ?_)
  refine leafL (leafT (hK5 _ _ ?_))
  rcases iteSome h with ⟨hc8, h⟩ | ⟨hc8, h⟩
  · refine sCondT (b := r6 != 0) S (by kernel_rfl) hc8 ?_
    refine sSeq (fun K9 hK9 => ?_)
    refine sRegion ?_
    refine sBuild [] [.int .u8 0, .int .i64 0, .int .i64 0] S (wN rfl) rfl (by kernel_rfl) (by kernel_rfl) rfl (by decide) (fun a S => ?_)
    refine sLoadN (p := b2) (off := 0) (T := 27) (vs := [.int .u8 p0.System, .int .i64 p0.N.Num, .int .i64 p0.N.Den]) 1 [.int .u8 p0.System, .int .i64 p0.N.Num, .int .i64 p0.N.Den] S (wN rfl) rfl (by kernel_rfl) (by kernel_rfl) (by kernel_rfl) (by kernel_rfl) rfl rfl (by decide) (fun a S => ?_)
    have S1 := S.mem
    refine sCallQ (X := Unit) (f := 83) (vs := [.agg #[.int .u8 p0.System, .int .i64 p0.N.Num, .int .i64 p0.N.Den]]) (val := fun _ => .int .i64 r6) S (wN rfl) rfl callee83 (by kernel_rfl) (S1.quiet [0] (by kernel_rfl)) (fun E1 w1 S1 => c_raddleref23_Counted E1 w1 p0 (.agg #[.int .u8 p0.System, .int .i64 p0.N.Num, .int .i64 p0.N.Den]) r6 hx7 S1) rfl (by decide) (fun _ a w S => ?_)
    refine sStore (p := b3) (off := 0) (T := 27) (vs := [.int .u8 0, .int .i64 0, .int .i64 0]) (v := .agg #[.int .u8 0, .int .i64 0, .int .i64 0]) 0 [.int .u8 0, .int .i64 0, .int .i64 0] S (wN rfl) rfl (by kernel_rfl) (by kernel_rfl) rfl (by kernel_rfl) (by kernel_rfl) rfl (by simp) rfl (fun a w S => ?_)
    refine sMove (.int .i64 r6) S (wN rfl) (.inr rfl) (by kernel_rfl) rfl (by decide) (fun a S => ?_)
    refine leafL (leafT (hK9 _ _ ?_))
    obtain rfl := Option.some.inj h
    have S := S.learn (fRep r_api_Count (.agg #[.int .u8 0, .int .i64 0, .int .i64 0]) (api_Count.mk 0 (api_Ratio.mk 0 0))) rfl
    exact wp_ret (rThen (sRet (.tuple #[.agg #[.int .u8 0, .int .i64 0, .int .i64 0], .int .i64 r6]) S (rsl2 rfl (rvN (c := 4) (t := 27) (T := 27) (p := b3) 0 [.int .u8 0, .int .i64 0, .int .i64 0] S (by kernel_rfl) (by kernel_rfl) (by kernel_rfl) (by kernel_rfl)) (rvT (t := 5) (v := .int .i64 r6) S (by kernel_rfl))) ⟨(.agg #[.int .u8 0, .int .i64 0, .int .i64 0]), rfl, S.mem.sel [] [0] (by decide) (by kernel_rfl) (by kernel_rfl)⟩))
  · refine sCondF (b := r6 != 0) S (by kernel_rfl) hc8 ?_
    refine wp_skip (leafT (hK4 _ _ ?_))
    refine sSeq (fun K10 hK10 => ?_)
    obtain ⟨t12, h, g13⟩ := bindSome h
    refine sCut (fun a w => ∃ o11, o11 = t12 ∧ St [] E [] w0 34 a w [(1, .int .u8 p1), (2, .pointer (some ⟨b2, 0, none⟩)), (4, .pointer (some ⟨b3, 0, none⟩)), (19, .bool o11)] [eBox b2 27 [.int .u8 p0.System, .int .i64 p0.N.Num, .int .i64 p0.N.Den], eBox b3 27 [.int .u8 0, .int .i64 0, .int .i64 0]] []) ?_ (fun a w hI => ?_)
    · refine sRegion ?_
      refine sMove (.int .u8 p1) S (wN rfl) (.inl rfl) (by kernel_rfl) rfl (by decide) (fun a S => ?_)
      refine sBin (.bool (decide (p1 < 1))) S (wN rfl) rfl (by kernel_rfl) (by kernel_rfl) (bLt _ _ _ _ .u8 p1 1) rfl (by decide) (fun a S => ?_)
      refine sMove (.bool (decide (p1 < 1))) S (wN rfl) (.inl rfl) (by kernel_rfl) rfl (by decide) (fun a S => ?_)
      rcases iteSome h with ⟨hc14, h⟩ | ⟨hc14, h⟩
      · refine sSkip (c := decide (p1 < 1)) 2 false 16 17 S rfl rfl (by kernel_rfl) hc14 rfl (by decide) (fun a S => ?_)
        refine sSkip (c := decide (p1 < 1)) 2 false 16 18 S rfl rfl (by kernel_rfl) hc14 rfl (by decide) (fun a S => ?_)
        refine sPickT (b := decide (p1 < 1)) (.bool true) S (wN rfl) rfl (by kernel_rfl) hc14 (by kernel_rfl) rfl (by decide) (fun a S => ?_)
        exact leafL (leafT (⟨true, Option.some.inj h, S.fix [1, 0] [] (by decide) (by kernel_rfl) (by kernel_rfl) (by kernel_rfl)⟩))
      · refine sMove (.int .u8 p1) S (wG (c := decide (p1 < 1)) 2 false 16 rfl rfl (by kernel_rfl) hc14) (.inl rfl) (by kernel_rfl) rfl (by decide) (fun a S => ?_)
        refine sBin (.bool (decide (4 < p1))) S (wG (c := decide (p1 < 1)) 2 false 16 rfl rfl (by kernel_rfl) hc14) rfl (by kernel_rfl) (by kernel_rfl) (bGt _ _ _ _ .u8 p1 4) rfl (by decide) (fun a S => ?_)
        refine sPickF (b := decide (p1 < 1)) (.bool (decide (4 < p1))) S (wN rfl) rfl (by kernel_rfl) hc14 (by kernel_rfl) rfl (by decide) (fun a S => ?_)
        exact leafL (leafT (⟨decide (4 < p1), Option.some.inj h, S.fix [1, 0] [] (by decide) (by kernel_rfl) (by kernel_rfl) (by kernel_rfl)⟩))
    · obtain ⟨o11, rfl, S⟩ := hI
      have h := g13
      clear g13
      try dsimp only at h
      rcases iteSome h with ⟨hc15, h⟩ | ⟨hc15, h⟩
      · refine sCondT (b := o11) S (by kernel_rfl) hc15 ?_
        refine sSeq (fun K16 hK16 => ?_)
        refine sRegion ?_
        refine sBuild [] [.int .u8 0, .int .i64 0, .int .i64 0] S (wN rfl) rfl (by kernel_rfl) (by kernel_rfl) rfl (by decide) (fun a S => ?_)
        refine sStore (p := b3) (off := 0) (T := 27) (vs := [.int .u8 0, .int .i64 0, .int .i64 0]) (v := .agg #[.int .u8 0, .int .i64 0, .int .i64 0]) 1 [.int .u8 0, .int .i64 0, .int .i64 0] S (wN rfl) rfl (by kernel_rfl) (by kernel_rfl) rfl (by kernel_rfl) (by kernel_rfl) rfl (by simp) rfl (fun a w S => ?_)
        refine sMove (.int .i64 2) S (wN rfl) (.inr rfl) (by kernel_rfl) rfl (by decide) (fun a S => ?_)
        refine leafL (leafT (hK16 _ _ ?_))
        obtain rfl := Option.some.inj h
        have S := S.learn (fRep r_api_Count (.agg #[.int .u8 0, .int .i64 0, .int .i64 0]) (api_Count.mk 0 (api_Ratio.mk 0 0))) rfl
        exact wp_ret (rThen (sRet (.tuple #[.agg #[.int .u8 0, .int .i64 0, .int .i64 0], .int .i64 2]) S (rsl2 rfl (rvN (c := 4) (t := 27) (T := 27) (p := b3) 0 [.int .u8 0, .int .i64 0, .int .i64 0] S (by kernel_rfl) (by kernel_rfl) (by kernel_rfl) (by kernel_rfl)) (rvT (t := 5) (v := .int .i64 2) S (by kernel_rfl))) ⟨(.agg #[.int .u8 0, .int .i64 0, .int .i64 0]), rfl, S.mem.sel [] [0] (by decide) (by kernel_rfl) (by kernel_rfl)⟩))
      · refine sCondF (b := o11) S (by kernel_rfl) hc15 ?_
        refine wp_skip (leafT (hK10 _ _ ?_))
        refine sSeq (fun K17 hK17 => ?_)
        refine sRegion ?_
        refine sLoadN (p := b2) (off := 0) (T := 27) (vs := [.int .u8 p0.System, .int .i64 p0.N.Num, .int .i64 p0.N.Den]) 0 [.int .u8 p0.System, .int .i64 p0.N.Num, .int .i64 p0.N.Den] S (wN rfl) rfl (by kernel_rfl) (by kernel_rfl) (by kernel_rfl) (by kernel_rfl) rfl rfl (by decide) (fun a S => ?_)
        refine sMove (.int .u8 p1) S (wN rfl) (.inl rfl) (by kernel_rfl) rfl (by decide) (fun a S => ?_)
        obtain ⟨r18, hx19, h⟩ := bindSome h
        have S := S.learn (fRep r_api_Count (.agg #[.int .u8 p0.System, .int .i64 p0.N.Num, .int .i64 p0.N.Den]) p0) rfl
        refine sCall (X := Value) (f := 94) (vs := [.agg #[.int .u8 p0.System, .int .i64 p0.N.Num, .int .i64 p0.N.Den], .int .u8 p1]) (val := c_raddleref23_converted_val r18) (B' := fun _ => []) (D' := c_raddleref23_converted_D r18) [] [eBox b2 27 [.int .u8 p0.System, .int .i64 p0.N.Num, .int .i64 p0.N.Den], eBox b3 27 [.int .u8 0, .int .i64 0, .int .i64 0]] [fRep r_api_Count (.agg #[.int .u8 p0.System, .int .i64 p0.N.Num, .int .i64 p0.N.Den]) p0] [0, 1] [0] S (wN rfl) rfl callee94 (by kernel_rfl) (by decide) (by kernel_rfl) (by kernel_rfl) (fun E1 w1 S1 => c_raddleref23_converted E1 w1 p0 (.agg #[.int .u8 p0.System, .int .i64 p0.N.Num, .int .i64 p0.N.Den]) p1 r18 hx19 S1) rfl (by decide) (fun u20 a w S => ?_)
        obtain rfl : u20 = .agg #[.int .i64 r18.1.Num, .int .i64 r18.1.Den] := S.mem.know (i := 0) (e := fRep r_api_Ratio (u20) r18.1) (by kernel_rfl)
        refine sMove (.tuple #[.agg #[.int .i64 r18.1.Num, .int .i64 r18.1.Den], .int .i64 r18.2]) S (wN rfl) (.inl rfl) (by kernel_rfl) rfl (by decide) (fun a S => ?_)
        refine sExtract (vs := [.agg #[.int .i64 r18.1.Num, .int .i64 r18.1.Den], .int .i64 r18.2]) (.agg #[.int .i64 r18.1.Num, .int .i64 r18.1.Den]) S (wN rfl) rfl (by kernel_rfl) rfl rfl (by decide) (fun a S => ?_)
        refine sExtract (vs := [.agg #[.int .i64 r18.1.Num, .int .i64 r18.1.Den], .int .i64 r18.2]) (.int .i64 r18.2) S (wN rfl) rfl (by kernel_rfl) rfl rfl (by decide) (fun a S => ?_)
        refine sAlloc (.agg #[.int .i64 0, .int .i64 0]) S (wN rfl) rfl (by kernel_rfl) [.int .i64 0, .int .i64 0] rfl rfl (by decide) (fun a b21 w S => ?_)
        refine sStore (p := b21) (off := 0) (T := 25) (vs := [.int .i64 0, .int .i64 0]) (v := .agg #[.int .i64 r18.1.Num, .int .i64 r18.1.Den]) 0 [.int .i64 r18.1.Num, .int .i64 r18.1.Den] S (wN rfl) rfl (by kernel_rfl) (by kernel_rfl) rfl (by kernel_rfl) (by kernel_rfl) rfl (by simp) rfl (fun a w S => ?_)
        refine sMove (.int .i64 r18.2) S (wN rfl) (.inr rfl) (by kernel_rfl) rfl (by decide) (fun a S => ?_)
        refine leafL (leafT (hK17 _ _ ?_))
        refine sSeq (fun K22 hK22 => ?_)
        refine sSeq (fun K23 hK23 => ?_)
        refine sRegion ?_
        refine sMove (.int .i64 r18.2) S (wN rfl) (.inl rfl) (by kernel_rfl) rfl (by decide) (fun a S => ?_)
        refine sBin (.bool (r18.2 != 0)) S (wN rfl) rfl (by kernel_rfl) (by kernel_rfl) (bNe _ _ _ _ .i64 r18.2 0) rfl (by decide) (fun a S => ?_)
        refine leafL (leafT (hK23 _ _ ?_))
        rcases iteSome h with ⟨hc24, h⟩ | ⟨hc24, h⟩
        · refine sCondT (b := r18.2 != 0) S (by kernel_rfl) hc24 ?_
          refine sSeq (fun K25 hK25 => ?_)
          refine sRegion ?_
          refine sBuild [] [.int .u8 0, .int .i64 0, .int .i64 0] S (wN rfl) rfl (by kernel_rfl) (by kernel_rfl) rfl (by decide) (fun a S => ?_)
          refine sMove (.int .i64 r18.2) S (wN rfl) (.inl rfl) (by kernel_rfl) rfl (by decide) (fun a S => ?_)
          refine sStore (p := b3) (off := 0) (T := 27) (vs := [.int .u8 0, .int .i64 0, .int .i64 0]) (v := .agg #[.int .u8 0, .int .i64 0, .int .i64 0]) 2 [.int .u8 0, .int .i64 0, .int .i64 0] S (wN rfl) rfl (by kernel_rfl) (by kernel_rfl) rfl (by kernel_rfl) (by kernel_rfl) rfl (by simp) rfl (fun a w S => ?_)
          refine sMove (.int .i64 r18.2) S (wN rfl) (.inr rfl) (by kernel_rfl) rfl (by decide) (fun a S => ?_)
          refine leafL (leafT (hK25 _ _ ?_))
          obtain rfl := Option.some.inj h
          have S := S.learn (fRep r_api_Count (.agg #[.int .u8 0, .int .i64 0, .int .i64 0]) (api_Count.mk 0 (api_Ratio.mk 0 0))) rfl
          exact wp_ret (rThen (sRet (.tuple #[.agg #[.int .u8 0, .int .i64 0, .int .i64 0], .int .i64 r18.2]) S (rsl2 rfl (rvN (c := 4) (t := 27) (T := 27) (p := b3) 0 [.int .u8 0, .int .i64 0, .int .i64 0] S (by kernel_rfl) (by kernel_rfl) (by kernel_rfl) (by kernel_rfl)) (rvT (t := 5) (v := .int .i64 r18.2) S (by kernel_rfl))) ⟨(.agg #[.int .u8 0, .int .i64 0, .int .i64 0]), rfl, S.mem.sel [] [0] (by decide) (by kernel_rfl) (by kernel_rfl)⟩))
        · refine sCondF (b := r18.2 != 0) S (by kernel_rfl) hc24 ?_
          refine wp_skip (leafT (hK22 _ _ ?_))
          refine sSeq (fun K26 hK26 => ?_)
          refine sRegion ?_
          refine sMove (.int .u8 p1) S (wN rfl) (.inl rfl) (by kernel_rfl) rfl (by decide) (fun a S => ?_)
          refine sLoadN (p := b21) (off := 0) (T := 25) (vs := [.int .i64 r18.1.Num, .int .i64 r18.1.Den]) 0 [.int .i64 r18.1.Num, .int .i64 r18.1.Den] S (wN rfl) rfl (by kernel_rfl) (by kernel_rfl) (by kernel_rfl) (by kernel_rfl) rfl rfl (by decide) (fun a S => ?_)
          refine sBuild [(0, .int .u8 p1), (1, .agg #[.int .i64 r18.1.Num, .int .i64 r18.1.Den])] [.int .u8 p1, .int .i64 r18.1.Num, .int .i64 r18.1.Den] S (wN rfl) rfl (by kernel_rfl) (by kernel_rfl) rfl (by decide) (fun a S => ?_)
          refine sStore (p := b3) (off := 0) (T := 27) (vs := [.int .u8 0, .int .i64 0, .int .i64 0]) (v := .agg #[.int .u8 p1, .int .i64 r18.1.Num, .int .i64 r18.1.Den]) 2 [.int .u8 p1, .int .i64 r18.1.Num, .int .i64 r18.1.Den] S (wN rfl) rfl (by kernel_rfl) (by kernel_rfl) rfl (by kernel_rfl) (by kernel_rfl) rfl (by simp) rfl (fun a w S => ?_)
          refine sMove (.int .i64 0) S (wN rfl) (.inr rfl) (by kernel_rfl) rfl (by decide) (fun a S => ?_)
          refine leafL (leafT (hK26 _ _ ?_))
          obtain rfl := Option.some.inj h
          have S := S.learn (fRep r_api_Count (.agg #[.int .u8 p1, .int .i64 r18.1.Num, .int .i64 r18.1.Den]) (api_Count.mk p1 r18.1)) rfl
          exact wp_ret (sRet (.tuple #[.agg #[.int .u8 p1, .int .i64 r18.1.Num, .int .i64 r18.1.Den], .int .i64 0]) S (rsl2 rfl (rvN (c := 4) (t := 27) (T := 27) (p := b3) 0 [.int .u8 p1, .int .i64 r18.1.Num, .int .i64 r18.1.Den] S (by kernel_rfl) (by kernel_rfl) (by kernel_rfl) (by kernel_rfl)) (rvT (t := 5) (v := .int .i64 0) S (by kernel_rfl))) ⟨(.agg #[.int .u8 p1, .int .i64 r18.1.Num, .int .i64 r18.1.Den]), rfl, S.mem.sel [] [0] (by decide) (by kernel_rfl) (by kernel_rfl)⟩)

end Go.Proofs.Ytdbgkakmhlmpbaa
