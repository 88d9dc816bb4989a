import Derived.Test.YtdbgkakmhlmpbaaGTy
import Derived.Test.YtdbgkakmhlmpbaaG95
namespace Go.Proofs.Ytdbgkakmhlmpbaa
open Go.RowKit
set_option linter.unusedVariables false

noncomputable def F_raddleref23_converted (p0 : api_Count) (p1 : Int) : Option (api_Ratio × Int) :=
  if ((p0.System == 1) && ((p1 == 2) && true)) then
    Option.bind (F_raddleref23_over 9 1 p0.N true) fun r9 =>
    some (r9.1, r9.2)
  else
    if ((p0.System == 2) && ((p1 == 1) && true)) then
      Option.bind (F_raddleref23_over 1 9 p0.N true) fun r15 =>
      some (r15.1, r15.2)
    else
      Option.bind (α := Bool) (
        if ((p0.System == 1) && ((p1 == 3) && true)) then
          some ((p0.System == 1) && ((p1 == 3) && true))
        else
          some ((p0.System == 3) && ((p1 == 1) && true))) fun o18 =>
      if o18 then
        Option.bind (F_raddleref23_over 1000 1 p0.N false) fun r25 =>
        some (r25.1, r25.2)
      else
        Option.bind (α := Bool) (
          if ((p0.System == 2) && ((p1 == 3) && true)) then
            some ((p0.System == 2) && ((p1 == 3) && true))
          else
            some ((p0.System == 3) && ((p1 == 2) && true))) fun o28 =>
        if o28 then
          Option.bind (F_raddleref23_over 9000 1 p0.N false) fun r35 =>
          some (r35.1, r35.2)
        else
          Option.bind (α := Bool) (
            if ((p0.System == 1) && ((p1 == 4) && true)) then
              some ((p0.System == 1) && ((p1 == 4) && true))
            else
              some ((p0.System == 4) && ((p1 == 1) && true))) fun o38 =>
          if o38 then
            Option.bind (F_raddleref23_over 226796185 384048 p0.N false) fun r45 =>
            some (r45.1, r45.2)
          else
            Option.bind (α := Bool) (
              if ((p0.System == 2) && ((p1 == 4) && true)) then
                some ((p0.System == 2) && ((p1 == 4) && true))
              else
                some ((p0.System == 4) && ((p1 == 2) && true))) fun o48 =>
            if o48 then
              Option.bind (F_raddleref23_over 2041165665 384048 p0.N false) fun r55 =>
              some (r55.1, r55.2)
            else
              if ((p0.System == 3) && ((p1 == 4) && true)) then
                Option.bind (F_raddleref23_over 226796185 384048000 p0.N true) fun r61 =>
                some (r61.1, r61.2)
              else
                if ((p0.System == 4) && ((p1 == 3) && true)) then
                  Option.bind (F_raddleref23_over 384048000 226796185 p0.N true) fun r67 =>
                  some (r67.1, r67.2)
                else
                  some (p0.N, 0)
def c_raddleref23_converted_val (r : (api_Ratio × Int)) (x : Value) : Value := .tuple #[x, .int .i64 r.2]
def c_raddleref23_converted_D (r : (api_Ratio × Int)) (x : Value) : List Fact := [fRep r_api_Ratio x r.1]
set_option maxHeartbeats 4000000 in
set_option maxRecDepth 100000 in
theorem c_raddleref23_converted (E : Nat → Prop) (w0 : World) (p0 : api_Count) (v0 : Value) (p1 : Int) (r : (api_Ratio × Int)) (h : F_raddleref23_converted p0 p1 = some r) (S : St0 E [] w0 w0 [] [fRep r_api_Count (v0) p0]) :
    Calls Try.prog 94 #[v0, .int .u8 p1] w0 (Ret (X := Value) E [] w0 (c_raddleref23_converted_val r) (fun _ => []) (c_raddleref23_converted_D r)) := by
  unfold F_raddleref23_converted at h
  obtain rfl : v0 = .agg #[.int .u8 p0.System, .int .i64 p0.N.Num, .int .i64 p0.N.Den] := S.know (i := 0) (e := fRep r_api_Count (v0) p0) (by kernel_rfl)
  refine sEnter (args := [.agg #[.int .u8 p0.System, .int .i64 p0.N.Num, .int .i64 p0.N.Den], .int .u8 p1]) 84 Try.func94 rfl rfl (by simp) S (fun a S => ?_)
  refine sSeq (fun K1 hK1 => ?_)
  refine sRegion ?_
  refine sBox (v := .agg #[.int .u8 p0.System, .int .i64 p0.N.Num, .int .i64 p0.N.Den]) S (wN rfl) rfl (by kernel_rfl) [.int .u8 p0.System, .int .i64 p0.N.Num, .int .i64 p0.N.Den] rfl rfl (by decide) (fun a b2 w S => ?_)
  refine sAlloc (.agg #[.int .i64 0, .int .i64 0]) S (wN rfl) rfl (by kernel_rfl) [.int .i64 0, .int .i64 0] rfl rfl (by decide) (fun a b3 w S => ?_)
  refine sMove (.int .i64 0) S (wN rfl) (.inr rfl) (by kernel_rfl) rfl (by decide) (fun a S => ?_)
  refine leafL (leafT (hK1 _ _ ?_))
  refine sSeq (fun K4 hK4 => ?_)
  refine sSeq (fun K5 hK5 => ?_)
  refine sRegion ?_
  refine sField (b := b2) (off := 0) 0 0 S (wN rfl) rfl (by kernel_rfl) (by kernel_rfl) rfl rfl (by decide) (fun a S => ?_)
  refine sLoad1 (p := b2) (off := 0) (T := 27) (vs := [.int .u8 p0.System, .int .i64 p0.N.Num, .int .i64 p0.N.Den]) 1 (.int .u8 p0.System) S (wN rfl) rfl (by kernel_rfl) (by kernel_rfl) (by kernel_rfl) rfl rfl (by decide) (fun a S => ?_)
  refine sMove (.int .u8 p1) S (wN rfl) (.inl rfl) (by kernel_rfl) rfl (by decide) (fun a S => ?_)
  refine sBuild [(0, .int .u8 p0.System), (1, .int .u8 p1)] [.int .u8 p0.System, .int .u8 p1] S (wN rfl) rfl (by kernel_rfl) (by kernel_rfl) rfl (by decide) (fun a S => ?_)
  refine leafL (leafT (hK5 _ _ ?_))
  refine wp_block ?_
  refine sSeq (fun K6 hK6 => ?_)
  refine sRegion ?_
  refine sBuild [(0, .int .u8 1), (1, .int .u8 2)] [.int .u8 1, .int .u8 2] S (wN rfl) rfl (by kernel_rfl) (by kernel_rfl) rfl (by decide) (fun a S => ?_)
  refine sBin (.bool ((p0.System == 1) && ((p1 == 2) && true))) S (wN rfl) rfl (by kernel_rfl) (by kernel_rfl) (bEqV _ _ _ _ #[.int .u8 p0.System, .int .u8 p1] #[.int .u8 1, .int .u8 2] ((p0.System == 1) && ((p1 == 2) && true)) (by kernel_rfl) (eqlV_of (by kernel_rfl))) rfl (by decide) (fun a S => ?_)
  refine sMove (.bool ((p0.System == 1) && ((p1 == 2) && true))) S (wN rfl) (.inr rfl) (by kernel_rfl) rfl (by decide) (fun a S => ?_)
  refine leafL (leafT (hK6 _ _ ?_))
  rcases iteSome h with ⟨hc7, h⟩ | ⟨hc7, h⟩
  · refine sCondT (b := ((p0.System == 1) && ((p1 == 2) && true))) S (by kernel_rfl) hc7 ?_
    refine sSeq (fun K8 hK8 => ?_)
    refine sRegion ?_
    refine sField (b := b2) (off := 0) 1 1 S (wN rfl) rfl (by kernel_rfl) (by kernel_rfl) rfl rfl (by decide) (fun a S => ?_)
    refine sLoadN (p := b2) (off := 1) (T := 27) (vs := [.int .u8 p0.System, .int .i64 p0.N.Num, .int .i64 p0.N.Den]) 1 [.int .i64 p0.N.Num, .int .i64 p0.N.Den] S (wN rfl) rfl (by kernel_rfl) (by kernel_rfl) (by kernel_rfl) (by kernel_rfl) rfl rfl (by decide) (fun a S => ?_)
    obtain ⟨r9, hx10, h⟩ := bindSome h
    have S := S.learn (fRep r_api_Ratio (.agg #[.int .i64 p0.N.Num, .int .i64 p0.N.Den]) p0.N) rfl
    refine sCall (X := Value) (f := 95) (vs := [.int .i64 9, .int .i64 1, .agg #[.int .i64 p0.N.Num, .int .i64 p0.N.Den], .bool true]) (val := c_raddleref23_over_val r9) (B' := fun _ => []) (D' := c_raddleref23_over_D r9) [] [eBox b3 25 [.int .i64 0, .int .i64 0], eBox b2 27 [.int .u8 p0.System, .int .i64 p0.N.Num, .int .i64 p0.N.Den]] [fRep r_api_Ratio (.agg #[.int .i64 p0.N.Num, .int .i64 p0.N.Den]) p0.N] [0, 1] [0] S (wN rfl) rfl callee95 (by kernel_rfl) (by decide) (by kernel_rfl) (by kernel_rfl) (fun E1 w1 S1 => c_raddleref23_over E1 w1 9 1 p0.N (.agg #[.int .i64 p0.N.Num, .int .i64 p0.N.Den]) true r9 hx10 S1) rfl (by decide) (fun u11 a w S => ?_)
    obtain rfl : u11 = .agg #[.int .i64 r9.1.Num, .int .i64 r9.1.Den] := S.mem.know (i := 0) (e := fRep r_api_Ratio (u11) r9.1) (by kernel_rfl)
    refine sExtract (vs := [.agg #[.int .i64 r9.1.Num, .int .i64 r9.1.Den], .int .i64 r9.2]) (.agg #[.int .i64 r9.1.Num, .int .i64 r9.1.Den]) S (wN rfl) rfl (by kernel_rfl) rfl rfl (by decide) (fun a S => ?_)
    refine sExtract (vs := [.agg #[.int .i64 r9.1.Num, .int .i64 r9.1.Den], .int .i64 r9.2]) (.int .i64 r9.2) S (wN rfl) rfl (by kernel_rfl) rfl rfl (by decide) (fun a S => ?_)
    refine sStore (p := b3) (off := 0) (T := 25) (vs := [.int .i64 0, .int .i64 0]) (v := .agg #[.int .i64 r9.1.Num, .int .i64 r9.1.Den]) 0 [.int .i64 r9.1.Num, .int .i64 r9.1.Den] S (wN rfl) rfl (by kernel_rfl) (by kernel_rfl) rfl (by kernel_rfl) (by kernel_rfl) rfl (by simp) rfl (fun a w S => ?_)
    refine sMove (.int .i64 r9.2) S (wN rfl) (.inr rfl) (by kernel_rfl) rfl (by decide) (fun a S => ?_)
    refine leafL (leafT (hK8 _ _ ?_))
    obtain rfl := Option.some.inj h
    exact wp_ret (rBlock (rThen (sRet (.tuple #[.agg #[.int .i64 r9.1.Num, .int .i64 r9.1.Den], .int .i64 r9.2]) S (rsl2 rfl (rvN (c := 4) (t := 25) (T := 25) (p := b3) 0 [.int .i64 r9.1.Num, .int .i64 r9.1.Den] S (by kernel_rfl) (by kernel_rfl) (by kernel_rfl) (by kernel_rfl)) (rvT (t := 5) (v := .int .i64 r9.2) S (by kernel_rfl))) ⟨(.agg #[.int .i64 r9.1.Num, .int .i64 r9.1.Den]), rfl, S.mem.sel [] [0] (by decide) (by kernel_rfl) (by kernel_rfl)⟩)))
  · refine sCondF (b := ((p0.System == 1) && ((p1 == 2) && true))) S (by kernel_rfl) hc7 ?_
    refine sSeq (fun K12 hK12 => ?_)
    refine sRegion ?_
    refine sBuild [(0, .int .u8 2), (1, .int .u8 1)] [.int .u8 2, .int .u8 1] S (wN rfl) rfl (by kernel_rfl) (by kernel_rfl) rfl (by decide) (fun a S => ?_)
    refine sBin (.bool ((p0.System == 2) && ((p1 == 1) && true))) S (wN rfl) rfl (by kernel_rfl) (by kernel_rfl) (bEqV _ _ _ _ #[.int .u8 p0.System, .int .u8 p1] #[.int .u8 2, .int .u8 1] ((p0.System == 2) && ((p1 == 1) && true)) (by kernel_rfl) (eqlV_of (by kernel_rfl))) rfl (by decide) (fun a S => ?_)
    refine sMove (.bool ((p0.System == 2) && ((p1 == 1) && true))) S (wN rfl) (.inr rfl) (by kernel_rfl) rfl (by decide) (fun a S => ?_)
    refine leafL (leafT (hK12 _ _ ?_))
    rcases iteSome h with ⟨hc13, h⟩ | ⟨hc13, h⟩
    · refine sCondT (b := ((p0.System == 2) && ((p1 == 1) && true))) S (by kernel_rfl) hc13 ?_
      refine sSeq (fun K14 hK14 => ?_)
      refine sRegion ?_
      refine sField (b := b2) (off := 0) 1 1 S (wN rfl) rfl (by kernel_rfl) (by kernel_rfl) rfl rfl (by decide) (fun a S => ?_)
      refine sLoadN (p := b2) (off := 1) (T := 27) (vs := [.int .u8 p0.System, .int .i64 p0.N.Num, .int .i64 p0.N.Den]) 1 [.int .i64 p0.N.Num, .int .i64 p0.N.Den] S (wN rfl) rfl (by kernel_rfl) (by kernel_rfl) (by kernel_rfl) (by kernel_rfl) rfl rfl (by decide) (fun a S => ?_)
      obtain ⟨r15, hx16, h⟩ := bindSome h
      have S := S.learn (fRep r_api_Ratio (.agg #[.int .i64 p0.N.Num, .int .i64 p0.N.Den]) p0.N) rfl
      refine sCall (X := Value) (f := 95) (vs := [.int .i64 1, .int .i64 9, .agg #[.int .i64 p0.N.Num, .int .i64 p0.N.Den], .bool true]) (val := c_raddleref23_over_val r15) (B' := fun _ => []) (D' := c_raddleref23_over_D r15) [] [eBox b3 25 [.int .i64 0, .int .i64 0], eBox b2 27 [.int .u8 p0.System, .int .i64 p0.N.Num, .int .i64 p0.N.Den]] [fRep r_api_Ratio (.agg #[.int .i64 p0.N.Num, .int .i64 p0.N.Den]) p0.N] [0, 1] [0] S (wN rfl) rfl callee95 (by kernel_rfl) (by decide) (by kernel_rfl) (by kernel_rfl) (fun E1 w1 S1 => c_raddleref23_over E1 w1 1 9 p0.N (.agg #[.int .i64 p0.N.Num, .int .i64 p0.N.Den]) true r15 hx16 S1) rfl (by decide) (fun u17 a w S => ?_)
      obtain rfl : u17 = .agg #[.int .i64 r15.1.Num, .int .i64 r15.1.Den] := S.mem.know (i := 0) (e := fRep r_api_Ratio (u17) r15.1) (by kernel_rfl)
      refine sExtract (vs := [.agg #[.int .i64 r15.1.Num, .int .i64 r15.1.Den], .int .i64 r15.2]) (.agg #[.int .i64 r15.1.Num, .int .i64 r15.1.Den]) S (wN rfl) rfl (by kernel_rfl) rfl rfl (by decide) (fun a S => ?_)
      refine sExtract (vs := [.agg #[.int .i64 r15.1.Num, .int .i64 r15.1.Den], .int .i64 r15.2]) (.int .i64 r15.2) S (wN rfl) rfl (by kernel_rfl) rfl rfl (by decide) (fun a S => ?_)
      refine sStore (p := b3) (off := 0) (T := 25) (vs := [.int .i64 0, .int .i64 0]) (v := .agg #[.int .i64 r15.1.Num, .int .i64 r15.1.Den]) 0 [.int .i64 r15.1.Num, .int .i64 r15.1.Den] S (wN rfl) rfl (by kernel_rfl) (by kernel_rfl) rfl (by kernel_rfl) (by kernel_rfl) rfl (by simp) rfl (fun a w S => ?_)
      refine sMove (.int .i64 r15.2) S (wN rfl) (.inr rfl) (by kernel_rfl) rfl (by decide) (fun a S => ?_)
      refine leafL (leafT (hK14 _ _ ?_))
      obtain rfl := Option.some.inj h
      exact wp_ret (rBlock (rThen (sRet (.tuple #[.agg #[.int .i64 r15.1.Num, .int .i64 r15.1.Den], .int .i64 r15.2]) S (rsl2 rfl (rvN (c := 4) (t := 25) (T := 25) (p := b3) 0 [.int .i64 r15.1.Num, .int .i64 r15.1.Den] S (by kernel_rfl) (by kernel_rfl) (by kernel_rfl) (by kernel_rfl)) (rvT (t := 5) (v := .int .i64 r15.2) S (by kernel_rfl))) ⟨(.agg #[.int .i64 r15.1.Num, .int .i64 r15.1.Den]), rfl, S.mem.sel [] [0] (by decide) (by kernel_rfl) (by kernel_rfl)⟩)))
    · refine sCondF (b := ((p0.System == 2) && ((p1 == 1) && true))) S (by kernel_rfl) hc13 ?_
      obtain ⟨t19, h, g20⟩ := bindSome h
      refine sCut (fun a w => ∃ o18, o18 = t19 ∧ St [] E [] w0 84 a w [(2, .pointer (some ⟨b2, 0, none⟩)), (4, .pointer (some ⟨b3, 0, none⟩)), (9, .agg #[.int .u8 p0.System, .int .u8 p1]), (26, .bool o18)] [eBox b2 27 [.int .u8 p0.System, .int .i64 p0.N.Num, .int .i64 p0.N.Den], eBox b3 25 [.int .i64 0, .int .i64 0]] []) ?_ (fun a w hI => ?_)
      · refine sSeq (fun K21 hK21 => ?_)
        refine sRegion ?_
        refine sBuild [(0, .int .u8 1), (1, .int .u8 3)] [.int .u8 1, .int .u8 3] S (wN rfl) rfl (by kernel_rfl) (by kernel_rfl) rfl (by decide) (fun a S => ?_)
        refine sBin (.bool ((p0.System == 1) && ((p1 == 3) && true))) S (wN rfl) rfl (by kernel_rfl) (by kernel_rfl) (bEqV _ _ _ _ #[.int .u8 p0.System, .int .u8 p1] #[.int .u8 1, .int .u8 3] ((p0.System == 1) && ((p1 == 3) && true)) (by kernel_rfl) (eqlV_of (by kernel_rfl))) rfl (by decide) (fun a S => ?_)
        refine sMove (.bool ((p0.System == 1) && ((p1 == 3) && true))) S (wN rfl) (.inr rfl) (by kernel_rfl) rfl (by decide) (fun a S => ?_)
        refine leafL (leafT (hK21 _ _ ?_))
        rcases iteSome h with ⟨hc22, h⟩ | ⟨hc22, h⟩
        · refine sCondT (b := ((p0.System == 1) && ((p1 == 3) && true))) S (by kernel_rfl) hc22 ?_
          exact wp_skip (leafT (⟨((p0.System == 1) && ((p1 == 3) && true)), Option.some.inj h, S.fix [1, 0] [] (by decide) (by kernel_rfl) (by kernel_rfl) (by kernel_rfl)⟩))
        · refine sCondF (b := ((p0.System == 1) && ((p1 == 3) && true))) S (by kernel_rfl) hc22 ?_
          refine sRegion ?_
          refine sBuild [(0, .int .u8 3), (1, .int .u8 1)] [.int .u8 3, .int .u8 1] S (wN rfl) rfl (by kernel_rfl) (by kernel_rfl) rfl (by decide) (fun a S => ?_)
          refine sBin (.bool ((p0.System == 3) && ((p1 == 1) && true))) S (wN rfl) rfl (by kernel_rfl) (by kernel_rfl) (bEqV _ _ _ _ #[.int .u8 p0.System, .int .u8 p1] #[.int .u8 3, .int .u8 1] ((p0.System == 3) && ((p1 == 1) && true)) (by kernel_rfl) (eqlV_of (by kernel_rfl))) rfl (by decide) (fun a S => ?_)
          refine sMove (.bool ((p0.System == 3) && ((p1 == 1) && true))) S (wN rfl) (.inr rfl) (by kernel_rfl) rfl (by decide) (fun a S => ?_)
          exact leafL (leafT (⟨((p0.System == 3) && ((p1 == 1) && true)), Option.some.inj h, S.fix [1, 0] [] (by decide) (by kernel_rfl) (by kernel_rfl) (by kernel_rfl)⟩))
      · obtain ⟨o18, rfl, S⟩ := hI
        have h := g20
        clear g20
        try dsimp only at h
        rcases iteSome h with ⟨hc23, h⟩ | ⟨hc23, h⟩
        · refine sCondT (b := o18) S (by kernel_rfl) hc23 ?_
          refine sSeq (fun K24 hK24 => ?_)
          refine sRegion ?_
          refine sField (b := b2) (off := 0) 1 1 S (wN rfl) rfl (by kernel_rfl) (by kernel_rfl) rfl rfl (by decide) (fun a S => ?_)
          refine sLoadN (p := b2) (off := 1) (T := 27) (vs := [.int .u8 p0.System, .int .i64 p0.N.Num, .int .i64 p0.N.Den]) 0 [.int .i64 p0.N.Num, .int .i64 p0.N.Den] S (wN rfl) rfl (by kernel_rfl) (by kernel_rfl) (by kernel_rfl) (by kernel_rfl) rfl rfl (by decide) (fun a S => ?_)
          obtain ⟨r25, hx26, h⟩ := bindSome h
          have S := S.learn (fRep r_api_Ratio (.agg #[.int .i64 p0.N.Num, .int .i64 p0.N.Den]) p0.N) rfl
          refine sCall (X := Value) (f := 95) (vs := [.int .i64 1000, .int .i64 1, .agg #[.int .i64 p0.N.Num, .int .i64 p0.N.Den], .bool false]) (val := c_raddleref23_over_val r25) (B' := fun _ => []) (D' := c_raddleref23_over_D r25) [] [eBox b2 27 [.int .u8 p0.System, .int .i64 p0.N.Num, .int .i64 p0.N.Den], eBox b3 25 [.int .i64 0, .int .i64 0]] [fRep r_api_Ratio (.agg #[.int .i64 p0.N.Num, .int .i64 p0.N.Den]) p0.N] [0, 1] [0] S (wN rfl) rfl callee95 (by kernel_rfl) (by decide) (by kernel_rfl) (by kernel_rfl) (fun E1 w1 S1 => c_raddleref23_over E1 w1 1000 1 p0.N (.agg #[.int .i64 p0.N.Num, .int .i64 p0.N.Den]) false r25 hx26 S1) rfl (by decide) (fun u27 a w S => ?_)
          obtain rfl : u27 = .agg #[.int .i64 r25.1.Num, .int .i64 r25.1.Den] := S.mem.know (i := 0) (e := fRep r_api_Ratio (u27) r25.1) (by kernel_rfl)
          refine sExtract (vs := [.agg #[.int .i64 r25.1.Num, .int .i64 r25.1.Den], .int .i64 r25.2]) (.agg #[.int .i64 r25.1.Num, .int .i64 r25.1.Den]) S (wN rfl) rfl (by kernel_rfl) rfl rfl (by decide) (fun a S => ?_)
          refine sExtract (vs := [.agg #[.int .i64 r25.1.Num, .int .i64 r25.1.Den], .int .i64 r25.2]) (.int .i64 r25.2) S (wN rfl) rfl (by kernel_rfl) rfl rfl (by decide) (fun a S => ?_)
          refine sStore (p := b3) (off := 0) (T := 25) (vs := [.int .i64 0, .int .i64 0]) (v := .agg #[.int .i64 r25.1.Num, .int .i64 r25.1.Den]) 1 [.int .i64 r25.1.Num, .int .i64 r25.1.Den] S (wN rfl) rfl (by kernel_rfl) (by kernel_rfl) rfl (by kernel_rfl) (by kernel_rfl) rfl (by simp) rfl (fun a w S => ?_)
          refine sMove (.int .i64 r25.2) S (wN rfl) (.inr rfl) (by kernel_rfl) rfl (by decide) (fun a S => ?_)
          refine leafL (leafT (hK24 _ _ ?_))
          obtain rfl := Option.some.inj h
          exact wp_ret (rBlock (rThen (sRet (.tuple #[.agg #[.int .i64 r25.1.Num, .int .i64 r25.1.Den], .int .i64 r25.2]) S (rsl2 rfl (rvN (c := 4) (t := 25) (T := 25) (p := b3) 0 [.int .i64 r25.1.Num, .int .i64 r25.1.Den] S (by kernel_rfl) (by kernel_rfl) (by kernel_rfl) (by kernel_rfl)) (rvT (t := 5) (v := .int .i64 r25.2) S (by kernel_rfl))) ⟨(.agg #[.int .i64 r25.1.Num, .int .i64 r25.1.Den]), rfl, S.mem.sel [] [0] (by decide) (by kernel_rfl) (by kernel_rfl)⟩)))
        · refine sCondF (b := o18) S (by kernel_rfl) hc23 ?_
          obtain ⟨t29, h, g30⟩ := bindSome h
          refine sCut (fun a w => ∃ o28, o28 = t29 ∧ St [] E [] w0 84 a w [(2, .pointer (some ⟨b2, 0, none⟩)), (4, .pointer (some ⟨b3, 0, none⟩)), (9, .agg #[.int .u8 p0.System, .int .u8 p1]), (36, .bool o28)] [eBox b2 27 [.int .u8 p0.System, .int .i64 p0.N.Num, .int .i64 p0.N.Den], eBox b3 25 [.int .i64 0, .int .i64 0]] []) ?_ (fun a w hI => ?_)
          · refine sSeq (fun K31 hK31 => ?_)
            refine sRegion ?_
            refine sBuild [(0, .int .u8 2), (1, .int .u8 3)] [.int .u8 2, .int .u8 3] S (wN rfl) rfl (by kernel_rfl) (by kernel_rfl) rfl (by decide) (fun a S => ?_)
            refine sBin (.bool ((p0.System == 2) && ((p1 == 3) && true))) S (wN rfl) rfl (by kernel_rfl) (by kernel_rfl) (bEqV _ _ _ _ #[.int .u8 p0.System, .int .u8 p1] #[.int .u8 2, .int .u8 3] ((p0.System == 2) && ((p1 == 3) && true)) (by kernel_rfl) (eqlV_of (by kernel_rfl))) rfl (by decide) (fun a S => ?_)
            refine sMove (.bool ((p0.System == 2) && ((p1 == 3) && true))) S (wN rfl) (.inr rfl) (by kernel_rfl) rfl (by decide) (fun a S => ?_)
            refine leafL (leafT (hK31 _ _ ?_))
            rcases iteSome h with ⟨hc32, h⟩ | ⟨hc32, h⟩
            · refine sCondT (b := ((p0.System == 2) && ((p1 == 3) && true))) S (by kernel_rfl) hc32 ?_
              exact wp_skip (leafT (⟨((p0.System == 2) && ((p1 == 3) && true)), Option.some.inj h, S.fix [0, 1] [] (by decide) (by kernel_rfl) (by kernel_rfl) (by kernel_rfl)⟩))
            · refine sCondF (b := ((p0.System == 2) && ((p1 == 3) && true))) S (by kernel_rfl) hc32 ?_
              refine sRegion ?_
              refine sBuild [(0, .int .u8 3), (1, .int .u8 2)] [.int .u8 3, .int .u8 2] S (wN rfl) rfl (by kernel_rfl) (by kernel_rfl) rfl (by decide) (fun a S => ?_)
              refine sBin (.bool ((p0.System == 3) && ((p1 == 2) && true))) S (wN rfl) rfl (by kernel_rfl) (by kernel_rfl) (bEqV _ _ _ _ #[.int .u8 p0.System, .int .u8 p1] #[.int .u8 3, .int .u8 2] ((p0.System == 3) && ((p1 == 2) && true)) (by kernel_rfl) (eqlV_of (by kernel_rfl))) rfl (by decide) (fun a S => ?_)
              refine sMove (.bool ((p0.System == 3) && ((p1 == 2) && true))) S (wN rfl) (.inr rfl) (by kernel_rfl) rfl (by decide) (fun a S => ?_)
              exact leafL (leafT (⟨((p0.System == 3) && ((p1 == 2) && true)), Option.some.inj h, S.fix [0, 1] [] (by decide) (by kernel_rfl) (by kernel_rfl) (by kernel_rfl)⟩))
          · obtain ⟨o28, rfl, S⟩ := hI
            have h := g30
            clear g30
            try dsimp only at h
            rcases iteSome h with ⟨hc33, h⟩ | ⟨hc33, h⟩
            · refine sCondT (b := o28) S (by kernel_rfl) hc33 ?_
              refine sSeq (fun K34 hK34 => ?_)
              refine sRegion ?_
              refine sField (b := b2) (off := 0) 1 1 S (wN rfl) rfl (by kernel_rfl) (by kernel_rfl) rfl rfl (by decide) (fun a S => ?_)
              refine sLoadN (p := b2) (off := 1) (T := 27) (vs := [.int .u8 p0.System, .int .i64 p0.N.Num, .int .i64 p0.N.Den]) 0 [.int .i64 p0.N.Num, .int .i64 p0.N.Den] S (wN rfl) rfl (by kernel_rfl) (by kernel_rfl) (by kernel_rfl) (by kernel_rfl) rfl rfl (by decide) (fun a S => ?_)
              obtain ⟨r35, hx36, h⟩ := bindSome h
              have S := S.learn (fRep r_api_Ratio (.agg #[.int .i64 p0.N.Num, .int .i64 p0.N.Den]) p0.N) rfl
              refine sCall (X := Value) (f := 95) (vs := [.int .i64 9000, .int .i64 1, .agg #[.int .i64 p0.N.Num, .int .i64 p0.N.Den], .bool false]) (val := c_raddleref23_over_val r35) (B' := fun _ => []) (D' := c_raddleref23_over_D r35) [] [eBox b2 27 [.int .u8 p0.System, .int .i64 p0.N.Num, .int .i64 p0.N.Den], eBox b3 25 [.int .i64 0, .int .i64 0]] [fRep r_api_Ratio (.agg #[.int .i64 p0.N.Num, .int .i64 p0.N.Den]) p0.N] [0, 1] [0] S (wN rfl) rfl callee95 (by kernel_rfl) (by decide) (by kernel_rfl) (by kernel_rfl) (fun E1 w1 S1 => c_raddleref23_over E1 w1 9000 1 p0.N (.agg #[.int .i64 p0.N.Num, .int .i64 p0.N.Den]) false r35 hx36 S1) rfl (by decide) (fun u37 a w S => ?_)
              obtain rfl : u37 = .agg #[.int .i64 r35.1.Num, .int .i64 r35.1.Den] := S.mem.know (i := 0) (e := fRep r_api_Ratio (u37) r35.1) (by kernel_rfl)
              refine sExtract (vs := [.agg #[.int .i64 r35.1.Num, .int .i64 r35.1.Den], .int .i64 r35.2]) (.agg #[.int .i64 r35.1.Num, .int .i64 r35.1.Den]) S (wN rfl) rfl (by kernel_rfl) rfl rfl (by decide) (fun a S => ?_)
              refine sExtract (vs := [.agg #[.int .i64 r35.1.Num, .int .i64 r35.1.Den], .int .i64 r35.2]) (.int .i64 r35.2) S (wN rfl) rfl (by kernel_rfl) rfl rfl (by decide) (fun a S => ?_)
              refine sStore (p := b3) (off := 0) (T := 25) (vs := [.int .i64 0, .int .i64 0]) (v := .agg #[.int .i64 r35.1.Num, .int .i64 r35.1.Den]) 1 [.int .i64 r35.1.Num, .int .i64 r35.1.Den] S (wN rfl) rfl (by kernel_rfl) (by kernel_rfl) rfl (by kernel_rfl) (by kernel_rfl) rfl (by simp) rfl (fun a w S => ?_)
              refine sMove (.int .i64 r35.2) S (wN rfl) (.inr rfl) (by kernel_rfl) rfl (by decide) (fun a S => ?_)
              refine leafL (leafT (hK34 _ _ ?_))
              obtain rfl := Option.some.inj h
              exact wp_ret (rBlock (rThen (sRet (.tuple #[.agg #[.int .i64 r35.1.Num, .int .i64 r35.1.Den], .int .i64 r35.2]) S (rsl2 rfl (rvN (c := 4) (t := 25) (T := 25) (p := b3) 0 [.int .i64 r35.1.Num, .int .i64 r35.1.Den] S (by kernel_rfl) (by kernel_rfl) (by kernel_rfl) (by kernel_rfl)) (rvT (t := 5) (v := .int .i64 r35.2) S (by kernel_rfl))) ⟨(.agg #[.int .i64 r35.1.Num, .int .i64 r35.1.Den]), rfl, S.mem.sel [] [0] (by decide) (by kernel_rfl) (by kernel_rfl)⟩)))
            · refine sCondF (b := o28) S (by kernel_rfl) hc33 ?_
              obtain ⟨t39, h, g40⟩ := bindSome h
              refine sCut (fun a w => ∃ o38, o38 = t39 ∧ St [] E [] w0 84 a w [(2, .pointer (some ⟨b2, 0, none⟩)), (4, .pointer (some ⟨b3, 0, none⟩)), (9, .agg #[.int .u8 p0.System, .int .u8 p1]), (46, .bool o38)] [eBox b2 27 [.int .u8 p0.System, .int .i64 p0.N.Num, .int .i64 p0.N.Den], eBox b3 25 [.int .i64 0, .int .i64 0]] []) ?_ (fun a w hI => ?_)
              · refine sSeq (fun K41 hK41 => ?_)
                refine sRegion ?_
                refine sBuild [(0, .int .u8 1), (1, .int .u8 4)] [.int .u8 1, .int .u8 4] S (wN rfl) rfl (by kernel_rfl) (by kernel_rfl) rfl (by decide) (fun a S => ?_)
                refine sBin (.bool ((p0.System == 1) && ((p1 == 4) && true))) S (wN rfl) rfl (by kernel_rfl) (by kernel_rfl) (bEqV _ _ _ _ #[.int .u8 p0.System, .int .u8 p1] #[.int .u8 1, .int .u8 4] ((p0.System == 1) && ((p1 == 4) && true)) (by kernel_rfl) (eqlV_of (by kernel_rfl))) rfl (by decide) (fun a S => ?_)
                refine sMove (.bool ((p0.System == 1) && ((p1 == 4) && true))) S (wN rfl) (.inr rfl) (by kernel_rfl) rfl (by decide) (fun a S => ?_)
                refine leafL (leafT (hK41 _ _ ?_))
                rcases iteSome h with ⟨hc42, h⟩ | ⟨hc42, h⟩
                · refine sCondT (b := ((p0.System == 1) && ((p1 == 4) && true))) S (by kernel_rfl) hc42 ?_
                  exact wp_skip (leafT (⟨((p0.System == 1) && ((p1 == 4) && true)), Option.some.inj h, S.fix [0, 1] [] (by decide) (by kernel_rfl) (by kernel_rfl) (by kernel_rfl)⟩))
                · refine sCondF (b := ((p0.System == 1) && ((p1 == 4) && true))) S (by kernel_rfl) hc42 ?_
                  refine sRegion ?_
                  refine sBuild [(0, .int .u8 4), (1, .int .u8 1)] [.int .u8 4, .int .u8 1] S (wN rfl) rfl (by kernel_rfl) (by kernel_rfl) rfl (by decide) (fun a S => ?_)
                  refine sBin (.bool ((p0.System == 4) && ((p1 == 1) && true))) S (wN rfl) rfl (by kernel_rfl) (by kernel_rfl) (bEqV _ _ _ _ #[.int .u8 p0.System, .int .u8 p1] #[.int .u8 4, .int .u8 1] ((p0.System == 4) && ((p1 == 1) && true)) (by kernel_rfl) (eqlV_of (by kernel_rfl))) rfl (by decide) (fun a S => ?_)
                  refine sMove (.bool ((p0.System == 4) && ((p1 == 1) && true))) S (wN rfl) (.inr rfl) (by kernel_rfl) rfl (by decide) (fun a S => ?_)
                  exact leafL (leafT (⟨((p0.System == 4) && ((p1 == 1) && true)), Option.some.inj h, S.fix [0, 1] [] (by decide) (by kernel_rfl) (by kernel_rfl) (by kernel_rfl)⟩))
              · obtain ⟨o38, rfl, S⟩ := hI
                have h := g40
                clear g40
                try dsimp only at h
                rcases iteSome h with ⟨hc43, h⟩ | ⟨hc43, h⟩
                · refine sCondT (b := o38) S (by kernel_rfl) hc43 ?_
                  refine sSeq (fun K44 hK44 => ?_)
                  refine sRegion ?_
                  refine sField (b := b2) (off := 0) 1 1 S (wN rfl) rfl (by kernel_rfl) (by kernel_rfl) rfl rfl (by decide) (fun a S => ?_)
                  refine sLoadN (p := b2) (off := 1) (T := 27) (vs := [.int .u8 p0.System, .int .i64 p0.N.Num, .int .i64 p0.N.Den]) 0 [.int .i64 p0.N.Num, .int .i64 p0.N.Den] S (wN rfl) rfl (by kernel_rfl) (by kernel_rfl) (by kernel_rfl) (by kernel_rfl) rfl rfl (by decide) (fun a S => ?_)
                  obtain ⟨r45, hx46, h⟩ := bindSome h
                  have S := S.learn (fRep r_api_Ratio (.agg #[.int .i64 p0.N.Num, .int .i64 p0.N.Den]) p0.N) rfl
                  refine sCall (X := Value) (f := 95) (vs := [.int .i64 226796185, .int .i64 384048, .agg #[.int .i64 p0.N.Num, .int .i64 p0.N.Den], .bool false]) (val := c_raddleref23_over_val r45) (B' := fun _ => []) (D' := c_raddleref23_over_D r45) [] [eBox b2 27 [.int .u8 p0.System, .int .i64 p0.N.Num, .int .i64 p0.N.Den], eBox b3 25 [.int .i64 0, .int .i64 0]] [fRep r_api_Ratio (.agg #[.int .i64 p0.N.Num, .int .i64 p0.N.Den]) p0.N] [0, 1] [0] S (wN rfl) rfl callee95 (by kernel_rfl) (by decide) (by kernel_rfl) (by kernel_rfl) (fun E1 w1 S1 => c_raddleref23_over E1 w1 226796185 384048 p0.N (.agg #[.int .i64 p0.N.Num, .int .i64 p0.N.Den]) false r45 hx46 S1) rfl (by decide) (fun u47 a w S => ?_)
                  obtain rfl : u47 = .agg #[.int .i64 r45.1.Num, .int .i64 r45.1.Den] := S.mem.know (i := 0) (e := fRep r_api_Ratio (u47) r45.1) (by kernel_rfl)
                  refine sExtract (vs := [.agg #[.int .i64 r45.1.Num, .int .i64 r45.1.Den], .int .i64 r45.2]) (.agg #[.int .i64 r45.1.Num, .int .i64 r45.1.Den]) S (wN rfl) rfl (by kernel_rfl) rfl rfl (by decide) (fun a S => ?_)
                  refine sExtract (vs := [.agg #[.int .i64 r45.1.Num, .int .i64 r45.1.Den], .int .i64 r45.2]) (.int .i64 r45.2) S (wN rfl) rfl (by kernel_rfl) rfl rfl (by decide) (fun a S => ?_)
                  refine sStore (p := b3) (off := 0) (T := 25) (vs := [.int .i64 0, .int .i64 0]) (v := .agg #[.int .i64 r45.1.Num, .int .i64 r45.1.Den]) 1 [.int .i64 r45.1.Num, .int .i64 r45.1.Den] S (wN rfl) rfl (by kernel_rfl) (by kernel_rfl) rfl (by kernel_rfl) (by kernel_rfl) rfl (by simp) rfl (fun a w S => ?_)
                  refine sMove (.int .i64 r45.2) S (wN rfl) (.inr rfl) (by kernel_rfl) rfl (by decide) (fun a S => ?_)
                  refine leafL (leafT (hK44 _ _ ?_))
                  obtain rfl := Option.some.inj h
                  exact wp_ret (rBlock (rThen (sRet (.tuple #[.agg #[.int .i64 r45.1.Num, .int .i64 r45.1.Den], .int .i64 r45.2]) S (rsl2 rfl (rvN (c := 4) (t := 25) (T := 25) (p := b3) 0 [.int .i64 r45.1.Num, .int .i64 r45.1.Den] S (by kernel_rfl) (by kernel_rfl) (by kernel_rfl) (by kernel_rfl)) (rvT (t := 5) (v := .int .i64 r45.2) S (by kernel_rfl))) ⟨(.agg #[.int .i64 r45.1.Num, .int .i64 r45.1.Den]), rfl, S.mem.sel [] [0] (by decide) (by kernel_rfl) (by kernel_rfl)⟩)))
                · refine sCondF (b := o38) S (by kernel_rfl) hc43 ?_
                  obtain ⟨t49, h, g50⟩ := bindSome h
                  refine sCut (fun a w => ∃ o48, o48 = t49 ∧ St [] E [] w0 84 a w [(2, .pointer (some ⟨b2, 0, none⟩)), (4, .pointer (some ⟨b3, 0, none⟩)), (9, .agg #[.int .u8 p0.System, .int .u8 p1]), (56, .bool o48)] [eBox b2 27 [.int .u8 p0.System, .int .i64 p0.N.Num, .int .i64 p0.N.Den], eBox b3 25 [.int .i64 0, .int .i64 0]] []) ?_ (fun a w hI => ?_)
                  · refine sSeq (fun K51 hK51 => ?_)
                    refine sRegion ?_
                    refine sBuild [(0, .int .u8 2), (1, .int .u8 4)] [.int .u8 2, .int .u8 4] S (wN rfl) rfl (by kernel_rfl) (by kernel_rfl) rfl (by decide) (fun a S => ?_)
                    refine sBin (.bool ((p0.System == 2) && ((p1 == 4) && true))) S (wN rfl) rfl (by kernel_rfl) (by kernel_rfl) (bEqV _ _ _ _ #[.int .u8 p0.System, .int .u8 p1] #[.int .u8 2, .int .u8 4] ((p0.System == 2) && ((p1 == 4) && true)) (by kernel_rfl) (eqlV_of (by kernel_rfl))) rfl (by decide) (fun a S => ?_)
                    refine sMove (.bool ((p0.System == 2) && ((p1 == 4) && true))) S (wN rfl) (.inr rfl) (by kernel_rfl) rfl (by decide) (fun a S => ?_)
                    refine leafL (leafT (hK51 _ _ ?_))
                    rcases iteSome h with ⟨hc52, h⟩ | ⟨hc52, h⟩
                    · refine sCondT (b := ((p0.System == 2) && ((p1 == 4) && true))) S (by kernel_rfl) hc52 ?_
                      exact wp_skip (leafT (⟨((p0.System == 2) && ((p1 == 4) && true)), Option.some.inj h, S.fix [0, 1] [] (by decide) (by kernel_rfl) (by kernel_rfl) (by kernel_rfl)⟩))
                    · refine sCondF (b := ((p0.System == 2) && ((p1 == 4) && true))) S (by kernel_rfl) hc52 ?_
                      refine sRegion ?_
                      refine sBuild [(0, .int .u8 4), (1, .int .u8 2)] [.int .u8 4, .int .u8 2] S (wN rfl) rfl (by kernel_rfl) (by kernel_rfl) rfl (by decide) (fun a S => ?_)
                      refine sBin (.bool ((p0.System == 4) && ((p1 == 2) && true))) S (wN rfl) rfl (by kernel_rfl) (by kernel_rfl) (bEqV _ _ _ _ #[.int .u8 p0.System, .int .u8 p1] #[.int .u8 4, .int .u8 2] ((p0.System == 4) && ((p1 == 2) && true)) (by kernel_rfl) (eqlV_of (by kernel_rfl))) rfl (by decide) (fun a S => ?_)
                      refine sMove (.bool ((p0.System == 4) && ((p1 == 2) && true))) S (wN rfl) (.inr rfl) (by kernel_rfl) rfl (by decide) (fun a S => ?_)
                      exact leafL (leafT (⟨((p0.System == 4) && ((p1 == 2) && true)), Option.some.inj h, S.fix [0, 1] [] (by decide) (by kernel_rfl) (by kernel_rfl) (by kernel_rfl)⟩))
                  · obtain ⟨o48, rfl, S⟩ := hI
                    have h := g50
                    clear g50
                    try dsimp only at h
                    rcases iteSome h with ⟨hc53, h⟩ | ⟨hc53, h⟩
                    · refine sCondT (b := o48) S (by kernel_rfl) hc53 ?_
                      refine sSeq (fun K54 hK54 => ?_)
                      refine sRegion ?_
                      refine sField (b := b2) (off := 0) 1 1 S (wN rfl) rfl (by kernel_rfl) (by kernel_rfl) rfl rfl (by decide) (fun a S => ?_)
                      refine sLoadN (p := b2) (off := 1) (T := 27) (vs := [.int .u8 p0.System, .int .i64 p0.N.Num, .int .i64 p0.N.Den]) 0 [.int .i64 p0.N.Num, .int .i64 p0.N.Den] S (wN rfl) rfl (by kernel_rfl) (by kernel_rfl) (by kernel_rfl) (by kernel_rfl) rfl rfl (by decide) (fun a S => ?_)
                      obtain ⟨r55, hx56, h⟩ := bindSome h
                      have S := S.learn (fRep r_api_Ratio (.agg #[.int .i64 p0.N.Num, .int .i64 p0.N.Den]) p0.N) rfl
                      refine sCall (X := Value) (f := 95) (vs := [.int .i64 2041165665, .int .i64 384048, .agg #[.int .i64 p0.N.Num, .int .i64 p0.N.Den], .bool false]) (val := c_raddleref23_over_val r55) (B' := fun _ => []) (D' := c_raddleref23_over_D r55) [] [eBox b2 27 [.int .u8 p0.System, .int .i64 p0.N.Num, .int .i64 p0.N.Den], eBox b3 25 [.int .i64 0, .int .i64 0]] [fRep r_api_Ratio (.agg #[.int .i64 p0.N.Num, .int .i64 p0.N.Den]) p0.N] [0, 1] [0] S (wN rfl) rfl callee95 (by kernel_rfl) (by decide) (by kernel_rfl) (by kernel_rfl) (fun E1 w1 S1 => c_raddleref23_over E1 w1 2041165665 384048 p0.N (.agg #[.int .i64 p0.N.Num, .int .i64 p0.N.Den]) false r55 hx56 S1) rfl (by decide) (fun u57 a w S => ?_)
                      obtain rfl : u57 = .agg #[.int .i64 r55.1.Num, .int .i64 r55.1.Den] := S.mem.know (i := 0) (e := fRep r_api_Ratio (u57) r55.1) (by kernel_rfl)
                      refine sExtract (vs := [.agg #[.int .i64 r55.1.Num, .int .i64 r55.1.Den], .int .i64 r55.2]) (.agg #[.int .i64 r55.1.Num, .int .i64 r55.1.Den]) S (wN rfl) rfl (by kernel_rfl) rfl rfl (by decide) (fun a S => ?_)
                      refine sExtract (vs := [.agg #[.int .i64 r55.1.Num, .int .i64 r55.1.Den], .int .i64 r55.2]) (.int .i64 r55.2) S (wN rfl) rfl (by kernel_rfl) rfl rfl (by decide) (fun a S => ?_)
                      refine sStore (p := b3) (off := 0) (T := 25) (vs := [.int .i64 0, .int .i64 0]) (v := .agg #[.int .i64 r55.1.Num, .int .i64 r55.1.Den]) 1 [.int .i64 r55.1.Num, .int .i64 r55.1.Den] S (wN rfl) rfl (by kernel_rfl) (by kernel_rfl) rfl (by kernel_rfl) (by kernel_rfl) rfl (by simp) rfl (fun a w S => ?_)
                      refine sMove (.int .i64 r55.2) S (wN rfl) (.inr rfl) (by kernel_rfl) rfl (by decide) (fun a S => ?_)
                      refine leafL (leafT (hK54 _ _ ?_))
                      obtain rfl := Option.some.inj h
                      exact wp_ret (rBlock (rThen (sRet (.tuple #[.agg #[.int .i64 r55.1.Num, .int .i64 r55.1.Den], .int .i64 r55.2]) S (rsl2 rfl (rvN (c := 4) (t := 25) (T := 25) (p := b3) 0 [.int .i64 r55.1.Num, .int .i64 r55.1.Den] S (by kernel_rfl) (by kernel_rfl) (by kernel_rfl) (by kernel_rfl)) (rvT (t := 5) (v := .int .i64 r55.2) S (by kernel_rfl))) ⟨(.agg #[.int .i64 r55.1.Num, .int .i64 r55.1.Den]), rfl, S.mem.sel [] [0] (by decide) (by kernel_rfl) (by kernel_rfl)⟩)))
                    · refine sCondF (b := o48) S (by kernel_rfl) hc53 ?_
                      refine sSeq (fun K58 hK58 => ?_)
                      refine sRegion ?_
                      refine sBuild [(0, .int .u8 3), (1, .int .u8 4)] [.int .u8 3, .int .u8 4] S (wN rfl) rfl (by kernel_rfl) (by kernel_rfl) rfl (by decide) (fun a S => ?_)
                      refine sBin (.bool ((p0.System == 3) && ((p1 == 4) && true))) S (wN rfl) rfl (by kernel_rfl) (by kernel_rfl) (bEqV _ _ _ _ #[.int .u8 p0.System, .int .u8 p1] #[.int .u8 3, .int .u8 4] ((p0.System == 3) && ((p1 == 4) && true)) (by kernel_rfl) (eqlV_of (by kernel_rfl))) rfl (by decide) (fun a S => ?_)
                      refine sMove (.bool ((p0.System == 3) && ((p1 == 4) && true))) S (wN rfl) (.inr rfl) (by kernel_rfl) rfl (by decide) (fun a S => ?_)
                      refine leafL (leafT (hK58 _ _ ?_))
                      rcases iteSome h with ⟨hc59, h⟩ | ⟨hc59, h⟩
                      · refine sCondT (b := ((p0.System == 3) && ((p1 == 4) && true))) S (by kernel_rfl) hc59 ?_
                        refine sSeq (fun K60 hK60 => ?_)
                        refine sRegion ?_
                        refine sField (b := b2) (off := 0) 1 1 S (wN rfl) rfl (by kernel_rfl) (by kernel_rfl) rfl rfl (by decide) (fun a S => ?_)
                        refine sLoadN (p := b2) (off := 1) (T := 27) (vs := [.int .u8 p0.System, .int .i64 p0.N.Num, .int .i64 p0.N.Den]) 0 [.int .i64 p0.N.Num, .int .i64 p0.N.Den] S (wN rfl) rfl (by kernel_rfl) (by kernel_rfl) (by kernel_rfl) (by kernel_rfl) rfl rfl (by decide) (fun a S => ?_)
                        obtain ⟨r61, hx62, h⟩ := bindSome h
                        have S := S.learn (fRep r_api_Ratio (.agg #[.int .i64 p0.N.Num, .int .i64 p0.N.Den]) p0.N) rfl
                        refine sCall (X := Value) (f := 95) (vs := [.int .i64 226796185, .int .i64 384048000, .agg #[.int .i64 p0.N.Num, .int .i64 p0.N.Den], .bool true]) (val := c_raddleref23_over_val r61) (B' := fun _ => []) (D' := c_raddleref23_over_D r61) [] [eBox b2 27 [.int .u8 p0.System, .int .i64 p0.N.Num, .int .i64 p0.N.Den], eBox b3 25 [.int .i64 0, .int .i64 0]] [fRep r_api_Ratio (.agg #[.int .i64 p0.N.Num, .int .i64 p0.N.Den]) p0.N] [0, 1] [0] S (wN rfl) rfl callee95 (by kernel_rfl) (by decide) (by kernel_rfl) (by kernel_rfl) (fun E1 w1 S1 => c_raddleref23_over E1 w1 226796185 384048000 p0.N (.agg #[.int .i64 p0.N.Num, .int .i64 p0.N.Den]) true r61 hx62 S1) rfl (by decide) (fun u63 a w S => ?_)
                        obtain rfl : u63 = .agg #[.int .i64 r61.1.Num, .int .i64 r61.1.Den] := S.mem.know (i := 0) (e := fRep r_api_Ratio (u63) r61.1) (by kernel_rfl)
                        refine sExtract (vs := [.agg #[.int .i64 r61.1.Num, .int .i64 r61.1.Den], .int .i64 r61.2]) (.agg #[.int .i64 r61.1.Num, .int .i64 r61.1.Den]) S (wN rfl) rfl (by kernel_rfl) rfl rfl (by decide) (fun a S => ?_)
                        refine sExtract (vs := [.agg #[.int .i64 r61.1.Num, .int .i64 r61.1.Den], .int .i64 r61.2]) (.int .i64 r61.2) S (wN rfl) rfl (by kernel_rfl) rfl rfl (by decide) (fun a S => ?_)
                        refine sStore (p := b3) (off := 0) (T := 25) (vs := [.int .i64 0, .int .i64 0]) (v := .agg #[.int .i64 r61.1.Num, .int .i64 r61.1.Den]) 1 [.int .i64 r61.1.Num, .int .i64 r61.1.Den] S (wN rfl) rfl (by kernel_rfl) (by kernel_rfl) rfl (by kernel_rfl) (by kernel_rfl) rfl (by simp) rfl (fun a w S => ?_)
                        refine sMove (.int .i64 r61.2) S (wN rfl) (.inr rfl) (by kernel_rfl) rfl (by decide) (fun a S => ?_)
                        refine leafL (leafT (hK60 _ _ ?_))
                        obtain rfl := Option.some.inj h
                        exact wp_ret (rBlock (rThen (sRet (.tuple #[.agg #[.int .i64 r61.1.Num, .int .i64 r61.1.Den], .int .i64 r61.2]) S (rsl2 rfl (rvN (c := 4) (t := 25) (T := 25) (p := b3) 0 [.int .i64 r61.1.Num, .int .i64 r61.1.Den] S (by kernel_rfl) (by kernel_rfl) (by kernel_rfl) (by kernel_rfl)) (rvT (t := 5) (v := .int .i64 r61.2) S (by kernel_rfl))) ⟨(.agg #[.int .i64 r61.1.Num, .int .i64 r61.1.Den]), rfl, S.mem.sel [] [0] (by decide) (by kernel_rfl) (by kernel_rfl)⟩)))
                      · refine sCondF (b := ((p0.System == 3) && ((p1 == 4) && true))) S (by kernel_rfl) hc59 ?_
                        refine sSeq (fun K64 hK64 => ?_)
                        refine sRegion ?_
                        refine sBuild [(0, .int .u8 4), (1, .int .u8 3)] [.int .u8 4, .int .u8 3] S (wN rfl) rfl (by kernel_rfl) (by kernel_rfl) rfl (by decide) (fun a S => ?_)
                        refine sBin (.bool ((p0.System == 4) && ((p1 == 3) && true))) S (wN rfl) rfl (by kernel_rfl) (by kernel_rfl) (bEqV _ _ _ _ #[.int .u8 p0.System, .int .u8 p1] #[.int .u8 4, .int .u8 3] ((p0.System == 4) && ((p1 == 3) && true)) (by kernel_rfl) (eqlV_of (by kernel_rfl))) rfl (by decide) (fun a S => ?_)
                        refine sMove (.bool ((p0.System == 4) && ((p1 == 3) && true))) S (wN rfl) (.inr rfl) (by kernel_rfl) rfl (by decide) (fun a S => ?_)
                        refine leafL (leafT (hK64 _ _ ?_))
                        rcases iteSome h with ⟨hc65, h⟩ | ⟨hc65, h⟩
                        · refine sCondT (b := ((p0.System == 4) && ((p1 == 3) && true))) S (by kernel_rfl) hc65 ?_
                          refine sSeq (fun K66 hK66 => ?_)
                          refine sRegion ?_
                          refine sField (b := b2) (off := 0) 1 1 S (wN rfl) rfl (by kernel_rfl) (by kernel_rfl) rfl rfl (by decide) (fun a S => ?_)
                          refine sLoadN (p := b2) (off := 1) (T := 27) (vs := [.int .u8 p0.System, .int .i64 p0.N.Num, .int .i64 p0.N.Den]) 0 [.int .i64 p0.N.Num, .int .i64 p0.N.Den] S (wN rfl) rfl (by kernel_rfl) (by kernel_rfl) (by kernel_rfl) (by kernel_rfl) rfl rfl (by decide) (fun a S => ?_)
                          obtain ⟨r67, hx68, h⟩ := bindSome h
                          have S := S.learn (fRep r_api_Ratio (.agg #[.int .i64 p0.N.Num, .int .i64 p0.N.Den]) p0.N) rfl
                          refine sCall (X := Value) (f := 95) (vs := [.int .i64 384048000, .int .i64 226796185, .agg #[.int .i64 p0.N.Num, .int .i64 p0.N.Den], .bool true]) (val := c_raddleref23_over_val r67) (B' := fun _ => []) (D' := c_raddleref23_over_D r67) [] [eBox b2 27 [.int .u8 p0.System, .int .i64 p0.N.Num, .int .i64 p0.N.Den], eBox b3 25 [.int .i64 0, .int .i64 0]] [fRep r_api_Ratio (.agg #[.int .i64 p0.N.Num, .int .i64 p0.N.Den]) p0.N] [0, 1] [0] S (wN rfl) rfl callee95 (by kernel_rfl) (by decide) (by kernel_rfl) (by kernel_rfl) (fun E1 w1 S1 => c_raddleref23_over E1 w1 384048000 226796185 p0.N (.agg #[.int .i64 p0.N.Num, .int .i64 p0.N.Den]) true r67 hx68 S1) rfl (by decide) (fun u69 a w S => ?_)
                          obtain rfl : u69 = .agg #[.int .i64 r67.1.Num, .int .i64 r67.1.Den] := S.mem.know (i := 0) (e := fRep r_api_Ratio (u69) r67.1) (by kernel_rfl)
                          refine sExtract (vs := [.agg #[.int .i64 r67.1.Num, .int .i64 r67.1.Den], .int .i64 r67.2]) (.agg #[.int .i64 r67.1.Num, .int .i64 r67.1.Den]) S (wN rfl) rfl (by kernel_rfl) rfl rfl (by decide) (fun a S => ?_)
                          refine sExtract (vs := [.agg #[.int .i64 r67.1.Num, .int .i64 r67.1.Den], .int .i64 r67.2]) (.int .i64 r67.2) S (wN rfl) rfl (by kernel_rfl) rfl rfl (by decide) (fun a S => ?_)
                          refine sStore (p := b3) (off := 0) (T := 25) (vs := [.int .i64 0, .int .i64 0]) (v := .agg #[.int .i64 r67.1.Num, .int .i64 r67.1.Den]) 1 [.int .i64 r67.1.Num, .int .i64 r67.1.Den] S (wN rfl) rfl (by kernel_rfl) (by kernel_rfl) rfl (by kernel_rfl) (by kernel_rfl) rfl (by simp) rfl (fun a w S => ?_)
                          refine sMove (.int .i64 r67.2) S (wN rfl) (.inr rfl) (by kernel_rfl) rfl (by decide) (fun a S => ?_)
                          refine leafL (leafT (hK66 _ _ ?_))
                          obtain rfl := Option.some.inj h
                          exact wp_ret (rBlock (rThen (sRet (.tuple #[.agg #[.int .i64 r67.1.Num, .int .i64 r67.1.Den], .int .i64 r67.2]) S (rsl2 rfl (rvN (c := 4) (t := 25) (T := 25) (p := b3) 0 [.int .i64 r67.1.Num, .int .i64 r67.1.Den] S (by kernel_rfl) (by kernel_rfl) (by kernel_rfl) (by kernel_rfl)) (rvT (t := 5) (v := .int .i64 r67.2) S (by kernel_rfl))) ⟨(.agg #[.int .i64 r67.1.Num, .int .i64 r67.1.Den]), rfl, S.mem.sel [] [0] (by decide) (by kernel_rfl) (by kernel_rfl)⟩)))
                        · refine sCondF (b := ((p0.System == 4) && ((p1 == 3) && true))) S (by kernel_rfl) hc65 ?_
                          refine wp_skip (leafB (leafT (hK4 _ _ ?_)))
                          refine sSeq (fun K70 hK70 => ?_)
                          refine sRegion ?_
                          refine sField (b := b2) (off := 0) 1 1 S (wN rfl) rfl (by kernel_rfl) (by kernel_rfl) rfl rfl (by decide) (fun a S => ?_)
                          refine sLoadN (p := b2) (off := 1) (T := 27) (vs := [.int .u8 p0.System, .int .i64 p0.N.Num, .int .i64 p0.N.Den]) 0 [.int .i64 p0.N.Num, .int .i64 p0.N.Den] S (wN rfl) rfl (by kernel_rfl) (by kernel_rfl) (by kernel_rfl) (by kernel_rfl) rfl rfl (by decide) (fun a S => ?_)
                          refine sStore (p := b3) (off := 0) (T := 25) (vs := [.int .i64 0, .int .i64 0]) (v := .agg #[.int .i64 p0.N.Num, .int .i64 p0.N.Den]) 1 [.int .i64 p0.N.Num, .int .i64 p0.N.Den] S (wN rfl) rfl (by kernel_rfl) (by kernel_rfl) rfl (by kernel_rfl) (by kernel_rfl) rfl (by simp) rfl (fun a w S => ?_)
                          refine sMove (.int .i64 0) S (wN rfl) (.inr rfl) (by kernel_rfl) rfl (by decide) (fun a S => ?_)
                          refine leafL (leafT (hK70 _ _ ?_))
                          obtain rfl := Option.some.inj h
                          have S := S.learn (fRep r_api_Ratio (.agg #[.int .i64 p0.N.Num, .int .i64 p0.N.Den]) p0.N) rfl
                          exact wp_ret (sRet (.tuple #[.agg #[.int .i64 p0.N.Num, .int .i64 p0.N.Den], .int .i64 0]) S (rsl2 rfl (rvN (c := 4) (t := 25) (T := 25) (p := b3) 0 [.int .i64 p0.N.Num, .int .i64 p0.N.Den] S (by kernel_rfl) (by kernel_rfl) (by kernel_rfl) (by kernel_rfl)) (rvT (t := 5) (v := .int .i64 0) S (by kernel_rfl))) ⟨(.agg #[.int .i64 p0.N.Num, .int .i64 p0.N.Den]), rfl, S.mem.sel [] [0] (by decide) (by kernel_rfl) (by kernel_rfl)⟩)

end Go.Proofs.Ytdbgkakmhlmpbaa
