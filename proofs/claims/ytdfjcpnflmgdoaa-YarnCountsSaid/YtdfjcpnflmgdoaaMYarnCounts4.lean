/- Several texts in one: G50 G24 G52 G28 G32 PlW G34 G55 G43 G53s0 G54s1 G33s0 G6 G35 G7 PlY G22 -/
import Derived.WalkKit
import Derived.Maps.AppendAt
import Derived.Deep.AppendLies
import Derived.KernelRfl
import Derived.Laws.OwnMore
import Derived.Great.BuildSlice
import Derived.Orders
import Derived.Laws.StructEq
import Derived.ChangeKeysEq
import Derived.Defers
import Derived.Test.YtdfjcpnflmgdoaaProg
import Derived.ProofKit
import Derived.OpenShut
import Derived.ChangeOld
import Derived.Deep.Slices
import Derived.Lib.SmallJoins
import Derived.JoinedOf
import Derived.JoinedAt
import Derived.Below
import Derived.Test.YtdfjcpnflmgdoaaRows
import Derived.Test.YtdfjcpnflmgdoaaMYarnCounts3
namespace Go.Proofs.Ytdfjcpnflmgdoaa
open Go.RowKit
set_option linter.unusedVariables false

noncomputable def F_raddleref23_converted (p0 : api_Count) (p1 : Int) : Option (api_Ratio × Int) :=
  if ((p0.System == 1) && ((p1 == 2) && true)) then
    Option.bind (F_raddleref23_over 9 1 p0.N true) fun r9 =>
    some (r9.1, r9.2)
  else
    if ((p0.System == 2) && ((p1 == 1) && true)) then
      Option.bind (F_raddleref23_over 1 9 p0.N true) fun r15 =>
      some (r15.1, r15.2)
    else
      Option.bind (α := Bool) (
        if ((p0.System == 1) && ((p1 == 3) && true)) then
          some ((p0.System == 1) && ((p1 == 3) && true))
        else
          some ((p0.System == 3) && ((p1 == 1) && true))) fun o18 =>
      if o18 then
        Option.bind (F_raddleref23_over 1000 1 p0.N false) fun r25 =>
        some (r25.1, r25.2)
      else
        Option.bind (α := Bool) (
          if ((p0.System == 2) && ((p1 == 3) && true)) then
            some ((p0.System == 2) && ((p1 == 3) && true))
          else
            some ((p0.System == 3) && ((p1 == 2) && true))) fun o28 =>
        if o28 then
          Option.bind (F_raddleref23_over 9000 1 p0.N false) fun r35 =>
          some (r35.1, r35.2)
        else
          Option.bind (α := Bool) (
            if ((p0.System == 1) && ((p1 == 4) && true)) then
              some ((p0.System == 1) && ((p1 == 4) && true))
            else
              some ((p0.System == 4) && ((p1 == 1) && true))) fun o38 =>
          if o38 then
            Option.bind (F_raddleref23_over 226796185 384048 p0.N false) fun r45 =>
            some (r45.1, r45.2)
          else
            Option.bind (α := Bool) (
              if ((p0.System == 2) && ((p1 == 4) && true)) then
                some ((p0.System == 2) && ((p1 == 4) && true))
              else
                some ((p0.System == 4) && ((p1 == 2) && true))) fun o48 =>
            if o48 then
              Option.bind (F_raddleref23_over 2041165665 384048 p0.N false) fun r55 =>
              some (r55.1, r55.2)
            else
              if ((p0.System == 3) && ((p1 == 4) && true)) then
                Option.bind (F_raddleref23_over 226796185 384048000 p0.N true) fun r61 =>
                some (r61.1, r61.2)
              else
                if ((p0.System == 4) && ((p1 == 3) && true)) then
                  Option.bind (F_raddleref23_over 384048000 226796185 p0.N true) fun r67 =>
                  some (r67.1, r67.2)
                else
                  some (p0.N, 0)
def c_raddleref23_converted_val (r : (api_Ratio × Int)) (x : Value) : Value := .tuple #[x, .int .i64 r.2]
def c_raddleref23_converted_D (r : (api_Ratio × Int)) (x : Value) : List Fact := [fRep r_api_Ratio x r.1]
set_option maxHeartbeats 4000000 in
set_option maxRecDepth 100000 in
theorem c_raddleref23_converted (E : Nat → Prop) (w0 : World) (p0 : api_Count) (v0 : Value) (p1 : Int) (r : (api_Ratio × Int)) (h : F_raddleref23_converted p0 p1 = some r) (S : St0 E [] w0 w0 [] [fRep r_api_Count (v0) p0]) :
    Calls Try.prog 50 #[v0, .int .u8 p1] w0 (Ret (X := Value) E [] w0 (c_raddleref23_converted_val r) (fun _ => []) (c_raddleref23_converted_D r)) := by
  unfold F_raddleref23_converted at h
  obtain rfl : v0 = .agg #[.int .u8 p0.System, .int .i64 p0.N.Num, .int .i64 p0.N.Den] := S.know (i := 0) (e := fRep r_api_Count (v0) p0) (by kernel_rfl)
  refine sEnter (args := [.agg #[.int .u8 p0.System, .int .i64 p0.N.Num, .int .i64 p0.N.Den], .int .u8 p1]) 84 Try.func50 rfl rfl (by simp) S (fun a S => ?_)
  refine sSeq (fun K1 hK1 => ?_)
  refine sRegion ?_
  refine sBox (v := .agg #[.int .u8 p0.System, .int .i64 p0.N.Num, .int .i64 p0.N.Den]) S (wN rfl) rfl (by kernel_rfl) [.int .u8 p0.System, .int .i64 p0.N.Num, .int .i64 p0.N.Den] rfl rfl (by decide) (fun a b2 w S => ?_)
  refine sAlloc (.agg #[.int .i64 0, .int .i64 0]) S (wN rfl) rfl (by kernel_rfl) [.int .i64 0, .int .i64 0] rfl rfl (by decide) (fun a b3 w S => ?_)
  refine sMove (.int .i64 0) S (wN rfl) (.inr rfl) (by kernel_rfl) rfl (by decide) (fun a S => ?_)
  refine leafL (leafT (hK1 _ _ ?_))
  refine sSeq (fun K4 hK4 => ?_)
  refine sSeq (fun K5 hK5 => ?_)
  refine sRegion ?_
  refine sField (b := b2) (off := 0) 0 0 S (wN rfl) rfl (by kernel_rfl) (by kernel_rfl) rfl rfl (by decide) (fun a S => ?_)
  refine sLoad1 (p := b2) (off := 0) (T := 41) (vs := [.int .u8 p0.System, .int .i64 p0.N.Num, .int .i64 p0.N.Den]) 1 (.int .u8 p0.System) S (wN rfl) rfl (by kernel_rfl) (by kernel_rfl) (by kernel_rfl) rfl rfl (by decide) (fun a S => ?_)
  refine sMove (.int .u8 p1) S (wN rfl) (.inl rfl) (by kernel_rfl) rfl (by decide) (fun a S => ?_)
  refine sBuild [(0, .int .u8 p0.System), (1, .int .u8 p1)] [.int .u8 p0.System, .int .u8 p1] S (wN rfl) rfl (by kernel_rfl) (by kernel_rfl) rfl (by decide) (fun a S => ?_)
  refine leafL (leafT (hK5 _ _ ?_))
  refine wp_block ?_
  refine sSeq (fun K6 hK6 => ?_)
  refine sRegion ?_
  refine sBuild [(0, .int .u8 1), (1, .int .u8 2)] [.int .u8 1, .int .u8 2] S (wN rfl) rfl (by kernel_rfl) (by kernel_rfl) rfl (by decide) (fun a S => ?_)
  refine sBin (.bool ((p0.System == 1) && ((p1 == 2) && true))) S (wN rfl) rfl (by kernel_rfl) (by kernel_rfl) (bEqV _ _ _ _ #[.int .u8 p0.System, .int .u8 p1] #[.int .u8 1, .int .u8 2] ((p0.System == 1) && ((p1 == 2) && true)) (by kernel_rfl) (eqlV_of (by kernel_rfl))) rfl (by decide) (fun a S => ?_)
  refine sMove (.bool ((p0.System == 1) && ((p1 == 2) && true))) S (wN rfl) (.inr rfl) (by kernel_rfl) rfl (by decide) (fun a S => ?_)
  refine leafL (leafT (hK6 _ _ ?_))
  rcases iteSome h with ⟨hc7, h⟩ | ⟨hc7, h⟩
  · refine sCondT (b := ((p0.System == 1) && ((p1 == 2) && true))) S (by kernel_rfl) hc7 ?_
    refine sSeq (fun K8 hK8 => ?_)
    refine sRegion ?_
    refine sField (b := b2) (off := 0) 1 1 S (wN rfl) rfl (by kernel_rfl) (by kernel_rfl) rfl rfl (by decide) (fun a S => ?_)
    refine sLoadN (p := b2) (off := 1) (T := 41) (vs := [.int .u8 p0.System, .int .i64 p0.N.Num, .int .i64 p0.N.Den]) 1 [.int .i64 p0.N.Num, .int .i64 p0.N.Den] S (wN rfl) rfl (by kernel_rfl) (by kernel_rfl) (by kernel_rfl) (by kernel_rfl) rfl rfl (by decide) (fun a S => ?_)
    obtain ⟨r9, hx10, h⟩ := bindSome h
    have S := S.learn (fRep r_api_Ratio (.agg #[.int .i64 p0.N.Num, .int .i64 p0.N.Den]) p0.N) rfl
    refine sCall (X := Value) (f := 57) (vs := [.int .i64 9, .int .i64 1, .agg #[.int .i64 p0.N.Num, .int .i64 p0.N.Den], .bool true]) (val := c_raddleref23_over_val r9) (B' := fun _ => []) (D' := c_raddleref23_over_D r9) [] [eBox b3 23 [.int .i64 0, .int .i64 0], eBox b2 41 [.int .u8 p0.System, .int .i64 p0.N.Num, .int .i64 p0.N.Den]] [fRep r_api_Ratio (.agg #[.int .i64 p0.N.Num, .int .i64 p0.N.Den]) p0.N] [0, 1] [0] S (wN rfl) rfl callee57 (by kernel_rfl) (by decide) (by kernel_rfl) (by kernel_rfl) (fun E1 w1 S1 => c_raddleref23_over E1 w1 9 1 p0.N (.agg #[.int .i64 p0.N.Num, .int .i64 p0.N.Den]) true r9 hx10 S1) rfl (by decide) (fun u11 a w S => ?_)
    obtain rfl : u11 = .agg #[.int .i64 r9.1.Num, .int .i64 r9.1.Den] := S.mem.know (i := 0) (e := fRep r_api_Ratio (u11) r9.1) (by kernel_rfl)
    refine sExtract (vs := [.agg #[.int .i64 r9.1.Num, .int .i64 r9.1.Den], .int .i64 r9.2]) (.agg #[.int .i64 r9.1.Num, .int .i64 r9.1.Den]) S (wN rfl) rfl (by kernel_rfl) rfl rfl (by decide) (fun a S => ?_)
    refine sExtract (vs := [.agg #[.int .i64 r9.1.Num, .int .i64 r9.1.Den], .int .i64 r9.2]) (.int .i64 r9.2) S (wN rfl) rfl (by kernel_rfl) rfl rfl (by decide) (fun a S => ?_)
    refine sStore (p := b3) (off := 0) (T := 23) (vs := [.int .i64 0, .int .i64 0]) (v := .agg #[.int .i64 r9.1.Num, .int .i64 r9.1.Den]) 0 [.int .i64 r9.1.Num, .int .i64 r9.1.Den] S (wN rfl) rfl (by kernel_rfl) (by kernel_rfl) rfl (by kernel_rfl) (by kernel_rfl) rfl (by simp) rfl (fun a w S => ?_)
    refine sMove (.int .i64 r9.2) S (wN rfl) (.inr rfl) (by kernel_rfl) rfl (by decide) (fun a S => ?_)
    refine leafL (leafT (hK8 _ _ ?_))
    obtain rfl := Option.some.inj h
    exact wp_ret (rBlock (rThen (sRet (.tuple #[.agg #[.int .i64 r9.1.Num, .int .i64 r9.1.Den], .int .i64 r9.2]) S (rsl2 rfl (rvN (c := 4) (t := 23) (T := 23) (p := b3) 0 [.int .i64 r9.1.Num, .int .i64 r9.1.Den] S (by kernel_rfl) (by kernel_rfl) (by kernel_rfl) (by kernel_rfl)) (rvT (t := 5) (v := .int .i64 r9.2) S (by kernel_rfl))) ⟨(.agg #[.int .i64 r9.1.Num, .int .i64 r9.1.Den]), rfl, S.mem.sel [] [0] (by decide) (by kernel_rfl) (by kernel_rfl)⟩)))
  · refine sCondF (b := ((p0.System == 1) && ((p1 == 2) && true))) S (by kernel_rfl) hc7 ?_
    refine sSeq (fun K12 hK12 => ?_)
    refine sRegion ?_
    refine sBuild [(0, .int .u8 2), (1, .int .u8 1)] [.int .u8 2, .int .u8 1] S (wN rfl) rfl (by kernel_rfl) (by kernel_rfl) rfl (by decide) (fun a S => ?_)
    refine sBin (.bool ((p0.System == 2) && ((p1 == 1) && true))) S (wN rfl) rfl (by kernel_rfl) (by kernel_rfl) (bEqV _ _ _ _ #[.int .u8 p0.System, .int .u8 p1] #[.int .u8 2, .int .u8 1] ((p0.System == 2) && ((p1 == 1) && true)) (by kernel_rfl) (eqlV_of (by kernel_rfl))) rfl (by decide) (fun a S => ?_)
    refine sMove (.bool ((p0.System == 2) && ((p1 == 1) && true))) S (wN rfl) (.inr rfl) (by kernel_rfl) rfl (by decide) (fun a S => ?_)
    refine leafL (leafT (hK12 _ _ ?_))
    rcases iteSome h with ⟨hc13, h⟩ | ⟨hc13, h⟩
    · refine sCondT (b := ((p0.System == 2) && ((p1 == 1) && true))) S (by kernel_rfl) hc13 ?_
      refine sSeq (fun K14 hK14 => ?_)
      refine sRegion ?_
      refine sField (b := b2) (off := 0) 1 1 S (wN rfl) rfl (by kernel_rfl) (by kernel_rfl) rfl rfl (by decide) (fun a S => ?_)
      refine sLoadN (p := b2) (off := 1) (T := 41) (vs := [.int .u8 p0.System, .int .i64 p0.N.Num, .int .i64 p0.N.Den]) 1 [.int .i64 p0.N.Num, .int .i64 p0.N.Den] S (wN rfl) rfl (by kernel_rfl) (by kernel_rfl) (by kernel_rfl) (by kernel_rfl) rfl rfl (by decide) (fun a S => ?_)
      obtain ⟨r15, hx16, h⟩ := bindSome h
      have S := S.learn (fRep r_api_Ratio (.agg #[.int .i64 p0.N.Num, .int .i64 p0.N.Den]) p0.N) rfl
      refine sCall (X := Value) (f := 57) (vs := [.int .i64 1, .int .i64 9, .agg #[.int .i64 p0.N.Num, .int .i64 p0.N.Den], .bool true]) (val := c_raddleref23_over_val r15) (B' := fun _ => []) (D' := c_raddleref23_over_D r15) [] [eBox b3 23 [.int .i64 0, .int .i64 0], eBox b2 41 [.int .u8 p0.System, .int .i64 p0.N.Num, .int .i64 p0.N.Den]] [fRep r_api_Ratio (.agg #[.int .i64 p0.N.Num, .int .i64 p0.N.Den]) p0.N] [0, 1] [0] S (wN rfl) rfl callee57 (by kernel_rfl) (by decide) (by kernel_rfl) (by kernel_rfl) (fun E1 w1 S1 => c_raddleref23_over E1 w1 1 9 p0.N (.agg #[.int .i64 p0.N.Num, .int .i64 p0.N.Den]) true r15 hx16 S1) rfl (by decide) (fun u17 a w S => ?_)
      obtain rfl : u17 = .agg #[.int .i64 r15.1.Num, .int .i64 r15.1.Den] := S.mem.know (i := 0) (e := fRep r_api_Ratio (u17) r15.1) (by kernel_rfl)
      refine sExtract (vs := [.agg #[.int .i64 r15.1.Num, .int .i64 r15.1.Den], .int .i64 r15.2]) (.agg #[.int .i64 r15.1.Num, .int .i64 r15.1.Den]) S (wN rfl) rfl (by kernel_rfl) rfl rfl (by decide) (fun a S => ?_)
      refine sExtract (vs := [.agg #[.int .i64 r15.1.Num, .int .i64 r15.1.Den], .int .i64 r15.2]) (.int .i64 r15.2) S (wN rfl) rfl (by kernel_rfl) rfl rfl (by decide) (fun a S => ?_)
      refine sStore (p := b3) (off := 0) (T := 23) (vs := [.int .i64 0, .int .i64 0]) (v := .agg #[.int .i64 r15.1.Num, .int .i64 r15.1.Den]) 0 [.int .i64 r15.1.Num, .int .i64 r15.1.Den] S (wN rfl) rfl (by kernel_rfl) (by kernel_rfl) rfl (by kernel_rfl) (by kernel_rfl) rfl (by simp) rfl (fun a w S => ?_)
      refine sMove (.int .i64 r15.2) S (wN rfl) (.inr rfl) (by kernel_rfl) rfl (by decide) (fun a S => ?_)
      refine leafL (leafT (hK14 _ _ ?_))
      obtain rfl := Option.some.inj h
      exact wp_ret (rBlock (rThen (sRet (.tuple #[.agg #[.int .i64 r15.1.Num, .int .i64 r15.1.Den], .int .i64 r15.2]) S (rsl2 rfl (rvN (c := 4) (t := 23) (T := 23) (p := b3) 0 [.int .i64 r15.1.Num, .int .i64 r15.1.Den] S (by kernel_rfl) (by kernel_rfl) (by kernel_rfl) (by kernel_rfl)) (rvT (t := 5) (v := .int .i64 r15.2) S (by kernel_rfl))) ⟨(.agg #[.int .i64 r15.1.Num, .int .i64 r15.1.Den]), rfl, S.mem.sel [] [0] (by decide) (by kernel_rfl) (by kernel_rfl)⟩)))
    · refine sCondF (b := ((p0.System == 2) && ((p1 == 1) && true))) S (by kernel_rfl) hc13 ?_
      obtain ⟨t19, h, g20⟩ := bindSome h
      refine sCut (fun a w => ∃ o18, o18 = t19 ∧ St [] E [] w0 84 a w [(2, .pointer (some ⟨b2, 0, none⟩)), (4, .pointer (some ⟨b3, 0, none⟩)), (9, .agg #[.int .u8 p0.System, .int .u8 p1]), (26, .bool o18)] [eBox b2 41 [.int .u8 p0.System, .int .i64 p0.N.Num, .int .i64 p0.N.Den], eBox b3 23 [.int .i64 0, .int .i64 0]] []) ?_ (fun a w hI => ?_)
      · refine sSeq (fun K21 hK21 => ?_)
        refine sRegion ?_
        refine sBuild [(0, .int .u8 1), (1, .int .u8 3)] [.int .u8 1, .int .u8 3] S (wN rfl) rfl (by kernel_rfl) (by kernel_rfl) rfl (by decide) (fun a S => ?_)
        refine sBin (.bool ((p0.System == 1) && ((p1 == 3) && true))) S (wN rfl) rfl (by kernel_rfl) (by kernel_rfl) (bEqV _ _ _ _ #[.int .u8 p0.System, .int .u8 p1] #[.int .u8 1, .int .u8 3] ((p0.System == 1) && ((p1 == 3) && true)) (by kernel_rfl) (eqlV_of (by kernel_rfl))) rfl (by decide) (fun a S => ?_)
        refine sMove (.bool ((p0.System == 1) && ((p1 == 3) && true))) S (wN rfl) (.inr rfl) (by kernel_rfl) rfl (by decide) (fun a S => ?_)
        refine leafL (leafT (hK21 _ _ ?_))
        rcases iteSome h with ⟨hc22, h⟩ | ⟨hc22, h⟩
        · refine sCondT (b := ((p0.System == 1) && ((p1 == 3) && true))) S (by kernel_rfl) hc22 ?_
          exact wp_skip (leafT (⟨((p0.System == 1) && ((p1 == 3) && true)), Option.some.inj h, S.fix [1, 0] [] (by decide) (by kernel_rfl) (by kernel_rfl) (by kernel_rfl)⟩))
        · refine sCondF (b := ((p0.System == 1) && ((p1 == 3) && true))) S (by kernel_rfl) hc22 ?_
          refine sRegion ?_
          refine sBuild [(0, .int .u8 3), (1, .int .u8 1)] [.int .u8 3, .int .u8 1] S (wN rfl) rfl (by kernel_rfl) (by kernel_rfl) rfl (by decide) (fun a S => ?_)
          refine sBin (.bool ((p0.System == 3) && ((p1 == 1) && true))) S (wN rfl) rfl (by kernel_rfl) (by kernel_rfl) (bEqV _ _ _ _ #[.int .u8 p0.System, .int .u8 p1] #[.int .u8 3, .int .u8 1] ((p0.System == 3) && ((p1 == 1) && true)) (by kernel_rfl) (eqlV_of (by kernel_rfl))) rfl (by decide) (fun a S => ?_)
          refine sMove (.bool ((p0.System == 3) && ((p1 == 1) && true))) S (wN rfl) (.inr rfl) (by kernel_rfl) rfl (by decide) (fun a S => ?_)
          exact leafL (leafT (⟨((p0.System == 3) && ((p1 == 1) && true)), Option.some.inj h, S.fix [1, 0] [] (by decide) (by kernel_rfl) (by kernel_rfl) (by kernel_rfl)⟩))
      · obtain ⟨o18, rfl, S⟩ := hI
        have h := g20
        clear g20
        try dsimp only at h
        rcases iteSome h with ⟨hc23, h⟩ | ⟨hc23, h⟩
        · refine sCondT (b := o18) S (by kernel_rfl) hc23 ?_
          refine sSeq (fun K24 hK24 => ?_)
          refine sRegion ?_
          refine sField (b := b2) (off := 0) 1 1 S (wN rfl) rfl (by kernel_rfl) (by kernel_rfl) rfl rfl (by decide) (fun a S => ?_)
          refine sLoadN (p := b2) (off := 1) (T := 41) (vs := [.int .u8 p0.System, .int .i64 p0.N.Num, .int .i64 p0.N.Den]) 0 [.int .i64 p0.N.Num, .int .i64 p0.N.Den] S (wN rfl) rfl (by kernel_rfl) (by kernel_rfl) (by kernel_rfl) (by kernel_rfl) rfl rfl (by decide) (fun a S => ?_)
          obtain ⟨r25, hx26, h⟩ := bindSome h
          have S := S.learn (fRep r_api_Ratio (.agg #[.int .i64 p0.N.Num, .int .i64 p0.N.Den]) p0.N) rfl
          refine sCall (X := Value) (f := 57) (vs := [.int .i64 1000, .int .i64 1, .agg #[.int .i64 p0.N.Num, .int .i64 p0.N.Den], .bool false]) (val := c_raddleref23_over_val r25) (B' := fun _ => []) (D' := c_raddleref23_over_D r25) [] [eBox b2 41 [.int .u8 p0.System, .int .i64 p0.N.Num, .int .i64 p0.N.Den], eBox b3 23 [.int .i64 0, .int .i64 0]] [fRep r_api_Ratio (.agg #[.int .i64 p0.N.Num, .int .i64 p0.N.Den]) p0.N] [0, 1] [0] S (wN rfl) rfl callee57 (by kernel_rfl) (by decide) (by kernel_rfl) (by kernel_rfl) (fun E1 w1 S1 => c_raddleref23_over E1 w1 1000 1 p0.N (.agg #[.int .i64 p0.N.Num, .int .i64 p0.N.Den]) false r25 hx26 S1) rfl (by decide) (fun u27 a w S => ?_)
          obtain rfl : u27 = .agg #[.int .i64 r25.1.Num, .int .i64 r25.1.Den] := S.mem.know (i := 0) (e := fRep r_api_Ratio (u27) r25.1) (by kernel_rfl)
          refine sExtract (vs := [.agg #[.int .i64 r25.1.Num, .int .i64 r25.1.Den], .int .i64 r25.2]) (.agg #[.int .i64 r25.1.Num, .int .i64 r25.1.Den]) S (wN rfl) rfl (by kernel_rfl) rfl rfl (by decide) (fun a S => ?_)
          refine sExtract (vs := [.agg #[.int .i64 r25.1.Num, .int .i64 r25.1.Den], .int .i64 r25.2]) (.int .i64 r25.2) S (wN rfl) rfl (by kernel_rfl) rfl rfl (by decide) (fun a S => ?_)
          refine sStore (p := b3) (off := 0) (T := 23) (vs := [.int .i64 0, .int .i64 0]) (v := .agg #[.int .i64 r25.1.Num, .int .i64 r25.1.Den]) 1 [.int .i64 r25.1.Num, .int .i64 r25.1.Den] S (wN rfl) rfl (by kernel_rfl) (by kernel_rfl) rfl (by kernel_rfl) (by kernel_rfl) rfl (by simp) rfl (fun a w S => ?_)
          refine sMove (.int .i64 r25.2) S (wN rfl) (.inr rfl) (by kernel_rfl) rfl (by decide) (fun a S => ?_)
          refine leafL (leafT (hK24 _ _ ?_))
          obtain rfl := Option.some.inj h
          exact wp_ret (rBlock (rThen (sRet (.tuple #[.agg #[.int .i64 r25.1.Num, .int .i64 r25.1.Den], .int .i64 r25.2]) S (rsl2 rfl (rvN (c := 4) (t := 23) (T := 23) (p := b3) 0 [.int .i64 r25.1.Num, .int .i64 r25.1.Den] S (by kernel_rfl) (by kernel_rfl) (by kernel_rfl) (by kernel_rfl)) (rvT (t := 5) (v := .int .i64 r25.2) S (by kernel_rfl))) ⟨(.agg #[.int .i64 r25.1.Num, .int .i64 r25.1.Den]), rfl, S.mem.sel [] [0] (by decide) (by kernel_rfl) (by kernel_rfl)⟩)))
        · refine sCondF (b := o18) S (by kernel_rfl) hc23 ?_
          obtain ⟨t29, h, g30⟩ := bindSome h
          refine sCut (fun a w => ∃ o28, o28 = t29 ∧ St [] E [] w0 84 a w [(2, .pointer (some ⟨b2, 0, none⟩)), (4, .pointer (some ⟨b3, 0, none⟩)), (9, .agg #[.int .u8 p0.System, .int .u8 p1]), (36, .bool o28)] [eBox b2 41 [.int .u8 p0.System, .int .i64 p0.N.Num, .int .i64 p0.N.Den], eBox b3 23 [.int .i64 0, .int .i64 0]] []) ?_ (fun a w hI => ?_)
          · refine sSeq (fun K31 hK31 => ?_)
            refine sRegion ?_
            refine sBuild [(0, .int .u8 2), (1, .int .u8 3)] [.int .u8 2, .int .u8 3] S (wN rfl) rfl (by kernel_rfl) (by kernel_rfl) rfl (by decide) (fun a S => ?_)
            refine sBin (.bool ((p0.System == 2) && ((p1 == 3) && true))) S (wN rfl) rfl (by kernel_rfl) (by kernel_rfl) (bEqV _ _ _ _ #[.int .u8 p0.System, .int .u8 p1] #[.int .u8 2, .int .u8 3] ((p0.System == 2) && ((p1 == 3) && true)) (by kernel_rfl) (eqlV_of (by kernel_rfl))) rfl (by decide) (fun a S => ?_)
            refine sMove (.bool ((p0.System == 2) && ((p1 == 3) && true))) S (wN rfl) (.inr rfl) (by kernel_rfl) rfl (by decide) (fun a S => ?_)
            refine leafL (leafT (hK31 _ _ ?_))
            rcases iteSome h with ⟨hc32, h⟩ | ⟨hc32, h⟩
            · refine sCondT (b := ((p0.System == 2) && ((p1 == 3) && true))) S (by kernel_rfl) hc32 ?_
              exact wp_skip (leafT (⟨((p0.System == 2) && ((p1 == 3) && true)), Option.some.inj h, S.fix [0, 1] [] (by decide) (by kernel_rfl) (by kernel_rfl) (by kernel_rfl)⟩))
            · refine sCondF (b := ((p0.System == 2) && ((p1 == 3) && true))) S (by kernel_rfl) hc32 ?_
              refine sRegion ?_
              refine sBuild [(0, .int .u8 3), (1, .int .u8 2)] [.int .u8 3, .int .u8 2] S (wN rfl) rfl (by kernel_rfl) (by kernel_rfl) rfl (by decide) (fun a S => ?_)
              refine sBin (.bool ((p0.System == 3) && ((p1 == 2) && true))) S (wN rfl) rfl (by kernel_rfl) (by kernel_rfl) (bEqV _ _ _ _ #[.int .u8 p0.System, .int .u8 p1] #[.int .u8 3, .int .u8 2] ((p0.System == 3) && ((p1 == 2) && true)) (by kernel_rfl) (eqlV_of (by kernel_rfl))) rfl (by decide) (fun a S => ?_)
              refine sMove (.bool ((p0.System == 3) && ((p1 == 2) && true))) S (wN rfl) (.inr rfl) (by kernel_rfl) rfl (by decide) (fun a S => ?_)
              exact leafL (leafT (⟨((p0.System == 3) && ((p1 == 2) && true)), Option.some.inj h, S.fix [0, 1] [] (by decide) (by kernel_rfl) (by kernel_rfl) (by kernel_rfl)⟩))
          · obtain ⟨o28, rfl, S⟩ := hI
            have h := g30
            clear g30
            try dsimp only at h
            rcases iteSome h with ⟨hc33, h⟩ | ⟨hc33, h⟩
            · refine sCondT (b := o28) S (by kernel_rfl) hc33 ?_
              refine sSeq (fun K34 hK34 => ?_)
              refine sRegion ?_
              refine sField (b := b2) (off := 0) 1 1 S (wN rfl) rfl (by kernel_rfl) (by kernel_rfl) rfl rfl (by decide) (fun a S => ?_)
              refine sLoadN (p := b2) (off := 1) (T := 41) (vs := [.int .u8 p0.System, .int .i64 p0.N.Num, .int .i64 p0.N.Den]) 0 [.int .i64 p0.N.Num, .int .i64 p0.N.Den] S (wN rfl) rfl (by kernel_rfl) (by kernel_rfl) (by kernel_rfl) (by kernel_rfl) rfl rfl (by decide) (fun a S => ?_)
              obtain ⟨r35, hx36, h⟩ := bindSome h
              have S := S.learn (fRep r_api_Ratio (.agg #[.int .i64 p0.N.Num, .int .i64 p0.N.Den]) p0.N) rfl
              refine sCall (X := Value) (f := 57) (vs := [.int .i64 9000, .int .i64 1, .agg #[.int .i64 p0.N.Num, .int .i64 p0.N.Den], .bool false]) (val := c_raddleref23_over_val r35) (B' := fun _ => []) (D' := c_raddleref23_over_D r35) [] [eBox b2 41 [.int .u8 p0.System, .int .i64 p0.N.Num, .int .i64 p0.N.Den], eBox b3 23 [.int .i64 0, .int .i64 0]] [fRep r_api_Ratio (.agg #[.int .i64 p0.N.Num, .int .i64 p0.N.Den]) p0.N] [0, 1] [0] S (wN rfl) rfl callee57 (by kernel_rfl) (by decide) (by kernel_rfl) (by kernel_rfl) (fun E1 w1 S1 => c_raddleref23_over E1 w1 9000 1 p0.N (.agg #[.int .i64 p0.N.Num, .int .i64 p0.N.Den]) false r35 hx36 S1) rfl (by decide) (fun u37 a w S => ?_)
              obtain rfl : u37 = .agg #[.int .i64 r35.1.Num, .int .i64 r35.1.Den] := S.mem.know (i := 0) (e := fRep r_api_Ratio (u37) r35.1) (by kernel_rfl)
              refine sExtract (vs := [.agg #[.int .i64 r35.1.Num, .int .i64 r35.1.Den], .int .i64 r35.2]) (.agg #[.int .i64 r35.1.Num, .int .i64 r35.1.Den]) S (wN rfl) rfl (by kernel_rfl) rfl rfl (by decide) (fun a S => ?_)
              refine sExtract (vs := [.agg #[.int .i64 r35.1.Num, .int .i64 r35.1.Den], .int .i64 r35.2]) (.int .i64 r35.2) S (wN rfl) rfl (by kernel_rfl) rfl rfl (by decide) (fun a S => ?_)
              refine sStore (p := b3) (off := 0) (T := 23) (vs := [.int .i64 0, .int .i64 0]) (v := .agg #[.int .i64 r35.1.Num, .int .i64 r35.1.Den]) 1 [.int .i64 r35.1.Num, .int .i64 r35.1.Den] S (wN rfl) rfl (by kernel_rfl) (by kernel_rfl) rfl (by kernel_rfl) (by kernel_rfl) rfl (by simp) rfl (fun a w S => ?_)
              refine sMove (.int .i64 r35.2) S (wN rfl) (.inr rfl) (by kernel_rfl) rfl (by decide) (fun a S => ?_)
              refine leafL (leafT (hK34 _ _ ?_))
              obtain rfl := Option.some.inj h
              exact wp_ret (rBlock (rThen (sRet (.tuple #[.agg #[.int .i64 r35.1.Num, .int .i64 r35.1.Den], .int .i64 r35.2]) S (rsl2 rfl (rvN (c := 4) (t := 23) (T := 23) (p := b3) 0 [.int .i64 r35.1.Num, .int .i64 r35.1.Den] S (by kernel_rfl) (by kernel_rfl) (by kernel_rfl) (by kernel_rfl)) (rvT (t := 5) (v := .int .i64 r35.2) S (by kernel_rfl))) ⟨(.agg #[.int .i64 r35.1.Num, .int .i64 r35.1.Den]), rfl, S.mem.sel [] [0] (by decide) (by kernel_rfl) (by kernel_rfl)⟩)))
            · refine sCondF (b := o28) S (by kernel_rfl) hc33 ?_
              obtain ⟨t39, h, g40⟩ := bindSome h
              refine sCut (fun a w => ∃ o38, o38 = t39 ∧ St [] E [] w0 84 a w [(2, .pointer (some ⟨b2, 0, none⟩)), (4, .pointer (some ⟨b3, 0, none⟩)), (9, .agg #[.int .u8 p0.System, .int .u8 p1]), (46, .bool o38)] [eBox b2 41 [.int .u8 p0.System, .int .i64 p0.N.Num, .int .i64 p0.N.Den], eBox b3 23 [.int .i64 0, .int .i64 0]] []) ?_ (fun a w hI => ?_)
              · refine sSeq (fun K41 hK41 => ?_)
                refine sRegion ?_
                refine sBuild [(0, .int .u8 1), (1, .int .u8 4)] [.int .u8 1, .int .u8 4] S (wN rfl) rfl (by kernel_rfl) (by kernel_rfl) rfl (by decide) (fun a S => ?_)
                refine sBin (.bool ((p0.System == 1) && ((p1 == 4) && true))) S (wN rfl) rfl (by kernel_rfl) (by kernel_rfl) (bEqV _ _ _ _ #[.int .u8 p0.System, .int .u8 p1] #[.int .u8 1, .int .u8 4] ((p0.System == 1) && ((p1 == 4) && true)) (by kernel_rfl) (eqlV_of (by kernel_rfl))) rfl (by decide) (fun a S => ?_)
                refine sMove (.bool ((p0.System == 1) && ((p1 == 4) && true))) S (wN rfl) (.inr rfl) (by kernel_rfl) rfl (by decide) (fun a S => ?_)
                refine leafL (leafT (hK41 _ _ ?_))
                rcases iteSome h with ⟨hc42, h⟩ | ⟨hc42, h⟩
                · refine sCondT (b := ((p0.System == 1) && ((p1 == 4) && true))) S (by kernel_rfl) hc42 ?_
                  exact wp_skip (leafT (⟨((p0.System == 1) && ((p1 == 4) && true)), Option.some.inj h, S.fix [0, 1] [] (by decide) (by kernel_rfl) (by kernel_rfl) (by kernel_rfl)⟩))
                · refine sCondF (b := ((p0.System == 1) && ((p1 == 4) && true))) S (by kernel_rfl) hc42 ?_
                  refine sRegion ?_
                  refine sBuild [(0, .int .u8 4), (1, .int .u8 1)] [.int .u8 4, .int .u8 1] S (wN rfl) rfl (by kernel_rfl) (by kernel_rfl) rfl (by decide) (fun a S => ?_)
                  refine sBin (.bool ((p0.System == 4) && ((p1 == 1) && true))) S (wN rfl) rfl (by kernel_rfl) (by kernel_rfl) (bEqV _ _ _ _ #[.int .u8 p0.System, .int .u8 p1] #[.int .u8 4, .int .u8 1] ((p0.System == 4) && ((p1 == 1) && true)) (by kernel_rfl) (eqlV_of (by kernel_rfl))) rfl (by decide) (fun a S => ?_)
                  refine sMove (.bool ((p0.System == 4) && ((p1 == 1) && true))) S (wN rfl) (.inr rfl) (by kernel_rfl) rfl (by decide) (fun a S => ?_)
                  exact leafL (leafT (⟨((p0.System == 4) && ((p1 == 1) && true)), Option.some.inj h, S.fix [0, 1] [] (by decide) (by kernel_rfl) (by kernel_rfl) (by kernel_rfl)⟩))
              · obtain ⟨o38, rfl, S⟩ := hI
                have h := g40
                clear g40
                try dsimp only at h
                rcases iteSome h with ⟨hc43, h⟩ | ⟨hc43, h⟩
                · refine sCondT (b := o38) S (by kernel_rfl) hc43 ?_
                  refine sSeq (fun K44 hK44 => ?_)
                  refine sRegion ?_
                  refine sField (b := b2) (off := 0) 1 1 S (wN rfl) rfl (by kernel_rfl) (by kernel_rfl) rfl rfl (by decide) (fun a S => ?_)
                  refine sLoadN (p := b2) (off := 1) (T := 41) (vs := [.int .u8 p0.System, .int .i64 p0.N.Num, .int .i64 p0.N.Den]) 0 [.int .i64 p0.N.Num, .int .i64 p0.N.Den] S (wN rfl) rfl (by kernel_rfl) (by kernel_rfl) (by kernel_rfl) (by kernel_rfl) rfl rfl (by decide) (fun a S => ?_)
                  obtain ⟨r45, hx46, h⟩ := bindSome h
                  have S := S.learn (fRep r_api_Ratio (.agg #[.int .i64 p0.N.Num, .int .i64 p0.N.Den]) p0.N) rfl
                  refine sCall (X := Value) (f := 57) (vs := [.int .i64 226796185, .int .i64 384048, .agg #[.int .i64 p0.N.Num, .int .i64 p0.N.Den], .bool false]) (val := c_raddleref23_over_val r45) (B' := fun _ => []) (D' := c_raddleref23_over_D r45) [] [eBox b2 41 [.int .u8 p0.System, .int .i64 p0.N.Num, .int .i64 p0.N.Den], eBox b3 23 [.int .i64 0, .int .i64 0]] [fRep r_api_Ratio (.agg #[.int .i64 p0.N.Num, .int .i64 p0.N.Den]) p0.N] [0, 1] [0] S (wN rfl) rfl callee57 (by kernel_rfl) (by decide) (by kernel_rfl) (by kernel_rfl) (fun E1 w1 S1 => c_raddleref23_over E1 w1 226796185 384048 p0.N (.agg #[.int .i64 p0.N.Num, .int .i64 p0.N.Den]) false r45 hx46 S1) rfl (by decide) (fun u47 a w S => ?_)
                  obtain rfl : u47 = .agg #[.int .i64 r45.1.Num, .int .i64 r45.1.Den] := S.mem.know (i := 0) (e := fRep r_api_Ratio (u47) r45.1) (by kernel_rfl)
                  refine sExtract (vs := [.agg #[.int .i64 r45.1.Num, .int .i64 r45.1.Den], .int .i64 r45.2]) (.agg #[.int .i64 r45.1.Num, .int .i64 r45.1.Den]) S (wN rfl) rfl (by kernel_rfl) rfl rfl (by decide) (fun a S => ?_)
                  refine sExtract (vs := [.agg #[.int .i64 r45.1.Num, .int .i64 r45.1.Den], .int .i64 r45.2]) (.int .i64 r45.2) S (wN rfl) rfl (by kernel_rfl) rfl rfl (by decide) (fun a S => ?_)
                  refine sStore (p := b3) (off := 0) (T := 23) (vs := [.int .i64 0, .int .i64 0]) (v := .agg #[.int .i64 r45.1.Num, .int .i64 r45.1.Den]) 1 [.int .i64 r45.1.Num, .int .i64 r45.1.Den] S (wN rfl) rfl (by kernel_rfl) (by kernel_rfl) rfl (by kernel_rfl) (by kernel_rfl) rfl (by simp) rfl (fun a w S => ?_)
                  refine sMove (.int .i64 r45.2) S (wN rfl) (.inr rfl) (by kernel_rfl) rfl (by decide) (fun a S => ?_)
                  refine leafL (leafT (hK44 _ _ ?_))
                  obtain rfl := Option.some.inj h
                  exact wp_ret (rBlock (rThen (sRet (.tuple #[.agg #[.int .i64 r45.1.Num, .int .i64 r45.1.Den], .int .i64 r45.2]) S (rsl2 rfl (rvN (c := 4) (t := 23) (T := 23) (p := b3) 0 [.int .i64 r45.1.Num, .int .i64 r45.1.Den] S (by kernel_rfl) (by kernel_rfl) (by kernel_rfl) (by kernel_rfl)) (rvT (t := 5) (v := .int .i64 r45.2) S (by kernel_rfl))) ⟨(.agg #[.int .i64 r45.1.Num, .int .i64 r45.1.Den]), rfl, S.mem.sel [] [0] (by decide) (by kernel_rfl) (by kernel_rfl)⟩)))
                · refine sCondF (b := o38) S (by kernel_rfl) hc43 ?_
                  obtain ⟨t49, h, g50⟩ := bindSome h
                  refine sCut (fun a w => ∃ o48, o48 = t49 ∧ St [] E [] w0 84 a w [(2, .pointer (some ⟨b2, 0, none⟩)), (4, .pointer (some ⟨b3, 0, none⟩)), (9, .agg #[.int .u8 p0.System, .int .u8 p1]), (56, .bool o48)] [eBox b2 41 [.int .u8 p0.System, .int .i64 p0.N.Num, .int .i64 p0.N.Den], eBox b3 23 [.int .i64 0, .int .i64 0]] []) ?_ (fun a w hI => ?_)
                  · refine sSeq (fun K51 hK51 => ?_)
                    refine sRegion ?_
                    refine sBuild [(0, .int .u8 2), (1, .int .u8 4)] [.int .u8 2, .int .u8 4] S (wN rfl) rfl (by kernel_rfl) (by kernel_rfl) rfl (by decide) (fun a S => ?_)
                    refine sBin (.bool ((p0.System == 2) && ((p1 == 4) && true))) S (wN rfl) rfl (by kernel_rfl) (by kernel_rfl) (bEqV _ _ _ _ #[.int .u8 p0.System, .int .u8 p1] #[.int .u8 2, .int .u8 4] ((p0.System == 2) && ((p1 == 4) && true)) (by kernel_rfl) (eqlV_of (by kernel_rfl))) rfl (by decide) (fun a S => ?_)
                    refine sMove (.bool ((p0.System == 2) && ((p1 == 4) && true))) S (wN rfl) (.inr rfl) (by kernel_rfl) rfl (by decide) (fun a S => ?_)
                    refine leafL (leafT (hK51 _ _ ?_))
                    rcases iteSome h with ⟨hc52, h⟩ | ⟨hc52, h⟩
                    · refine sCondT (b := ((p0.System == 2) && ((p1 == 4) && true))) S (by kernel_rfl) hc52 ?_
                      exact wp_skip (leafT (⟨((p0.System == 2) && ((p1 == 4) && true)), Option.some.inj h, S.fix [0, 1] [] (by decide) (by kernel_rfl) (by kernel_rfl) (by kernel_rfl)⟩))
                    · refine sCondF (b := ((p0.System == 2) && ((p1 == 4) && true))) S (by kernel_rfl) hc52 ?_
                      refine sRegion ?_
                      refine sBuild [(0, .int .u8 4), (1, .int .u8 2)] [.int .u8 4, .int .u8 2] S (wN rfl) rfl (by kernel_rfl) (by kernel_rfl) rfl (by decide) (fun a S => ?_)
                      refine sBin (.bool ((p0.System == 4) && ((p1 == 2) && true))) S (wN rfl) rfl (by kernel_rfl) (by kernel_rfl) (bEqV _ _ _ _ #[.int .u8 p0.System, .int .u8 p1] #[.int .u8 4, .int .u8 2] ((p0.System == 4) && ((p1 == 2) && true)) (by kernel_rfl) (eqlV_of (by kernel_rfl))) rfl (by decide) (fun a S => ?_)
                      refine sMove (.bool ((p0.System == 4) && ((p1 == 2) && true))) S (wN rfl) (.inr rfl) (by kernel_rfl) rfl (by decide) (fun a S => ?_)
                      exact leafL (leafT (⟨((p0.System == 4) && ((p1 == 2) && true)), Option.some.inj h, S.fix [0, 1] [] (by decide) (by kernel_rfl) (by kernel_rfl) (by kernel_rfl)⟩))
                  · obtain ⟨o48, rfl, S⟩ := hI
                    have h := g50
                    clear g50
                    try dsimp only at h
                    rcases iteSome h with ⟨hc53, h⟩ | ⟨hc53, h⟩
                    · refine sCondT (b := o48) S (by kernel_rfl) hc53 ?_
                      refine sSeq (fun K54 hK54 => ?_)
                      refine sRegion ?_
                      refine sField (b := b2) (off := 0) 1 1 S (wN rfl) rfl (by kernel_rfl) (by kernel_rfl) rfl rfl (by decide) (fun a S => ?_)
                      refine sLoadN (p := b2) (off := 1) (T := 41) (vs := [.int .u8 p0.System, .int .i64 p0.N.Num, .int .i64 p0.N.Den]) 0 [.int .i64 p0.N.Num, .int .i64 p0.N.Den] S (wN rfl) rfl (by kernel_rfl) (by kernel_rfl) (by kernel_rfl) (by kernel_rfl) rfl rfl (by decide) (fun a S => ?_)
                      obtain ⟨r55, hx56, h⟩ := bindSome h
                      have S := S.learn (fRep r_api_Ratio (.agg #[.int .i64 p0.N.Num, .int .i64 p0.N.Den]) p0.N) rfl
                      refine sCall (X := Value) (f := 57) (vs := [.int .i64 2041165665, .int .i64 384048, .agg #[.int .i64 p0.N.Num, .int .i64 p0.N.Den], .bool false]) (val := c_raddleref23_over_val r55) (B' := fun _ => []) (D' := c_raddleref23_over_D r55) [] [eBox b2 41 [.int .u8 p0.System, .int .i64 p0.N.Num, .int .i64 p0.N.Den], eBox b3 23 [.int .i64 0, .int .i64 0]] [fRep r_api_Ratio (.agg #[.int .i64 p0.N.Num, .int .i64 p0.N.Den]) p0.N] [0, 1] [0] S (wN rfl) rfl callee57 (by kernel_rfl) (by decide) (by kernel_rfl) (by kernel_rfl) (fun E1 w1 S1 => c_raddleref23_over E1 w1 2041165665 384048 p0.N (.agg #[.int .i64 p0.N.Num, .int .i64 p0.N.Den]) false r55 hx56 S1) rfl (by decide) (fun u57 a w S => ?_)
                      obtain rfl : u57 = .agg #[.int .i64 r55.1.Num, .int .i64 r55.1.Den] := S.mem.know (i := 0) (e := fRep r_api_Ratio (u57) r55.1) (by kernel_rfl)
                      refine sExtract (vs := [.agg #[.int .i64 r55.1.Num, .int .i64 r55.1.Den], .int .i64 r55.2]) (.agg #[.int .i64 r55.1.Num, .int .i64 r55.1.Den]) S (wN rfl) rfl (by kernel_rfl) rfl rfl (by decide) (fun a S => ?_)
                      refine sExtract (vs := [.agg #[.int .i64 r55.1.Num, .int .i64 r55.1.Den], .int .i64 r55.2]) (.int .i64 r55.2) S (wN rfl) rfl (by kernel_rfl) rfl rfl (by decide) (fun a S => ?_)
                      refine sStore (p := b3) (off := 0) (T := 23) (vs := [.int .i64 0, .int .i64 0]) (v := .agg #[.int .i64 r55.1.Num, .int .i64 r55.1.Den]) 1 [.int .i64 r55.1.Num, .int .i64 r55.1.Den] S (wN rfl) rfl (by kernel_rfl) (by kernel_rfl) rfl (by kernel_rfl) (by kernel_rfl) rfl (by simp) rfl (fun a w S => ?_)
                      refine sMove (.int .i64 r55.2) S (wN rfl) (.inr rfl) (by kernel_rfl) rfl (by decide) (fun a S => ?_)
                      refine leafL (leafT (hK54 _ _ ?_))
                      obtain rfl := Option.some.inj h
                      exact wp_ret (rBlock (rThen (sRet (.tuple #[.agg #[.int .i64 r55.1.Num, .int .i64 r55.1.Den], .int .i64 r55.2]) S (rsl2 rfl (rvN (c := 4) (t := 23) (T := 23) (p := b3) 0 [.int .i64 r55.1.Num, .int .i64 r55.1.Den] S (by kernel_rfl) (by kernel_rfl) (by kernel_rfl) (by kernel_rfl)) (rvT (t := 5) (v := .int .i64 r55.2) S (by kernel_rfl))) ⟨(.agg #[.int .i64 r55.1.Num, .int .i64 r55.1.Den]), rfl, S.mem.sel [] [0] (by decide) (by kernel_rfl) (by kernel_rfl)⟩)))
                    · refine sCondF (b := o48) S (by kernel_rfl) hc53 ?_
                      refine sSeq (fun K58 hK58 => ?_)
                      refine sRegion ?_
                      refine sBuild [(0, .int .u8 3), (1, .int .u8 4)] [.int .u8 3, .int .u8 4] S (wN rfl) rfl (by kernel_rfl) (by kernel_rfl) rfl (by decide) (fun a S => ?_)
                      refine sBin (.bool ((p0.System == 3) && ((p1 == 4) && true))) S (wN rfl) rfl (by kernel_rfl) (by kernel_rfl) (bEqV _ _ _ _ #[.int .u8 p0.System, .int .u8 p1] #[.int .u8 3, .int .u8 4] ((p0.System == 3) && ((p1 == 4) && true)) (by kernel_rfl) (eqlV_of (by kernel_rfl))) rfl (by decide) (fun a S => ?_)
                      refine sMove (.bool ((p0.System == 3) && ((p1 == 4) && true))) S (wN rfl) (.inr rfl) (by kernel_rfl) rfl (by decide) (fun a S => ?_)
                      refine leafL (leafT (hK58 _ _ ?_))
                      rcases iteSome h with ⟨hc59, h⟩ | ⟨hc59, h⟩
                      · refine sCondT (b := ((p0.System == 3) && ((p1 == 4) && true))) S (by kernel_rfl) hc59 ?_
                        refine sSeq (fun K60 hK60 => ?_)
                        refine sRegion ?_
                        refine sField (b := b2) (off := 0) 1 1 S (wN rfl) rfl (by kernel_rfl) (by kernel_rfl) rfl rfl (by decide) (fun a S => ?_)
                        refine sLoadN (p := b2) (off := 1) (T := 41) (vs := [.int .u8 p0.System, .int .i64 p0.N.Num, .int .i64 p0.N.Den]) 0 [.int .i64 p0.N.Num, .int .i64 p0.N.Den] S (wN rfl) rfl (by kernel_rfl) (by kernel_rfl) (by kernel_rfl) (by kernel_rfl) rfl rfl (by decide) (fun a S => ?_)
                        obtain ⟨r61, hx62, h⟩ := bindSome h
                        have S := S.learn (fRep r_api_Ratio (.agg #[.int .i64 p0.N.Num, .int .i64 p0.N.Den]) p0.N) rfl
                        refine sCall (X := Value) (f := 57) (vs := [.int .i64 226796185, .int .i64 384048000, .agg #[.int .i64 p0.N.Num, .int .i64 p0.N.Den], .bool true]) (val := c_raddleref23_over_val r61) (B' := fun _ => []) (D' := c_raddleref23_over_D r61) [] [eBox b2 41 [.int .u8 p0.System, .int .i64 p0.N.Num, .int .i64 p0.N.Den], eBox b3 23 [.int .i64 0, .int .i64 0]] [fRep r_api_Ratio (.agg #[.int .i64 p0.N.Num, .int .i64 p0.N.Den]) p0.N] [0, 1] [0] S (wN rfl) rfl callee57 (by kernel_rfl) (by decide) (by kernel_rfl) (by kernel_rfl) (fun E1 w1 S1 => c_raddleref23_over E1 w1 226796185 384048000 p0.N (.agg #[.int .i64 p0.N.Num, .int .i64 p0.N.Den]) true r61 hx62 S1) rfl (by decide) (fun u63 a w S => ?_)
                        obtain rfl : u63 = .agg #[.int .i64 r61.1.Num, .int .i64 r61.1.Den] := S.mem.know (i := 0) (e := fRep r_api_Ratio (u63) r61.1) (by kernel_rfl)
                        refine sExtract (vs := [.agg #[.int .i64 r61.1.Num, .int .i64 r61.1.Den], .int .i64 r61.2]) (.agg #[.int .i64 r61.1.Num, .int .i64 r61.1.Den]) S (wN rfl) rfl (by kernel_rfl) rfl rfl (by decide) (fun a S => ?_)
                        refine sExtract (vs := [.agg #[.int .i64 r61.1.Num, .int .i64 r61.1.Den], .int .i64 r61.2]) (.int .i64 r61.2) S (wN rfl) rfl (by kernel_rfl) rfl rfl (by decide) (fun a S => ?_)
                        refine sStore (p := b3) (off := 0) (T := 23) (vs := [.int .i64 0, .int .i64 0]) (v := .agg #[.int .i64 r61.1.Num, .int .i64 r61.1.Den]) 1 [.int .i64 r61.1.Num, .int .i64 r61.1.Den] S (wN rfl) rfl (by kernel_rfl) (by kernel_rfl) rfl (by kernel_rfl) (by kernel_rfl) rfl (by simp) rfl (fun a w S => ?_)
                        refine sMove (.int .i64 r61.2) S (wN rfl) (.inr rfl) (by kernel_rfl) rfl (by decide) (fun a S => ?_)
                        refine leafL (leafT (hK60 _ _ ?_))
                        obtain rfl := Option.some.inj h
                        exact wp_ret (rBlock (rThen (sRet (.tuple #[.agg #[.int .i64 r61.1.Num, .int .i64 r61.1.Den], .int .i64 r61.2]) S (rsl2 rfl (rvN (c := 4) (t := 23) (T := 23) (p := b3) 0 [.int .i64 r61.1.Num, .int .i64 r61.1.Den] S (by kernel_rfl) (by kernel_rfl) (by kernel_rfl) (by kernel_rfl)) (rvT (t := 5) (v := .int .i64 r61.2) S (by kernel_rfl))) ⟨(.agg #[.int .i64 r61.1.Num, .int .i64 r61.1.Den]), rfl, S.mem.sel [] [0] (by decide) (by kernel_rfl) (by kernel_rfl)⟩)))
                      · refine sCondF (b := ((p0.System == 3) && ((p1 == 4) && true))) S (by kernel_rfl) hc59 ?_
                        refine sSeq (fun K64 hK64 => ?_)
                        refine sRegion ?_
                        refine sBuild [(0, .int .u8 4), (1, .int .u8 3)] [.int .u8 4, .int .u8 3] S (wN rfl) rfl (by kernel_rfl) (by kernel_rfl) rfl (by decide) (fun a S => ?_)
                        refine sBin (.bool ((p0.System == 4) && ((p1 == 3) && true))) S (wN rfl) rfl (by kernel_rfl) (by kernel_rfl) (bEqV _ _ _ _ #[.int .u8 p0.System, .int .u8 p1] #[.int .u8 4, .int .u8 3] ((p0.System == 4) && ((p1 == 3) && true)) (by kernel_rfl) (eqlV_of (by kernel_rfl))) rfl (by decide) (fun a S => ?_)
                        refine sMove (.bool ((p0.System == 4) && ((p1 == 3) && true))) S (wN rfl) (.inr rfl) (by kernel_rfl) rfl (by decide) (fun a S => ?_)
                        refine leafL (leafT (hK64 _ _ ?_))
                        rcases iteSome h with ⟨hc65, h⟩ | ⟨hc65, h⟩
                        · refine sCondT (b := ((p0.System == 4) && ((p1 == 3) && true))) S (by kernel_rfl) hc65 ?_
                          refine sSeq (fun K66 hK66 => ?_)
                          refine sRegion ?_
                          refine sField (b := b2) (off := 0) 1 1 S (wN rfl) rfl (by kernel_rfl) (by kernel_rfl) rfl rfl (by decide) (fun a S => ?_)
                          refine sLoadN (p := b2) (off := 1) (T := 41) (vs := [.int .u8 p0.System, .int .i64 p0.N.Num, .int .i64 p0.N.Den]) 0 [.int .i64 p0.N.Num, .int .i64 p0.N.Den] S (wN rfl) rfl (by kernel_rfl) (by kernel_rfl) (by kernel_rfl) (by kernel_rfl) rfl rfl (by decide) (fun a S => ?_)
                          obtain ⟨r67, hx68, h⟩ := bindSome h
                          have S := S.learn (fRep r_api_Ratio (.agg #[.int .i64 p0.N.Num, .int .i64 p0.N.Den]) p0.N) rfl
                          refine sCall (X := Value) (f := 57) (vs := [.int .i64 384048000, .int .i64 226796185, .agg #[.int .i64 p0.N.Num, .int .i64 p0.N.Den], .bool true]) (val := c_raddleref23_over_val r67) (B' := fun _ => []) (D' := c_raddleref23_over_D r67) [] [eBox b2 41 [.int .u8 p0.System, .int .i64 p0.N.Num, .int .i64 p0.N.Den], eBox b3 23 [.int .i64 0, .int .i64 0]] [fRep r_api_Ratio (.agg #[.int .i64 p0.N.Num, .int .i64 p0.N.Den]) p0.N] [0, 1] [0] S (wN rfl) rfl callee57 (by kernel_rfl) (by decide) (by kernel_rfl) (by kernel_rfl) (fun E1 w1 S1 => c_raddleref23_over E1 w1 384048000 226796185 p0.N (.agg #[.int .i64 p0.N.Num, .int .i64 p0.N.Den]) true r67 hx68 S1) rfl (by decide) (fun u69 a w S => ?_)
                          obtain rfl : u69 = .agg #[.int .i64 r67.1.Num, .int .i64 r67.1.Den] := S.mem.know (i := 0) (e := fRep r_api_Ratio (u69) r67.1) (by kernel_rfl)
                          refine sExtract (vs := [.agg #[.int .i64 r67.1.Num, .int .i64 r67.1.Den], .int .i64 r67.2]) (.agg #[.int .i64 r67.1.Num, .int .i64 r67.1.Den]) S (wN rfl) rfl (by kernel_rfl) rfl rfl (by decide) (fun a S => ?_)
                          refine sExtract (vs := [.agg #[.int .i64 r67.1.Num, .int .i64 r67.1.Den], .int .i64 r67.2]) (.int .i64 r67.2) S (wN rfl) rfl (by kernel_rfl) rfl rfl (by decide) (fun a S => ?_)
                          refine sStore (p := b3) (off := 0) (T := 23) (vs := [.int .i64 0, .int .i64 0]) (v := .agg #[.int .i64 r67.1.Num, .int .i64 r67.1.Den]) 1 [.int .i64 r67.1.Num, .int .i64 r67.1.Den] S (wN rfl) rfl (by kernel_rfl) (by kernel_rfl) rfl (by kernel_rfl) (by kernel_rfl) rfl (by simp) rfl (fun a w S => ?_)
                          refine sMove (.int .i64 r67.2) S (wN rfl) (.inr rfl) (by kernel_rfl) rfl (by decide) (fun a S => ?_)
                          refine leafL (leafT (hK66 _ _ ?_))
                          obtain rfl := Option.some.inj h
                          exact wp_ret (rBlock (rThen (sRet (.tuple #[.agg #[.int .i64 r67.1.Num, .int .i64 r67.1.Den], .int .i64 r67.2]) S (rsl2 rfl (rvN (c := 4) (t := 23) (T := 23) (p := b3) 0 [.int .i64 r67.1.Num, .int .i64 r67.1.Den] S (by kernel_rfl) (by kernel_rfl) (by kernel_rfl) (by kernel_rfl)) (rvT (t := 5) (v := .int .i64 r67.2) S (by kernel_rfl))) ⟨(.agg #[.int .i64 r67.1.Num, .int .i64 r67.1.Den]), rfl, S.mem.sel [] [0] (by decide) (by kernel_rfl) (by kernel_rfl)⟩)))
                        · refine sCondF (b := ((p0.System == 4) && ((p1 == 3) && true))) S (by kernel_rfl) hc65 ?_
                          refine wp_skip (leafB (leafT (hK4 _ _ ?_)))
                          refine sSeq (fun K70 hK70 => ?_)
                          refine sRegion ?_
                          refine sField (b := b2) (off := 0) 1 1 S (wN rfl) rfl (by kernel_rfl) (by kernel_rfl) rfl rfl (by decide) (fun a S => ?_)
                          refine sLoadN (p := b2) (off := 1) (T := 41) (vs := [.int .u8 p0.System, .int .i64 p0.N.Num, .int .i64 p0.N.Den]) 0 [.int .i64 p0.N.Num, .int .i64 p0.N.Den] S (wN rfl) rfl (by kernel_rfl) (by kernel_rfl) (by kernel_rfl) (by kernel_rfl) rfl rfl (by decide) (fun a S => ?_)
                          refine sStore (p := b3) (off := 0) (T := 23) (vs := [.int .i64 0, .int .i64 0]) (v := .agg #[.int .i64 p0.N.Num, .int .i64 p0.N.Den]) 1 [.int .i64 p0.N.Num, .int .i64 p0.N.Den] S (wN rfl) rfl (by kernel_rfl) (by kernel_rfl) rfl (by kernel_rfl) (by kernel_rfl) rfl (by simp) rfl (fun a w S => ?_)
                          refine sMove (.int .i64 0) S (wN rfl) (.inr rfl) (by kernel_rfl) rfl (by decide) (fun a S => ?_)
                          refine leafL (leafT (hK70 _ _ ?_))
                          obtain rfl := Option.some.inj h
                          have S := S.learn (fRep r_api_Ratio (.agg #[.int .i64 p0.N.Num, .int .i64 p0.N.Den]) p0.N) rfl
                          exact wp_ret (sRet (.tuple #[.agg #[.int .i64 p0.N.Num, .int .i64 p0.N.Den], .int .i64 0]) S (rsl2 rfl (rvN (c := 4) (t := 23) (T := 23) (p := b3) 0 [.int .i64 p0.N.Num, .int .i64 p0.N.Den] S (by kernel_rfl) (by kernel_rfl) (by kernel_rfl) (by kernel_rfl)) (rvT (t := 5) (v := .int .i64 0) S (by kernel_rfl))) ⟨(.agg #[.int .i64 p0.N.Num, .int .i64 p0.N.Den]), rfl, S.mem.sel [] [0] (by decide) (by kernel_rfl) (by kernel_rfl)⟩)

end Go.Proofs.Ytdfjcpnflmgdoaa
namespace Go.Proofs.Ytdfjcpnflmgdoaa
open Go.RowKit
set_option linter.unusedVariables false

noncomputable def F_raddleref23_Convert (p0 : api_Count) (p1 : Int) : Option (api_Count × Int) :=
  Option.bind (F_raddleref23_Counted p0) fun r6 =>
  if r6 != 0 then
    some ((api_Count.mk 0 (api_Ratio.mk 0 0)), r6)
  else
    Option.bind (α := Bool) (
      if decide (p1 < 1) then
        some true
      else
        some (decide (4 < p1))) fun o11 =>
    if o11 then
      some ((api_Count.mk 0 (api_Ratio.mk 0 0)), 2)
    else
      Option.bind (F_raddleref23_converted p0 p1) fun r18 =>
      if r18.2 != 0 then
        some ((api_Count.mk 0 (api_Ratio.mk 0 0)), r18.2)
      else
        some ((api_Count.mk p1 r18.1), 0)
def c_raddleref23_Convert_val (r : (api_Count × Int)) (x : Value) : Value := .tuple #[x, .int .i64 r.2]
def c_raddleref23_Convert_D (r : (api_Count × Int)) (x : Value) : List Fact := [fRep r_api_Count x r.1]
set_option maxHeartbeats 4000000 in
set_option maxRecDepth 100000 in
theorem c_raddleref23_Convert (E : Nat → Prop) (w0 : World) (p0 : api_Count) (v0 : Value) (p1 : Int) (r : (api_Count × Int)) (h : F_raddleref23_Convert p0 p1 = some r) (S : St0 E [] w0 w0 [] [fRep r_api_Count (v0) p0]) :
    Calls Try.prog 24 #[v0, .int .u8 p1] w0 (Ret (X := Value) E [] w0 (c_raddleref23_Convert_val r) (fun _ => []) (c_raddleref23_Convert_D r)) := by
  unfold F_raddleref23_Convert at h
  obtain rfl : v0 = .agg #[.int .u8 p0.System, .int .i64 p0.N.Num, .int .i64 p0.N.Den] := S.know (i := 0) (e := fRep r_api_Count (v0) p0) (by kernel_rfl)
  refine sEnter (args := [.agg #[.int .u8 p0.System, .int .i64 p0.N.Num, .int .i64 p0.N.Den], .int .u8 p1]) 34 Try.func24 rfl rfl (by simp) S (fun a S => ?_)
  refine sSeq (fun K1 hK1 => ?_)
  refine sRegion ?_
  refine sBox (v := .agg #[.int .u8 p0.System, .int .i64 p0.N.Num, .int .i64 p0.N.Den]) S (wN rfl) rfl (by kernel_rfl) [.int .u8 p0.System, .int .i64 p0.N.Num, .int .i64 p0.N.Den] rfl rfl (by decide) (fun a b2 w S => ?_)
  refine sAlloc (.agg #[.int .u8 0, .int .i64 0, .int .i64 0]) S (wN rfl) rfl (by kernel_rfl) [.int .u8 0, .int .i64 0, .int .i64 0] rfl rfl (by decide) (fun a b3 w S => ?_)
  refine sMove (.int .i64 0) S (wN rfl) (.inr rfl) (by kernel_rfl) rfl (by decide) (fun a S => ?_)
  refine leafL (leafT (hK1 _ _ ?_))
  refine sSeq (fun K4 hK4 => ?_)
  refine sSeq (fun K5 hK5 => ?_)
  refine sRegion ?_
  refine sLoadN (p := b2) (off := 0) (T := 41) (vs := [.int .u8 p0.System, .int .i64 p0.N.Num, .int .i64 p0.N.Den]) 1 [.int .u8 p0.System, .int .i64 p0.N.Num, .int .i64 p0.N.Den] S (wN rfl) rfl (by kernel_rfl) (by kernel_rfl) (by kernel_rfl) (by kernel_rfl) rfl rfl (by decide) (fun a S => ?_)
  obtain ⟨r6, hx7, h⟩ := bindSome h
  have S1 := S.mem
  refine sCallQ (X := Unit) (f := 49) (vs := [.agg #[.int .u8 p0.System, .int .i64 p0.N.Num, .int .i64 p0.N.Den]]) (val := fun _ => .int .i64 r6) S (wN rfl) rfl callee49 (by kernel_rfl) (S1.quiet [0] (by kernel_rfl)) (fun E1 w1 S1 => c_raddleref23_Counted E1 w1 p0 (.agg #[.int .u8 p0.System, .int .i64 p0.N.Num, .int .i64 p0.N.Den]) r6 hx7 S1) rfl (by decide) (fun _ a w S => ?_)
  refine sBin (.bool (r6 != 0)) S (wN rfl) rfl (by kernel_rfl) (by kernel_rfl) (bNe _ _ _ _ .i64 r6 0) rfl (by decide) (fun a S => ?_)
  refine leafL (leafT (hK5 _ _ ?_))
  rcases iteSome h with ⟨hc8, h⟩ | ⟨hc8, h⟩
  · refine sCondT (b := r6 != 0) S (by kernel_rfl) hc8 ?_
    refine sSeq (fun K9 hK9 => ?_)
    refine sRegion ?_
    refine sBuild [] [.int .u8 0, .int .i64 0, .int .i64 0] S (wN rfl) rfl (by kernel_rfl) (by kernel_rfl) rfl (by decide) (fun a S => ?_)
    refine sLoadN (p := b2) (off := 0) (T := 41) (vs := [.int .u8 p0.System, .int .i64 p0.N.Num, .int .i64 p0.N.Den]) 1 [.int .u8 p0.System, .int .i64 p0.N.Num, .int .i64 p0.N.Den] S (wN rfl) rfl (by kernel_rfl) (by kernel_rfl) (by kernel_rfl) (by kernel_rfl) rfl rfl (by decide) (fun a S => ?_)
    have S1 := S.mem
    refine sCallQ (X := Unit) (f := 49) (vs := [.agg #[.int .u8 p0.System, .int .i64 p0.N.Num, .int .i64 p0.N.Den]]) (val := fun _ => .int .i64 r6) S (wN rfl) rfl callee49 (by kernel_rfl) (S1.quiet [0] (by kernel_rfl)) (fun E1 w1 S1 => c_raddleref23_Counted E1 w1 p0 (.agg #[.int .u8 p0.System, .int .i64 p0.N.Num, .int .i64 p0.N.Den]) r6 hx7 S1) rfl (by decide) (fun _ a w S => ?_)
    refine sStore (p := b3) (off := 0) (T := 41) (vs := [.int .u8 0, .int .i64 0, .int .i64 0]) (v := .agg #[.int .u8 0, .int .i64 0, .int .i64 0]) 0 [.int .u8 0, .int .i64 0, .int .i64 0] S (wN rfl) rfl (by kernel_rfl) (by kernel_rfl) rfl (by kernel_rfl) (by kernel_rfl) rfl (by simp) rfl (fun a w S => ?_)
    refine sMove (.int .i64 r6) S (wN rfl) (.inr rfl) (by kernel_rfl) rfl (by decide) (fun a S => ?_)
    refine leafL (leafT (hK9 _ _ ?_))
    obtain rfl := Option.some.inj h
    have S := S.learn (fRep r_api_Count (.agg #[.int .u8 0, .int .i64 0, .int .i64 0]) (api_Count.mk 0 (api_Ratio.mk 0 0))) rfl
    exact wp_ret (rThen (sRet (.tuple #[.agg #[.int .u8 0, .int .i64 0, .int .i64 0], .int .i64 r6]) S (rsl2 rfl (rvN (c := 4) (t := 41) (T := 41) (p := b3) 0 [.int .u8 0, .int .i64 0, .int .i64 0] S (by kernel_rfl) (by kernel_rfl) (by kernel_rfl) (by kernel_rfl)) (rvT (t := 5) (v := .int .i64 r6) S (by kernel_rfl))) ⟨(.agg #[.int .u8 0, .int .i64 0, .int .i64 0]), rfl, S.mem.sel [] [0] (by decide) (by kernel_rfl) (by kernel_rfl)⟩))
  · refine sCondF (b := r6 != 0) S (by kernel_rfl) hc8 ?_
    refine wp_skip (leafT (hK4 _ _ ?_))
    refine sSeq (fun K10 hK10 => ?_)
    obtain ⟨t12, h, g13⟩ := bindSome h
    refine sCut (fun a w => ∃ o11, o11 = t12 ∧ St [] E [] w0 34 a w [(1, .int .u8 p1), (2, .pointer (some ⟨b2, 0, none⟩)), (4, .pointer (some ⟨b3, 0, none⟩)), (19, .bool o11)] [eBox b2 41 [.int .u8 p0.System, .int .i64 p0.N.Num, .int .i64 p0.N.Den], eBox b3 41 [.int .u8 0, .int .i64 0, .int .i64 0]] []) ?_ (fun a w hI => ?_)
    · refine sRegion ?_
      refine sMove (.int .u8 p1) S (wN rfl) (.inl rfl) (by kernel_rfl) rfl (by decide) (fun a S => ?_)
      refine sBin (.bool (decide (p1 < 1))) S (wN rfl) rfl (by kernel_rfl) (by kernel_rfl) (bLt _ _ _ _ .u8 p1 1) rfl (by decide) (fun a S => ?_)
      refine sMove (.bool (decide (p1 < 1))) S (wN rfl) (.inl rfl) (by kernel_rfl) rfl (by decide) (fun a S => ?_)
      rcases iteSome h with ⟨hc14, h⟩ | ⟨hc14, h⟩
      · refine sSkip (c := decide (p1 < 1)) 2 false 16 17 S rfl rfl (by kernel_rfl) hc14 rfl (by decide) (fun a S => ?_)
        refine sSkip (c := decide (p1 < 1)) 2 false 16 18 S rfl rfl (by kernel_rfl) hc14 rfl (by decide) (fun a S => ?_)
        refine sPickT (b := decide (p1 < 1)) (.bool true) S (wN rfl) rfl (by kernel_rfl) hc14 (by kernel_rfl) rfl (by decide) (fun a S => ?_)
        exact leafL (leafT (⟨true, Option.some.inj h, S.fix [1, 0] [] (by decide) (by kernel_rfl) (by kernel_rfl) (by kernel_rfl)⟩))
      · refine sMove (.int .u8 p1) S (wG (c := decide (p1 < 1)) 2 false 16 rfl rfl (by kernel_rfl) hc14) (.inl rfl) (by kernel_rfl) rfl (by decide) (fun a S => ?_)
        refine sBin (.bool (decide (4 < p1))) S (wG (c := decide (p1 < 1)) 2 false 16 rfl rfl (by kernel_rfl) hc14) rfl (by kernel_rfl) (by kernel_rfl) (bGt _ _ _ _ .u8 p1 4) rfl (by decide) (fun a S => ?_)
        refine sPickF (b := decide (p1 < 1)) (.bool (decide (4 < p1))) S (wN rfl) rfl (by kernel_rfl) hc14 (by kernel_rfl) rfl (by decide) (fun a S => ?_)
        exact leafL (leafT (⟨decide (4 < p1), Option.some.inj h, S.fix [1, 0] [] (by decide) (by kernel_rfl) (by kernel_rfl) (by kernel_rfl)⟩))
    · obtain ⟨o11, rfl, S⟩ := hI
      have h := g13
      clear g13
      try dsimp only at h
      rcases iteSome h with ⟨hc15, h⟩ | ⟨hc15, h⟩
      · refine sCondT (b := o11) S (by kernel_rfl) hc15 ?_
        refine sSeq (fun K16 hK16 => ?_)
        refine sRegion ?_
        refine sBuild [] [.int .u8 0, .int .i64 0, .int .i64 0] S (wN rfl) rfl (by kernel_rfl) (by kernel_rfl) rfl (by decide) (fun a S => ?_)
        refine sStore (p := b3) (off := 0) (T := 41) (vs := [.int .u8 0, .int .i64 0, .int .i64 0]) (v := .agg #[.int .u8 0, .int .i64 0, .int .i64 0]) 1 [.int .u8 0, .int .i64 0, .int .i64 0] S (wN rfl) rfl (by kernel_rfl) (by kernel_rfl) rfl (by kernel_rfl) (by kernel_rfl) rfl (by simp) rfl (fun a w S => ?_)
        refine sMove (.int .i64 2) S (wN rfl) (.inr rfl) (by kernel_rfl) rfl (by decide) (fun a S => ?_)
        refine leafL (leafT (hK16 _ _ ?_))
        obtain rfl := Option.some.inj h
        have S := S.learn (fRep r_api_Count (.agg #[.int .u8 0, .int .i64 0, .int .i64 0]) (api_Count.mk 0 (api_Ratio.mk 0 0))) rfl
        exact wp_ret (rThen (sRet (.tuple #[.agg #[.int .u8 0, .int .i64 0, .int .i64 0], .int .i64 2]) S (rsl2 rfl (rvN (c := 4) (t := 41) (T := 41) (p := b3) 0 [.int .u8 0, .int .i64 0, .int .i64 0] S (by kernel_rfl) (by kernel_rfl) (by kernel_rfl) (by kernel_rfl)) (rvT (t := 5) (v := .int .i64 2) S (by kernel_rfl))) ⟨(.agg #[.int .u8 0, .int .i64 0, .int .i64 0]), rfl, S.mem.sel [] [0] (by decide) (by kernel_rfl) (by kernel_rfl)⟩))
      · refine sCondF (b := o11) S (by kernel_rfl) hc15 ?_
        refine wp_skip (leafT (hK10 _ _ ?_))
        refine sSeq (fun K17 hK17 => ?_)
        refine sRegion ?_
        refine sLoadN (p := b2) (off := 0) (T := 41) (vs := [.int .u8 p0.System, .int .i64 p0.N.Num, .int .i64 p0.N.Den]) 0 [.int .u8 p0.System, .int .i64 p0.N.Num, .int .i64 p0.N.Den] S (wN rfl) rfl (by kernel_rfl) (by kernel_rfl) (by kernel_rfl) (by kernel_rfl) rfl rfl (by decide) (fun a S => ?_)
        refine sMove (.int .u8 p1) S (wN rfl) (.inl rfl) (by kernel_rfl) rfl (by decide) (fun a S => ?_)
        obtain ⟨r18, hx19, h⟩ := bindSome h
        have S := S.learn (fRep r_api_Count (.agg #[.int .u8 p0.System, .int .i64 p0.N.Num, .int .i64 p0.N.Den]) p0) rfl
        refine sCall (X := Value) (f := 50) (vs := [.agg #[.int .u8 p0.System, .int .i64 p0.N.Num, .int .i64 p0.N.Den], .int .u8 p1]) (val := c_raddleref23_converted_val r18) (B' := fun _ => []) (D' := c_raddleref23_converted_D r18) [] [eBox b2 41 [.int .u8 p0.System, .int .i64 p0.N.Num, .int .i64 p0.N.Den], eBox b3 41 [.int .u8 0, .int .i64 0, .int .i64 0]] [fRep r_api_Count (.agg #[.int .u8 p0.System, .int .i64 p0.N.Num, .int .i64 p0.N.Den]) p0] [0, 1] [0] S (wN rfl) rfl callee50 (by kernel_rfl) (by decide) (by kernel_rfl) (by kernel_rfl) (fun E1 w1 S1 => c_raddleref23_converted E1 w1 p0 (.agg #[.int .u8 p0.System, .int .i64 p0.N.Num, .int .i64 p0.N.Den]) p1 r18 hx19 S1) rfl (by decide) (fun u20 a w S => ?_)
        obtain rfl : u20 = .agg #[.int .i64 r18.1.Num, .int .i64 r18.1.Den] := S.mem.know (i := 0) (e := fRep r_api_Ratio (u20) r18.1) (by kernel_rfl)
        refine sMove (.tuple #[.agg #[.int .i64 r18.1.Num, .int .i64 r18.1.Den], .int .i64 r18.2]) S (wN rfl) (.inl rfl) (by kernel_rfl) rfl (by decide) (fun a S => ?_)
        refine sExtract (vs := [.agg #[.int .i64 r18.1.Num, .int .i64 r18.1.Den], .int .i64 r18.2]) (.agg #[.int .i64 r18.1.Num, .int .i64 r18.1.Den]) S (wN rfl) rfl (by kernel_rfl) rfl rfl (by decide) (fun a S => ?_)
        refine sExtract (vs := [.agg #[.int .i64 r18.1.Num, .int .i64 r18.1.Den], .int .i64 r18.2]) (.int .i64 r18.2) S (wN rfl) rfl (by kernel_rfl) rfl rfl (by decide) (fun a S => ?_)
        refine sAlloc (.agg #[.int .i64 0, .int .i64 0]) S (wN rfl) rfl (by kernel_rfl) [.int .i64 0, .int .i64 0] rfl rfl (by decide) (fun a b21 w S => ?_)
        refine sStore (p := b21) (off := 0) (T := 23) (vs := [.int .i64 0, .int .i64 0]) (v := .agg #[.int .i64 r18.1.Num, .int .i64 r18.1.Den]) 0 [.int .i64 r18.1.Num, .int .i64 r18.1.Den] S (wN rfl) rfl (by kernel_rfl) (by kernel_rfl) rfl (by kernel_rfl) (by kernel_rfl) rfl (by simp) rfl (fun a w S => ?_)
        refine sMove (.int .i64 r18.2) S (wN rfl) (.inr rfl) (by kernel_rfl) rfl (by decide) (fun a S => ?_)
        refine leafL (leafT (hK17 _ _ ?_))
        refine sSeq (fun K22 hK22 => ?_)
        refine sSeq (fun K23 hK23 => ?_)
        refine sRegion ?_
        refine sMove (.int .i64 r18.2) S (wN rfl) (.inl rfl) (by kernel_rfl) rfl (by decide) (fun a S => ?_)
        refine sBin (.bool (r18.2 != 0)) S (wN rfl) rfl (by kernel_rfl) (by kernel_rfl) (bNe _ _ _ _ .i64 r18.2 0) rfl (by decide) (fun a S => ?_)
        refine leafL (leafT (hK23 _ _ ?_))
        rcases iteSome h with ⟨hc24, h⟩ | ⟨hc24, h⟩
        · refine sCondT (b := r18.2 != 0) S (by kernel_rfl) hc24 ?_
          refine sSeq (fun K25 hK25 => ?_)
          refine sRegion ?_
          refine sBuild [] [.int .u8 0, .int .i64 0, .int .i64 0] S (wN rfl) rfl (by kernel_rfl) (by kernel_rfl) rfl (by decide) (fun a S => ?_)
          refine sMove (.int .i64 r18.2) S (wN rfl) (.inl rfl) (by kernel_rfl) rfl (by decide) (fun a S => ?_)
          refine sStore (p := b3) (off := 0) (T := 41) (vs := [.int .u8 0, .int .i64 0, .int .i64 0]) (v := .agg #[.int .u8 0, .int .i64 0, .int .i64 0]) 2 [.int .u8 0, .int .i64 0, .int .i64 0] S (wN rfl) rfl (by kernel_rfl) (by kernel_rfl) rfl (by kernel_rfl) (by kernel_rfl) rfl (by simp) rfl (fun a w S => ?_)
          refine sMove (.int .i64 r18.2) S (wN rfl) (.inr rfl) (by kernel_rfl) rfl (by decide) (fun a S => ?_)
          refine leafL (leafT (hK25 _ _ ?_))
          obtain rfl := Option.some.inj h
          have S := S.learn (fRep r_api_Count (.agg #[.int .u8 0, .int .i64 0, .int .i64 0]) (api_Count.mk 0 (api_Ratio.mk 0 0))) rfl
          exact wp_ret (rThen (sRet (.tuple #[.agg #[.int .u8 0, .int .i64 0, .int .i64 0], .int .i64 r18.2]) S (rsl2 rfl (rvN (c := 4) (t := 41) (T := 41) (p := b3) 0 [.int .u8 0, .int .i64 0, .int .i64 0] S (by kernel_rfl) (by kernel_rfl) (by kernel_rfl) (by kernel_rfl)) (rvT (t := 5) (v := .int .i64 r18.2) S (by kernel_rfl))) ⟨(.agg #[.int .u8 0, .int .i64 0, .int .i64 0]), rfl, S.mem.sel [] [0] (by decide) (by kernel_rfl) (by kernel_rfl)⟩))
        · refine sCondF (b := r18.2 != 0) S (by kernel_rfl) hc24 ?_
          refine wp_skip (leafT (hK22 _ _ ?_))
          refine sSeq (fun K26 hK26 => ?_)
          refine sRegion ?_
          refine sMove (.int .u8 p1) S (wN rfl) (.inl rfl) (by kernel_rfl) rfl (by decide) (fun a S => ?_)
          refine sLoadN (p := b21) (off := 0) (T := 23) (vs := [.int .i64 r18.1.Num, .int .i64 r18.1.Den]) 0 [.int .i64 r18.1.Num, .int .i64 r18.1.Den] S (wN rfl) rfl (by kernel_rfl) (by kernel_rfl) (by kernel_rfl) (by kernel_rfl) rfl rfl (by decide) (fun a S => ?_)
          refine sBuild [(0, .int .u8 p1), (1, .agg #[.int .i64 r18.1.Num, .int .i64 r18.1.Den])] [.int .u8 p1, .int .i64 r18.1.Num, .int .i64 r18.1.Den] S (wN rfl) rfl (by kernel_rfl) (by kernel_rfl) rfl (by decide) (fun a S => ?_)
          refine sStore (p := b3) (off := 0) (T := 41) (vs := [.int .u8 0, .int .i64 0, .int .i64 0]) (v := .agg #[.int .u8 p1, .int .i64 r18.1.Num, .int .i64 r18.1.Den]) 2 [.int .u8 p1, .int .i64 r18.1.Num, .int .i64 r18.1.Den] S (wN rfl) rfl (by kernel_rfl) (by kernel_rfl) rfl (by kernel_rfl) (by kernel_rfl) rfl (by simp) rfl (fun a w S => ?_)
          refine sMove (.int .i64 0) S (wN rfl) (.inr rfl) (by kernel_rfl) rfl (by decide) (fun a S => ?_)
          refine leafL (leafT (hK26 _ _ ?_))
          obtain rfl := Option.some.inj h
          have S := S.learn (fRep r_api_Count (.agg #[.int .u8 p1, .int .i64 r18.1.Num, .int .i64 r18.1.Den]) (api_Count.mk p1 r18.1)) rfl
          exact wp_ret (sRet (.tuple #[.agg #[.int .u8 p1, .int .i64 r18.1.Num, .int .i64 r18.1.Den], .int .i64 0]) S (rsl2 rfl (rvN (c := 4) (t := 41) (T := 41) (p := b3) 0 [.int .u8 p1, .int .i64 r18.1.Num, .int .i64 r18.1.Den] S (by kernel_rfl) (by kernel_rfl) (by kernel_rfl) (by kernel_rfl)) (rvT (t := 5) (v := .int .i64 0) S (by kernel_rfl))) ⟨(.agg #[.int .u8 p1, .int .i64 r18.1.Num, .int .i64 r18.1.Den]), rfl, S.mem.sel [] [0] (by decide) (by kernel_rfl) (by kernel_rfl)⟩)

end Go.Proofs.Ytdfjcpnflmgdoaa
namespace Go.Proofs.Ytdfjcpnflmgdoaa
open Go.RowKit
set_option linter.unusedVariables false

noncomputable def F_raddleref23_tex (p0 : api_Count) (p1 : Int) : Option (api_Ratio × Int) :=
  Option.bind (F_raddleref23_Counted p0) fun r6 =>
  if r6 != 0 then
    some ((api_Ratio.mk 0 0), r6)
  else
    Option.bind (α := Bool) (
      if decide (p1 < 0) then
        some true
      else
        some (decide (1000000000 < p1))) fun o11 =>
    if o11 then
      some ((api_Ratio.mk 0 0), 2)
    else
      Option.bind (F_raddleref23_Convert p0 1) fun r18 =>
      some (r18.1.N, r18.2)
def c_raddleref23_tex_val (r : (api_Ratio × Int)) (x : Value) : Value := .tuple #[x, .int .i64 r.2]
def c_raddleref23_tex_D (r : (api_Ratio × Int)) (x : Value) : List Fact := [fRep r_api_Ratio x r.1]
set_option maxHeartbeats 4000000 in
set_option maxRecDepth 100000 in
theorem c_raddleref23_tex (E : Nat → Prop) (w0 : World) (p0 : api_Count) (v0 : Value) (p1 : Int) (r : (api_Ratio × Int)) (h : F_raddleref23_tex p0 p1 = some r) (S : St0 E [] w0 w0 [] [fRep r_api_Count (v0) p0]) :
    Calls Try.prog 52 #[v0, .int .i64 p1] w0 (Ret (X := Value) E [] w0 (c_raddleref23_tex_val r) (fun _ => []) (c_raddleref23_tex_D r)) := by
  unfold F_raddleref23_tex at h
  obtain rfl : v0 = .agg #[.int .u8 p0.System, .int .i64 p0.N.Num, .int .i64 p0.N.Den] := S.know (i := 0) (e := fRep r_api_Count (v0) p0) (by kernel_rfl)
  refine sEnter (args := [.agg #[.int .u8 p0.System, .int .i64 p0.N.Num, .int .i64 p0.N.Den], .int .i64 p1]) 29 Try.func52 rfl rfl (by simp) S (fun a S => ?_)
  refine sSeq (fun K1 hK1 => ?_)
  refine sRegion ?_
  refine sBox (v := .agg #[.int .u8 p0.System, .int .i64 p0.N.Num, .int .i64 p0.N.Den]) S (wN rfl) rfl (by kernel_rfl) [.int .u8 p0.System, .int .i64 p0.N.Num, .int .i64 p0.N.Den] rfl rfl (by decide) (fun a b2 w S => ?_)
  refine sAlloc (.agg #[.int .i64 0, .int .i64 0]) S (wN rfl) rfl (by kernel_rfl) [.int .i64 0, .int .i64 0] rfl rfl (by decide) (fun a b3 w S => ?_)
  refine sMove (.int .i64 0) S (wN rfl) (.inr rfl) (by kernel_rfl) rfl (by decide) (fun a S => ?_)
  refine leafL (leafT (hK1 _ _ ?_))
  refine sSeq (fun K4 hK4 => ?_)
  refine sSeq (fun K5 hK5 => ?_)
  refine sRegion ?_
  refine sLoadN (p := b2) (off := 0) (T := 41) (vs := [.int .u8 p0.System, .int .i64 p0.N.Num, .int .i64 p0.N.Den]) 1 [.int .u8 p0.System, .int .i64 p0.N.Num, .int .i64 p0.N.Den] S (wN rfl) rfl (by kernel_rfl) (by kernel_rfl) (by kernel_rfl) (by kernel_rfl) rfl rfl (by decide) (fun a S => ?_)
  obtain ⟨r6, hx7, h⟩ := bindSome h
  have S1 := S.mem
  refine sCallQ (X := Unit) (f := 49) (vs := [.agg #[.int .u8 p0.System, .int .i64 p0.N.Num, .int .i64 p0.N.Den]]) (val := fun _ => .int .i64 r6) S (wN rfl) rfl callee49 (by kernel_rfl) (S1.quiet [0] (by kernel_rfl)) (fun E1 w1 S1 => c_raddleref23_Counted E1 w1 p0 (.agg #[.int .u8 p0.System, .int .i64 p0.N.Num, .int .i64 p0.N.Den]) r6 hx7 S1) rfl (by decide) (fun _ a w S => ?_)
  refine sBin (.bool (r6 != 0)) S (wN rfl) rfl (by kernel_rfl) (by kernel_rfl) (bNe _ _ _ _ .i64 r6 0) rfl (by decide) (fun a S => ?_)
  refine leafL (leafT (hK5 _ _ ?_))
  rcases iteSome h with ⟨hc8, h⟩ | ⟨hc8, h⟩
  · refine sCondT (b := r6 != 0) S (by kernel_rfl) hc8 ?_
    refine sSeq (fun K9 hK9 => ?_)
    refine sRegion ?_
    refine sBuild [] [.int .i64 0, .int .i64 0] S (wN rfl) rfl (by kernel_rfl) (by kernel_rfl) rfl (by decide) (fun a S => ?_)
    refine sLoadN (p := b2) (off := 0) (T := 41) (vs := [.int .u8 p0.System, .int .i64 p0.N.Num, .int .i64 p0.N.Den]) 1 [.int .u8 p0.System, .int .i64 p0.N.Num, .int .i64 p0.N.Den] S (wN rfl) rfl (by kernel_rfl) (by kernel_rfl) (by kernel_rfl) (by kernel_rfl) rfl rfl (by decide) (fun a S => ?_)
    have S1 := S.mem
    refine sCallQ (X := Unit) (f := 49) (vs := [.agg #[.int .u8 p0.System, .int .i64 p0.N.Num, .int .i64 p0.N.Den]]) (val := fun _ => .int .i64 r6) S (wN rfl) rfl callee49 (by kernel_rfl) (S1.quiet [0] (by kernel_rfl)) (fun E1 w1 S1 => c_raddleref23_Counted E1 w1 p0 (.agg #[.int .u8 p0.System, .int .i64 p0.N.Num, .int .i64 p0.N.Den]) r6 hx7 S1) rfl (by decide) (fun _ a w S => ?_)
    refine sStore (p := b3) (off := 0) (T := 23) (vs := [.int .i64 0, .int .i64 0]) (v := .agg #[.int .i64 0, .int .i64 0]) 0 [.int .i64 0, .int .i64 0] S (wN rfl) rfl (by kernel_rfl) (by kernel_rfl) rfl (by kernel_rfl) (by kernel_rfl) rfl (by simp) rfl (fun a w S => ?_)
    refine sMove (.int .i64 r6) S (wN rfl) (.inr rfl) (by kernel_rfl) rfl (by decide) (fun a S => ?_)
    refine leafL (leafT (hK9 _ _ ?_))
    obtain rfl := Option.some.inj h
    have S := S.learn (fRep r_api_Ratio (.agg #[.int .i64 0, .int .i64 0]) (api_Ratio.mk 0 0)) rfl
    exact wp_ret (rThen (sRet (.tuple #[.agg #[.int .i64 0, .int .i64 0], .int .i64 r6]) S (rsl2 rfl (rvN (c := 4) (t := 23) (T := 23) (p := b3) 0 [.int .i64 0, .int .i64 0] S (by kernel_rfl) (by kernel_rfl) (by kernel_rfl) (by kernel_rfl)) (rvT (t := 5) (v := .int .i64 r6) S (by kernel_rfl))) ⟨(.agg #[.int .i64 0, .int .i64 0]), rfl, S.mem.sel [] [0] (by decide) (by kernel_rfl) (by kernel_rfl)⟩))
  · refine sCondF (b := r6 != 0) S (by kernel_rfl) hc8 ?_
    refine wp_skip (leafT (hK4 _ _ ?_))
    refine sSeq (fun K10 hK10 => ?_)
    obtain ⟨t12, h, g13⟩ := bindSome h
    refine sCut (fun a w => ∃ o11, o11 = t12 ∧ St [] E [] w0 29 a w [(2, .pointer (some ⟨b2, 0, none⟩)), (4, .pointer (some ⟨b3, 0, none⟩)), (19, .bool o11)] [eBox b2 41 [.int .u8 p0.System, .int .i64 p0.N.Num, .int .i64 p0.N.Den], eBox b3 23 [.int .i64 0, .int .i64 0]] []) ?_ (fun a w hI => ?_)
    · refine sRegion ?_
      refine sMove (.int .i64 p1) S (wN rfl) (.inl rfl) (by kernel_rfl) rfl (by decide) (fun a S => ?_)
      refine sBin (.bool (decide (p1 < 0))) S (wN rfl) rfl (by kernel_rfl) (by kernel_rfl) (bLt _ _ _ _ .i64 p1 0) rfl (by decide) (fun a S => ?_)
      refine sMove (.bool (decide (p1 < 0))) S (wN rfl) (.inl rfl) (by kernel_rfl) rfl (by decide) (fun a S => ?_)
      rcases iteSome h with ⟨hc14, h⟩ | ⟨hc14, h⟩
      · refine sSkip (c := decide (p1 < 0)) 2 false 16 17 S rfl rfl (by kernel_rfl) hc14 rfl (by decide) (fun a S => ?_)
        refine sSkip (c := decide (p1 < 0)) 2 false 16 18 S rfl rfl (by kernel_rfl) hc14 rfl (by decide) (fun a S => ?_)
        refine sPickT (b := decide (p1 < 0)) (.bool true) S (wN rfl) rfl (by kernel_rfl) hc14 (by kernel_rfl) rfl (by decide) (fun a S => ?_)
        exact leafL (leafT (⟨true, Option.some.inj h, S.fix [1, 0] [] (by decide) (by kernel_rfl) (by kernel_rfl) (by kernel_rfl)⟩))
      · refine sMove (.int .i64 p1) S (wG (c := decide (p1 < 0)) 2 false 16 rfl rfl (by kernel_rfl) hc14) (.inl rfl) (by kernel_rfl) rfl (by decide) (fun a S => ?_)
        refine sBin (.bool (decide (1000000000 < p1))) S (wG (c := decide (p1 < 0)) 2 false 16 rfl rfl (by kernel_rfl) hc14) rfl (by kernel_rfl) (by kernel_rfl) (bGt _ _ _ _ .i64 p1 1000000000) rfl (by decide) (fun a S => ?_)
        refine sPickF (b := decide (p1 < 0)) (.bool (decide (1000000000 < p1))) S (wN rfl) rfl (by kernel_rfl) hc14 (by kernel_rfl) rfl (by decide) (fun a S => ?_)
        exact leafL (leafT (⟨decide (1000000000 < p1), Option.some.inj h, S.fix [1, 0] [] (by decide) (by kernel_rfl) (by kernel_rfl) (by kernel_rfl)⟩))
    · obtain ⟨o11, rfl, S⟩ := hI
      have h := g13
      clear g13
      try dsimp only at h
      rcases iteSome h with ⟨hc15, h⟩ | ⟨hc15, h⟩
      · refine sCondT (b := o11) S (by kernel_rfl) hc15 ?_
        refine sSeq (fun K16 hK16 => ?_)
        refine sRegion ?_
        refine sBuild [] [.int .i64 0, .int .i64 0] S (wN rfl) rfl (by kernel_rfl) (by kernel_rfl) rfl (by decide) (fun a S => ?_)
        refine sStore (p := b3) (off := 0) (T := 23) (vs := [.int .i64 0, .int .i64 0]) (v := .agg #[.int .i64 0, .int .i64 0]) 1 [.int .i64 0, .int .i64 0] S (wN rfl) rfl (by kernel_rfl) (by kernel_rfl) rfl (by kernel_rfl) (by kernel_rfl) rfl (by simp) rfl (fun a w S => ?_)
        refine sMove (.int .i64 2) S (wN rfl) (.inr rfl) (by kernel_rfl) rfl (by decide) (fun a S => ?_)
        refine leafL (leafT (hK16 _ _ ?_))
        obtain rfl := Option.some.inj h
        have S := S.learn (fRep r_api_Ratio (.agg #[.int .i64 0, .int .i64 0]) (api_Ratio.mk 0 0)) rfl
        exact wp_ret (rThen (sRet (.tuple #[.agg #[.int .i64 0, .int .i64 0], .int .i64 2]) S (rsl2 rfl (rvN (c := 4) (t := 23) (T := 23) (p := b3) 0 [.int .i64 0, .int .i64 0] S (by kernel_rfl) (by kernel_rfl) (by kernel_rfl) (by kernel_rfl)) (rvT (t := 5) (v := .int .i64 2) S (by kernel_rfl))) ⟨(.agg #[.int .i64 0, .int .i64 0]), rfl, S.mem.sel [] [0] (by decide) (by kernel_rfl) (by kernel_rfl)⟩))
      · refine sCondF (b := o11) S (by kernel_rfl) hc15 ?_
        refine wp_skip (leafT (hK10 _ _ ?_))
        refine sSeq (fun K17 hK17 => ?_)
        refine sRegion ?_
        refine sLoadN (p := b2) (off := 0) (T := 41) (vs := [.int .u8 p0.System, .int .i64 p0.N.Num, .int .i64 p0.N.Den]) 0 [.int .u8 p0.System, .int .i64 p0.N.Num, .int .i64 p0.N.Den] S (wN rfl) rfl (by kernel_rfl) (by kernel_rfl) (by kernel_rfl) (by kernel_rfl) rfl rfl (by decide) (fun a S => ?_)
        obtain ⟨r18, hx19, h⟩ := bindSome h
        have S := S.learn (fRep r_api_Count (.agg #[.int .u8 p0.System, .int .i64 p0.N.Num, .int .i64 p0.N.Den]) p0) rfl
        refine sCall (X := Value) (f := 24) (vs := [.agg #[.int .u8 p0.System, .int .i64 p0.N.Num, .int .i64 p0.N.Den], .int .u8 1]) (val := c_raddleref23_Convert_val r18) (B' := fun _ => []) (D' := c_raddleref23_Convert_D r18) [] [eBox b2 41 [.int .u8 p0.System, .int .i64 p0.N.Num, .int .i64 p0.N.Den], eBox b3 23 [.int .i64 0, .int .i64 0]] [fRep r_api_Count (.agg #[.int .u8 p0.System, .int .i64 p0.N.Num, .int .i64 p0.N.Den]) p0] [0, 1] [0] S (wN rfl) rfl callee24 (by kernel_rfl) (by decide) (by kernel_rfl) (by kernel_rfl) (fun E1 w1 S1 => c_raddleref23_Convert E1 w1 p0 (.agg #[.int .u8 p0.System, .int .i64 p0.N.Num, .int .i64 p0.N.Den]) 1 r18 hx19 S1) rfl (by decide) (fun u20 a w S => ?_)
        obtain rfl : u20 = .agg #[.int .u8 r18.1.System, .int .i64 r18.1.N.Num, .int .i64 r18.1.N.Den] := S.mem.know (i := 0) (e := fRep r_api_Count (u20) r18.1) (by kernel_rfl)
        refine sMove (.tuple #[.agg #[.int .u8 r18.1.System, .int .i64 r18.1.N.Num, .int .i64 r18.1.N.Den], .int .i64 r18.2]) S (wN rfl) (.inl rfl) (by kernel_rfl) rfl (by decide) (fun a S => ?_)
        refine sExtract (vs := [.agg #[.int .u8 r18.1.System, .int .i64 r18.1.N.Num, .int .i64 r18.1.N.Den], .int .i64 r18.2]) (.agg #[.int .u8 r18.1.System, .int .i64 r18.1.N.Num, .int .i64 r18.1.N.Den]) S (wN rfl) rfl (by kernel_rfl) rfl rfl (by decide) (fun a S => ?_)
        refine sExtract (vs := [.agg #[.int .u8 r18.1.System, .int .i64 r18.1.N.Num, .int .i64 r18.1.N.Den], .int .i64 r18.2]) (.int .i64 r18.2) S (wN rfl) rfl (by kernel_rfl) rfl rfl (by decide) (fun a S => ?_)
        refine sAlloc (.agg #[.int .u8 0, .int .i64 0, .int .i64 0]) S (wN rfl) rfl (by kernel_rfl) [.int .u8 0, .int .i64 0, .int .i64 0] rfl rfl (by decide) (fun a b21 w S => ?_)
        refine sStore (p := b21) (off := 0) (T := 41) (vs := [.int .u8 0, .int .i64 0, .int .i64 0]) (v := .agg #[.int .u8 r18.1.System, .int .i64 r18.1.N.Num, .int .i64 r18.1.N.Den]) 0 [.int .u8 r18.1.System, .int .i64 r18.1.N.Num, .int .i64 r18.1.N.Den] S (wN rfl) rfl (by kernel_rfl) (by kernel_rfl) rfl (by kernel_rfl) (by kernel_rfl) rfl (by simp) rfl (fun a w S => ?_)
        refine sMove (.int .i64 r18.2) S (wN rfl) (.inr rfl) (by kernel_rfl) rfl (by decide) (fun a S => ?_)
        refine leafL (leafT (hK17 _ _ ?_))
        refine sSeq (fun K22 hK22 => ?_)
        refine sRegion ?_
        refine sField (b := b21) (off := 0) 1 1 S (wN rfl) rfl (by kernel_rfl) (by kernel_rfl) rfl rfl (by decide) (fun a S => ?_)
        refine sLoadN (p := b21) (off := 1) (T := 41) (vs := [.int .u8 r18.1.System, .int .i64 r18.1.N.Num, .int .i64 r18.1.N.Den]) 0 [.int .i64 r18.1.N.Num, .int .i64 r18.1.N.Den] S (wN rfl) rfl (by kernel_rfl) (by kernel_rfl) (by kernel_rfl) (by kernel_rfl) rfl rfl (by decide) (fun a S => ?_)
        refine sMove (.int .i64 r18.2) S (wN rfl) (.inl rfl) (by kernel_rfl) rfl (by decide) (fun a S => ?_)
        refine sStore (p := b3) (off := 0) (T := 23) (vs := [.int .i64 0, .int .i64 0]) (v := .agg #[.int .i64 r18.1.N.Num, .int .i64 r18.1.N.Den]) 2 [.int .i64 r18.1.N.Num, .int .i64 r18.1.N.Den] S (wN rfl) rfl (by kernel_rfl) (by kernel_rfl) rfl (by kernel_rfl) (by kernel_rfl) rfl (by simp) rfl (fun a w S => ?_)
        refine sMove (.int .i64 r18.2) S (wN rfl) (.inr rfl) (by kernel_rfl) rfl (by decide) (fun a S => ?_)
        refine leafL (leafT (hK22 _ _ ?_))
        obtain rfl := Option.some.inj h
        have S := S.learn (fRep r_api_Ratio (.agg #[.int .i64 r18.1.N.Num, .int .i64 r18.1.N.Den]) r18.1.N) rfl
        exact wp_ret (sRet (.tuple #[.agg #[.int .i64 r18.1.N.Num, .int .i64 r18.1.N.Den], .int .i64 r18.2]) S (rsl2 rfl (rvN (c := 4) (t := 23) (T := 23) (p := b3) 0 [.int .i64 r18.1.N.Num, .int .i64 r18.1.N.Den] S (by kernel_rfl) (by kernel_rfl) (by kernel_rfl) (by kernel_rfl)) (rvT (t := 5) (v := .int .i64 r18.2) S (by kernel_rfl))) ⟨(.agg #[.int .i64 r18.1.N.Num, .int .i64 r18.1.N.Den]), rfl, S.mem.sel [] [0] (by decide) (by kernel_rfl) (by kernel_rfl)⟩)

end Go.Proofs.Ytdfjcpnflmgdoaa
namespace Go.Proofs.Ytdfjcpnflmgdoaa
open Go.RowKit
set_option linter.unusedVariables false

noncomputable def F_raddleref23_Weigh (p0 : api_Count) (p1 : Int) : Option (api_Ratio × Int) :=
  Option.bind (F_raddleref23_tex p0 p1) fun r5 =>
  if r5.2 != 0 then
    some ((api_Ratio.mk 0 0), r5.2)
  else
    Option.bind (F_raddleref23_Make (w64 (p1 * r5.1.Num)) (w64 (10000 * r5.1.Den))) fun r14 =>
    some (r14.1, r14.2)
def c_raddleref23_Weigh_val (r : (api_Ratio × Int)) (x : Value) : Value := .tuple #[x, .int .i64 r.2]
def c_raddleref23_Weigh_D (r : (api_Ratio × Int)) (x : Value) : List Fact := [fRep r_api_Ratio x r.1]
set_option maxHeartbeats 4000000 in
set_option maxRecDepth 100000 in
theorem c_raddleref23_Weigh (E : Nat → Prop) (w0 : World) (p0 : api_Count) (v0 : Value) (p1 : Int) (r : (api_Ratio × Int)) (h : F_raddleref23_Weigh p0 p1 = some r) (S : St0 E [] w0 w0 [] [fRep r_api_Count (v0) p0]) :
    Calls Try.prog 28 #[v0, .int .i64 p1] w0 (Ret (X := Value) E [] w0 (c_raddleref23_Weigh_val r) (fun _ => []) (c_raddleref23_Weigh_D r)) := by
  unfold F_raddleref23_Weigh at h
  obtain rfl : v0 = .agg #[.int .u8 p0.System, .int .i64 p0.N.Num, .int .i64 p0.N.Den] := S.know (i := 0) (e := fRep r_api_Count (v0) p0) (by kernel_rfl)
  refine sEnter (args := [.agg #[.int .u8 p0.System, .int .i64 p0.N.Num, .int .i64 p0.N.Den], .int .i64 p1]) 28 Try.func28 rfl rfl (by simp) S (fun a S => ?_)
  refine sSeq (fun K1 hK1 => ?_)
  refine sRegion ?_
  refine sBox (v := .agg #[.int .u8 p0.System, .int .i64 p0.N.Num, .int .i64 p0.N.Den]) S (wN rfl) rfl (by kernel_rfl) [.int .u8 p0.System, .int .i64 p0.N.Num, .int .i64 p0.N.Den] rfl rfl (by decide) (fun a b2 w S => ?_)
  refine sAlloc (.agg #[.int .i64 0, .int .i64 0]) S (wN rfl) rfl (by kernel_rfl) [.int .i64 0, .int .i64 0] rfl rfl (by decide) (fun a b3 w S => ?_)
  refine sMove (.int .i64 0) S (wN rfl) (.inr rfl) (by kernel_rfl) rfl (by decide) (fun a S => ?_)
  refine leafL (leafT (hK1 _ _ ?_))
  refine sSeq (fun K4 hK4 => ?_)
  refine sRegion ?_
  refine sLoadN (p := b2) (off := 0) (T := 41) (vs := [.int .u8 p0.System, .int .i64 p0.N.Num, .int .i64 p0.N.Den]) 1 [.int .u8 p0.System, .int .i64 p0.N.Num, .int .i64 p0.N.Den] S (wN rfl) rfl (by kernel_rfl) (by kernel_rfl) (by kernel_rfl) (by kernel_rfl) rfl rfl (by decide) (fun a S => ?_)
  refine sMove (.int .i64 p1) S (wN rfl) (.inl rfl) (by kernel_rfl) rfl (by decide) (fun a S => ?_)
  obtain ⟨r5, hx6, h⟩ := bindSome h
  refine sCall (X := Value) (f := 52) (vs := [.agg #[.int .u8 p0.System, .int .i64 p0.N.Num, .int .i64 p0.N.Den], .int .i64 p1]) (val := c_raddleref23_tex_val r5) (B' := fun _ => []) (D' := c_raddleref23_tex_D r5) [] [eBox b3 23 [.int .i64 0, .int .i64 0], eBox b2 41 [.int .u8 p0.System, .int .i64 p0.N.Num, .int .i64 p0.N.Den]] [fRep r_api_Count (.agg #[.int .u8 p0.System, .int .i64 p0.N.Num, .int .i64 p0.N.Den]) p0] [0, 1] [0] S (wN rfl) rfl callee52 (by kernel_rfl) (by decide) (by kernel_rfl) (by kernel_rfl) (fun E1 w1 S1 => c_raddleref23_tex E1 w1 p0 (.agg #[.int .u8 p0.System, .int .i64 p0.N.Num, .int .i64 p0.N.Den]) p1 r5 hx6 S1) rfl (by decide) (fun u7 a w S => ?_)
  obtain rfl : u7 = .agg #[.int .i64 r5.1.Num, .int .i64 r5.1.Den] := S.mem.know (i := 0) (e := fRep r_api_Ratio (u7) r5.1) (by kernel_rfl)
  refine sMove (.tuple #[.agg #[.int .i64 r5.1.Num, .int .i64 r5.1.Den], .int .i64 r5.2]) S (wN rfl) (.inl rfl) (by kernel_rfl) rfl (by decide) (fun a S => ?_)
  refine sExtract (vs := [.agg #[.int .i64 r5.1.Num, .int .i64 r5.1.Den], .int .i64 r5.2]) (.agg #[.int .i64 r5.1.Num, .int .i64 r5.1.Den]) S (wN rfl) rfl (by kernel_rfl) rfl rfl (by decide) (fun a S => ?_)
  refine sExtract (vs := [.agg #[.int .i64 r5.1.Num, .int .i64 r5.1.Den], .int .i64 r5.2]) (.int .i64 r5.2) S (wN rfl) rfl (by kernel_rfl) rfl rfl (by decide) (fun a S => ?_)
  refine sAlloc (.agg #[.int .i64 0, .int .i64 0]) S (wN rfl) rfl (by kernel_rfl) [.int .i64 0, .int .i64 0] rfl rfl (by decide) (fun a b8 w S => ?_)
  refine sStore (p := b8) (off := 0) (T := 23) (vs := [.int .i64 0, .int .i64 0]) (v := .agg #[.int .i64 r5.1.Num, .int .i64 r5.1.Den]) 0 [.int .i64 r5.1.Num, .int .i64 r5.1.Den] S (wN rfl) rfl (by kernel_rfl) (by kernel_rfl) rfl (by kernel_rfl) (by kernel_rfl) rfl (by simp) rfl (fun a w S => ?_)
  refine sMove (.int .i64 r5.2) S (wN rfl) (.inr rfl) (by kernel_rfl) rfl (by decide) (fun a S => ?_)
  refine leafL (leafT (hK4 _ _ ?_))
  refine sSeq (fun K9 hK9 => ?_)
  refine sSeq (fun K10 hK10 => ?_)
  refine sRegion ?_
  refine sMove (.int .i64 r5.2) S (wN rfl) (.inl rfl) (by kernel_rfl) rfl (by decide) (fun a S => ?_)
  refine sBin (.bool (r5.2 != 0)) S (wN rfl) rfl (by kernel_rfl) (by kernel_rfl) (bNe _ _ _ _ .i64 r5.2 0) rfl (by decide) (fun a S => ?_)
  refine leafL (leafT (hK10 _ _ ?_))
  rcases iteSome h with ⟨hc11, h⟩ | ⟨hc11, h⟩
  · refine sCondT (b := r5.2 != 0) S (by kernel_rfl) hc11 ?_
    refine sSeq (fun K12 hK12 => ?_)
    refine sRegion ?_
    refine sBuild [] [.int .i64 0, .int .i64 0] S (wN rfl) rfl (by kernel_rfl) (by kernel_rfl) rfl (by decide) (fun a S => ?_)
    refine sMove (.int .i64 r5.2) S (wN rfl) (.inl rfl) (by kernel_rfl) rfl (by decide) (fun a S => ?_)
    refine sStore (p := b3) (off := 0) (T := 23) (vs := [.int .i64 0, .int .i64 0]) (v := .agg #[.int .i64 0, .int .i64 0]) 1 [.int .i64 0, .int .i64 0] S (wN rfl) rfl (by kernel_rfl) (by kernel_rfl) rfl (by kernel_rfl) (by kernel_rfl) rfl (by simp) rfl (fun a w S => ?_)
    refine sMove (.int .i64 r5.2) S (wN rfl) (.inr rfl) (by kernel_rfl) rfl (by decide) (fun a S => ?_)
    refine leafL (leafT (hK12 _ _ ?_))
    obtain rfl := Option.some.inj h
    have S := S.learn (fRep r_api_Ratio (.agg #[.int .i64 0, .int .i64 0]) (api_Ratio.mk 0 0)) rfl
    exact wp_ret (rThen (sRet (.tuple #[.agg #[.int .i64 0, .int .i64 0], .int .i64 r5.2]) S (rsl2 rfl (rvN (c := 4) (t := 23) (T := 23) (p := b3) 0 [.int .i64 0, .int .i64 0] S (by kernel_rfl) (by kernel_rfl) (by kernel_rfl) (by kernel_rfl)) (rvT (t := 5) (v := .int .i64 r5.2) S (by kernel_rfl))) ⟨(.agg #[.int .i64 0, .int .i64 0]), rfl, S.mem.sel [] [0] (by decide) (by kernel_rfl) (by kernel_rfl)⟩))
  · refine sCondF (b := r5.2 != 0) S (by kernel_rfl) hc11 ?_
    refine wp_skip (leafT (hK9 _ _ ?_))
    refine sSeq (fun K13 hK13 => ?_)
    refine sRegion ?_
    refine sMove (.int .i64 p1) S (wN rfl) (.inl rfl) (by kernel_rfl) rfl (by decide) (fun a S => ?_)
    refine sField (b := b8) (off := 0) 0 0 S (wN rfl) rfl (by kernel_rfl) (by kernel_rfl) rfl rfl (by decide) (fun a S => ?_)
    refine sLoad1 (p := b8) (off := 0) (T := 23) (vs := [.int .i64 r5.1.Num, .int .i64 r5.1.Den]) 0 (.int .i64 r5.1.Num) S (wN rfl) rfl (by kernel_rfl) (by kernel_rfl) (by kernel_rfl) rfl rfl (by decide) (fun a S => ?_)
    refine sBin (.int .i64 (w64 (p1 * r5.1.Num))) S (wN rfl) rfl (by kernel_rfl) (by kernel_rfl) (bMul _ _ _ _ p1 r5.1.Num) rfl (by decide) (fun a S => ?_)
    refine sField (b := b8) (off := 0) 1 1 S (wN rfl) rfl (by kernel_rfl) (by kernel_rfl) rfl rfl (by decide) (fun a S => ?_)
    refine sLoad1 (p := b8) (off := 1) (T := 23) (vs := [.int .i64 r5.1.Num, .int .i64 r5.1.Den]) 0 (.int .i64 r5.1.Den) S (wN rfl) rfl (by kernel_rfl) (by kernel_rfl) (by kernel_rfl) rfl rfl (by decide) (fun a S => ?_)
    refine sBin (.int .i64 (w64 (10000 * r5.1.Den))) S (wN rfl) rfl (by kernel_rfl) (by kernel_rfl) (bMul _ _ _ _ 10000 r5.1.Den) rfl (by decide) (fun a S => ?_)
    obtain ⟨r14, hx15, h⟩ := bindSome h
    refine sCall (X := Value) (f := 36) (vs := [.int .i64 (w64 (p1 * r5.1.Num)), .int .i64 (w64 (10000 * r5.1.Den))]) (val := c_raddleref23_Make_val r14) (B' := fun _ => []) (D' := c_raddleref23_Make_D r14) [] [eBox b8 23 [.int .i64 r5.1.Num, .int .i64 r5.1.Den], eBox b3 23 [.int .i64 0, .int .i64 0], eBox b2 41 [.int .u8 p0.System, .int .i64 p0.N.Num, .int .i64 p0.N.Den]] [] [0, 1, 2] [] S (wN rfl) rfl callee36 (by kernel_rfl) (by decide) (by kernel_rfl) (by kernel_rfl) (fun E1 w1 S1 => c_raddleref23_Make E1 w1 (w64 (p1 * r5.1.Num)) (w64 (10000 * r5.1.Den)) r14 hx15 S1) rfl (by decide) (fun u16 a w S => ?_)
    obtain rfl : u16 = .agg #[.int .i64 r14.1.Num, .int .i64 r14.1.Den] := S.mem.know (i := 0) (e := fRep r_api_Ratio (u16) r14.1) (by kernel_rfl)
    refine sExtract (vs := [.agg #[.int .i64 r14.1.Num, .int .i64 r14.1.Den], .int .i64 r14.2]) (.agg #[.int .i64 r14.1.Num, .int .i64 r14.1.Den]) S (wN rfl) rfl (by kernel_rfl) rfl rfl (by decide) (fun a S => ?_)
    refine sExtract (vs := [.agg #[.int .i64 r14.1.Num, .int .i64 r14.1.Den], .int .i64 r14.2]) (.int .i64 r14.2) S (wN rfl) rfl (by kernel_rfl) rfl rfl (by decide) (fun a S => ?_)
    refine sStore (p := b3) (off := 0) (T := 23) (vs := [.int .i64 0, .int .i64 0]) (v := .agg #[.int .i64 r14.1.Num, .int .i64 r14.1.Den]) 1 [.int .i64 r14.1.Num, .int .i64 r14.1.Den] S (wN rfl) rfl (by kernel_rfl) (by kernel_rfl) rfl (by kernel_rfl) (by kernel_rfl) rfl (by simp) rfl (fun a w S => ?_)
    refine sMove (.int .i64 r14.2) S (wN rfl) (.inr rfl) (by kernel_rfl) rfl (by decide) (fun a S => ?_)
    refine leafL (leafT (hK13 _ _ ?_))
    obtain rfl := Option.some.inj h
    exact wp_ret (sRet (.tuple #[.agg #[.int .i64 r14.1.Num, .int .i64 r14.1.Den], .int .i64 r14.2]) S (rsl2 rfl (rvN (c := 4) (t := 23) (T := 23) (p := b3) 0 [.int .i64 r14.1.Num, .int .i64 r14.1.Den] S (by kernel_rfl) (by kernel_rfl) (by kernel_rfl) (by kernel_rfl)) (rvT (t := 5) (v := .int .i64 r14.2) S (by kernel_rfl))) ⟨(.agg #[.int .i64 r14.1.Num, .int .i64 r14.1.Den]), rfl, S.mem.sel [] [0] (by decide) (by kernel_rfl) (by kernel_rfl)⟩)

end Go.Proofs.Ytdfjcpnflmgdoaa
namespace Go.Proofs.Ytdfjcpnflmgdoaa
open Go.RowKit
set_option linter.unusedVariables false

noncomputable def F_raddleref23_Skeins (p0 : api_Count) (p1 : Int) (p2 : Int) : Option (Int × Int) :=
  Option.bind (F_raddleref23_Weigh p0 p1) fun r4 =>
  if r4.2 != 0 then
    some (0, r4.2)
  else
    Option.bind (α := Bool) (
      if decide (p2 < 1) then
        some true
      else
        some (decide (1000000000 < p2))) fun o13 =>
    if o13 then
      some (0, 2)
    else
      Option.bind (quoI r4.1.Num (w64 (r4.1.Den * p2))) fun z20 =>
      Option.bind (α := Int) (
        if decide ((w64 ((w64 (z20 * r4.1.Den)) * p2)) < r4.1.Num) then
          some (w64 (z20 + 1))
        else
          some z20) fun o22 =>
      some (o22, 0)
set_option maxHeartbeats 4000000 in
set_option maxRecDepth 100000 in
theorem c_raddleref23_Skeins (E : Nat → Prop) (w0 : World) (p0 : api_Count) (v0 : Value) (p1 : Int) (p2 : Int) (r : (Int × Int)) (h : F_raddleref23_Skeins p0 p1 p2 = some r) (S : St0 E [] w0 w0 [] [fRep r_api_Count (v0) p0]) :
    Calls Try.prog 32 #[v0, .int .i64 p1, .int .i64 p2] w0 (Ret (X := Unit) E [] w0 (fun _ => .tuple #[.int .i64 r.1, .int .i64 r.2]) (fun _ => []) (fun _ => [])) := by
  unfold F_raddleref23_Skeins at h
  obtain rfl : v0 = .agg #[.int .u8 p0.System, .int .i64 p0.N.Num, .int .i64 p0.N.Den] := S.know (i := 0) (e := fRep r_api_Count (v0) p0) (by kernel_rfl)
  refine sEnter (args := [.agg #[.int .u8 p0.System, .int .i64 p0.N.Num, .int .i64 p0.N.Den], .int .i64 p1, .int .i64 p2]) 45 Try.func32 rfl rfl (by simp) S (fun a S => ?_)
  refine sSeq (fun K1 hK1 => ?_)
  refine sRegion ?_
  refine sBox (v := .agg #[.int .u8 p0.System, .int .i64 p0.N.Num, .int .i64 p0.N.Den]) S (wN rfl) rfl (by kernel_rfl) [.int .u8 p0.System, .int .i64 p0.N.Num, .int .i64 p0.N.Den] rfl rfl (by decide) (fun a b2 w S => ?_)
  refine sMove (.int .i64 0) S (wN rfl) (.inr rfl) (by kernel_rfl) rfl (by decide) (fun a S => ?_)
  refine sMove (.int .i64 0) S (wN rfl) (.inr rfl) (by kernel_rfl) rfl (by decide) (fun a S => ?_)
  refine leafL (leafT (hK1 _ _ ?_))
  refine sSeq (fun K3 hK3 => ?_)
  refine sRegion ?_
  refine sLoadN (p := b2) (off := 0) (T := 41) (vs := [.int .u8 p0.System, .int .i64 p0.N.Num, .int .i64 p0.N.Den]) 0 [.int .u8 p0.System, .int .i64 p0.N.Num, .int .i64 p0.N.Den] S (wN rfl) rfl (by kernel_rfl) (by kernel_rfl) (by kernel_rfl) (by kernel_rfl) rfl rfl (by decide) (fun a S => ?_)
  refine sMove (.int .i64 p1) S (wN rfl) (.inl rfl) (by kernel_rfl) rfl (by decide) (fun a S => ?_)
  obtain ⟨r4, hx5, h⟩ := bindSome h
  refine sCall (X := Value) (f := 28) (vs := [.agg #[.int .u8 p0.System, .int .i64 p0.N.Num, .int .i64 p0.N.Den], .int .i64 p1]) (val := c_raddleref23_Weigh_val r4) (B' := fun _ => []) (D' := c_raddleref23_Weigh_D r4) [] [eBox b2 41 [.int .u8 p0.System, .int .i64 p0.N.Num, .int .i64 p0.N.Den]] [fRep r_api_Count (.agg #[.int .u8 p0.System, .int .i64 p0.N.Num, .int .i64 p0.N.Den]) p0] [0] [0] S (wN rfl) rfl callee28 (by kernel_rfl) (by decide) (by kernel_rfl) (by kernel_rfl) (fun E1 w1 S1 => c_raddleref23_Weigh E1 w1 p0 (.agg #[.int .u8 p0.System, .int .i64 p0.N.Num, .int .i64 p0.N.Den]) p1 r4 hx5 S1) rfl (by decide) (fun u6 a w S => ?_)
  obtain rfl : u6 = .agg #[.int .i64 r4.1.Num, .int .i64 r4.1.Den] := S.mem.know (i := 0) (e := fRep r_api_Ratio (u6) r4.1) (by kernel_rfl)
  refine sMove (.tuple #[.agg #[.int .i64 r4.1.Num, .int .i64 r4.1.Den], .int .i64 r4.2]) S (wN rfl) (.inl rfl) (by kernel_rfl) rfl (by decide) (fun a S => ?_)
  refine sExtract (vs := [.agg #[.int .i64 r4.1.Num, .int .i64 r4.1.Den], .int .i64 r4.2]) (.agg #[.int .i64 r4.1.Num, .int .i64 r4.1.Den]) S (wN rfl) rfl (by kernel_rfl) rfl rfl (by decide) (fun a S => ?_)
  refine sExtract (vs := [.agg #[.int .i64 r4.1.Num, .int .i64 r4.1.Den], .int .i64 r4.2]) (.int .i64 r4.2) S (wN rfl) rfl (by kernel_rfl) rfl rfl (by decide) (fun a S => ?_)
  refine sAlloc (.agg #[.int .i64 0, .int .i64 0]) S (wN rfl) rfl (by kernel_rfl) [.int .i64 0, .int .i64 0] rfl rfl (by decide) (fun a b7 w S => ?_)
  refine sStore (p := b7) (off := 0) (T := 23) (vs := [.int .i64 0, .int .i64 0]) (v := .agg #[.int .i64 r4.1.Num, .int .i64 r4.1.Den]) 0 [.int .i64 r4.1.Num, .int .i64 r4.1.Den] S (wN rfl) rfl (by kernel_rfl) (by kernel_rfl) rfl (by kernel_rfl) (by kernel_rfl) rfl (by simp) rfl (fun a w S => ?_)
  refine sMove (.int .i64 r4.2) S (wN rfl) (.inr rfl) (by kernel_rfl) rfl (by decide) (fun a S => ?_)
  refine leafL (leafT (hK3 _ _ ?_))
  refine sSeq (fun K8 hK8 => ?_)
  refine sSeq (fun K9 hK9 => ?_)
  refine sRegion ?_
  refine sMove (.int .i64 r4.2) S (wN rfl) (.inl rfl) (by kernel_rfl) rfl (by decide) (fun a S => ?_)
  refine sBin (.bool (r4.2 != 0)) S (wN rfl) rfl (by kernel_rfl) (by kernel_rfl) (bNe _ _ _ _ .i64 r4.2 0) rfl (by decide) (fun a S => ?_)
  refine leafL (leafT (hK9 _ _ ?_))
  rcases iteSome h with ⟨hc10, h⟩ | ⟨hc10, h⟩
  · refine sCondT (b := r4.2 != 0) S (by kernel_rfl) hc10 ?_
    refine sSeq (fun K11 hK11 => ?_)
    refine sRegion ?_
    refine sMove (.int .i64 r4.2) S (wN rfl) (.inl rfl) (by kernel_rfl) rfl (by decide) (fun a S => ?_)
    refine sMove (.int .i64 0) S (wN rfl) (.inr rfl) (by kernel_rfl) rfl (by decide) (fun a S => ?_)
    refine sMove (.int .i64 r4.2) S (wN rfl) (.inr rfl) (by kernel_rfl) rfl (by decide) (fun a S => ?_)
    refine leafL (leafT (hK11 _ _ ?_))
    obtain rfl := Option.some.inj h
    exact wp_ret (rThen (sRet (.tuple #[.int .i64 0, .int .i64 r4.2]) S (rsl2 rfl (rvT (t := 6) (v := .int .i64 0) S (by kernel_rfl)) (rvT (t := 7) (v := .int .i64 r4.2) S (by kernel_rfl))) ⟨(), rfl, S.mem.sel [] [] (by decide) (by kernel_rfl) (by kernel_rfl)⟩))
  · refine sCondF (b := r4.2 != 0) S (by kernel_rfl) hc10 ?_
    refine wp_skip (leafT (hK8 _ _ ?_))
    refine sSeq (fun K12 hK12 => ?_)
    obtain ⟨t14, h, g15⟩ := bindSome h
    refine sCut (fun a w => ∃ o13, o13 = t14 ∧ St [] E [] w0 45 a w [(2, .int .i64 p2), (8, .pointer (some ⟨b7, 0, none⟩)), (25, .bool o13)] [eBox b7 23 [.int .i64 r4.1.Num, .int .i64 r4.1.Den]] []) ?_ (fun a w hI => ?_)
    · refine sRegion ?_
      refine sMove (.int .i64 p2) S (wN rfl) (.inl rfl) (by kernel_rfl) rfl (by decide) (fun a S => ?_)
      refine sBin (.bool (decide (p2 < 1))) S (wN rfl) rfl (by kernel_rfl) (by kernel_rfl) (bLt _ _ _ _ .i64 p2 1) rfl (by decide) (fun a S => ?_)
      refine sMove (.bool (decide (p2 < 1))) S (wN rfl) (.inl rfl) (by kernel_rfl) rfl (by decide) (fun a S => ?_)
      rcases iteSome h with ⟨hc16, h⟩ | ⟨hc16, h⟩
      · refine sSkip (c := decide (p2 < 1)) 2 false 22 23 S rfl rfl (by kernel_rfl) hc16 rfl (by decide) (fun a S => ?_)
        refine sSkip (c := decide (p2 < 1)) 2 false 22 24 S rfl rfl (by kernel_rfl) hc16 rfl (by decide) (fun a S => ?_)
        refine sPickT (b := decide (p2 < 1)) (.bool true) S (wN rfl) rfl (by kernel_rfl) hc16 (by kernel_rfl) rfl (by decide) (fun a S => ?_)
        exact leafL (leafT (⟨true, Option.some.inj h, S.fix [0] [] (by decide) (by kernel_rfl) (by kernel_rfl) (by kernel_rfl)⟩))
      · refine sMove (.int .i64 p2) S (wG (c := decide (p2 < 1)) 2 false 22 rfl rfl (by kernel_rfl) hc16) (.inl rfl) (by kernel_rfl) rfl (by decide) (fun a S => ?_)
        refine sBin (.bool (decide (1000000000 < p2))) S (wG (c := decide (p2 < 1)) 2 false 22 rfl rfl (by kernel_rfl) hc16) rfl (by kernel_rfl) (by kernel_rfl) (bGt _ _ _ _ .i64 p2 1000000000) rfl (by decide) (fun a S => ?_)
        refine sPickF (b := decide (p2 < 1)) (.bool (decide (1000000000 < p2))) S (wN rfl) rfl (by kernel_rfl) hc16 (by kernel_rfl) rfl (by decide) (fun a S => ?_)
        exact leafL (leafT (⟨decide (1000000000 < p2), Option.some.inj h, S.fix [0] [] (by decide) (by kernel_rfl) (by kernel_rfl) (by kernel_rfl)⟩))
    · obtain ⟨o13, rfl, S⟩ := hI
      have h := g15
      clear g15
      try dsimp only at h
      rcases iteSome h with ⟨hc17, h⟩ | ⟨hc17, h⟩
      · refine sCondT (b := o13) S (by kernel_rfl) hc17 ?_
        refine sSeq (fun K18 hK18 => ?_)
        refine sRegion ?_
        refine sMove (.int .i64 0) S (wN rfl) (.inr rfl) (by kernel_rfl) rfl (by decide) (fun a S => ?_)
        refine sMove (.int .i64 2) S (wN rfl) (.inr rfl) (by kernel_rfl) rfl (by decide) (fun a S => ?_)
        refine leafL (leafT (hK18 _ _ ?_))
        obtain rfl := Option.some.inj h
        exact wp_ret (rThen (sRet (.tuple #[.int .i64 0, .int .i64 2]) S (rsl2 rfl (rvT (t := 6) (v := .int .i64 0) S (by kernel_rfl)) (rvT (t := 7) (v := .int .i64 2) S (by kernel_rfl))) ⟨(), rfl, S.mem.sel [] [] (by decide) (by kernel_rfl) (by kernel_rfl)⟩))
      · refine sCondF (b := o13) S (by kernel_rfl) hc17 ?_
        refine wp_skip (leafT (hK12 _ _ ?_))
        refine sSeq (fun K19 hK19 => ?_)
        refine sRegion ?_
        refine sField (b := b7) (off := 0) 0 0 S (wN rfl) rfl (by kernel_rfl) (by kernel_rfl) rfl rfl (by decide) (fun a S => ?_)
        refine sLoad1 (p := b7) (off := 0) (T := 23) (vs := [.int .i64 r4.1.Num, .int .i64 r4.1.Den]) 0 (.int .i64 r4.1.Num) S (wN rfl) rfl (by kernel_rfl) (by kernel_rfl) (by kernel_rfl) rfl rfl (by decide) (fun a S => ?_)
        refine sField (b := b7) (off := 0) 1 1 S (wN rfl) rfl (by kernel_rfl) (by kernel_rfl) rfl rfl (by decide) (fun a S => ?_)
        refine sLoad1 (p := b7) (off := 1) (T := 23) (vs := [.int .i64 r4.1.Num, .int .i64 r4.1.Den]) 0 (.int .i64 r4.1.Den) S (wN rfl) rfl (by kernel_rfl) (by kernel_rfl) (by kernel_rfl) rfl rfl (by decide) (fun a S => ?_)
        refine sMove (.int .i64 p2) S (wN rfl) (.inl rfl) (by kernel_rfl) rfl (by decide) (fun a S => ?_)
        refine sBin (.int .i64 (w64 (r4.1.Den * p2))) S (wN rfl) rfl (by kernel_rfl) (by kernel_rfl) (bMul _ _ _ _ r4.1.Den p2) rfl (by decide) (fun a S => ?_)
        obtain ⟨z20, hx21, h⟩ := bindSome h
        refine sBin (.int .i64 z20) S (wN rfl) rfl (by kernel_rfl) (by kernel_rfl) (bQuo _ _ _ _ (x := r4.1.Num) (y := w64 (r4.1.Den * p2)) hx21) rfl (by decide) (fun a S => ?_)
        refine sMove (.int .i64 z20) S (wN rfl) (.inr rfl) (by kernel_rfl) rfl (by decide) (fun a S => ?_)
        refine leafL (leafT (hK19 _ _ ?_))
        obtain ⟨t23, h, g24⟩ := bindSome h
        refine sCut (fun a w => ∃ o22, o22 = t23 ∧ St [] E [] w0 45 a w [(10, .int .i64 o22)] [] []) ?_ (fun a w hI => ?_)
        · refine sSeq (fun K25 hK25 => ?_)
          refine sRegion ?_
          refine sMove (.int .i64 z20) S (wN rfl) (.inl rfl) (by kernel_rfl) rfl (by decide) (fun a S => ?_)
          refine sField (b := b7) (off := 0) 1 1 S (wN rfl) rfl (by kernel_rfl) (by kernel_rfl) rfl rfl (by decide) (fun a S => ?_)
          refine sLoad1 (p := b7) (off := 1) (T := 23) (vs := [.int .i64 r4.1.Num, .int .i64 r4.1.Den]) 0 (.int .i64 r4.1.Den) S (wN rfl) rfl (by kernel_rfl) (by kernel_rfl) (by kernel_rfl) rfl rfl (by decide) (fun a S => ?_)
          refine sBin (.int .i64 (w64 (z20 * r4.1.Den))) S (wN rfl) rfl (by kernel_rfl) (by kernel_rfl) (bMul _ _ _ _ z20 r4.1.Den) rfl (by decide) (fun a S => ?_)
          refine sMove (.int .i64 p2) S (wN rfl) (.inl rfl) (by kernel_rfl) rfl (by decide) (fun a S => ?_)
          refine sBin (.int .i64 (w64 ((w64 (z20 * r4.1.Den)) * p2))) S (wN rfl) rfl (by kernel_rfl) (by kernel_rfl) (bMul _ _ _ _ (w64 (z20 * r4.1.Den)) p2) rfl (by decide) (fun a S => ?_)
          refine sField (b := b7) (off := 0) 0 0 S (wN rfl) rfl (by kernel_rfl) (by kernel_rfl) rfl rfl (by decide) (fun a S => ?_)
          refine sLoad1 (p := b7) (off := 0) (T := 23) (vs := [.int .i64 r4.1.Num, .int .i64 r4.1.Den]) 0 (.int .i64 r4.1.Num) S (wN rfl) rfl (by kernel_rfl) (by kernel_rfl) (by kernel_rfl) rfl rfl (by decide) (fun a S => ?_)
          refine sBin (.bool (decide ((w64 ((w64 (z20 * r4.1.Den)) * p2)) < r4.1.Num))) S (wN rfl) rfl (by kernel_rfl) (by kernel_rfl) (bLt _ _ _ _ .i64 (w64 ((w64 (z20 * r4.1.Den)) * p2)) r4.1.Num) rfl (by decide) (fun a S => ?_)
          refine leafL (leafT (hK25 _ _ ?_))
          rcases iteSome h with ⟨hc26, h⟩ | ⟨hc26, h⟩
          · refine sCondT (b := decide ((w64 ((w64 (z20 * r4.1.Den)) * p2)) < r4.1.Num)) S (by kernel_rfl) hc26 ?_
            refine sRegion ?_
            refine sMove (.int .i64 z20) S (wN rfl) (.inl rfl) (by kernel_rfl) rfl (by decide) (fun a S => ?_)
            refine sBin (.int .i64 (w64 (z20 + 1))) S (wN rfl) rfl (by kernel_rfl) (by kernel_rfl) (bAdd _ _ _ _ z20 1) rfl (by decide) (fun a S => ?_)
            refine sMove (.int .i64 (w64 (z20 + 1))) S (wN rfl) (.inr rfl) (by kernel_rfl) rfl (by decide) (fun a S => ?_)
            exact leafL (leafT (⟨w64 (z20 + 1), Option.some.inj h, S.fix [] [] (by decide) (by kernel_rfl) (by kernel_rfl) (by kernel_rfl)⟩))
          · refine sCondF (b := decide ((w64 ((w64 (z20 * r4.1.Den)) * p2)) < r4.1.Num)) S (by kernel_rfl) hc26 ?_
            exact wp_skip (leafT (⟨z20, Option.some.inj h, S.fix [] [] (by decide) (by kernel_rfl) (by kernel_rfl) (by kernel_rfl)⟩))
        · obtain ⟨o22, rfl, S⟩ := hI
          have h := g24
          clear g24
          try dsimp only at h
          refine sSeq (fun K27 hK27 => ?_)
          refine sRegion ?_
          refine sMove (.int .i64 o22) S (wN rfl) (.inl rfl) (by kernel_rfl) rfl (by decide) (fun a S => ?_)
          refine sMove (.int .i64 o22) S (wN rfl) (.inr rfl) (by kernel_rfl) rfl (by decide) (fun a S => ?_)
          refine sMove (.int .i64 0) S (wN rfl) (.inr rfl) (by kernel_rfl) rfl (by decide) (fun a S => ?_)
          refine leafL (leafT (hK27 _ _ ?_))
          obtain rfl := Option.some.inj h
          exact wp_ret (sRet (.tuple #[.int .i64 o22, .int .i64 0]) S (rsl2 rfl (rvT (t := 6) (v := .int .i64 o22) S (by kernel_rfl)) (rvT (t := 7) (v := .int .i64 0) S (by kernel_rfl))) ⟨(), rfl, S.mem.sel [] [] (by decide) (by kernel_rfl) (by kernel_rfl)⟩)

end Go.Proofs.Ytdfjcpnflmgdoaa
namespace Go.Proofs.Ytdfjcpnflmgdoaa
open Go.RowKit
set_option linter.unusedVariables false

/-- what a valid count is -/
structure Cn (c : api_Count) (x y : Nat) : Prop where
  s0 : 1 ≤ c.System
  s1 : c.System ≤ 4
  n : c.N = ⟨(x : Int), (y : Int)⟩
  x0 : 1 ≤ x
  x1 : x ≤ 1000000000
  y0 : 1 ≤ y
  y1 : y ≤ 1000000000
  g : Nat.gcd x y = 1
theorem sys_cases {s : Int} (h0 : 1 ≤ s) (h1 : s ≤ 4) : s = 1 ∨ s = 2 ∨ s = 3 ∨ s = 4 := by omega
theorem counted_eq (c : api_Count) (wc : wf_api_Count c) : ∃ e, F_yarn_counted c = some e ∧ F_raddleref23_Counted c = some e ∧ (e = 0 ∨ e = 8) ∧ (e = 0 → ∃ x y, Cn c x y) := by
  have wn := inK_64 wc.2.1
  have wd := inK_64 wc.2.2
  obtain ⟨e1, h1⟩ := ycheck_some c.N
  obtain ⟨e2, h2⟩ := rcheck_some c.N
  by_cases hs : 1 ≤ c.System ∧ c.System ≤ 4
  case neg =>
    refine ⟨8, ?_, ?_, .inr rfl, fun h => by cases h⟩
    · unfold F_yarn_counted F_yarn_factors
      simp only [bF (show ¬ c.System = 1 by omega), bF (show ¬ c.System = 2 by omega), bF (show ¬ c.System = 3 by omega), bF (show ¬ c.System = 4 by omega), Bool.false_eq_true, if_false, Option.bind_some, Bool.not_false, if_true]
    · unfold F_raddleref23_Counted
      by_cases h : c.System < 1
      · simp only [dT h, if_true, Option.bind_some]
      · simp only [dF h, dT (show 4 < c.System by omega), Bool.false_eq_true, if_false, if_true, Option.bind_some]
  have hf : ∃ p q g, F_yarn_factors c.System = some (p, q, g, true) := by
    unfold F_yarn_factors
    rcases sys_cases hs.1 hs.2 with h | h | h | h <;> rw [h]
    · exact ⟨_, _, _, rfl⟩
    · exact ⟨_, _, _, rfl⟩
    · exact ⟨_, _, _, rfl⟩
    · exact ⟨_, _, _, rfl⟩
  obtain ⟨p, q, gr, hf⟩ := hf
  by_cases hn : 1 ≤ c.N.Num
  case neg =>
    refine ⟨8, ?_, ?_, .inr rfl, fun h => by cases h⟩
    · unfold F_yarn_counted
      simp only [hf, h1, Option.bind_some, Bool.not_true, Bool.false_eq_true, if_false, dT (show c.N.Num ≤ 0 by omega)]
      cases (e1 != 0) <;> rfl
    · unfold F_raddleref23_Counted
      simp only [h2, dF (show ¬ c.System < 1 by omega), dF (show ¬ 4 < c.System by omega), Option.bind_some, Bool.false_eq_true, if_false, dT (show c.N.Num < 1 by omega)]
      cases (e2 != 0) <;> rfl
  by_cases hd : 1 ≤ c.N.Den
  case neg =>
    have k1 : F_yarn_Check c.N = some 8 := by unfold F_yarn_Check; simp [show c.N.Den < 1 by omega]
    have k2 : F_raddleref23_Check c.N = some 8 := by unfold F_raddleref23_Check; simp [show c.N.Den < 1 by omega]
    refine ⟨8, ?_, ?_, .inr rfl, fun h => by cases h⟩
    · unfold F_yarn_counted
      simp only [hf, k1, Option.bind_some, Bool.not_true, Bool.false_eq_true, if_false, nT (show ¬ (8 : Int) = 0 by omega), if_true]
    · unfold F_raddleref23_Counted
      simp only [k2, dF (show ¬ c.System < 1 by omega), dF (show ¬ 4 < c.System by omega), Option.bind_some, Bool.false_eq_true, if_false, nT (show ¬ (8 : Int) = 0 by omega), if_true]
  obtain ⟨x, hx⟩ : ∃ x : Nat, c.N.Num = x := ⟨c.N.Num.toNat, by omega⟩
  obtain ⟨y, hy⟩ : ∃ y : Nat, c.N.Den = y := ⟨c.N.Den.toNat, by omega⟩
  have hN : c.N = ⟨(x : Int), (y : Int)⟩ := by rw [← hx, ← hy]
  have k1 := ycheck_pos x y (by omega) (by omega)
  have k2 := rcheck_eq x y
  unfold F_yarn_counted F_raddleref23_Counted
  simp only [hf, dF (show ¬ c.System < 1 by omega), dF (show ¬ 4 < c.System by omega), hN, k1, k2, Option.bind_some, Bool.not_true, Bool.false_eq_true, if_false, dF (show ¬ (x : Int) ≤ 0 by omega), dF (show ¬ (x : Int) < 1 by omega)]
  by_cases hv : 1 ≤ y ∧ y ≤ 1000000000 ∧ x ≤ 1000000000 ∧ Nat.gcd x y = 1
  · rw [if_pos hv]
    exact ⟨0, rfl, rfl, .inl rfl, fun _ => ⟨x, y, hs.1, hs.2, hN, by omega, hv.2.2.1, hv.1, hv.2.1, hv.2.2.2⟩⟩
  · rw [if_neg hv]
    exact ⟨8, rfl, rfl, .inr rfl, fun h => by cases h⟩
theorem wmul {a b : Nat} (h : a * b ≤ 9223372036854775807) : w64 ((a : Int) * (b : Int)) = ((a * b : Nat) : Int) := by
  rw [← Int.natCast_mul, w64_of (by omega) (by omega)]
/-- the numbers that Convert makes a count of tex of -/
def tN (s : Int) (x y : Nat) : Nat := if s = 1 then x else if s = 2 then x else if s = 3 then 1000 * y else 32399455 * y
def tD (s : Int) (x y : Nat) : Nat := if s = 1 then y else if s = 2 then 9 * y else if s = 3 then x else 54864 * x
theorem tb (s : Int) {x y : Nat} (x0 : 1 ≤ x) (x1 : x ≤ 1000000000) (y0 : 1 ≤ y) (y1 : y ≤ 1000000000) : 0 < tN s x y ∧ tN s x y ≤ 9000000000000000000 ∧ 0 < tD s x y ∧ tD s x y ≤ 9000000000000000000 := by
  unfold tN tD
  split
  · omega
  · split
    · omega
    · split <;> omega
/-- a count of tex: the answer of both -/
def tx (s : Int) (x y : Nat) : api_Count × Int := if (mk (tN s x y) (tD s x y)).2 = 0 then (⟨1, (mk (tN s x y) (tD s x y)).1⟩, 0) else (⟨0, ⟨0, 0⟩⟩, 16)
theorem conv_tail (X Y : Nat) (hX0 : 0 < X) (hY0 : 0 < Y) (hX : X ≤ 9000000000000000000) (hY : Y ≤ 9000000000000000000) :
    (Option.bind (F_yarn_Make (X : Int) (Y : Int)) fun r57 => if (r57.2 != 0) = true then some ((api_Count.mk 0 (api_Ratio.mk 0 0)), r57.2) else if (r57.1.Num == 0) = true then some ((api_Count.mk 0 (api_Ratio.mk 0 0)), 16) else some ((api_Count.mk 1 r57.1), 0)) =
      some (if (mk X Y).2 = 0 then ((⟨1, (mk X Y).1⟩ : api_Count), 0) else (⟨0, ⟨0, 0⟩⟩, 16)) := by
  rw [ymake_eq X Y (by omega) (by omega) hY0, Option.bind_some]
  rcases mk_cases X Y hY0 with ⟨a, b, q, e, h1, h2, h3, h4, h5, h6, h7⟩ | e
  · have ha : a ≠ 0 := by rintro rfl; rw [Nat.zero_mul] at h1; omega
    rw [e]
    simp only [bne_self_eq_false, bF (show ¬ (a : Int) = 0 by omega), Bool.false_eq_true, if_false, if_true]
  · rw [e]
    simp only [nT (show ¬ (16 : Int) = 0 by omega), if_true, show ¬ (16 : Int) = 0 by omega, if_false]
theorem yconv_eq {c : api_Count} {x y : Nat} (C : Cn c x y) (hc : F_yarn_counted c = some 0) : F_yarn_Convert c 1 = some (tx c.System x y) := by
  have x1 := C.x1
  have y1 := C.y1
  have x0 := C.x0
  have y0 := C.y0
  have hb := tb c.System x0 x1 y0 y1
  have ht := conv_tail (tN c.System x y) (tD c.System x y) hb.1 hb.2.2.1 hb.2.1 hb.2.2.2
  unfold F_yarn_Convert tx
  rw [hc, ← ht]
  have hN : c.N.Num = (x : Int) := by rw [C.n]
  have hD : c.N.Den = (y : Int) := by rw [C.n]
  have f1 : F_yarn_factors 1 = some (1, 1, true, true) := rfl
  simp only [Option.bind_some, bne_self_eq_false, Bool.false_eq_true, if_false, f1, Bool.not_true, hN, hD]
  rcases sys_cases C.s0 C.s1 with h | h | h | h <;> rw [h]
  · have f2 : F_yarn_factors 1 = some (1, 1, true, true) := rfl
    have k1 : F_yarn_gcd (IntKind.u64.wrap (w64 (1 * 1))) (IntKind.u64.wrap (w64 (1 * 1))) = some 1 := ygcd_eq 1 1
    have k2 : quoI (w64 (1 * 1)) (IntKind.i64.wrap 1) = some 1 := rfl
    have k3 : w64 (1 * (x : Int)) = ((tN 1 x y : Nat) : Int) := wmul (a := 1) (b := x) (by omega) |>.trans (by simp [tN])
    have k4 : w64 (1 * (y : Int)) = ((tD 1 x y : Nat) : Int) := wmul (a := 1) (b := y) (by omega) |>.trans (by simp [tD])
    simp only [f2, Option.bind_some, Bool.not_true, Bool.false_eq_true, if_false, if_true, k1, k2, bne_self_eq_false, k3, k4]
  · have f2 : F_yarn_factors 2 = some (1, 9, true, true) := rfl
    have k1 : F_yarn_gcd (IntKind.u64.wrap (w64 (1 * 1))) (IntKind.u64.wrap (w64 (9 * 1))) = some 1 := ygcd_eq 1 9
    have k2 : quoI (w64 (1 * 1)) (IntKind.i64.wrap 1) = some 1 := rfl
    have k2' : quoI (w64 (9 * 1)) (IntKind.i64.wrap 1) = some 9 := rfl
    have k3 : w64 (1 * (x : Int)) = ((tN 2 x y : Nat) : Int) := wmul (a := 1) (b := x) (by omega) |>.trans (by simp [tN])
    have k4 : w64 (9 * (y : Int)) = ((tD 2 x y : Nat) : Int) := wmul (a := 9) (b := y) (by omega) |>.trans (by simp [tD])
    simp only [f2, Option.bind_some, Bool.not_true, Bool.false_eq_true, if_false, if_true, k1, k2, k2', bne_self_eq_false, k3, k4]
  · have f2 : F_yarn_factors 3 = some (1000, 1, false, true) := rfl
    have k1 : F_yarn_gcd (IntKind.u64.wrap (w64 (1000 * 1))) (IntKind.u64.wrap (w64 (1 * 1))) = some 1 := ygcd_eq 1000 1
    have k2 : quoI (w64 (1000 * 1)) (IntKind.i64.wrap 1) = some 1000 := rfl
    have k2' : quoI (w64 (1 * 1)) (IntKind.i64.wrap 1) = some 1 := rfl
    have k3 : w64 (1000 * (y : Int)) = ((tN 3 x y : Nat) : Int) := wmul (a := 1000) (b := y) (by omega) |>.trans (by simp [tN])
    have k4 : w64 (1 * (x : Int)) = ((tD 3 x y : Nat) : Int) := wmul (a := 1) (b := x) (by omega) |>.trans (by simp [tD])
    simp only [f2, Option.bind_some, Bool.not_true, Bool.not_false, Bool.false_eq_true, if_false, if_true, k1, k2, k2', show (false != true) = true from rfl, k3, k4]
  · have f2 : F_yarn_factors 4 = some (226796185, 384048, false, true) := rfl
    have k1 : F_yarn_gcd (IntKind.u64.wrap (w64 (226796185 * 1))) (IntKind.u64.wrap (w64 (384048 * 1))) = some 7 := (ygcd_eq 226796185 384048).trans (by rw [show Nat.gcd 226796185 384048 = 7 by decide]; rfl)
    have k2 : quoI (w64 (226796185 * 1)) (IntKind.i64.wrap 7) = some 32399455 := rfl
    have k2' : quoI (w64 (384048 * 1)) (IntKind.i64.wrap 7) = some 54864 := rfl
    have k3 : w64 (32399455 * (y : Int)) = ((tN 4 x y : Nat) : Int) := wmul (a := 32399455) (b := y) (by omega) |>.trans (by simp [tN])
    have k4 : w64 (54864 * (x : Int)) = ((tD 4 x y : Nat) : Int) := wmul (a := 54864) (b := x) (by omega) |>.trans (by simp [tD])
    simp only [f2, Option.bind_some, Bool.not_true, Bool.not_false, Bool.false_eq_true, if_false, if_true, k1, k2, k2', show (false != true) = true from rfl, k3, k4]
theorem rconv_eq {c : api_Count} {x y : Nat} (C : Cn c x y) (hc : F_raddleref23_Counted c = some 0) : F_raddleref23_Convert c 1 = some (tx c.System x y) := by
  have x1 := C.x1
  have y1 := C.y1
  have x0 := C.x0
  have y0 := C.y0
  have hb := tb c.System x0 x1 y0 y1
  have hN : c.N.Num = (x : Int) := by rw [C.n]
  have hD : c.N.Den = (y : Int) := by rw [C.n]
  have key : F_raddleref23_converted c 1 = some (mk (tN c.System x y) (tD c.System x y)) := by
    have hm := rmake_eq (tN c.System x y) (tD c.System x y) (by omega) (by omega) hb.2.2.1
    unfold F_raddleref23_converted F_raddleref23_over
    rcases sys_cases C.s0 C.s1 with h | h | h | h <;> rw [h] at hm ⊢
    · have e : mk (tN 1 x y) (tD 1 x y) = (c.N, 0) := by
        rw [C.n]
        exact mk_low x1 y1 C.g
      rw [e]
      rfl
    · have k1 : F_raddleref23_common 1 9 = some 1 := common_eq 1 9
      have k2 : quoI 1 1 = some 1 := rfl
      have k2' : quoI 9 1 = some 9 := rfl
      have k3 : w64 (1 * (x : Int)) = ((tN 2 x y : Nat) : Int) := wmul (a := 1) (b := x) (by omega) |>.trans (by simp [tN])
      have k4 : w64 (9 * (y : Int)) = ((tD 2 x y : Nat) : Int) := wmul (a := 9) (b := y) (by omega) |>.trans (by simp [tD])
      simp only [show ((2 : Int) == 1) = false from rfl, show ((2 : Int) == 2) = true from rfl, show ((1 : Int) == 1) = true from rfl, Bool.false_and, Bool.true_and, Bool.false_eq_true, if_false, if_true, k1, k2, k2', Option.bind_some, hN, hD, k3, k4, hm]
    · have k1 : F_raddleref23_common 1000 1 = some 1 := common_eq 1000 1
      have k2 : quoI 1000 1 = some 1000 := rfl
      have k2' : quoI 1 1 = some 1 := rfl
      have k3 : w64 (1000 * (y : Int)) = ((tN 3 x y : Nat) : Int) := wmul (a := 1000) (b := y) (by omega) |>.trans (by simp [tN])
      have k4 : w64 (1 * (x : Int)) = ((tD 3 x y : Nat) : Int) := wmul (a := 1) (b := x) (by omega) |>.trans (by simp [tD])
      simp only [show ((3 : Int) == 1) = false from rfl, show ((3 : Int) == 2) = false from rfl, show ((3 : Int) == 3) = true from rfl, show ((1 : Int) == 1) = true from rfl, Bool.false_and, Bool.true_and, Bool.false_eq_true, if_false, if_true, k1, k2, k2', Option.bind_some, hN, hD, k3, k4, hm]
    · have k1 : F_raddleref23_common 226796185 384048 = some 7 := (common_eq 226796185 384048).trans (by rw [show Nat.gcd 226796185 384048 = 7 by decide]; rfl)
      have k2 : quoI 226796185 7 = some 32399455 := rfl
      have k2' : quoI 384048 7 = some 54864 := rfl
      have k3 : w64 (32399455 * (y : Int)) = ((tN 4 x y : Nat) : Int) := wmul (a := 32399455) (b := y) (by omega) |>.trans (by simp [tN])
      have k4 : w64 (54864 * (x : Int)) = ((tD 4 x y : Nat) : Int) := wmul (a := 54864) (b := x) (by omega) |>.trans (by simp [tD])
      simp only [show ((4 : Int) == 1) = false from rfl, show ((4 : Int) == 2) = false from rfl, show ((4 : Int) == 3) = false from rfl, show ((4 : Int) == 4) = true from rfl, show ((1 : Int) == 1) = true from rfl, show ((1 : Int) == 3) = false from rfl, Bool.false_and, Bool.true_and, Bool.false_eq_true, if_false, if_true, k1, k2, k2', Option.bind_some, hN, hD, k3, k4, hm]
  unfold F_raddleref23_Convert tx
  simp only [hc, Option.bind_some, bne_self_eq_false, Bool.false_eq_true, if_false, dF (show ¬ (1 : Int) < 1 by omega), dF (show ¬ (4 : Int) < 1 by omega), key]
  rcases mk_cases (tN c.System x y) (tD c.System x y) hb.2.2.1 with ⟨a, b, q, e, _⟩ | e
  · rw [e]; rfl
  · rw [e]; rfl
/-- what is known of a count of tex -/
theorem tx_cases {s : Int} {x y : Nat} (x0 : 1 ≤ x) (x1 : x ≤ 1000000000) (y0 : 1 ≤ y) (y1 : y ≤ 1000000000) :
    (∃ a b : Nat, tx s x y = (⟨1, ⟨(a : Int), (b : Int)⟩⟩, 0) ∧ 0 < a ∧ a ≤ 1000000000 ∧ 0 < b ∧ b ≤ 1000000000 ∧ Nat.gcd a b = 1) ∨ tx s x y = (⟨0, ⟨0, 0⟩⟩, 16) := by
  have hb := tb s x0 x1 y0 y1
  unfold tx
  rcases mk_cases (tN s x y) (tD s x y) hb.2.2.1 with ⟨a, b, q, e, h1, h2, h3, h4, h5, h6, h7⟩ | e
  · have ha : 0 < a := by
      rcases Nat.eq_zero_or_pos a with rfl | h
      · rw [Nat.zero_mul] at h1; omega
      · exact h
    exact .inl ⟨a, b, by rw [e]; rfl, ha, h5, h4, h6, h7⟩
  · exact .inr (by rw [e]; rfl)
theorem weigh_eq (c : api_Count) (wc : wf_api_Count c) (len : Int) : ∃ r : api_Ratio × Int, F_yarn_Weigh c len = some r ∧ F_raddleref23_Weigh c len = some r ∧ (r.2 = 0 → ∃ a b : Nat, r.1 = ⟨(a : Int), (b : Int)⟩ ∧ 0 < b ∧ a ≤ 1000000000 ∧ b ≤ 1000000000) := by
  obtain ⟨e, c1, c2, c3, c4⟩ := counted_eq c wc
  unfold F_yarn_Weigh F_raddleref23_Weigh F_raddleref23_tex
  rcases c3 with rfl | rfl
  case inr => 
    simp only [c1, c2, Option.bind_some, nT (show ¬ (8 : Int) = 0 by omega), if_true]
    exact ⟨_, rfl, rfl, fun h => by cases h⟩
  obtain ⟨x, y, C⟩ := c4 rfl
  simp only [c1, c2, Option.bind_some, bne_self_eq_false, Bool.false_eq_true, if_false, yconv_eq C c1, rconv_eq C c2]
  by_cases l0 : len < 0
  · simp only [dT l0, if_true, Option.bind_some, nT (show ¬ (2 : Int) = 0 by omega)]
    exact ⟨_, rfl, rfl, fun h => by cases h⟩
  by_cases l1 : 1000000000 < len
  · simp only [dF l0, dT l1, Bool.false_eq_true, if_true, if_false, Option.bind_some, nT (show ¬ (2 : Int) = 0 by omega)]
    exact ⟨_, rfl, rfl, fun h => by cases h⟩
  simp only [dF l0, dF l1, Bool.false_eq_true, if_false, Option.bind_some]
  rcases tx_cases (s := c.System) C.x0 C.x1 C.y0 C.y1 with ⟨a, b, e, a0, a1, b0, b1, _⟩ | e
  case inr =>
    rw [e]
    simp only [nT (show ¬ (16 : Int) = 0 by omega), if_true]
    exact ⟨_, rfl, rfl, fun h => by cases h⟩
  rw [e]
  obtain ⟨L, rfl⟩ : ∃ L : Nat, len = L := ⟨len.toNat, by omega⟩
  have hL : L * a ≤ 1000000000 * 1000000000 := Nat.mul_le_mul (by omega) a1
  have k1 : w64 ((L : Int) * (a : Int)) = ((L * a : Nat) : Int) := wmul (by omega)
  have k2 : w64 (10000 * (b : Int)) = ((10000 * b : Nat) : Int) := wmul (a := 10000) (by omega)
  simp only [bne_self_eq_false, Bool.false_eq_true, if_false, k1, k2, ymake_eq (L * a) (10000 * b) (by omega) (by omega) (by omega), rmake_eq (L * a) (10000 * b) (by omega) (by omega) (by omega), Option.bind_some]
  refine ⟨_, rfl, rfl, fun h => ?_⟩
  rcases mk_cases (L * a) (10000 * b) (by omega) with ⟨u, v, q, e, h1, h2, h3, h4, h5, h6, h7⟩ | e
  · rw [e]; exact ⟨u, v, rfl, h4, h5, h6⟩
  · rw [e] at h; cases h
theorem skeins_eq (c : api_Count) (wc : wf_api_Count c) (len wt : Int) : ∃ r : Int × Int, F_yarn_Skeins c len wt = some r ∧ F_raddleref23_Skeins c len wt = some r := by
  obtain ⟨r, r1, r2, r3⟩ := weigh_eq c wc len
  unfold F_yarn_Skeins F_raddleref23_Skeins
  simp only [r1, r2, Option.bind_some]
  by_cases he : r.2 = 0
  case neg => simp only [nT he, if_true]; exact ⟨_, rfl, rfl⟩
  obtain ⟨a, b, e, b0, a1, b1⟩ := r3 he
  simp only [nF he, Bool.false_eq_true, if_false]
  by_cases l0 : wt < 1
  · simp only [dT l0, if_true, Option.bind_some]; exact ⟨_, rfl, rfl⟩
  by_cases l1 : 1000000000 < wt
  · simp only [dF l0, dT l1, Bool.false_eq_true, if_true, if_false, Option.bind_some]; exact ⟨_, rfl, rfl⟩
  simp only [dF l0, dF l1, Bool.false_eq_true, if_false, Option.bind_some, e]
  obtain ⟨W, rfl⟩ : ∃ W : Nat, wt = W := ⟨wt.toNat, by omega⟩
  have hD : b * W ≤ 1000000000 * 1000000000 := Nat.mul_le_mul b1 (by omega)
  have hD0 : 0 < b * W := Nat.mul_pos b0 (by omega)
  have k1 : w64 ((b : Int) * (W : Int)) = ((b * W : Nat) : Int) := wmul (by omega)
  have k2 : w64 (0 - (a : Int)) = -(a : Int) := by rw [w64_of (by omega) (by omega)]; omega
  have k3 : quoI (a : Int) ((b * W : Nat) : Int) = some ((a / (b * W) : Nat) : Int) := quo_nat hD0 (by omega)
  have hq : a / (b * W) ≤ a := Nat.div_le_self _ _
  have hdm := Nat.div_add_mod a (b * W)
  have hml := Nat.mod_lt a hD0
  have k4 : quoI (-(a : Int)) ((b * W : Nat) : Int) = some (-((a / (b * W) : Nat) : Int)) := by
    unfold quoI
    rw [if_neg (by omega)]
    have : (-(a : Int)).tdiv ((b * W : Nat) : Int) = -((a / (b * W) : Nat) : Int) := by rw [Int.neg_tdiv]; rfl
    have hz : w64 (-((a / (b * W) : Nat) : Int)) = -((a / (b * W) : Nat) : Int) := by
      generalize a / (b * W) = q at *
      exact w64_of (by omega) (by omega)
    rw [this, hz]
  have k5 : remI (-(a : Int)) ((b * W : Nat) : Int) = some (-((a % (b * W) : Nat) : Int)) := by
    unfold remI
    rw [if_neg (by omega)]
    have : (-(a : Int)).tmod ((b * W : Nat) : Int) = -((a % (b * W) : Nat) : Int) := by rw [Int.neg_tmod]; rfl
    rw [this]
  have hmul : b * W * (a / (b * W)) = a / (b * W) * b * W := by rw [Nat.mul_comm, Nat.mul_assoc]
  have hqb : a / (b * W) * b ≤ 1000000000 * 1000000000 := Nat.mul_le_mul (by omega) b1
  have k6 : w64 (((a / (b * W) : Nat) : Int) * (b : Int)) = ((a / (b * W) * b : Nat) : Int) := wmul (by omega)
  have k7 : w64 (((a / (b * W) * b : Nat) : Int) * (W : Int)) = ((a / (b * W) * b * W : Nat) : Int) := wmul (by omega)
  unfold F_yarn_floor
  simp only [k1, k2, k3, k4, k5, k6, k7, Option.bind_some]
  rw [hmul] at hdm
  generalize a / (b * W) * b * W = z at *
  generalize a / (b * W) = q at *
  generalize a % (b * W) = m at *
  by_cases hm : m = 0
  · subst hm
    simp only [dF (show ¬ -((0 : Nat) : Int) < 0 by omega), dF (show ¬ (z : Int) < (a : Int) by omega), Bool.false_eq_true, if_false, Option.bind_some]
    refine ⟨_, ?_, rfl⟩
    rw [w64_of (by omega) (by omega)]
    congr 2
    omega
  · simp only [dT (show -(m : Int) < 0 by omega), dT (show (z : Int) < (a : Int) by omega), if_true, Option.bind_some]
    have k8 : w64 (-(q : Int) - 1) = -(q : Int) - 1 := w64_of (by omega) (by omega)
    have k9 : w64 ((q : Int) + 1) = (q : Int) + 1 := w64_of (by omega) (by omega)
    refine ⟨_, ?_, rfl⟩
    rw [k8, k9, w64_of (by omega) (by omega)]
    congr 2
    omega

end Go.Proofs.Ytdfjcpnflmgdoaa
namespace Go.Proofs.Ytdfjcpnflmgdoaa
open Go.RowKit
set_option linter.unusedVariables false

def anc_yarn_Add_1_0 : List (List Nat) := [[], [0], [], [2], [0, 1, 2, 3], [], [5], [], [7], [5, 6, 7, 8], [0, 1, 2, 3, 4, 5, 6, 7, 8, 9], [], [11], [], [13], [11, 12, 13, 14], [0, 1, 2, 3, 4, 5, 6, 7, 8, 9, 10], [0, 1, 2, 3, 4, 5, 6, 7, 8, 9, 10, 11, 12, 13, 14, 15, 16]]
noncomputable def F_yarn_Add_1 (p0 : api_Ratio) (p1 : api_Ratio) : Option (Int × Int) :=
  some (w64 ((w64 (p0.Num * p1.Den)) + (w64 (p1.Num * p0.Den))), w64 (p0.Den * p1.Den))
set_option maxHeartbeats 4000000 in
set_option maxRecDepth 100000 in
theorem c_yarn_Add_1 (E : Nat → Prop) (w0 : World) (p0 : api_Ratio) (v0 : Value) (p1 : api_Ratio) (v1 : Value) (r : (Int × Int)) (h : F_yarn_Add_1 p0 p1 = some r) (S : St0 E [] w0 w0 [] [fRep r_api_Ratio (v0) p0, fRep r_api_Ratio (v1) p1]) :
    Calls Try.prog 34 #[v0, v1] w0 (Ret (X := Unit) E [] w0 (fun _ => .tuple #[.int .i64 r.1, .int .i64 r.2]) (fun _ => []) (fun _ => [])) := by
  unfold F_yarn_Add_1 at h
  obtain rfl : v0 = .agg #[.int .i64 p0.Num, .int .i64 p0.Den] := S.know (i := 0) (e := fRep r_api_Ratio (v0) p0) (by kernel_rfl)
  obtain rfl : v1 = .agg #[.int .i64 p1.Num, .int .i64 p1.Den] := S.know (i := 1) (e := fRep r_api_Ratio (v1) p1) (by kernel_rfl)
  refine sEnter (args := [.agg #[.int .i64 p0.Num, .int .i64 p0.Den], .agg #[.int .i64 p1.Num, .int .i64 p1.Den]]) 22 Try.func34 rfl rfl (by simp) S (fun a S => ?_)
  refine sSeq (fun K1 hK1 => ?_)
  refine sRegion ?_
  refine sBox (v := .agg #[.int .i64 p0.Num, .int .i64 p0.Den]) S (wN rfl) rfl (by kernel_rfl) [.int .i64 p0.Num, .int .i64 p0.Den] rfl rfl (by decide) (fun a b2 w S => ?_)
  refine sBox (v := .agg #[.int .i64 p1.Num, .int .i64 p1.Den]) S (wN rfl) rfl (by kernel_rfl) [.int .i64 p1.Num, .int .i64 p1.Den] rfl rfl (by decide) (fun a b3 w S => ?_)
  refine sMove (.int .i64 0) S (wN rfl) (.inr rfl) (by kernel_rfl) rfl (by decide) (fun a S => ?_)
  refine sMove (.int .i64 0) S (wN rfl) (.inr rfl) (by kernel_rfl) rfl (by decide) (fun a S => ?_)
  refine leafL (leafT (hK1 _ _ ?_))
  refine sSeq (fun K4 hK4 => ?_)
  refine sDraw (nf := []) (W := [(0, 6, .pointer (some ⟨b2, 0, none⟩)), (1, 7, .int .i64 p0.Num), (2, 8, .pointer (some ⟨b3, 1, none⟩)), (3, 9, .int .i64 p1.Den), (4, 10, .int .i64 (w64 (p0.Num * p1.Den))), (5, 11, .pointer (some ⟨b3, 0, none⟩)), (6, 12, .int .i64 p1.Num), (7, 13, .pointer (some ⟨b2, 1, none⟩)), (8, 14, .int .i64 p0.Den), (9, 15, .int .i64 (w64 (p1.Num * p0.Den))), (10, 16, .int .i64 (w64 ((w64 (p0.Num * p1.Den)) + (w64 (p1.Num * p0.Den))))), (11, 17, .pointer (some ⟨b2, 1, none⟩)), (12, 18, .int .i64 p0.Den), (13, 19, .pointer (some ⟨b3, 1, none⟩)), (14, 20, .int .i64 p1.Den), (15, 21, .int .i64 (w64 (p0.Den * p1.Den))), (16, 4, .int .i64 (w64 ((w64 (p0.Num * p1.Den)) + (w64 (p1.Num * p0.Den))))), (17, 5, .int .i64 (w64 (p0.Den * p1.Den)))]) (by kernel_rfl) S ?_
  refine node_by (A := anc_yarn_Add_1_0) (nf := []) (Y := []) (W := [(0, 6, .pointer (some ⟨b2, 0, none⟩)), (1, 7, .int .i64 p0.Num), (2, 8, .pointer (some ⟨b3, 1, none⟩)), (3, 9, .int .i64 p1.Den), (4, 10, .int .i64 (w64 (p0.Num * p1.Den))), (5, 11, .pointer (some ⟨b3, 0, none⟩)), (6, 12, .int .i64 p1.Num), (7, 13, .pointer (some ⟨b2, 1, none⟩)), (8, 14, .int .i64 p0.Den), (9, 15, .int .i64 (w64 (p1.Num * p0.Den))), (10, 16, .int .i64 (w64 ((w64 (p0.Num * p1.Den)) + (w64 (p1.Num * p0.Den))))), (11, 17, .pointer (some ⟨b2, 1, none⟩)), (12, 18, .int .i64 p0.Den), (13, 19, .pointer (some ⟨b3, 1, none⟩)), (14, 20, .int .i64 p1.Den), (15, 21, .int .i64 (w64 (p0.Den * p1.Den))), (16, 4, .int .i64 (w64 ((w64 (p0.Num * p1.Den)) + (w64 (p1.Num * p0.Den))))), (17, 5, .int .i64 (w64 (p0.Den * p1.Den)))]) 18 (by kernel_rfl) (by kernel_rfl) (by kernel_rfl) (by kernel_rfl) (by kernel_rfl) [0, 1, 2, 3, 4, 5, 6, 7, 8, 9, 10, 11, 12, 13, 14, 15, 16, 17] (by kernel_rfl) (by decide) (by decide) (aF 0 17 (by decide) ?_ (aF 1 16 (by decide) ?_ (aF 2 15 (by decide) ?_ (aF 3 14 (by decide) ?_ (aF 4 13 (by decide) ?_ (aF 5 12 (by decide) ?_ (aF 6 11 (by decide) ?_ (aF 7 10 (by decide) ?_ (aF 8 9 (by decide) ?_ (aF 9 8 (by decide) ?_ (aF 10 7 (by decide) ?_ (aF 11 6 (by decide) ?_ (aF 12 5 (by decide) ?_ (aF 13 4 (by decide) ?_ (aF 14 3 (by decide) ?_ (aF 15 2 (by decide) ?_ (aF 16 1 (by decide) ?_ (aF 17 0 (by decide) ?_ (trivial))))))))))))))))))) [(4, .int .i64 (w64 ((w64 (p0.Num * p1.Den)) + (w64 (p1.Num * p0.Den))))), (5, .int .i64 (w64 (p0.Den * p1.Den)))] (fin_of [some 16, some 17] rfl (by kernel_rfl) (by kernel_rfl)) (fun _ a w S => ?_)
  · refine fI 6 (.pointer (some ⟨b2, 0, none⟩)) [(2, .pointer (some ⟨b2, 0, none⟩))] 0 [none] rfl rfl (by kernel_rfl) rfl (by kernel_rfl) (by kernel_rfl) fun G a w S => ?_
    refine sField (b := b2) (off := 0) 0 0 S (wN rfl) rfl (by kernel_rfl) (by kernel_rfl) rfl rfl (by decide) (fun a S => ?_)
    exact leafL ⟨rfl, S⟩
  · refine fI 7 (.int .i64 p0.Num) [(6, .pointer (some ⟨b2, 0, none⟩))] 1 [some 0] rfl rfl (by kernel_rfl) rfl (by kernel_rfl) (by kernel_rfl) fun G a w S => ?_
    refine sLoad1 (p := b2) (off := 0) (T := 23) (vs := [.int .i64 p0.Num, .int .i64 p0.Den]) 1 (.int .i64 p0.Num) S (wN rfl) rfl (by kernel_rfl) (by kernel_rfl) (by kernel_rfl) rfl rfl (by decide) (fun a S => ?_)
    exact leafL ⟨rfl, S⟩
  · refine fI 8 (.pointer (some ⟨b3, 1, none⟩)) [(3, .pointer (some ⟨b3, 0, none⟩))] 2 [none] rfl rfl (by kernel_rfl) rfl (by kernel_rfl) (by kernel_rfl) fun G a w S => ?_
    refine sField (b := b3) (off := 0) 1 1 S (wN rfl) rfl (by kernel_rfl) (by kernel_rfl) rfl rfl (by decide) (fun a S => ?_)
    exact leafL ⟨rfl, S⟩
  · refine fI 9 (.int .i64 p1.Den) [(8, .pointer (some ⟨b3, 1, none⟩))] 3 [some 2] rfl rfl (by kernel_rfl) rfl (by kernel_rfl) (by kernel_rfl) fun G a w S => ?_
    refine sLoad1 (p := b3) (off := 1) (T := 23) (vs := [.int .i64 p1.Num, .int .i64 p1.Den]) 0 (.int .i64 p1.Den) S (wN rfl) rfl (by kernel_rfl) (by kernel_rfl) (by kernel_rfl) rfl rfl (by decide) (fun a S => ?_)
    exact leafL ⟨rfl, S⟩
  · refine fI 10 (.int .i64 (w64 (p0.Num * p1.Den))) [(7, .int .i64 p0.Num), (9, .int .i64 p1.Den)] 4 [some 1, some 3] rfl rfl (by kernel_rfl) rfl (by kernel_rfl) (by kernel_rfl) fun G a w S => ?_
    refine sBin (.int .i64 (w64 (p0.Num * p1.Den))) S (wN rfl) rfl (by kernel_rfl) (by kernel_rfl) (bMul _ _ _ _ p0.Num p1.Den) rfl (by decide) (fun a S => ?_)
    exact leafL ⟨rfl, S⟩
  · refine fI 11 (.pointer (some ⟨b3, 0, none⟩)) [(3, .pointer (some ⟨b3, 0, none⟩))] 5 [none] rfl rfl (by kernel_rfl) rfl (by kernel_rfl) (by kernel_rfl) fun G a w S => ?_
    refine sField (b := b3) (off := 0) 0 0 S (wN rfl) rfl (by kernel_rfl) (by kernel_rfl) rfl rfl (by decide) (fun a S => ?_)
    exact leafL ⟨rfl, S⟩
  · refine fI 12 (.int .i64 p1.Num) [(11, .pointer (some ⟨b3, 0, none⟩))] 6 [some 5] rfl rfl (by kernel_rfl) rfl (by kernel_rfl) (by kernel_rfl) fun G a w S => ?_
    refine sLoad1 (p := b3) (off := 0) (T := 23) (vs := [.int .i64 p1.Num, .int .i64 p1.Den]) 0 (.int .i64 p1.Num) S (wN rfl) rfl (by kernel_rfl) (by kernel_rfl) (by kernel_rfl) rfl rfl (by decide) (fun a S => ?_)
    exact leafL ⟨rfl, S⟩
  · refine fI 13 (.pointer (some ⟨b2, 1, none⟩)) [(2, .pointer (some ⟨b2, 0, none⟩))] 7 [none] rfl rfl (by kernel_rfl) rfl (by kernel_rfl) (by kernel_rfl) fun G a w S => ?_
    refine sField (b := b2) (off := 0) 1 1 S (wN rfl) rfl (by kernel_rfl) (by kernel_rfl) rfl rfl (by decide) (fun a S => ?_)
    exact leafL ⟨rfl, S⟩
  · refine fI 14 (.int .i64 p0.Den) [(13, .pointer (some ⟨b2, 1, none⟩))] 8 [some 7] rfl rfl (by kernel_rfl) rfl (by kernel_rfl) (by kernel_rfl) fun G a w S => ?_
    refine sLoad1 (p := b2) (off := 1) (T := 23) (vs := [.int .i64 p0.Num, .int .i64 p0.Den]) 1 (.int .i64 p0.Den) S (wN rfl) rfl (by kernel_rfl) (by kernel_rfl) (by kernel_rfl) rfl rfl (by decide) (fun a S => ?_)
    exact leafL ⟨rfl, S⟩
  · refine fI 15 (.int .i64 (w64 (p1.Num * p0.Den))) [(12, .int .i64 p1.Num), (14, .int .i64 p0.Den)] 9 [some 6, some 8] rfl rfl (by kernel_rfl) rfl (by kernel_rfl) (by kernel_rfl) fun G a w S => ?_
    refine sBin (.int .i64 (w64 (p1.Num * p0.Den))) S (wN rfl) rfl (by kernel_rfl) (by kernel_rfl) (bMul _ _ _ _ p1.Num p0.Den) rfl (by decide) (fun a S => ?_)
    exact leafL ⟨rfl, S⟩
  · refine fI 16 (.int .i64 (w64 ((w64 (p0.Num * p1.Den)) + (w64 (p1.Num * p0.Den))))) [(10, .int .i64 (w64 (p0.Num * p1.Den))), (15, .int .i64 (w64 (p1.Num * p0.Den)))] 10 [some 4, some 9] rfl rfl (by kernel_rfl) rfl (by kernel_rfl) (by kernel_rfl) fun G a w S => ?_
    refine sBin (.int .i64 (w64 ((w64 (p0.Num * p1.Den)) + (w64 (p1.Num * p0.Den))))) S (wN rfl) rfl (by kernel_rfl) (by kernel_rfl) (bAdd _ _ _ _ (w64 (p0.Num * p1.Den)) (w64 (p1.Num * p0.Den))) rfl (by decide) (fun a S => ?_)
    exact leafL ⟨rfl, S⟩
  · refine fI 17 (.pointer (some ⟨b2, 1, none⟩)) [(2, .pointer (some ⟨b2, 0, none⟩))] 11 [none] rfl rfl (by kernel_rfl) rfl (by kernel_rfl) (by kernel_rfl) fun G a w S => ?_
    refine sField (b := b2) (off := 0) 1 1 S (wN rfl) rfl (by kernel_rfl) (by kernel_rfl) rfl rfl (by decide) (fun a S => ?_)
    exact leafL ⟨rfl, S⟩
  · refine fI 18 (.int .i64 p0.Den) [(17, .pointer (some ⟨b2, 1, none⟩))] 12 [some 11] rfl rfl (by kernel_rfl) rfl (by kernel_rfl) (by kernel_rfl) fun G a w S => ?_
    refine sLoad1 (p := b2) (off := 1) (T := 23) (vs := [.int .i64 p0.Num, .int .i64 p0.Den]) 1 (.int .i64 p0.Den) S (wN rfl) rfl (by kernel_rfl) (by kernel_rfl) (by kernel_rfl) rfl rfl (by decide) (fun a S => ?_)
    exact leafL ⟨rfl, S⟩
  · refine fI 19 (.pointer (some ⟨b3, 1, none⟩)) [(3, .pointer (some ⟨b3, 0, none⟩))] 13 [none] rfl rfl (by kernel_rfl) rfl (by kernel_rfl) (by kernel_rfl) fun G a w S => ?_
    refine sField (b := b3) (off := 0) 1 1 S (wN rfl) rfl (by kernel_rfl) (by kernel_rfl) rfl rfl (by decide) (fun a S => ?_)
    exact leafL ⟨rfl, S⟩
  · refine fI 20 (.int .i64 p1.Den) [(19, .pointer (some ⟨b3, 1, none⟩))] 14 [some 13] rfl rfl (by kernel_rfl) rfl (by kernel_rfl) (by kernel_rfl) fun G a w S => ?_
    refine sLoad1 (p := b3) (off := 1) (T := 23) (vs := [.int .i64 p1.Num, .int .i64 p1.Den]) 0 (.int .i64 p1.Den) S (wN rfl) rfl (by kernel_rfl) (by kernel_rfl) (by kernel_rfl) rfl rfl (by decide) (fun a S => ?_)
    exact leafL ⟨rfl, S⟩
  · refine fI 21 (.int .i64 (w64 (p0.Den * p1.Den))) [(18, .int .i64 p0.Den), (20, .int .i64 p1.Den)] 15 [some 12, some 14] rfl rfl (by kernel_rfl) rfl (by kernel_rfl) (by kernel_rfl) fun G a w S => ?_
    refine sBin (.int .i64 (w64 (p0.Den * p1.Den))) S (wN rfl) rfl (by kernel_rfl) (by kernel_rfl) (bMul _ _ _ _ p0.Den p1.Den) rfl (by decide) (fun a S => ?_)
    exact leafL ⟨rfl, S⟩
  · refine fI 4 (.int .i64 (w64 ((w64 (p0.Num * p1.Den)) + (w64 (p1.Num * p0.Den))))) [(16, .int .i64 (w64 ((w64 (p0.Num * p1.Den)) + (w64 (p1.Num * p0.Den)))))] 16 [some 10] rfl rfl (by kernel_rfl) rfl (by kernel_rfl) (by kernel_rfl) fun G a w S => ?_
    refine sMove (.int .i64 (w64 ((w64 (p0.Num * p1.Den)) + (w64 (p1.Num * p0.Den))))) S (wN rfl) (.inr rfl) (by kernel_rfl) rfl (by decide) (fun a S => ?_)
    exact leafL ⟨rfl, S⟩
  · refine fI 5 (.int .i64 (w64 (p0.Den * p1.Den))) [(21, .int .i64 (w64 (p0.Den * p1.Den)))] 17 [some 15] rfl rfl (by kernel_rfl) rfl (by kernel_rfl) (by kernel_rfl) fun G a w S => ?_
    refine sMove (.int .i64 (w64 (p0.Den * p1.Den))) S (wN rfl) (.inr rfl) (by kernel_rfl) rfl (by decide) (fun a S => ?_)
    exact leafL ⟨rfl, S⟩
  · refine leafT (hK4 _ _ ?_)
    obtain rfl := Option.some.inj h
    exact wp_ret (sRet (.tuple #[.int .i64 (w64 ((w64 (p0.Num * p1.Den)) + (w64 (p1.Num * p0.Den)))), .int .i64 (w64 (p0.Den * p1.Den))]) S (rsl2 rfl (rvT (t := 4) (v := .int .i64 (w64 ((w64 (p0.Num * p1.Den)) + (w64 (p1.Num * p0.Den))))) S (by kernel_rfl)) (rvT (t := 5) (v := .int .i64 (w64 (p0.Den * p1.Den))) S (by kernel_rfl))) ⟨(), rfl, S.mem.sel [] [] (by decide) (by kernel_rfl) (by kernel_rfl)⟩)

end Go.Proofs.Ytdfjcpnflmgdoaa
namespace Go.Proofs.Ytdfjcpnflmgdoaa
open Go.RowKit
set_option linter.unusedVariables false

noncomputable def cmp_Or_api_Errno__l1 (p0 : (List Int)) : Int → Option (Int ⊕ (Int ⊕ Unit)) := fun s0 => match s0 with
  | s8 =>
    if decide (s8 < (p0.length : Int)) then
      Option.bind (idxO p0 s8) fun x17 =>
      if x17 != 0 then
        some (.inr (.inl x17))
      else
        some (.inl (w64 (s8 + 1)))
    else
      some (.inr (.inr ()))
noncomputable def F_cmp_Or_api_Errno_ (p0 : (List Int)) : Option Int :=
  Option.bind (α := Unit ⊕ Int) (
    Option.bind (whileO (cmp_Or_api_Errno__l1 p0) 0) fun z0 => match z0 with
      | .inl z =>
        some (.inr z)
      | .inr _ =>
        some (.inl ())) fun z0 => match z0 with
    | .inl _ =>
      some 0
    | .inr z =>
      some z
set_option maxHeartbeats 4000000 in
set_option maxRecDepth 100000 in
theorem c_cmp_Or_api_Errno_ (E : Nat → Prop) (w0 : World) (p0 : (List Int)) (v0 : Value) (r : Int) (h : F_cmp_Or_api_Errno_ p0 = some r) (S : St0 E [] w0 w0 [] [fRep (rL (rI .i64)) (v0) p0]) :
    Calls Try.prog 55 #[v0] w0 (Ret (X := Unit) E [] w0 (fun _ => .int .i64 r) (fun _ => []) (fun _ => [])) := by
  unfold F_cmp_Or_api_Errno_ at h
  obtain ⟨ad1, cp2, _, rfl, _⟩ := S.know (i := 0) (e := fRep (rL (rI .i64)) (v0) p0) (by kernel_rfl)
  refine sEnter (args := [.slice ad1 p0.length cp2]) 18 Try.func55 rfl rfl (by simp) S (fun a S => ?_)
  refine sSeq (fun K3 hK3 => ?_)
  refine sRegion ?_
  refine sMove (.int .i64 0) S (wN rfl) (.inr rfl) (by kernel_rfl) rfl (by decide) (fun a S => ?_)
  refine leafL (leafT (hK3 _ _ ?_))
  refine sSeq (fun K4 hK4 => ?_)
  refine sRegion ?_
  refine sMove (.int .i64 0) S (wN rfl) (.inr rfl) (by kernel_rfl) rfl (by decide) (fun a S => ?_)
  refine leafL (leafT (hK4 _ _ ?_))
  obtain ⟨t5, h, g6⟩ := bindSome h
  refine sCut (fun a w => .inl () = t5 ∧ St [] E [] w0 18 a w [(3, .int .i64 0)] [] []) ?_ (fun a w hI => ?_)
  · refine sSeq (fun K7 hK7 => ?_)
    refine sRegion ?_
    refine sMove (.slice ad1 p0.length cp2) S (wN rfl) (.inl rfl) (by kernel_rfl) rfl (by decide) (fun a S => ?_)
    refine sLen (ad := ad1) (m := p0.length) (c := cp2) S (wN rfl) rfl Try.underlying82 (by kernel_rfl) rfl (by decide) (fun a S => ?_)
    refine sMove (.int .i64 0) S (wN rfl) (.inl rfl) (by kernel_rfl) rfl (by decide) (fun a S => ?_)
    refine leafL (leafT (hK7 _ _ ?_))
    refine wp_block ?_
    obtain ⟨t11, hl, g10⟩ := bindSome h
    refine sLoop hl (fun s0 a w => match s0 with | s8 => St [] E [] w0 18 a w [(3, .int .i64 0), (6, .slice ad1 p0.length cp2), (7, .int .i64 (p0.length : Int)), (8, .int .i64 s8)] [] [fRep (rL (rI .i64)) (.slice ad1 p0.length cp2) p0]) (S.fix [] [0] (by decide) (by kernel_rfl) (by kernel_rfl) (by kernel_rfl)) ?_
    clear hl h
    intro s8 a w c0 hI h hu9
    unfold cmp_Or_api_Errno__l1 at h
    dsimp only at h hI
    have S := hI
    refine sSeq (fun K12 hK12 => ?_)
    refine sRegion ?_
    refine sBin (.bool (decide (s8 < (p0.length : Int)))) S (wN rfl) rfl (by kernel_rfl) (by kernel_rfl) (bLt _ _ _ _ .i64 s8 (p0.length : Int)) rfl (by decide) (fun a S => ?_)
    refine leafL (leafT (hK12 _ _ ?_))
    refine sSeq (fun K13 hK13 => ?_)
    rcases iteSome h with ⟨hc14, h⟩ | ⟨hc14, h⟩
    · refine sCondT (b := decide (s8 < (p0.length : Int))) S (by kernel_rfl) hc14 ?_
      refine wp_skip (leafT (hK13 _ _ ?_))
      refine sSeq (fun K15 hK15 => ?_)
      refine wp_block ?_
      refine sSeq (fun K16 hK16 => ?_)
      refine sRegion ?_
      obtain ⟨x17, hx18, h⟩ := bindSome h
      obtain ⟨q19, hq20, S⟩ := pIdx (P := Try.prog) (r := (rI .i64)) (v := .slice ad1 p0.length cp2) (xs := p0) (j := s8) 82 24 0 S Try.underlying82 (by kernel_rfl) (by kernel_rfl) hx18
      refine sIdxV (v := .slice ad1 p0.length cp2) (k := .i64) (j := s8) S (wN rfl) rfl (by kernel_rfl) (by kernel_rfl) hq20 rfl (by decide) (fun a S => ?_)
      obtain ⟨u21, S⟩ := pLoad (r := (rI .i64)) (q := q19) (x := x17) 0 S (by kernel_rfl)
      obtain rfl : u21 = .int .i64 x17 := S.mem.know (i := 1) (e := fRep (rI .i64) (u21) x17) (by kernel_rfl)
      refine sLoadV1 (vq := q19) 0 (.int .i64 x17) S (wN rfl) rfl (by kernel_rfl) (by kernel_rfl) (by kernel_rfl) rfl (by decide) (fun a S => ?_)
      refine sMove (.int .i64 x17) S (wN rfl) (.inr rfl) (by kernel_rfl) rfl (by decide) (fun a S => ?_)
      refine leafL (leafT (hK16 _ _ ?_))
      refine sSeq (fun K22 hK22 => ?_)
      refine sRegion ?_
      refine sMove (.int .i64 x17) S (wN rfl) (.inl rfl) (by kernel_rfl) rfl (by decide) (fun a S => ?_)
      refine sMove (.int .i64 0) S (wN rfl) (.inl rfl) (by kernel_rfl) rfl (by decide) (fun a S => ?_)
      refine sBin (.bool (x17 != 0)) S (wN rfl) rfl (by kernel_rfl) (by kernel_rfl) (bNe _ _ _ _ .i64 x17 0) rfl (by decide) (fun a S => ?_)
      refine leafL (leafT (hK22 _ _ ?_))
      rcases iteSome h with ⟨hc23, h⟩ | ⟨hc23, h⟩
      · refine sCondT (b := x17 != 0) S (by kernel_rfl) hc23 ?_
        refine sSeq (fun K24 hK24 => ?_)
        refine sRegion ?_
        refine sMove (.int .i64 x17) S (wN rfl) (.inl rfl) (by kernel_rfl) rfl (by decide) (fun a S => ?_)
        refine sMove (.int .i64 x17) S (wN rfl) (.inr rfl) (by kernel_rfl) rfl (by decide) (fun a S => ?_)
        refine leafL (leafT (hK24 _ _ ?_))
        obtain rfl := Option.some.inj h
        obtain rfl := hu9 _ rfl
        have h := g10
        clear g10
        try dsimp only at h
        obtain rfl := Option.some.inj h
        have h := g6
        clear g6
        try dsimp only at h
        obtain rfl := Option.some.inj h
        exact wp_ret (rBlock (rThen (rThen (rBlock (rThen (sRet (.int .i64 x17) S (rsl1 rfl (rvT (t := 2) (v := .int .i64 x17) S (by kernel_rfl))) ⟨(), rfl, S.mem.sel [] [] (by decide) (by kernel_rfl) (by kernel_rfl)⟩))))))
      · refine sCondF (b := x17 != 0) S (by kernel_rfl) hc23 ?_
        refine wp_skip (leafB (leafT (hK15 _ _ ?_)))
        refine sRegion ?_
        refine sBin (.int .i64 (w64 (s8 + 1))) S (wN rfl) rfl (by kernel_rfl) (by kernel_rfl) (bAdd _ _ _ _ s8 1) rfl (by decide) (fun a S => ?_)
        refine sMove (.int .i64 (w64 (s8 + 1))) S (wN rfl) (.inl rfl) (by kernel_rfl) rfl (by decide) (fun a S => ?_)
        exact leafL (leafT (⟨w64 (s8 + 1), (Option.some.inj h).symm, (S.fix [] [3] (by decide) (by kernel_rfl) (by kernel_rfl) (by kernel_rfl))⟩))
    · refine sCondF (b := decide (s8 < (p0.length : Int))) S (by kernel_rfl) hc14 ?_
      obtain rfl := Option.some.inj h
      obtain rfl := hu9 _ rfl
      have h := g10
      clear g10
      try dsimp only at h
      exact wp_exit (xThen (xThen (xHit (leafT (⟨Option.some.inj h, S.fix [] [] (by decide) (by kernel_rfl) (by kernel_rfl) (by kernel_rfl)⟩)))))
  · obtain ⟨rfl, S⟩ := hI
    have h := g6
    clear g6
    try dsimp only at h
    refine sSeq (fun K25 hK25 => ?_)
    refine sRegion ?_
    refine sMove (.int .i64 0) S (wN rfl) (.inl rfl) (by kernel_rfl) rfl (by decide) (fun a S => ?_)
    refine sMove (.int .i64 0) S (wN rfl) (.inr rfl) (by kernel_rfl) rfl (by decide) (fun a S => ?_)
    refine leafL (leafT (hK25 _ _ ?_))
    obtain rfl := Option.some.inj h
    exact wp_ret (sRet (.int .i64 0) S (rsl1 rfl (rvT (t := 2) (v := .int .i64 0) S (by kernel_rfl))) ⟨(), rfl, S.mem.sel [] [] (by decide) (by kernel_rfl) (by kernel_rfl)⟩)

end Go.Proofs.Ytdfjcpnflmgdoaa
namespace Go.Proofs.Ytdfjcpnflmgdoaa
open Go.RowKit
set_option linter.unusedVariables false

def anc_yarn_with_0 : List (List Nat) := [[], [], [], [2], [], [2, 3, 4], [2, 3, 4, 5], [2, 3, 4, 5, 6], [0, 1, 2, 3, 4, 5, 6, 7], [0, 1, 2, 3, 4, 5, 6, 7, 8]]
noncomputable def F_yarn_with (p0 : api_Ratio) (p1 : api_Ratio) : Option yarn_calc :=
  Option.bind (F_yarn_Check p0) fun r6 =>
  Option.bind (F_yarn_Check p1) fun r8 =>
  Option.bind (F_cmp_Or_api_Errno_ ([r6, r8] : List Int)) fun r12 =>
  some (yarn_calc.mk p0 p1 (api_Ratio.mk 0 0) r12)
def c_yarn_with_val (r : yarn_calc) (x : Value) : Value := x
def c_yarn_with_D (r : yarn_calc) (x : Value) : List Fact := [fRep r_yarn_calc x r]
set_option maxHeartbeats 4000000 in
set_option maxRecDepth 100000 in
theorem c_yarn_with (E : Nat → Prop) (w0 : World) (p0 : api_Ratio) (v0 : Value) (p1 : api_Ratio) (v1 : Value) (r : yarn_calc) (h : F_yarn_with p0 p1 = some r) (S : St0 E [] w0 w0 [] [fRep r_api_Ratio (v0) p0, fRep r_api_Ratio (v1) p1]) :
    Calls Try.prog 43 #[v0, v1] w0 (Ret (X := Value) E [] w0 (c_yarn_with_val r) (fun _ => []) (c_yarn_with_D r)) := by
  unfold F_yarn_with at h
  obtain rfl : v0 = .agg #[.int .i64 p0.Num, .int .i64 p0.Den] := S.know (i := 0) (e := fRep r_api_Ratio (v0) p0) (by kernel_rfl)
  obtain rfl : v1 = .agg #[.int .i64 p1.Num, .int .i64 p1.Den] := S.know (i := 1) (e := fRep r_api_Ratio (v1) p1) (by kernel_rfl)
  refine sEnter (args := [.agg #[.int .i64 p0.Num, .int .i64 p0.Den], .agg #[.int .i64 p1.Num, .int .i64 p1.Den]]) 14 Try.func43 rfl rfl (by simp) S (fun a S => ?_)
  refine sSeq (fun K1 hK1 => ?_)
  refine sRegion ?_
  refine sBox (v := .agg #[.int .i64 p0.Num, .int .i64 p0.Den]) S (wN rfl) rfl (by kernel_rfl) [.int .i64 p0.Num, .int .i64 p0.Den] rfl rfl (by decide) (fun a b2 w S => ?_)
  refine sBox (v := .agg #[.int .i64 p1.Num, .int .i64 p1.Den]) S (wN rfl) rfl (by kernel_rfl) [.int .i64 p1.Num, .int .i64 p1.Den] rfl rfl (by decide) (fun a b3 w S => ?_)
  refine sAlloc (.agg #[.int .i64 0, .int .i64 0, .int .i64 0, .int .i64 0, .int .i64 0, .int .i64 0, .int .i64 0]) S (wN rfl) rfl (by kernel_rfl) [.int .i64 0, .int .i64 0, .int .i64 0, .int .i64 0, .int .i64 0, .int .i64 0, .int .i64 0] rfl rfl (by decide) (fun a b4 w S => ?_)
  refine leafL (leafT (hK1 _ _ ?_))
  refine sSeq (fun K5 hK5 => ?_)
  obtain ⟨r6, hx7, h⟩ := bindSome h
  obtain ⟨r8, hx9, h⟩ := bindSome h
  obtain ⟨r12, hx13, h⟩ := bindSome h
  refine sDraw (nf := [6, 9]) (W := [(0, 5, .agg #[.int .i64 p0.Num, .int .i64 p0.Den]), (1, 6, .agg #[.int .i64 p1.Num, .int .i64 p1.Den]), (2, 7, .agg #[.int .i64 p0.Num, .int .i64 p0.Den]), (3, 8, .int .i64 r6), (4, 9, .agg #[.int .i64 p1.Num, .int .i64 p1.Den]), (5, 10, .int .i64 r8)]) (by kernel_rfl) S ?_
  refine node_by (A := anc_yarn_with_0) (nf := [6, 9]) (Y := []) (W := [(0, 5, .agg #[.int .i64 p0.Num, .int .i64 p0.Den]), (1, 6, .agg #[.int .i64 p1.Num, .int .i64 p1.Den]), (2, 7, .agg #[.int .i64 p0.Num, .int .i64 p0.Den]), (3, 8, .int .i64 r6), (4, 9, .agg #[.int .i64 p1.Num, .int .i64 p1.Den]), (5, 10, .int .i64 r8)]) 10 (by kernel_rfl) (by kernel_rfl) (by kernel_rfl) (by kernel_rfl) (by kernel_rfl) [0, 1, 2, 3, 4, 5] (by kernel_rfl) (by decide) (by decide) (aF 0 9 (by decide) ?_ (aF 1 8 (by decide) ?_ (aF 2 7 (by decide) ?_ (aF 3 6 (by decide) ?_ (aF 4 5 (by decide) ?_ (aF 5 4 (by decide) ?_ (aN 6 3 (by decide) ?_ (aE 7 2 6 (by decide) (aE 8 1 6 (by decide) (aB 9 0 6 (by decide) (trivial))))))))))) [] (fun q hq => by cases hq) (fun hY => absurd (hY 6 (by decide)) (by decide))
  · refine fI 5 (.agg #[.int .i64 p0.Num, .int .i64 p0.Den]) [(2, .pointer (some ⟨b2, 0, none⟩))] 0 [none] rfl rfl (by kernel_rfl) rfl (by kernel_rfl) (by kernel_rfl) fun G a w S => ?_
    refine sLoadN (p := b2) (off := 0) (T := 23) (vs := [.int .i64 p0.Num, .int .i64 p0.Den]) 2 [.int .i64 p0.Num, .int .i64 p0.Den] S (wN rfl) rfl (by kernel_rfl) (by kernel_rfl) (by kernel_rfl) (by kernel_rfl) rfl rfl (by decide) (fun a S => ?_)
    exact leafL ⟨rfl, S⟩
  · refine fI 6 (.agg #[.int .i64 p1.Num, .int .i64 p1.Den]) [(3, .pointer (some ⟨b3, 0, none⟩))] 1 [none] rfl rfl (by kernel_rfl) rfl (by kernel_rfl) (by kernel_rfl) fun G a w S => ?_
    refine sLoadN (p := b3) (off := 0) (T := 23) (vs := [.int .i64 p1.Num, .int .i64 p1.Den]) 1 [.int .i64 p1.Num, .int .i64 p1.Den] S (wN rfl) rfl (by kernel_rfl) (by kernel_rfl) (by kernel_rfl) (by kernel_rfl) rfl rfl (by decide) (fun a S => ?_)
    exact leafL ⟨rfl, S⟩
  · refine fI 7 (.agg #[.int .i64 p0.Num, .int .i64 p0.Den]) [(2, .pointer (some ⟨b2, 0, none⟩))] 2 [none] rfl rfl (by kernel_rfl) rfl (by kernel_rfl) (by kernel_rfl) fun G a w S => ?_
    refine sLoadN (p := b2) (off := 0) (T := 23) (vs := [.int .i64 p0.Num, .int .i64 p0.Den]) 2 [.int .i64 p0.Num, .int .i64 p0.Den] S (wN rfl) rfl (by kernel_rfl) (by kernel_rfl) (by kernel_rfl) (by kernel_rfl) rfl rfl (by decide) (fun a S => ?_)
    exact leafL ⟨rfl, S⟩
  · refine fI 8 (.int .i64 r6) [(7, .agg #[.int .i64 p0.Num, .int .i64 p0.Den])] 3 [some 2] rfl rfl (by kernel_rfl) rfl (by kernel_rfl) (by kernel_rfl) fun G a w S => ?_
    have S1 := S.mem
    refine sCallQ (X := Unit) (f := 8) (vs := [.agg #[.int .i64 p0.Num, .int .i64 p0.Den]]) (val := fun _ => .int .i64 r6) S (wN rfl) rfl callee8 (by kernel_rfl) (S1.quiet [0] (by kernel_rfl)) (fun E1 w1 S1 => c_yarn_Check E1 w1 p0 (.agg #[.int .i64 p0.Num, .int .i64 p0.Den]) r6 hx7 S1) rfl (by decide) (fun _ a w S => ?_)
    exact leafL ⟨rfl, S⟩
  · refine fI 9 (.agg #[.int .i64 p1.Num, .int .i64 p1.Den]) [(3, .pointer (some ⟨b3, 0, none⟩))] 4 [none] rfl rfl (by kernel_rfl) rfl (by kernel_rfl) (by kernel_rfl) fun G a w S => ?_
    refine sLoadN (p := b3) (off := 0) (T := 23) (vs := [.int .i64 p1.Num, .int .i64 p1.Den]) 1 [.int .i64 p1.Num, .int .i64 p1.Den] S (wN rfl) rfl (by kernel_rfl) (by kernel_rfl) (by kernel_rfl) (by kernel_rfl) rfl rfl (by decide) (fun a S => ?_)
    exact leafL ⟨rfl, S⟩
  · refine fI 10 (.int .i64 r8) [(9, .agg #[.int .i64 p1.Num, .int .i64 p1.Den])] 5 [some 4] rfl rfl (by kernel_rfl) rfl (by kernel_rfl) (by kernel_rfl) fun G a w S => ?_
    have S1 := S.mem
    refine sCallQ (X := Unit) (f := 8) (vs := [.agg #[.int .i64 p1.Num, .int .i64 p1.Den]]) (val := fun _ => .int .i64 r8) S (wN rfl) rfl callee8 (by kernel_rfl) (S1.quiet [1] (by kernel_rfl)) (fun E1 w1 S1 => c_yarn_Check E1 w1 p1 (.agg #[.int .i64 p1.Num, .int .i64 p1.Den]) r8 hx9 S1) rfl (by decide) (fun _ a w S => ?_)
    exact leafL ⟨rfl, S⟩
  · refine ⟨_, [(8, .int .i64 r6), (10, .int .i64 r8)], rfl, (srcs_of [some 3, some 5] rfl (by kernel_rfl) (by kernel_rfl)), fun G a w S => ?_⟩
    refine sLit (r := (rI .i64)) (T := 24) (xs := ([r6, r8] : List Int)) [(0, .int .i64 r6), (1, .int .i64 r8)] 2 [.int .i64 r6, .int .i64 r8] [.int .i64 r6, .int .i64 r8] (.int .i64 0) 8 S (wN rfl) rfl (by kernel_rfl) Try.underlying82 (by kernel_rfl) (by decide) (by decide) (by kernel_rfl) rfl (fun E1 w1 hE => All.cons rfl (All.cons rfl (All.nil _ _ _))) rfl rfl (by decide) (fun a w ad14 cp15 S => ?_)
    refine leafL ⟨rfl, _, _, .inl ⟨11, (.slice ad14 ([r6, r8] : List Int).length cp15), [(7, 12, .int .i64 r12), (8, 13, .agg #[.int .i64 p0.Num, .int .i64 p0.Den, .int .i64 p1.Num, .int .i64 p1.Den, .int .i64 0, .int .i64 0, .int .i64 r12])], rfl, S, hz_of (by kernel_rfl), ?_⟩⟩
    refine node_by (A := anc_yarn_with_0) (nf := [6, 9]) (Y := [6]) 10 (by kernel_rfl) (by kernel_rfl) (by kernel_rfl) (by kernel_rfl) (by kernel_rfl) [7, 8, 6, 0, 1, 2, 3, 4, 5] (by kernel_rfl) (by decide) (by decide) (aF 0 9 (by decide) ?_ (aF 1 8 (by decide) ?_ (aD 2 7 6 (by decide) (aD 3 6 6 (by decide) (aD 4 5 6 (by decide) (aD 5 4 6 (by decide) (aY 6 3 (by decide) (aF 7 2 (by decide) ?_ (aF 8 1 (by decide) ?_ (aN 9 0 (by decide) ?_ (trivial))))))))))) [] (fun q hq => by cases hq) (fun hY => absurd (hY 9 (by decide)) (by decide))
    · refine fI 5 (.agg #[.int .i64 p0.Num, .int .i64 p0.Den]) [(2, .pointer (some ⟨b2, 0, none⟩))] 3 [none] rfl rfl (by kernel_rfl) rfl (by kernel_rfl) (by kernel_rfl) fun G a w S => ?_
      refine sLoadN (p := b2) (off := 0) (T := 23) (vs := [.int .i64 p0.Num, .int .i64 p0.Den]) 3 [.int .i64 p0.Num, .int .i64 p0.Den] S (wN rfl) rfl (by kernel_rfl) (by kernel_rfl) (by kernel_rfl) (by kernel_rfl) rfl rfl (by decide) (fun a S => ?_)
      exact leafL ⟨rfl, S⟩
    · refine fI 6 (.agg #[.int .i64 p1.Num, .int .i64 p1.Den]) [(3, .pointer (some ⟨b3, 0, none⟩))] 4 [none] rfl rfl (by kernel_rfl) rfl (by kernel_rfl) (by kernel_rfl) fun G a w S => ?_
      refine sLoadN (p := b3) (off := 0) (T := 23) (vs := [.int .i64 p1.Num, .int .i64 p1.Den]) 2 [.int .i64 p1.Num, .int .i64 p1.Den] S (wN rfl) rfl (by kernel_rfl) (by kernel_rfl) (by kernel_rfl) (by kernel_rfl) rfl rfl (by decide) (fun a S => ?_)
      exact leafL ⟨rfl, S⟩
    · refine fI 12 (.int .i64 r12) [(11, .slice ad14 ([r6, r8] : List Int).length cp15)] 0 [some 2] rfl rfl (by kernel_rfl) rfl (by kernel_rfl) (by kernel_rfl) fun G a w S => ?_
      have S1 := S.mem
      have S1 := S1.shutR (r := (rI .i64)) (T := 24) (v := .slice ad14 ([r6, r8] : List Int).length cp15) (xs := ([r6, r8] : List Int)) 0 (by kernel_rfl)
      refine sCallQ (X := Unit) (f := 55) (vs := [.slice ad14 ([r6, r8] : List Int).length cp15]) (val := fun _ => .int .i64 r12) S (wN rfl) rfl callee55 (by kernel_rfl) (S1.quiet [0] (by kernel_rfl)) (fun E1 w1 S1 => c_cmp_Or_api_Errno_ E1 w1 ([r6, r8] : List Int) (.slice ad14 ([r6, r8] : List Int).length cp15) r12 hx13 S1) rfl (by decide) (fun _ a w S => ?_)
      exact leafL ⟨rfl, S⟩
    · refine fI 13 (.agg #[.int .i64 p0.Num, .int .i64 p0.Den, .int .i64 p1.Num, .int .i64 p1.Den, .int .i64 0, .int .i64 0, .int .i64 r12]) [(5, .agg #[.int .i64 p0.Num, .int .i64 p0.Den]), (6, .agg #[.int .i64 p1.Num, .int .i64 p1.Den]), (12, .int .i64 r12)] 1 [some 3, some 4, some 0] rfl rfl (by kernel_rfl) rfl (by kernel_rfl) (by kernel_rfl) fun G a w S => ?_
      refine sBuild [(0, .agg #[.int .i64 p0.Num, .int .i64 p0.Den]), (1, .agg #[.int .i64 p1.Num, .int .i64 p1.Den]), (3, .int .i64 r12)] [.int .i64 p0.Num, .int .i64 p0.Den, .int .i64 p1.Num, .int .i64 p1.Den, .int .i64 0, .int .i64 0, .int .i64 r12] S (wN rfl) rfl (by kernel_rfl) (by kernel_rfl) rfl (by decide) (fun a S => ?_)
      exact leafL ⟨rfl, S⟩
    · refine ⟨_, [(4, .pointer (some ⟨b4, 0, none⟩)), (13, .agg #[.int .i64 p0.Num, .int .i64 p0.Den, .int .i64 p1.Num, .int .i64 p1.Den, .int .i64 0, .int .i64 0, .int .i64 r12])], rfl, (srcs_of [none, some 1] rfl (by kernel_rfl) (by kernel_rfl)), fun G a w S => ?_⟩
      refine sStore (p := b4) (off := 0) (T := 65) (vs := [.int .i64 0, .int .i64 0, .int .i64 0, .int .i64 0, .int .i64 0, .int .i64 0, .int .i64 0]) (v := .agg #[.int .i64 p0.Num, .int .i64 p0.Den, .int .i64 p1.Num, .int .i64 p1.Den, .int .i64 0, .int .i64 0, .int .i64 r12]) 1 [.int .i64 p0.Num, .int .i64 p0.Den, .int .i64 p1.Num, .int .i64 p1.Den, .int .i64 0, .int .i64 0, .int .i64 r12] S (wN rfl) rfl (by kernel_rfl) (by kernel_rfl) rfl (by kernel_rfl) (by kernel_rfl) rfl (by simp) rfl (fun a w S => ?_)
      refine leafL ⟨rfl, _, _, .inr ⟨[], rfl, S, hz_of (by kernel_rfl), ?_⟩⟩
      refine node_by (A := anc_yarn_with_0) (nf := [6, 9]) (Y := [9, 6]) 10 (by kernel_rfl) (by kernel_rfl) (by kernel_rfl) (by kernel_rfl) (by kernel_rfl) [7, 8, 6, 0, 1, 2, 3, 4, 5] (by kernel_rfl) (by decide) (by decide) (aD 0 9 9 (by decide) (aD 1 8 9 (by decide) (aD 2 7 9 (by decide) (aD 3 6 9 (by decide) (aD 4 5 9 (by decide) (aD 5 4 9 (by decide) (aY 6 3 (by decide) (aD 7 2 9 (by decide) (aD 8 1 9 (by decide) (aY 9 0 (by decide) (trivial))))))))))) [(4, .pointer (some ⟨b4, 0, none⟩))] (fin_of [none] rfl (by kernel_rfl) (by kernel_rfl)) (fun _ a w S => ?_)
      · refine leafT (hK5 _ _ ?_)
        obtain rfl := Option.some.inj h
        have S := S.learn (fRep r_yarn_calc (.agg #[.int .i64 p0.Num, .int .i64 p0.Den, .int .i64 p1.Num, .int .i64 p1.Den, .int .i64 0, .int .i64 0, .int .i64 r12]) (yarn_calc.mk p0 p1 (api_Ratio.mk 0 0) r12)) rfl
        exact wp_ret (sRet (.agg #[.int .i64 p0.Num, .int .i64 p0.Den, .int .i64 p1.Num, .int .i64 p1.Den, .int .i64 0, .int .i64 0, .int .i64 r12]) S (rsl1 rfl (rvN (c := 4) (t := 65) (T := 65) (p := b4) 0 [.int .i64 p0.Num, .int .i64 p0.Den, .int .i64 p1.Num, .int .i64 p1.Den, .int .i64 0, .int .i64 0, .int .i64 r12] S (by kernel_rfl) (by kernel_rfl) (by kernel_rfl) (by kernel_rfl))) ⟨(.agg #[.int .i64 p0.Num, .int .i64 p0.Den, .int .i64 p1.Num, .int .i64 p1.Den, .int .i64 0, .int .i64 0, .int .i64 r12]), rfl, S.mem.sel [] [0] (by decide) (by kernel_rfl) (by kernel_rfl)⟩)

end Go.Proofs.Ytdfjcpnflmgdoaa
namespace Go.Proofs.Ytdfjcpnflmgdoaa
open Go.RowKit
set_option linter.unusedVariables false

noncomputable def F_yarn_run_1_s0 (p0 : yarn_calc) (p1 : api_Ratio) (p2 : Int) : Option (yarn_calc × api_Ratio × Int) :=
  some (p0, p0.out, p0.e)
set_option maxHeartbeats 4000000 in
set_option maxRecDepth 100000 in
theorem c_yarn_run_1_s0 (E : Nat → Prop) (w0 : World) (p0 : yarn_calc) (bb0 : Nat) (p1 : api_Ratio) (bb1 : Nat) (p2 : Int) (bb2 : Nat) (r : (yarn_calc × api_Ratio × Int)) (h : F_yarn_run_1_s0 p0 p1 p2 = some r) (S : St0 E (keysL [eBox bb0 65 [.int .i64 p0.a.Num, .int .i64 p0.a.Den, .int .i64 p0.b.Num, .int .i64 p0.b.Den, .int .i64 p0.out.Num, .int .i64 p0.out.Den, .int .i64 p0.e], eBox bb1 23 [.int .i64 p1.Num, .int .i64 p1.Den], eBox bb2 24 [.int .i64 p2]]) w0 w0 [eBox bb0 65 [.int .i64 p0.a.Num, .int .i64 p0.a.Den, .int .i64 p0.b.Num, .int .i64 p0.b.Den, .int .i64 p0.out.Num, .int .i64 p0.out.Den, .int .i64 p0.e], eBox bb1 23 [.int .i64 p1.Num, .int .i64 p1.Den], eBox bb2 24 [.int .i64 p2]] []) :
    Calls Try.prog 53 #[.pointer (some ⟨bb0, 0, none⟩), .pointer (some ⟨bb1, 0, none⟩), .pointer (some ⟨bb2, 0, none⟩)] w0 (Ret (X := Unit) E (keysL [eBox bb0 65 [.int .i64 p0.a.Num, .int .i64 p0.a.Den, .int .i64 p0.b.Num, .int .i64 p0.b.Den, .int .i64 p0.out.Num, .int .i64 p0.out.Den, .int .i64 p0.e], eBox bb1 23 [.int .i64 p1.Num, .int .i64 p1.Den], eBox bb2 24 [.int .i64 p2]]) w0 (fun _ => .tuple #[]) (fun _ => [eBox bb0 65 [.int .i64 r.1.a.Num, .int .i64 r.1.a.Den, .int .i64 r.1.b.Num, .int .i64 r.1.b.Den, .int .i64 r.1.out.Num, .int .i64 r.1.out.Den, .int .i64 r.1.e], eBox bb1 23 [.int .i64 r.2.1.Num, .int .i64 r.2.1.Den], eBox bb2 24 [.int .i64 r.2.2]]) (fun _ => [])) := by
  unfold F_yarn_run_1_s0 at h
  refine sEnter (args := [.pointer (some ⟨bb0, 0, none⟩), .pointer (some ⟨bb1, 0, none⟩), .pointer (some ⟨bb2, 0, none⟩)]) 7 Try.func53 rfl rfl (by simp) S (fun a S => ?_)
  refine sRegion ?_
  refine sField (b := bb0) (off := 0) 4 4 S (wN rfl) rfl (by kernel_rfl) (by kernel_rfl) rfl rfl (by decide) (fun a S => ?_)
  refine sLoadN (p := bb0) (off := 4) (T := 65) (vs := [.int .i64 p0.a.Num, .int .i64 p0.a.Den, .int .i64 p0.b.Num, .int .i64 p0.b.Den, .int .i64 p0.out.Num, .int .i64 p0.out.Den, .int .i64 p0.e]) 0 [.int .i64 p0.out.Num, .int .i64 p0.out.Den] S (wN rfl) rfl (by kernel_rfl) (by kernel_rfl) (by kernel_rfl) (by kernel_rfl) rfl rfl (by decide) (fun a S => ?_)
  refine sField (b := bb0) (off := 0) 6 6 S (wN rfl) rfl (by kernel_rfl) (by kernel_rfl) rfl rfl (by decide) (fun a S => ?_)
  refine sLoad1 (p := bb0) (off := 6) (T := 65) (vs := [.int .i64 p0.a.Num, .int .i64 p0.a.Den, .int .i64 p0.b.Num, .int .i64 p0.b.Den, .int .i64 p0.out.Num, .int .i64 p0.out.Den, .int .i64 p0.e]) 0 (.int .i64 p0.e) S (wN rfl) rfl (by kernel_rfl) (by kernel_rfl) (by kernel_rfl) rfl rfl (by decide) (fun a S => ?_)
  refine sStore (p := bb1) (off := 0) (T := 23) (vs := [.int .i64 p1.Num, .int .i64 p1.Den]) (v := .agg #[.int .i64 p0.out.Num, .int .i64 p0.out.Den]) 1 [.int .i64 p0.out.Num, .int .i64 p0.out.Den] S (wN rfl) rfl (by kernel_rfl) (by kernel_rfl) rfl (by kernel_rfl) (by kernel_rfl) rfl (by simp) rfl (fun a w S => ?_)
  refine sStore (p := bb2) (off := 0) (T := 24) (vs := [.int .i64 p2]) (v := .int .i64 p0.e) 2 [.int .i64 p0.e] S (wN rfl) rfl (by kernel_rfl) (by kernel_rfl) rfl (by kernel_rfl) (by kernel_rfl) rfl (by simp) rfl (fun a w S => ?_)
  obtain rfl := Option.some.inj h
  exact leafL (sEnd (.tuple #[]) S (rsl0 rfl ) ⟨(), rfl, S.mem.sel [2, 1, 0] [] (by decide) (by kernel_rfl) (by kernel_rfl)⟩)
set_option maxHeartbeats 4000000 in
set_option maxRecDepth 100000 in
theorem d_yarn_run_1_s0 (E : Nat → Prop) (w0 : World) (p0 : yarn_calc) (bb0 : Nat) (p1 : api_Ratio) (bb1 : Nat) (p2 : Int) (bb2 : Nat) (r : (yarn_calc × api_Ratio × Int)) (h : F_yarn_run_1_s0 p0 p1 p2 = some r) (S : St0 E (keysL [eBox bb0 65 [.int .i64 p0.a.Num, .int .i64 p0.a.Den, .int .i64 p0.b.Num, .int .i64 p0.b.Den, .int .i64 p0.out.Num, .int .i64 p0.out.Den, .int .i64 p0.e], eBox bb1 23 [.int .i64 p1.Num, .int .i64 p1.Den], eBox bb2 24 [.int .i64 p2]]) w0 w0 [eBox bb0 65 [.int .i64 p0.a.Num, .int .i64 p0.a.Den, .int .i64 p0.b.Num, .int .i64 p0.b.Den, .int .i64 p0.out.Num, .int .i64 p0.out.Den, .int .i64 p0.e], eBox bb1 23 [.int .i64 p1.Num, .int .i64 p1.Den], eBox bb2 24 [.int .i64 p2]] []) :
    CallsD Try.prog 53 #[.pointer (some ⟨bb0, 0, none⟩), .pointer (some ⟨bb1, 0, none⟩), .pointer (some ⟨bb2, 0, none⟩)] .returning w0 (fun e u' w' => u' = .returning ∧ Ret (X := Unit) E (keysL [eBox bb0 65 [.int .i64 p0.a.Num, .int .i64 p0.a.Den, .int .i64 p0.b.Num, .int .i64 p0.b.Den, .int .i64 p0.out.Num, .int .i64 p0.out.Den, .int .i64 p0.e], eBox bb1 23 [.int .i64 p1.Num, .int .i64 p1.Den], eBox bb2 24 [.int .i64 p2]]) w0 (fun _ => .tuple #[]) (fun _ => [eBox bb0 65 [.int .i64 r.1.a.Num, .int .i64 r.1.a.Den, .int .i64 r.1.b.Num, .int .i64 r.1.b.Den, .int .i64 r.1.out.Num, .int .i64 r.1.out.Den, .int .i64 r.1.e], eBox bb1 23 [.int .i64 r.2.1.Num, .int .i64 r.2.1.Den], eBox bb2 24 [.int .i64 r.2.2]]) (fun _ => []) e w') := by
  unfold F_yarn_run_1_s0 at h
  refine sEnterC (args := [.pointer (some ⟨bb0, 0, none⟩), .pointer (some ⟨bb1, 0, none⟩), .pointer (some ⟨bb2, 0, none⟩)]) 7 Try.func53 rfl rfl (by simp) S (fun a S => ?_)
  refine sRegion ?_
  refine sField (b := bb0) (off := 0) 4 4 S (wN rfl) rfl (by kernel_rfl) (by kernel_rfl) rfl rfl (by decide) (fun a S => ?_)
  refine sLoadN (p := bb0) (off := 4) (T := 65) (vs := [.int .i64 p0.a.Num, .int .i64 p0.a.Den, .int .i64 p0.b.Num, .int .i64 p0.b.Den, .int .i64 p0.out.Num, .int .i64 p0.out.Den, .int .i64 p0.e]) 0 [.int .i64 p0.out.Num, .int .i64 p0.out.Den] S (wN rfl) rfl (by kernel_rfl) (by kernel_rfl) (by kernel_rfl) (by kernel_rfl) rfl rfl (by decide) (fun a S => ?_)
  refine sField (b := bb0) (off := 0) 6 6 S (wN rfl) rfl (by kernel_rfl) (by kernel_rfl) rfl rfl (by decide) (fun a S => ?_)
  refine sLoad1 (p := bb0) (off := 6) (T := 65) (vs := [.int .i64 p0.a.Num, .int .i64 p0.a.Den, .int .i64 p0.b.Num, .int .i64 p0.b.Den, .int .i64 p0.out.Num, .int .i64 p0.out.Den, .int .i64 p0.e]) 0 (.int .i64 p0.e) S (wN rfl) rfl (by kernel_rfl) (by kernel_rfl) (by kernel_rfl) rfl rfl (by decide) (fun a S => ?_)
  refine sStore (p := bb1) (off := 0) (T := 23) (vs := [.int .i64 p1.Num, .int .i64 p1.Den]) (v := .agg #[.int .i64 p0.out.Num, .int .i64 p0.out.Den]) 1 [.int .i64 p0.out.Num, .int .i64 p0.out.Den] S (wN rfl) rfl (by kernel_rfl) (by kernel_rfl) rfl (by kernel_rfl) (by kernel_rfl) rfl (by simp) rfl (fun a w S => ?_)
  refine sStore (p := bb2) (off := 0) (T := 24) (vs := [.int .i64 p2]) (v := .int .i64 p0.e) 2 [.int .i64 p0.e] S (wN rfl) rfl (by kernel_rfl) (by kernel_rfl) rfl (by kernel_rfl) (by kernel_rfl) rfl (by simp) rfl (fun a w S => ?_)
  obtain rfl := Option.some.inj h
  exact leafL (sEnd (.tuple #[]) S (rsl0 rfl ) ⟨(), rfl, S.mem.sel [2, 1, 0] [] (by decide) (by kernel_rfl) (by kernel_rfl)⟩)

end Go.Proofs.Ytdfjcpnflmgdoaa
namespace Go.Proofs.Ytdfjcpnflmgdoaa
open Go.RowKit
set_option linter.unusedVariables false

noncomputable def F_yarn_calc_set_s1 (p0 : yarn_calc) (p1 : Int) (p2 : Int) : Option yarn_calc :=
  if p0.e == 0 then
    Option.bind (F_yarn_Make p1 p2) fun r3 =>
    some (yarn_calc.mk p0.a p0.b r3.1 r3.2)
  else
    some p0
set_option maxHeartbeats 4000000 in
set_option maxRecDepth 100000 in
theorem c_yarn_calc_set_s1 (E : Nat → Prop) (w0 : World) (p0 : yarn_calc) (bb0 : Nat) (p1 : Int) (p2 : Int) (r : yarn_calc) (h : F_yarn_calc_set_s1 p0 p1 p2 = some r) (S : St0 E (keysL [eBox bb0 65 [.int .i64 p0.a.Num, .int .i64 p0.a.Den, .int .i64 p0.b.Num, .int .i64 p0.b.Den, .int .i64 p0.out.Num, .int .i64 p0.out.Den, .int .i64 p0.e]]) w0 w0 [eBox bb0 65 [.int .i64 p0.a.Num, .int .i64 p0.a.Den, .int .i64 p0.b.Num, .int .i64 p0.b.Den, .int .i64 p0.out.Num, .int .i64 p0.out.Den, .int .i64 p0.e]] []) :
    Calls Try.prog 54 #[.pointer (some ⟨bb0, 0, none⟩), .int .i64 p1, .int .i64 p2] w0 (Ret (X := Unit) E (keysL [eBox bb0 65 [.int .i64 p0.a.Num, .int .i64 p0.a.Den, .int .i64 p0.b.Num, .int .i64 p0.b.Den, .int .i64 p0.out.Num, .int .i64 p0.out.Den, .int .i64 p0.e]]) w0 (fun _ => .tuple #[]) (fun _ => [eBox bb0 65 [.int .i64 r.a.Num, .int .i64 r.a.Den, .int .i64 r.b.Num, .int .i64 r.b.Den, .int .i64 r.out.Num, .int .i64 r.out.Den, .int .i64 r.e]]) (fun _ => [])) := by
  unfold F_yarn_calc_set_s1 at h
  refine sEnter (args := [.pointer (some ⟨bb0, 0, none⟩), .int .i64 p1, .int .i64 p2]) 23 Try.func54 rfl rfl (by simp) S (fun a S => ?_)
  refine sSeq (fun K1 hK1 => ?_)
  refine sRegion ?_
  refine sMove (.pointer (some ⟨bb0, 0, none⟩)) S (wN rfl) (.inl rfl) (by kernel_rfl) rfl (by decide) (fun a S => ?_)
  refine nilCheck_ok (q := ⟨bb0, 0, none⟩) S (wN rfl) rfl (by kernel_rfl) rfl (by decide) (fun a S => ?_)
  refine sField (b := bb0) (off := 0) 6 6 S (wN rfl) rfl (by kernel_rfl) (by kernel_rfl) rfl rfl (by decide) (fun a S => ?_)
  refine sLoad1 (p := bb0) (off := 6) (T := 65) (vs := [.int .i64 p0.a.Num, .int .i64 p0.a.Den, .int .i64 p0.b.Num, .int .i64 p0.b.Den, .int .i64 p0.out.Num, .int .i64 p0.out.Den, .int .i64 p0.e]) 0 (.int .i64 p0.e) S (wN rfl) rfl (by kernel_rfl) (by kernel_rfl) (by kernel_rfl) rfl rfl (by decide) (fun a S => ?_)
  refine sBin (.bool (p0.e == 0)) S (wN rfl) rfl (by kernel_rfl) (by kernel_rfl) (bEq _ _ _ _ .i64 p0.e 0) rfl (by decide) (fun a S => ?_)
  refine leafL (leafT (hK1 _ _ ?_))
  rcases iteSome h with ⟨hc2, h⟩ | ⟨hc2, h⟩
  · refine sCondT (b := p0.e == 0) S (by kernel_rfl) hc2 ?_
    refine sRegion ?_
    refine sMove (.pointer (some ⟨bb0, 0, none⟩)) S (wN rfl) (.inl rfl) (by kernel_rfl) rfl (by decide) (fun a S => ?_)
    refine sMove (.pointer (some ⟨bb0, 0, none⟩)) S (wN rfl) (.inl rfl) (by kernel_rfl) rfl (by decide) (fun a S => ?_)
    refine sMove (.int .i64 p1) S (wN rfl) (.inl rfl) (by kernel_rfl) rfl (by decide) (fun a S => ?_)
    refine sMove (.int .i64 p2) S (wN rfl) (.inl rfl) (by kernel_rfl) rfl (by decide) (fun a S => ?_)
    obtain ⟨r3, hx4, h⟩ := bindSome h
    refine sCall (X := Value) (f := 48) (vs := [.int .i64 p1, .int .i64 p2]) (val := c_yarn_Make_val r3) (B' := fun _ => []) (D' := c_yarn_Make_D r3) [] [eBox bb0 65 [.int .i64 p0.a.Num, .int .i64 p0.a.Den, .int .i64 p0.b.Num, .int .i64 p0.b.Den, .int .i64 p0.out.Num, .int .i64 p0.out.Den, .int .i64 p0.e]] [] [0] [] S (wN rfl) rfl callee48 (by kernel_rfl) (by decide) (by kernel_rfl) (by kernel_rfl) (fun E1 w1 S1 => c_yarn_Make E1 w1 p1 p2 r3 hx4 S1) rfl (by decide) (fun u5 a w S => ?_)
    obtain rfl : u5 = .agg #[.int .i64 r3.1.Num, .int .i64 r3.1.Den] := S.mem.know (i := 0) (e := fRep r_api_Ratio (u5) r3.1) (by kernel_rfl)
    refine sMove (.tuple #[.agg #[.int .i64 r3.1.Num, .int .i64 r3.1.Den], .int .i64 r3.2]) S (wN rfl) (.inl rfl) (by kernel_rfl) rfl (by decide) (fun a S => ?_)
    refine sExtract (vs := [.agg #[.int .i64 r3.1.Num, .int .i64 r3.1.Den], .int .i64 r3.2]) (.agg #[.int .i64 r3.1.Num, .int .i64 r3.1.Den]) S (wN rfl) rfl (by kernel_rfl) rfl rfl (by decide) (fun a S => ?_)
    refine sExtract (vs := [.agg #[.int .i64 r3.1.Num, .int .i64 r3.1.Den], .int .i64 r3.2]) (.int .i64 r3.2) S (wN rfl) rfl (by kernel_rfl) rfl rfl (by decide) (fun a S => ?_)
    refine nilCheck_ok (q := ⟨bb0, 0, none⟩) S (wN rfl) rfl (by kernel_rfl) rfl (by decide) (fun a S => ?_)
    refine sField (b := bb0) (off := 0) 4 4 S (wN rfl) rfl (by kernel_rfl) (by kernel_rfl) rfl rfl (by decide) (fun a S => ?_)
    refine sStore (p := bb0) (off := 4) (T := 65) (vs := [.int .i64 p0.a.Num, .int .i64 p0.a.Den, .int .i64 p0.b.Num, .int .i64 p0.b.Den, .int .i64 p0.out.Num, .int .i64 p0.out.Den, .int .i64 p0.e]) (v := .agg #[.int .i64 r3.1.Num, .int .i64 r3.1.Den]) 0 [.int .i64 r3.1.Num, .int .i64 r3.1.Den] S (wN rfl) rfl (by kernel_rfl) (by kernel_rfl) rfl (by kernel_rfl) (by kernel_rfl) rfl (by simp) rfl (fun a w S => ?_)
    refine nilCheck_ok (q := ⟨bb0, 0, none⟩) S (wN rfl) rfl (by kernel_rfl) rfl (by decide) (fun a S => ?_)
    refine sField (b := bb0) (off := 0) 6 6 S (wN rfl) rfl (by kernel_rfl) (by kernel_rfl) rfl rfl (by decide) (fun a S => ?_)
    refine sStore (p := bb0) (off := 6) (T := 65) (vs := [.int .i64 p0.a.Num, .int .i64 p0.a.Den, .int .i64 p0.b.Num, .int .i64 p0.b.Den, .int .i64 r3.1.Num, .int .i64 r3.1.Den, .int .i64 p0.e]) (v := .int .i64 r3.2) 0 [.int .i64 r3.2] S (wN rfl) rfl (by kernel_rfl) (by kernel_rfl) rfl (by kernel_rfl) (by kernel_rfl) rfl (by simp) rfl (fun a w S => ?_)
    obtain rfl := Option.some.inj h
    exact leafL (sEnd (.tuple #[]) S (rsl0 rfl ) ⟨(), rfl, S.mem.sel [0] [] (by decide) (by kernel_rfl) (by kernel_rfl)⟩)
  · refine sCondF (b := p0.e == 0) S (by kernel_rfl) hc2 ?_
    obtain rfl := Option.some.inj h
    exact wp_skip (sEnd (.tuple #[]) S (rsl0 rfl ) ⟨(), rfl, S.mem.sel [0] [] (by decide) (by kernel_rfl) (by kernel_rfl)⟩)

end Go.Proofs.Ytdfjcpnflmgdoaa
namespace Go.Proofs.Ytdfjcpnflmgdoaa
open Go.RowKit
set_option linter.unusedVariables false

noncomputable def F_yarn_run_s0 (p0 : api_Ratio) (p1 : api_Ratio) : Option (api_Ratio × Int) :=
  Option.bind (F_yarn_with p0 p1) fun r7 =>
  Option.bind (α := (Int × Int × Int × Int × Int × Int × Int)) (
    if r7.e == 0 then
      Option.bind (F_yarn_Add_1 r7.a r7.b) fun r23 =>
      Option.bind (F_yarn_calc_set_s1 r7 r23.1 r23.2) fun r25 =>
      some (r25.a.Num, r25.a.Den, r25.b.Num, r25.b.Den, r25.out.Num, r25.out.Den, r25.e)
    else
      some (r7.a.Num, r7.a.Den, r7.b.Num, r7.b.Den, r7.out.Num, r7.out.Den, r7.e)) fun (o12, o13, o14, o15, o16, o17, o18) =>
  Option.bind (F_yarn_run_1_s0 (yarn_calc.mk (api_Ratio.mk o12 o13) (api_Ratio.mk o14 o15) (api_Ratio.mk o16 o17) o18) (api_Ratio.mk 0 0) 0) fun r28 =>
  some (r28.2.1, r28.2.2)
def c_yarn_run_s0_val (r : (api_Ratio × Int)) (x : Value) : Value := .tuple #[x, .int .i64 r.2]
def c_yarn_run_s0_D (r : (api_Ratio × Int)) (x : Value) : List Fact := [fRep r_api_Ratio x r.1]
set_option maxHeartbeats 4000000 in
set_option maxRecDepth 100000 in
theorem c_yarn_run_s0 (E : Nat → Prop) (w0 : World) (p0 : api_Ratio) (v0 : Value) (p1 : api_Ratio) (v1 : Value) (r : (api_Ratio × Int)) (h : F_yarn_run_s0 p0 p1 = some r) (S : St0 E [] w0 w0 [] [fRep r_api_Ratio (v0) p0, fRep r_api_Ratio (v1) p1]) :
    Calls Try.prog 33 #[v0, v1, .func (.func 34) #[] #[]] w0 (Ret (X := Value) E [] w0 (c_yarn_run_s0_val r) (fun _ => []) (c_yarn_run_s0_D r)) := by
  unfold F_yarn_run_s0 at h
  obtain rfl : v0 = .agg #[.int .i64 p0.Num, .int .i64 p0.Den] := S.know (i := 0) (e := fRep r_api_Ratio (v0) p0) (by kernel_rfl)
  obtain rfl : v1 = .agg #[.int .i64 p1.Num, .int .i64 p1.Den] := S.know (i := 1) (e := fRep r_api_Ratio (v1) p1) (by kernel_rfl)
  refine sEnterD (args := [.agg #[.int .i64 p0.Num, .int .i64 p0.Den], .agg #[.int .i64 p1.Num, .int .i64 p1.Den], .func (.func 34) #[] #[]]) 27 Try.func33 rfl rfl (by simp) S (fun a S => ?_)
  refine sSeq (fun K1 hK1 => ?_)
  refine sRegion ?_
  refine sBox (v := .agg #[.int .i64 p0.Num, .int .i64 p0.Den]) S (wN rfl) rfl (by kernel_rfl) [.int .i64 p0.Num, .int .i64 p0.Den] rfl rfl (by decide) (fun a b2 w S => ?_)
  refine sBox (v := .agg #[.int .i64 p1.Num, .int .i64 p1.Den]) S (wN rfl) rfl (by kernel_rfl) [.int .i64 p1.Num, .int .i64 p1.Den] rfl rfl (by decide) (fun a b3 w S => ?_)
  refine sAlloc (.agg #[.int .i64 0, .int .i64 0]) S (wN rfl) rfl (by kernel_rfl) [.int .i64 0, .int .i64 0] rfl rfl (by decide) (fun a b4 w S => ?_)
  refine sAlloc (.int .i64 0) S (wN rfl) rfl (by kernel_rfl) [.int .i64 0] rfl rfl (by decide) (fun a b5 w S => ?_)
  refine leafL (leafT (hK1 _ _ ?_))
  refine sSeq (fun K6 hK6 => ?_)
  refine sRegion ?_
  refine sLoadN (p := b2) (off := 0) (T := 23) (vs := [.int .i64 p0.Num, .int .i64 p0.Den]) 3 [.int .i64 p0.Num, .int .i64 p0.Den] S (wN rfl) rfl (by kernel_rfl) (by kernel_rfl) (by kernel_rfl) (by kernel_rfl) rfl rfl (by decide) (fun a S => ?_)
  refine sLoadN (p := b3) (off := 0) (T := 23) (vs := [.int .i64 p1.Num, .int .i64 p1.Den]) 2 [.int .i64 p1.Num, .int .i64 p1.Den] S (wN rfl) rfl (by kernel_rfl) (by kernel_rfl) (by kernel_rfl) (by kernel_rfl) rfl rfl (by decide) (fun a S => ?_)
  obtain ⟨r7, hx8, h⟩ := bindSome h
  refine sCall (X := Value) (f := 43) (vs := [.agg #[.int .i64 p0.Num, .int .i64 p0.Den], .agg #[.int .i64 p1.Num, .int .i64 p1.Den]]) (val := c_yarn_with_val r7) (B' := fun _ => []) (D' := c_yarn_with_D r7) [] [eBox b5 24 [.int .i64 0], eBox b4 23 [.int .i64 0, .int .i64 0], eBox b3 23 [.int .i64 p1.Num, .int .i64 p1.Den], eBox b2 23 [.int .i64 p0.Num, .int .i64 p0.Den]] [fRep r_api_Ratio (.agg #[.int .i64 p0.Num, .int .i64 p0.Den]) p0, fRep r_api_Ratio (.agg #[.int .i64 p1.Num, .int .i64 p1.Den]) p1] [0, 1, 2, 3] [0, 1] S (wN rfl) rfl callee43 (by kernel_rfl) (by decide) (by kernel_rfl) (by kernel_rfl) (fun E1 w1 S1 => c_yarn_with E1 w1 p0 (.agg #[.int .i64 p0.Num, .int .i64 p0.Den]) p1 (.agg #[.int .i64 p1.Num, .int .i64 p1.Den]) r7 hx8 S1) rfl (by decide) (fun u9 a w S => ?_)
  obtain rfl : u9 = .agg #[.int .i64 r7.a.Num, .int .i64 r7.a.Den, .int .i64 r7.b.Num, .int .i64 r7.b.Den, .int .i64 r7.out.Num, .int .i64 r7.out.Den, .int .i64 r7.e] := S.mem.know (i := 0) (e := fRep r_yarn_calc (u9) r7) (by kernel_rfl)
  refine sAlloc (.agg #[.int .i64 0, .int .i64 0, .int .i64 0, .int .i64 0, .int .i64 0, .int .i64 0, .int .i64 0]) S (wN rfl) rfl (by kernel_rfl) [.int .i64 0, .int .i64 0, .int .i64 0, .int .i64 0, .int .i64 0, .int .i64 0, .int .i64 0] rfl rfl (by decide) (fun a b10 w S => ?_)
  refine sStore (p := b10) (off := 0) (T := 65) (vs := [.int .i64 0, .int .i64 0, .int .i64 0, .int .i64 0, .int .i64 0, .int .i64 0, .int .i64 0]) (v := .agg #[.int .i64 r7.a.Num, .int .i64 r7.a.Den, .int .i64 r7.b.Num, .int .i64 r7.b.Den, .int .i64 r7.out.Num, .int .i64 r7.out.Den, .int .i64 r7.e]) 0 [.int .i64 r7.a.Num, .int .i64 r7.a.Den, .int .i64 r7.b.Num, .int .i64 r7.b.Den, .int .i64 r7.out.Num, .int .i64 r7.out.Den, .int .i64 r7.e] S (wN rfl) rfl (by kernel_rfl) (by kernel_rfl) rfl (by kernel_rfl) (by kernel_rfl) rfl (by simp) rfl (fun a w S => ?_)
  refine leafL (leafT (hK6 _ _ ?_))
  refine sSeq (fun K11 hK11 => ?_)
  refine sRegion ?_
  refine sFunc (g := 53) (vs := [.pointer (some ⟨b10, 0, none⟩), .pointer (some ⟨b4, 0, none⟩), .pointer (some ⟨b5, 0, none⟩)]) S (wN rfl) rfl (by kernel_rfl) rfl (by decide) (fun a S => ?_)
  refine sDefer (g := 53) (caps := [.pointer (some ⟨b10, 0, none⟩), .pointer (some ⟨b4, 0, none⟩), .pointer (some ⟨b5, 0, none⟩)]) S (wN rfl) rfl (by kernel_rfl) rfl (fun a S => ?_)
  refine leafL (leafT (hK11 _ _ ?_))
  obtain ⟨t19, h, g20⟩ := bindSome h
  refine sCut (fun a w => ∃ o12, ∃ o13, ∃ o14, ∃ o15, ∃ o16, ∃ o17, ∃ o18, (o12, o13, o14, o15, o16, o17, o18) = t19 ∧ St [{ target := .fn (.func 53) #[.pointer (some ⟨b10, 0, none⟩), .pointer (some ⟨b4, 0, none⟩), .pointer (some ⟨b5, 0, none⟩)], args := #[] }] E [] w0 27 a w [(6, .pointer (some ⟨b4, 0, none⟩)), (7, .pointer (some ⟨b5, 0, none⟩))] [eBox b4 23 [.int .i64 0, .int .i64 0], eBox b5 24 [.int .i64 0], eBox b10 65 [.int .i64 o12, .int .i64 o13, .int .i64 o14, .int .i64 o15, .int .i64 o16, .int .i64 o17, .int .i64 o18]] []) ?_ (fun a w hI => ?_)
  · refine sSeq (fun K21 hK21 => ?_)
    refine sRegion ?_
    refine sField (b := b10) (off := 0) 6 6 S (wN rfl) rfl (by kernel_rfl) (by kernel_rfl) rfl rfl (by decide) (fun a S => ?_)
    refine sLoad1 (p := b10) (off := 6) (T := 65) (vs := [.int .i64 r7.a.Num, .int .i64 r7.a.Den, .int .i64 r7.b.Num, .int .i64 r7.b.Den, .int .i64 r7.out.Num, .int .i64 r7.out.Den, .int .i64 r7.e]) 0 (.int .i64 r7.e) S (wN rfl) rfl (by kernel_rfl) (by kernel_rfl) (by kernel_rfl) rfl rfl (by decide) (fun a S => ?_)
    refine sBin (.bool (r7.e == 0)) S (wN rfl) rfl (by kernel_rfl) (by kernel_rfl) (bEq _ _ _ _ .i64 r7.e 0) rfl (by decide) (fun a S => ?_)
    refine leafL (leafT (hK21 _ _ ?_))
    rcases iteSome h with ⟨hc22, h⟩ | ⟨hc22, h⟩
    · refine sCondT (b := r7.e == 0) S (by kernel_rfl) hc22 ?_
      refine sRegion ?_
      refine sMove (.func (.func 34) #[] #[]) S (wN rfl) (.inl rfl) (by kernel_rfl) rfl (by decide) (fun a S => ?_)
      refine sField (b := b10) (off := 0) 0 0 S (wN rfl) rfl (by kernel_rfl) (by kernel_rfl) rfl rfl (by decide) (fun a S => ?_)
      refine sLoadN (p := b10) (off := 0) (T := 65) (vs := [.int .i64 r7.a.Num, .int .i64 r7.a.Den, .int .i64 r7.b.Num, .int .i64 r7.b.Den, .int .i64 r7.out.Num, .int .i64 r7.out.Den, .int .i64 r7.e]) 0 [.int .i64 r7.a.Num, .int .i64 r7.a.Den] S (wN rfl) rfl (by kernel_rfl) (by kernel_rfl) (by kernel_rfl) (by kernel_rfl) rfl rfl (by decide) (fun a S => ?_)
      refine sField (b := b10) (off := 0) 2 2 S (wN rfl) rfl (by kernel_rfl) (by kernel_rfl) rfl rfl (by decide) (fun a S => ?_)
      refine sLoadN (p := b10) (off := 2) (T := 65) (vs := [.int .i64 r7.a.Num, .int .i64 r7.a.Den, .int .i64 r7.b.Num, .int .i64 r7.b.Den, .int .i64 r7.out.Num, .int .i64 r7.out.Den, .int .i64 r7.e]) 0 [.int .i64 r7.b.Num, .int .i64 r7.b.Den] S (wN rfl) rfl (by kernel_rfl) (by kernel_rfl) (by kernel_rfl) (by kernel_rfl) rfl rfl (by decide) (fun a S => ?_)
      obtain ⟨r23, hx24, h⟩ := bindSome h
      have S1 := S.mem
      have S1 := S1.learn (fRep r_api_Ratio (.agg #[.int .i64 r7.a.Num, .int .i64 r7.a.Den]) r7.a) rfl
      have S1 := S1.learn (fRep r_api_Ratio (.agg #[.int .i64 r7.b.Num, .int .i64 r7.b.Den]) r7.b) rfl
      refine sCallVQ (X := Unit) (g := 34) (vs := [.agg #[.int .i64 r7.a.Num, .int .i64 r7.a.Den], .agg #[.int .i64 r7.b.Num, .int .i64 r7.b.Den]]) (caps := []) (val := fun _ => .tuple #[.int .i64 r23.1, .int .i64 r23.2]) S (wN rfl) rfl (by kernel_rfl) callee34 (by kernel_rfl) (S1.quiet [1, 0] (by kernel_rfl)) (fun E1 w1 S1 => c_yarn_Add_1 E1 w1 r7.a (.agg #[.int .i64 r7.a.Num, .int .i64 r7.a.Den]) r7.b (.agg #[.int .i64 r7.b.Num, .int .i64 r7.b.Den]) r23 hx24 S1) rfl (by decide) (fun _ a w S => ?_)
      refine sExtract (vs := [.int .i64 r23.1, .int .i64 r23.2]) (.int .i64 r23.1) S (wN rfl) rfl (by kernel_rfl) rfl rfl (by decide) (fun a S => ?_)
      refine sExtract (vs := [.int .i64 r23.1, .int .i64 r23.2]) (.int .i64 r23.2) S (wN rfl) rfl (by kernel_rfl) rfl rfl (by decide) (fun a S => ?_)
      obtain ⟨r25, hx26, h⟩ := bindSome h
      refine sCall (X := Unit) (f := 54) (vs := [.pointer (some ⟨b10, 0, none⟩), .int .i64 r23.1, .int .i64 r23.2]) (val := fun _ => .tuple #[]) (B' := fun _ => [eBox b10 65 [.int .i64 r25.a.Num, .int .i64 r25.a.Den, .int .i64 r25.b.Num, .int .i64 r25.b.Den, .int .i64 r25.out.Num, .int .i64 r25.out.Den, .int .i64 r25.e]]) (D' := fun _ => []) [eBox b10 65 [.int .i64 r7.a.Num, .int .i64 r7.a.Den, .int .i64 r7.b.Num, .int .i64 r7.b.Den, .int .i64 r7.out.Num, .int .i64 r7.out.Den, .int .i64 r7.e]] [eBox b5 24 [.int .i64 0], eBox b4 23 [.int .i64 0, .int .i64 0], eBox b3 23 [.int .i64 p1.Num, .int .i64 p1.Den], eBox b2 23 [.int .i64 p0.Num, .int .i64 p0.Den]] [] [0, 1, 2, 3, 4] [] S (wN rfl) rfl callee54 (by kernel_rfl) (by decide) (by kernel_rfl) (by kernel_rfl) (fun E1 w1 S1 => c_yarn_calc_set_s1 E1 w1 r7 b10 r23.1 r23.2 r25 hx26 S1) rfl (by decide) (fun _ a w S => ?_)
      exact leafL (leafT (⟨r25.a.Num, r25.a.Den, r25.b.Num, r25.b.Den, r25.out.Num, r25.out.Den, r25.e, Option.some.inj h, S.fix [2, 1, 0] [] (by decide) (by kernel_rfl) (by kernel_rfl) (by kernel_rfl)⟩))
    · refine sCondF (b := r7.e == 0) S (by kernel_rfl) hc22 ?_
      exact wp_skip (leafT (⟨r7.a.Num, r7.a.Den, r7.b.Num, r7.b.Den, r7.out.Num, r7.out.Den, r7.e, Option.some.inj h, S.fix [2, 1, 0] [] (by decide) (by kernel_rfl) (by kernel_rfl) (by kernel_rfl)⟩))
  · obtain ⟨o12, o13, o14, o15, o16, o17, o18, rfl, S⟩ := hI
    have h := g20
    clear g20
    try dsimp only at h
    refine sSeq (fun K27 hK27 => ?_)
    refine sDraw (nf := [2, 3]) (W := [(0, 25, .agg #[.int .i64 0, .int .i64 0]), (1, 26, .int .i64 0)]) (by kernel_rfl) S ?_
    refine node_by (A := [[], [], [0], [0, 1, 2]]) (nf := [2, 3]) (Y := []) (W := [(0, 25, .agg #[.int .i64 0, .int .i64 0]), (1, 26, .int .i64 0)]) 4 (by kernel_rfl) (by kernel_rfl) (by kernel_rfl) (by kernel_rfl) (by kernel_rfl) [0, 1] (by kernel_rfl) (by decide) (by decide) (aF 0 3 (by decide) ?_ (aF 1 2 (by decide) ?_ (aN 2 1 (by decide) ?_ (aB 3 0 2 (by decide) (trivial))))) [] (fun q hq => by cases hq) (fun hY => absurd (hY 2 (by decide)) (by decide))
    · refine fI 25 (.agg #[.int .i64 0, .int .i64 0]) [(6, .pointer (some ⟨b4, 0, none⟩))] 0 [none] rfl rfl (by kernel_rfl) rfl (by kernel_rfl) (by kernel_rfl) fun G a w S => ?_
      refine sLoadN (p := b4) (off := 0) (T := 23) (vs := [.int .i64 0, .int .i64 0]) 0 [.int .i64 0, .int .i64 0] S (wN rfl) rfl (by kernel_rfl) (by kernel_rfl) (by kernel_rfl) (by kernel_rfl) rfl rfl (by decide) (fun a S => ?_)
      exact leafL ⟨rfl, S⟩
    · refine fI 26 (.int .i64 0) [(7, .pointer (some ⟨b5, 0, none⟩))] 1 [none] rfl rfl (by kernel_rfl) rfl (by kernel_rfl) (by kernel_rfl) fun G a w S => ?_
      refine sLoad1 (p := b5) (off := 0) (T := 24) (vs := [.int .i64 0]) 1 (.int .i64 0) S (wN rfl) rfl (by kernel_rfl) (by kernel_rfl) (by kernel_rfl) rfl rfl (by decide) (fun a S => ?_)
      exact leafL ⟨rfl, S⟩
    · refine ⟨_, [(6, .pointer (some ⟨b4, 0, none⟩)), (25, .agg #[.int .i64 0, .int .i64 0])], rfl, (srcs_of [none, some 0] rfl (by kernel_rfl) (by kernel_rfl)), fun G a w S => ?_⟩
      refine sStore (p := b4) (off := 0) (T := 23) (vs := [.int .i64 0, .int .i64 0]) (v := .agg #[.int .i64 0, .int .i64 0]) 0 [.int .i64 0, .int .i64 0] S (wN rfl) rfl (by kernel_rfl) (by kernel_rfl) rfl (by kernel_rfl) (by kernel_rfl) rfl (by simp) rfl (fun a w S => ?_)
      refine leafL ⟨rfl, _, _, .inr ⟨[], rfl, S, hz_of (by kernel_rfl), ?_⟩⟩
      refine node_by (A := [[], [], [0], [0, 1, 2]]) (nf := [2, 3]) (Y := [2]) 4 (by kernel_rfl) (by kernel_rfl) (by kernel_rfl) (by kernel_rfl) (by kernel_rfl) [0, 1] (by kernel_rfl) (by decide) (by decide) (aD 0 3 2 (by decide) (aF 1 2 (by decide) ?_ (aY 2 1 (by decide) (aN 3 0 (by decide) ?_ (trivial))))) [] (fun q hq => by cases hq) (fun hY => absurd (hY 3 (by decide)) (by decide))
      · refine fI 26 (.int .i64 0) [(7, .pointer (some ⟨b5, 0, none⟩))] 1 [none] rfl rfl (by kernel_rfl) rfl (by kernel_rfl) (by kernel_rfl) fun G a w S => ?_
        refine sLoad1 (p := b5) (off := 0) (T := 24) (vs := [.int .i64 0]) 1 (.int .i64 0) S (wN rfl) rfl (by kernel_rfl) (by kernel_rfl) (by kernel_rfl) rfl rfl (by decide) (fun a S => ?_)
        exact leafL ⟨rfl, S⟩
      · refine ⟨_, [(7, .pointer (some ⟨b5, 0, none⟩)), (26, .int .i64 0)], rfl, (srcs_of [none, some 1] rfl (by kernel_rfl) (by kernel_rfl)), fun G a w S => ?_⟩
        refine sStore (p := b5) (off := 0) (T := 24) (vs := [.int .i64 0]) (v := .int .i64 0) 1 [.int .i64 0] S (wN rfl) rfl (by kernel_rfl) (by kernel_rfl) rfl (by kernel_rfl) (by kernel_rfl) rfl (by simp) rfl (fun a w S => ?_)
        refine leafL ⟨rfl, _, _, .inr ⟨[], rfl, S, hz_of (by kernel_rfl), ?_⟩⟩
        refine node_by (A := [[], [], [0], [0, 1, 2]]) (nf := [2, 3]) (Y := [3, 2]) 4 (by kernel_rfl) (by kernel_rfl) (by kernel_rfl) (by kernel_rfl) (by kernel_rfl) [0, 1] (by kernel_rfl) (by decide) (by decide) (aD 0 3 3 (by decide) (aD 1 2 3 (by decide) (aY 2 1 (by decide) (aY 3 0 (by decide) (trivial))))) [(6, .pointer (some ⟨b4, 0, none⟩)), (7, .pointer (some ⟨b5, 0, none⟩))] (fin_of [none, none] rfl (by kernel_rfl) (by kernel_rfl)) (fun _ a w S => ?_)
        · refine leafT (hK27 _ _ ?_)
          obtain ⟨r28, hx29, h⟩ := bindSome h
          refine wp_ret (sLeave (X := Unit) (val := fun _ => .tuple #[]) (B' := fun _ => [eBox b10 65 [.int .i64 r28.1.a.Num, .int .i64 r28.1.a.Den, .int .i64 r28.1.b.Num, .int .i64 r28.1.b.Den, .int .i64 r28.1.out.Num, .int .i64 r28.1.out.Den, .int .i64 r28.1.e], eBox b4 23 [.int .i64 r28.2.1.Num, .int .i64 r28.2.1.Den], eBox b5 24 [.int .i64 r28.2.2]]) (D' := fun _ => []) [eBox b10 65 [.int .i64 o12, .int .i64 o13, .int .i64 o14, .int .i64 o15, .int .i64 o16, .int .i64 o17, .int .i64 o18], eBox b4 23 [.int .i64 0, .int .i64 0], eBox b5 24 [.int .i64 0]] [] [] [2, 1, 0] [] S callee53 (by decide) (by kernel_rfl) rfl (fun E1 w1 S1 => d_yarn_run_1_s0 E1 w1 (yarn_calc.mk (api_Ratio.mk o12 o13) (api_Ratio.mk o14 o15) (api_Ratio.mk o16 o17) o18) b10 (api_Ratio.mk 0 0) b4 0 b5 r28 hx29 S1) (fun _ a w S => ?_))
          obtain rfl := Option.some.inj h
          have S := S.learn (fRep r_api_Ratio (.agg #[.int .i64 r28.2.1.Num, .int .i64 r28.2.1.Den]) r28.2.1) rfl
          exact sFin (.tuple #[.agg #[.int .i64 r28.2.1.Num, .int .i64 r28.2.1.Den], .int .i64 r28.2.2]) S (rsl2 rfl (rvN (c := 6) (t := 23) (T := 23) (p := b4) 1 [.int .i64 r28.2.1.Num, .int .i64 r28.2.1.Den] S (by kernel_rfl) (by kernel_rfl) (by kernel_rfl) (by kernel_rfl)) (rv1 (c := 7) (t := 24) (T := 24) (p := b5) 2 (.int .i64 r28.2.2) S (by kernel_rfl) (by kernel_rfl) (by kernel_rfl))) ⟨(.agg #[.int .i64 r28.2.1.Num, .int .i64 r28.2.1.Den]), rfl, S.mem.sel [] [0] (by decide) (by kernel_rfl) (by kernel_rfl)⟩

end Go.Proofs.Ytdfjcpnflmgdoaa
namespace Go.Proofs.Ytdfjcpnflmgdoaa
open Go.RowKit
set_option linter.unusedVariables false

noncomputable def F_yarn_Add (p0 : api_Ratio) (p1 : api_Ratio) : Option (api_Ratio × Int) :=
  Option.bind (F_yarn_run_s0 p0 p1) fun r6 =>
  some (r6.1, r6.2)
def c_yarn_Add_val (r : (api_Ratio × Int)) (x : Value) : Value := .tuple #[x, .int .i64 r.2]
def c_yarn_Add_D (r : (api_Ratio × Int)) (x : Value) : List Fact := [fRep r_api_Ratio x r.1]
set_option maxHeartbeats 4000000 in
set_option maxRecDepth 100000 in
theorem c_yarn_Add (E : Nat → Prop) (w0 : World) (p0 : api_Ratio) (v0 : Value) (p1 : api_Ratio) (v1 : Value) (r : (api_Ratio × Int)) (h : F_yarn_Add p0 p1 = some r) (S : St0 E [] w0 w0 [] [fRep r_api_Ratio (v0) p0, fRep r_api_Ratio (v1) p1]) :
    Calls Try.prog 6 #[v0, v1] w0 (Ret (X := Value) E [] w0 (c_yarn_Add_val r) (fun _ => []) (c_yarn_Add_D r)) := by
  unfold F_yarn_Add at h
  obtain rfl : v0 = .agg #[.int .i64 p0.Num, .int .i64 p0.Den] := S.know (i := 0) (e := fRep r_api_Ratio (v0) p0) (by kernel_rfl)
  obtain rfl : v1 = .agg #[.int .i64 p1.Num, .int .i64 p1.Den] := S.know (i := 1) (e := fRep r_api_Ratio (v1) p1) (by kernel_rfl)
  refine sEnter (args := [.agg #[.int .i64 p0.Num, .int .i64 p0.Den], .agg #[.int .i64 p1.Num, .int .i64 p1.Den]]) 11 Try.func6 rfl rfl (by simp) S (fun a S => ?_)
  refine sSeq (fun K1 hK1 => ?_)
  refine sRegion ?_
  refine sBox (v := .agg #[.int .i64 p0.Num, .int .i64 p0.Den]) S (wN rfl) rfl (by kernel_rfl) [.int .i64 p0.Num, .int .i64 p0.Den] rfl rfl (by decide) (fun a b2 w S => ?_)
  refine sBox (v := .agg #[.int .i64 p1.Num, .int .i64 p1.Den]) S (wN rfl) rfl (by kernel_rfl) [.int .i64 p1.Num, .int .i64 p1.Den] rfl rfl (by decide) (fun a b3 w S => ?_)
  refine sAlloc (.agg #[.int .i64 0, .int .i64 0]) S (wN rfl) rfl (by kernel_rfl) [.int .i64 0, .int .i64 0] rfl rfl (by decide) (fun a b4 w S => ?_)
  refine sMove (.int .i64 0) S (wN rfl) (.inr rfl) (by kernel_rfl) rfl (by decide) (fun a S => ?_)
  refine leafL (leafT (hK1 _ _ ?_))
  refine sSeq (fun K5 hK5 => ?_)
  refine sRegion ?_
  refine sLoadN (p := b2) (off := 0) (T := 23) (vs := [.int .i64 p0.Num, .int .i64 p0.Den]) 2 [.int .i64 p0.Num, .int .i64 p0.Den] S (wN rfl) rfl (by kernel_rfl) (by kernel_rfl) (by kernel_rfl) (by kernel_rfl) rfl rfl (by decide) (fun a S => ?_)
  refine sLoadN (p := b3) (off := 0) (T := 23) (vs := [.int .i64 p1.Num, .int .i64 p1.Den]) 1 [.int .i64 p1.Num, .int .i64 p1.Den] S (wN rfl) rfl (by kernel_rfl) (by kernel_rfl) (by kernel_rfl) (by kernel_rfl) rfl rfl (by decide) (fun a S => ?_)
  obtain ⟨r6, hx7, h⟩ := bindSome h
  refine sCall (X := Value) (f := 33) (vs := [.agg #[.int .i64 p0.Num, .int .i64 p0.Den], .agg #[.int .i64 p1.Num, .int .i64 p1.Den], .func (.func 34) #[] #[]]) (val := c_yarn_run_s0_val r6) (B' := fun _ => []) (D' := c_yarn_run_s0_D r6) [] [eBox b4 23 [.int .i64 0, .int .i64 0], eBox b3 23 [.int .i64 p1.Num, .int .i64 p1.Den], eBox b2 23 [.int .i64 p0.Num, .int .i64 p0.Den]] [fRep r_api_Ratio (.agg #[.int .i64 p0.Num, .int .i64 p0.Den]) p0, fRep r_api_Ratio (.agg #[.int .i64 p1.Num, .int .i64 p1.Den]) p1] [0, 1, 2] [0, 1] S (wN rfl) rfl callee33 (by kernel_rfl) (by decide) (by kernel_rfl) (by kernel_rfl) (fun E1 w1 S1 => c_yarn_run_s0 E1 w1 p0 (.agg #[.int .i64 p0.Num, .int .i64 p0.Den]) p1 (.agg #[.int .i64 p1.Num, .int .i64 p1.Den]) r6 hx7 S1) rfl (by decide) (fun u8 a w S => ?_)
  obtain rfl : u8 = .agg #[.int .i64 r6.1.Num, .int .i64 r6.1.Den] := S.mem.know (i := 0) (e := fRep r_api_Ratio (u8) r6.1) (by kernel_rfl)
  refine sExtract (vs := [.agg #[.int .i64 r6.1.Num, .int .i64 r6.1.Den], .int .i64 r6.2]) (.agg #[.int .i64 r6.1.Num, .int .i64 r6.1.Den]) S (wN rfl) rfl (by kernel_rfl) rfl rfl (by decide) (fun a S => ?_)
  refine sExtract (vs := [.agg #[.int .i64 r6.1.Num, .int .i64 r6.1.Den], .int .i64 r6.2]) (.int .i64 r6.2) S (wN rfl) rfl (by kernel_rfl) rfl rfl (by decide) (fun a S => ?_)
  refine sStore (p := b4) (off := 0) (T := 23) (vs := [.int .i64 0, .int .i64 0]) (v := .agg #[.int .i64 r6.1.Num, .int .i64 r6.1.Den]) 0 [.int .i64 r6.1.Num, .int .i64 r6.1.Den] S (wN rfl) rfl (by kernel_rfl) (by kernel_rfl) rfl (by kernel_rfl) (by kernel_rfl) rfl (by simp) rfl (fun a w S => ?_)
  refine sMove (.int .i64 r6.2) S (wN rfl) (.inr rfl) (by kernel_rfl) rfl (by decide) (fun a S => ?_)
  refine leafL (leafT (hK5 _ _ ?_))
  obtain rfl := Option.some.inj h
  exact wp_ret (sRet (.tuple #[.agg #[.int .i64 r6.1.Num, .int .i64 r6.1.Den], .int .i64 r6.2]) S (rsl2 rfl (rvN (c := 4) (t := 23) (T := 23) (p := b4) 0 [.int .i64 r6.1.Num, .int .i64 r6.1.Den] S (by kernel_rfl) (by kernel_rfl) (by kernel_rfl) (by kernel_rfl)) (rvT (t := 5) (v := .int .i64 r6.2) S (by kernel_rfl))) ⟨(.agg #[.int .i64 r6.1.Num, .int .i64 r6.1.Den]), rfl, S.mem.sel [] [0] (by decide) (by kernel_rfl) (by kernel_rfl)⟩)

end Go.Proofs.Ytdfjcpnflmgdoaa
namespace Go.Proofs.Ytdfjcpnflmgdoaa
open Go.RowKit
set_option linter.unusedVariables false

noncomputable def F_raddleref23_Both (p0 : api_Ratio) (p1 : api_Ratio) : Option Int :=
  Option.bind (F_raddleref23_Check p0) fun r6 =>
  if r6 != 0 then
    some r6
  else
    Option.bind (F_raddleref23_Check p1) fun r11 =>
    some r11
set_option maxHeartbeats 4000000 in
set_option maxRecDepth 100000 in
theorem c_raddleref23_Both (E : Nat → Prop) (w0 : World) (p0 : api_Ratio) (v0 : Value) (p1 : api_Ratio) (v1 : Value) (r : Int) (h : F_raddleref23_Both p0 p1 = some r) (S : St0 E [] w0 w0 [] [fRep r_api_Ratio (v0) p0, fRep r_api_Ratio (v1) p1]) :
    Calls Try.prog 35 #[v0, v1] w0 (Ret (X := Unit) E [] w0 (fun _ => .int .i64 r) (fun _ => []) (fun _ => [])) := by
  unfold F_raddleref23_Both at h
  obtain rfl : v0 = .agg #[.int .i64 p0.Num, .int .i64 p0.Den] := S.know (i := 0) (e := fRep r_api_Ratio (v0) p0) (by kernel_rfl)
  obtain rfl : v1 = .agg #[.int .i64 p1.Num, .int .i64 p1.Den] := S.know (i := 1) (e := fRep r_api_Ratio (v1) p1) (by kernel_rfl)
  refine sEnter (args := [.agg #[.int .i64 p0.Num, .int .i64 p0.Den], .agg #[.int .i64 p1.Num, .int .i64 p1.Den]]) 12 Try.func35 rfl rfl (by simp) S (fun a S => ?_)
  refine sSeq (fun K1 hK1 => ?_)
  refine sRegion ?_
  refine sBox (v := .agg #[.int .i64 p0.Num, .int .i64 p0.Den]) S (wN rfl) rfl (by kernel_rfl) [.int .i64 p0.Num, .int .i64 p0.Den] rfl rfl (by decide) (fun a b2 w S => ?_)
  refine sBox (v := .agg #[.int .i64 p1.Num, .int .i64 p1.Den]) S (wN rfl) rfl (by kernel_rfl) [.int .i64 p1.Num, .int .i64 p1.Den] rfl rfl (by decide) (fun a b3 w S => ?_)
  refine sMove (.int .i64 0) S (wN rfl) (.inr rfl) (by kernel_rfl) rfl (by decide) (fun a S => ?_)
  refine leafL (leafT (hK1 _ _ ?_))
  refine sSeq (fun K4 hK4 => ?_)
  refine sSeq (fun K5 hK5 => ?_)
  refine sRegion ?_
  refine sLoadN (p := b2) (off := 0) (T := 23) (vs := [.int .i64 p0.Num, .int .i64 p0.Den]) 1 [.int .i64 p0.Num, .int .i64 p0.Den] S (wN rfl) rfl (by kernel_rfl) (by kernel_rfl) (by kernel_rfl) (by kernel_rfl) rfl rfl (by decide) (fun a S => ?_)
  obtain ⟨r6, hx7, h⟩ := bindSome h
  have S1 := S.mem
  refine sCallQ (X := Unit) (f := 9) (vs := [.agg #[.int .i64 p0.Num, .int .i64 p0.Den]]) (val := fun _ => .int .i64 r6) S (wN rfl) rfl callee9 (by kernel_rfl) (S1.quiet [0] (by kernel_rfl)) (fun E1 w1 S1 => c_raddleref23_Check E1 w1 p0 (.agg #[.int .i64 p0.Num, .int .i64 p0.Den]) r6 hx7 S1) rfl (by decide) (fun _ a w S => ?_)
  refine sBin (.bool (r6 != 0)) S (wN rfl) rfl (by kernel_rfl) (by kernel_rfl) (bNe _ _ _ _ .i64 r6 0) rfl (by decide) (fun a S => ?_)
  refine leafL (leafT (hK5 _ _ ?_))
  rcases iteSome h with ⟨hc8, h⟩ | ⟨hc8, h⟩
  · refine sCondT (b := r6 != 0) S (by kernel_rfl) hc8 ?_
    refine sSeq (fun K9 hK9 => ?_)
    refine sRegion ?_
    refine sLoadN (p := b2) (off := 0) (T := 23) (vs := [.int .i64 p0.Num, .int .i64 p0.Den]) 1 [.int .i64 p0.Num, .int .i64 p0.Den] S (wN rfl) rfl (by kernel_rfl) (by kernel_rfl) (by kernel_rfl) (by kernel_rfl) rfl rfl (by decide) (fun a S => ?_)
    have S1 := S.mem
    refine sCallQ (X := Unit) (f := 9) (vs := [.agg #[.int .i64 p0.Num, .int .i64 p0.Den]]) (val := fun _ => .int .i64 r6) S (wN rfl) rfl callee9 (by kernel_rfl) (S1.quiet [0] (by kernel_rfl)) (fun E1 w1 S1 => c_raddleref23_Check E1 w1 p0 (.agg #[.int .i64 p0.Num, .int .i64 p0.Den]) r6 hx7 S1) rfl (by decide) (fun _ a w S => ?_)
    refine sMove (.int .i64 r6) S (wN rfl) (.inr rfl) (by kernel_rfl) rfl (by decide) (fun a S => ?_)
    refine leafL (leafT (hK9 _ _ ?_))
    obtain rfl := Option.some.inj h
    exact wp_ret (rThen (sRet (.int .i64 r6) S (rsl1 rfl (rvT (t := 4) (v := .int .i64 r6) S (by kernel_rfl))) ⟨(), rfl, S.mem.sel [] [] (by decide) (by kernel_rfl) (by kernel_rfl)⟩))
  · refine sCondF (b := r6 != 0) S (by kernel_rfl) hc8 ?_
    refine wp_skip (leafT (hK4 _ _ ?_))
    refine sSeq (fun K10 hK10 => ?_)
    refine sRegion ?_
    refine sLoadN (p := b3) (off := 0) (T := 23) (vs := [.int .i64 p1.Num, .int .i64 p1.Den]) 0 [.int .i64 p1.Num, .int .i64 p1.Den] S (wN rfl) rfl (by kernel_rfl) (by kernel_rfl) (by kernel_rfl) (by kernel_rfl) rfl rfl (by decide) (fun a S => ?_)
    obtain ⟨r11, hx12, h⟩ := bindSome h
    have S1 := S.mem
    refine sCallQ (X := Unit) (f := 9) (vs := [.agg #[.int .i64 p1.Num, .int .i64 p1.Den]]) (val := fun _ => .int .i64 r11) S (wN rfl) rfl callee9 (by kernel_rfl) (S1.quiet [1] (by kernel_rfl)) (fun E1 w1 S1 => c_raddleref23_Check E1 w1 p1 (.agg #[.int .i64 p1.Num, .int .i64 p1.Den]) r11 hx12 S1) rfl (by decide) (fun _ a w S => ?_)
    refine sMove (.int .i64 r11) S (wN rfl) (.inr rfl) (by kernel_rfl) rfl (by decide) (fun a S => ?_)
    refine leafL (leafT (hK10 _ _ ?_))
    obtain rfl := Option.some.inj h
    exact wp_ret (sRet (.int .i64 r11) S (rsl1 rfl (rvT (t := 4) (v := .int .i64 r11) S (by kernel_rfl))) ⟨(), rfl, S.mem.sel [] [] (by decide) (by kernel_rfl) (by kernel_rfl)⟩)

end Go.Proofs.Ytdfjcpnflmgdoaa
namespace Go.Proofs.Ytdfjcpnflmgdoaa
open Go.RowKit
set_option linter.unusedVariables false

noncomputable def F_raddleref23_Add (p0 : api_Ratio) (p1 : api_Ratio) : Option (api_Ratio × Int) :=
  Option.bind (F_raddleref23_Both p0 p1) fun r7 =>
  if r7 != 0 then
    some ((api_Ratio.mk 0 0), r7)
  else
    Option.bind (F_raddleref23_Make (w64 ((w64 (p0.Num * p1.Den)) + (w64 (p1.Num * p0.Den)))) (w64 (p0.Den * p1.Den))) fun r12 =>
    some (r12.1, r12.2)
def c_raddleref23_Add_val (r : (api_Ratio × Int)) (x : Value) : Value := .tuple #[x, .int .i64 r.2]
def c_raddleref23_Add_D (r : (api_Ratio × Int)) (x : Value) : List Fact := [fRep r_api_Ratio x r.1]
set_option maxHeartbeats 4000000 in
set_option maxRecDepth 100000 in
theorem c_raddleref23_Add (E : Nat → Prop) (w0 : World) (p0 : api_Ratio) (v0 : Value) (p1 : api_Ratio) (v1 : Value) (r : (api_Ratio × Int)) (h : F_raddleref23_Add p0 p1 = some r) (S : St0 E [] w0 w0 [] [fRep r_api_Ratio (v0) p0, fRep r_api_Ratio (v1) p1]) :
    Calls Try.prog 7 #[v0, v1] w0 (Ret (X := Value) E [] w0 (c_raddleref23_Add_val r) (fun _ => []) (c_raddleref23_Add_D r)) := by
  unfold F_raddleref23_Add at h
  obtain rfl : v0 = .agg #[.int .i64 p0.Num, .int .i64 p0.Den] := S.know (i := 0) (e := fRep r_api_Ratio (v0) p0) (by kernel_rfl)
  obtain rfl : v1 = .agg #[.int .i64 p1.Num, .int .i64 p1.Den] := S.know (i := 1) (e := fRep r_api_Ratio (v1) p1) (by kernel_rfl)
  refine sEnter (args := [.agg #[.int .i64 p0.Num, .int .i64 p0.Den], .agg #[.int .i64 p1.Num, .int .i64 p1.Den]]) 33 Try.func7 rfl rfl (by simp) S (fun a S => ?_)
  refine sSeq (fun K1 hK1 => ?_)
  refine sRegion ?_
  refine sBox (v := .agg #[.int .i64 p0.Num, .int .i64 p0.Den]) S (wN rfl) rfl (by kernel_rfl) [.int .i64 p0.Num, .int .i64 p0.Den] rfl rfl (by decide) (fun a b2 w S => ?_)
  refine sBox (v := .agg #[.int .i64 p1.Num, .int .i64 p1.Den]) S (wN rfl) rfl (by kernel_rfl) [.int .i64 p1.Num, .int .i64 p1.Den] rfl rfl (by decide) (fun a b3 w S => ?_)
  refine sAlloc (.agg #[.int .i64 0, .int .i64 0]) S (wN rfl) rfl (by kernel_rfl) [.int .i64 0, .int .i64 0] rfl rfl (by decide) (fun a b4 w S => ?_)
  refine sMove (.int .i64 0) S (wN rfl) (.inr rfl) (by kernel_rfl) rfl (by decide) (fun a S => ?_)
  refine leafL (leafT (hK1 _ _ ?_))
  refine sSeq (fun K5 hK5 => ?_)
  refine sSeq (fun K6 hK6 => ?_)
  refine sRegion ?_
  refine sLoadN (p := b2) (off := 0) (T := 23) (vs := [.int .i64 p0.Num, .int .i64 p0.Den]) 2 [.int .i64 p0.Num, .int .i64 p0.Den] S (wN rfl) rfl (by kernel_rfl) (by kernel_rfl) (by kernel_rfl) (by kernel_rfl) rfl rfl (by decide) (fun a S => ?_)
  refine sLoadN (p := b3) (off := 0) (T := 23) (vs := [.int .i64 p1.Num, .int .i64 p1.Den]) 1 [.int .i64 p1.Num, .int .i64 p1.Den] S (wN rfl) rfl (by kernel_rfl) (by kernel_rfl) (by kernel_rfl) (by kernel_rfl) rfl rfl (by decide) (fun a S => ?_)
  obtain ⟨r7, hx8, h⟩ := bindSome h
  have S1 := S.mem
  refine sCallQ (X := Unit) (f := 35) (vs := [.agg #[.int .i64 p0.Num, .int .i64 p0.Den], .agg #[.int .i64 p1.Num, .int .i64 p1.Den]]) (val := fun _ => .int .i64 r7) S (wN rfl) rfl callee35 (by kernel_rfl) (S1.quiet [0, 1] (by kernel_rfl)) (fun E1 w1 S1 => c_raddleref23_Both E1 w1 p0 (.agg #[.int .i64 p0.Num, .int .i64 p0.Den]) p1 (.agg #[.int .i64 p1.Num, .int .i64 p1.Den]) r7 hx8 S1) rfl (by decide) (fun _ a w S => ?_)
  refine sBin (.bool (r7 != 0)) S (wN rfl) rfl (by kernel_rfl) (by kernel_rfl) (bNe _ _ _ _ .i64 r7 0) rfl (by decide) (fun a S => ?_)
  refine leafL (leafT (hK6 _ _ ?_))
  rcases iteSome h with ⟨hc9, h⟩ | ⟨hc9, h⟩
  · refine sCondT (b := r7 != 0) S (by kernel_rfl) hc9 ?_
    refine sSeq (fun K10 hK10 => ?_)
    refine sRegion ?_
    refine sBuild [] [.int .i64 0, .int .i64 0] S (wN rfl) rfl (by kernel_rfl) (by kernel_rfl) rfl (by decide) (fun a S => ?_)
    refine sLoadN (p := b2) (off := 0) (T := 23) (vs := [.int .i64 p0.Num, .int .i64 p0.Den]) 2 [.int .i64 p0.Num, .int .i64 p0.Den] S (wN rfl) rfl (by kernel_rfl) (by kernel_rfl) (by kernel_rfl) (by kernel_rfl) rfl rfl (by decide) (fun a S => ?_)
    refine sLoadN (p := b3) (off := 0) (T := 23) (vs := [.int .i64 p1.Num, .int .i64 p1.Den]) 1 [.int .i64 p1.Num, .int .i64 p1.Den] S (wN rfl) rfl (by kernel_rfl) (by kernel_rfl) (by kernel_rfl) (by kernel_rfl) rfl rfl (by decide) (fun a S => ?_)
    have S1 := S.mem
    refine sCallQ (X := Unit) (f := 35) (vs := [.agg #[.int .i64 p0.Num, .int .i64 p0.Den], .agg #[.int .i64 p1.Num, .int .i64 p1.Den]]) (val := fun _ => .int .i64 r7) S (wN rfl) rfl callee35 (by kernel_rfl) (S1.quiet [0, 1] (by kernel_rfl)) (fun E1 w1 S1 => c_raddleref23_Both E1 w1 p0 (.agg #[.int .i64 p0.Num, .int .i64 p0.Den]) p1 (.agg #[.int .i64 p1.Num, .int .i64 p1.Den]) r7 hx8 S1) rfl (by decide) (fun _ a w S => ?_)
    refine sStore (p := b4) (off := 0) (T := 23) (vs := [.int .i64 0, .int .i64 0]) (v := .agg #[.int .i64 0, .int .i64 0]) 0 [.int .i64 0, .int .i64 0] S (wN rfl) rfl (by kernel_rfl) (by kernel_rfl) rfl (by kernel_rfl) (by kernel_rfl) rfl (by simp) rfl (fun a w S => ?_)
    refine sMove (.int .i64 r7) S (wN rfl) (.inr rfl) (by kernel_rfl) rfl (by decide) (fun a S => ?_)
    refine leafL (leafT (hK10 _ _ ?_))
    obtain rfl := Option.some.inj h
    have S := S.learn (fRep r_api_Ratio (.agg #[.int .i64 0, .int .i64 0]) (api_Ratio.mk 0 0)) rfl
    exact wp_ret (rThen (sRet (.tuple #[.agg #[.int .i64 0, .int .i64 0], .int .i64 r7]) S (rsl2 rfl (rvN (c := 4) (t := 23) (T := 23) (p := b4) 0 [.int .i64 0, .int .i64 0] S (by kernel_rfl) (by kernel_rfl) (by kernel_rfl) (by kernel_rfl)) (rvT (t := 5) (v := .int .i64 r7) S (by kernel_rfl))) ⟨(.agg #[.int .i64 0, .int .i64 0]), rfl, S.mem.sel [] [0] (by decide) (by kernel_rfl) (by kernel_rfl)⟩))
  · refine sCondF (b := r7 != 0) S (by kernel_rfl) hc9 ?_
    refine wp_skip (leafT (hK5 _ _ ?_))
    refine sSeq (fun K11 hK11 => ?_)
    refine sRegion ?_
    refine sField (b := b2) (off := 0) 0 0 S (wN rfl) rfl (by kernel_rfl) (by kernel_rfl) rfl rfl (by decide) (fun a S => ?_)
    refine sLoad1 (p := b2) (off := 0) (T := 23) (vs := [.int .i64 p0.Num, .int .i64 p0.Den]) 2 (.int .i64 p0.Num) S (wN rfl) rfl (by kernel_rfl) (by kernel_rfl) (by kernel_rfl) rfl rfl (by decide) (fun a S => ?_)
    refine sField (b := b3) (off := 0) 1 1 S (wN rfl) rfl (by kernel_rfl) (by kernel_rfl) rfl rfl (by decide) (fun a S => ?_)
    refine sLoad1 (p := b3) (off := 1) (T := 23) (vs := [.int .i64 p1.Num, .int .i64 p1.Den]) 1 (.int .i64 p1.Den) S (wN rfl) rfl (by kernel_rfl) (by kernel_rfl) (by kernel_rfl) rfl rfl (by decide) (fun a S => ?_)
    refine sBin (.int .i64 (w64 (p0.Num * p1.Den))) S (wN rfl) rfl (by kernel_rfl) (by kernel_rfl) (bMul _ _ _ _ p0.Num p1.Den) rfl (by decide) (fun a S => ?_)
    refine sField (b := b3) (off := 0) 0 0 S (wN rfl) rfl (by kernel_rfl) (by kernel_rfl) rfl rfl (by decide) (fun a S => ?_)
    refine sLoad1 (p := b3) (off := 0) (T := 23) (vs := [.int .i64 p1.Num, .int .i64 p1.Den]) 1 (.int .i64 p1.Num) S (wN rfl) rfl (by kernel_rfl) (by kernel_rfl) (by kernel_rfl) rfl rfl (by decide) (fun a S => ?_)
    refine sField (b := b2) (off := 0) 1 1 S (wN rfl) rfl (by kernel_rfl) (by kernel_rfl) rfl rfl (by decide) (fun a S => ?_)
    refine sLoad1 (p := b2) (off := 1) (T := 23) (vs := [.int .i64 p0.Num, .int .i64 p0.Den]) 2 (.int .i64 p0.Den) S (wN rfl) rfl (by kernel_rfl) (by kernel_rfl) (by kernel_rfl) rfl rfl (by decide) (fun a S => ?_)
    refine sBin (.int .i64 (w64 (p1.Num * p0.Den))) S (wN rfl) rfl (by kernel_rfl) (by kernel_rfl) (bMul _ _ _ _ p1.Num p0.Den) rfl (by decide) (fun a S => ?_)
    refine sBin (.int .i64 (w64 ((w64 (p0.Num * p1.Den)) + (w64 (p1.Num * p0.Den))))) S (wN rfl) rfl (by kernel_rfl) (by kernel_rfl) (bAdd _ _ _ _ (w64 (p0.Num * p1.Den)) (w64 (p1.Num * p0.Den))) rfl (by decide) (fun a S => ?_)
    refine sField (b := b2) (off := 0) 1 1 S (wN rfl) rfl (by kernel_rfl) (by kernel_rfl) rfl rfl (by decide) (fun a S => ?_)
    refine sLoad1 (p := b2) (off := 1) (T := 23) (vs := [.int .i64 p0.Num, .int .i64 p0.Den]) 2 (.int .i64 p0.Den) S (wN rfl) rfl (by kernel_rfl) (by kernel_rfl) (by kernel_rfl) rfl rfl (by decide) (fun a S => ?_)
    refine sField (b := b3) (off := 0) 1 1 S (wN rfl) rfl (by kernel_rfl) (by kernel_rfl) rfl rfl (by decide) (fun a S => ?_)
    refine sLoad1 (p := b3) (off := 1) (T := 23) (vs := [.int .i64 p1.Num, .int .i64 p1.Den]) 1 (.int .i64 p1.Den) S (wN rfl) rfl (by kernel_rfl) (by kernel_rfl) (by kernel_rfl) rfl rfl (by decide) (fun a S => ?_)
    refine sBin (.int .i64 (w64 (p0.Den * p1.Den))) S (wN rfl) rfl (by kernel_rfl) (by kernel_rfl) (bMul _ _ _ _ p0.Den p1.Den) rfl (by decide) (fun a S => ?_)
    obtain ⟨r12, hx13, h⟩ := bindSome h
    refine sCall (X := Value) (f := 36) (vs := [.int .i64 (w64 ((w64 (p0.Num * p1.Den)) + (w64 (p1.Num * p0.Den)))), .int .i64 (w64 (p0.Den * p1.Den))]) (val := c_raddleref23_Make_val r12) (B' := fun _ => []) (D' := c_raddleref23_Make_D r12) [] [eBox b4 23 [.int .i64 0, .int .i64 0], eBox b3 23 [.int .i64 p1.Num, .int .i64 p1.Den], eBox b2 23 [.int .i64 p0.Num, .int .i64 p0.Den]] [] [0, 1, 2] [] S (wN rfl) rfl callee36 (by kernel_rfl) (by decide) (by kernel_rfl) (by kernel_rfl) (fun E1 w1 S1 => c_raddleref23_Make E1 w1 (w64 ((w64 (p0.Num * p1.Den)) + (w64 (p1.Num * p0.Den)))) (w64 (p0.Den * p1.Den)) r12 hx13 S1) rfl (by decide) (fun u14 a w S => ?_)
    obtain rfl : u14 = .agg #[.int .i64 r12.1.Num, .int .i64 r12.1.Den] := S.mem.know (i := 0) (e := fRep r_api_Ratio (u14) r12.1) (by kernel_rfl)
    refine sExtract (vs := [.agg #[.int .i64 r12.1.Num, .int .i64 r12.1.Den], .int .i64 r12.2]) (.agg #[.int .i64 r12.1.Num, .int .i64 r12.1.Den]) S (wN rfl) rfl (by kernel_rfl) rfl rfl (by decide) (fun a S => ?_)
    refine sExtract (vs := [.agg #[.int .i64 r12.1.Num, .int .i64 r12.1.Den], .int .i64 r12.2]) (.int .i64 r12.2) S (wN rfl) rfl (by kernel_rfl) rfl rfl (by decide) (fun a S => ?_)
    refine sStore (p := b4) (off := 0) (T := 23) (vs := [.int .i64 0, .int .i64 0]) (v := .agg #[.int .i64 r12.1.Num, .int .i64 r12.1.Den]) 0 [.int .i64 r12.1.Num, .int .i64 r12.1.Den] S (wN rfl) rfl (by kernel_rfl) (by kernel_rfl) rfl (by kernel_rfl) (by kernel_rfl) rfl (by simp) rfl (fun a w S => ?_)
    refine sMove (.int .i64 r12.2) S (wN rfl) (.inr rfl) (by kernel_rfl) rfl (by decide) (fun a S => ?_)
    refine leafL (leafT (hK11 _ _ ?_))
    obtain rfl := Option.some.inj h
    exact wp_ret (sRet (.tuple #[.agg #[.int .i64 r12.1.Num, .int .i64 r12.1.Den], .int .i64 r12.2]) S (rsl2 rfl (rvN (c := 4) (t := 23) (T := 23) (p := b4) 0 [.int .i64 r12.1.Num, .int .i64 r12.1.Den] S (by kernel_rfl) (by kernel_rfl) (by kernel_rfl) (by kernel_rfl)) (rvT (t := 5) (v := .int .i64 r12.2) S (by kernel_rfl))) ⟨(.agg #[.int .i64 r12.1.Num, .int .i64 r12.1.Den]), rfl, S.mem.sel [] [0] (by decide) (by kernel_rfl) (by kernel_rfl)⟩)

end Go.Proofs.Ytdfjcpnflmgdoaa
namespace Go.Proofs.Ytdfjcpnflmgdoaa
open Go.RowKit
set_option linter.unusedVariables false

def bd (r : api_Ratio) : Prop := (-9223372036854775808 ≤ r.Num ∧ r.Num ≤ 9223372036854775807) ∧ (-9223372036854775808 ≤ r.Den ∧ r.Den ≤ 9223372036854775807)
theorem smk_bd (x y : Int) : bd (smk x y).1 := by
  unfold smk
  by_cases h : y = 0
  · rw [if_pos h]; unfold bd; simp
  · rw [if_neg h]
    rcases mk_cases x.natAbs y.natAbs (by omega) with ⟨a, b, q, e, h1, h2, h3, h4, h5, h6, h7⟩ | e
    · rw [e]
      simp only [if_true]
      refine ⟨?_, ?_⟩
      · dsimp only
        split <;> exact ⟨by omega, by omega⟩
      · dsimp only
        exact ⟨by omega, by omega⟩
    · rw [e]
      simp only [show ¬ (16 : Int) = 0 by omega, if_false]
      unfold bd; simp
theorem or_eq (x y : Int) : F_cmp_Or_api_Errno_ [x, y] = some (if x = 0 then y else x) := by
  have i0 : idxO ([x, y] : List Int) 0 = some x := rfl
  have i1 : idxO ([x, y] : List Int) 1 = some y := rfl
  have w1 : w64 (0 + 1) = 1 := rfl
  have w2 : w64 (1 + 1) = 2 := rfl
  unfold F_cmp_Or_api_Errno_
  by_cases hx : x = 0
  · have s0 : cmp_Or_api_Errno__l1 [x, y] 0 = some (.inl 1) := by
      unfold cmp_Or_api_Errno__l1
      simp only [dT (show (0 : Int) < (([x, y] : List Int).length : Int) by simp), if_true, i0, Option.bind_some, nF hx, Bool.false_eq_true, if_false, w1]
    rw [whileO_step s0, if_pos hx]
    by_cases hy : y = 0
    · have s1 : cmp_Or_api_Errno__l1 [x, y] 1 = some (.inl 2) := by
        unfold cmp_Or_api_Errno__l1
        simp only [dT (show (1 : Int) < (([x, y] : List Int).length : Int) by simp), if_true, i1, Option.bind_some, nF hy, Bool.false_eq_true, if_false, w2]
      have s2 : cmp_Or_api_Errno__l1 [x, y] 2 = some (.inr (.inr ())) := by
        unfold cmp_Or_api_Errno__l1
        simp only [dF (show ¬ (2 : Int) < (([x, y] : List Int).length : Int) by simp), Bool.false_eq_true, if_false]
      rw [whileO_step s1, whileO_done s2, hy]
      rfl
    · have s1 : cmp_Or_api_Errno__l1 [x, y] 1 = some (.inr (.inl y)) := by
        unfold cmp_Or_api_Errno__l1
        simp only [dT (show (1 : Int) < (([x, y] : List Int).length : Int) by simp), if_true, i1, Option.bind_some, nT hy]
      rw [whileO_done s1]
      rfl
  · have s0 : cmp_Or_api_Errno__l1 [x, y] 0 = some (.inr (.inl x)) := by
      unfold cmp_Or_api_Errno__l1
      simp only [dT (show (0 : Int) < (([x, y] : List Int).length : Int) by simp), if_true, i0, Option.bind_some, nT hx]
    rw [whileO_done s0, if_neg hx]
    rfl
/-- the error of two ratios -/
def e2 (a b : api_Ratio) : Int := if okr a then (if okr b then 0 else 8) else 8
theorem with_eq {a b : api_Ratio} (wa : bd a) (wb : bd b) : F_yarn_with a b = some (yarn_calc.mk a b (api_Ratio.mk 0 0) (e2 a b)) ∧ F_raddleref23_Both a b = some (e2 a b) := by
  have a1 := wa.1
  have a2 := wa.2
  have b1 := wb.1
  have b2 := wb.2
  unfold F_yarn_with F_raddleref23_Both e2
  rw [ycheck_any a a1.1 a1.2 a2.2, ycheck_any b b1.1 b1.2 b2.2, rcheck_any a a1.1 a1.2 a2.2, rcheck_any b b1.1 b1.2 b2.2]
  simp only [Option.bind_some, or_eq]
  by_cases ha : okr a
  · rw [if_pos ha, if_pos ha]
    exact ⟨rfl, rfl⟩
  · rw [if_neg ha, if_neg ha]
    exact ⟨rfl, rfl⟩
theorem e2_ok {a b : api_Ratio} (h : e2 a b = 0) : okr a ∧ okr b := by
  unfold e2 at h
  by_cases ha : okr a
  · rw [if_pos ha] at h
    by_cases hb : okr b
    · exact ⟨ha, hb⟩
    · rw [if_neg hb] at h; cases h
  · rw [if_neg ha] at h; cases h
theorem mul_abs {u v : Int} {a b : Nat} (hu : u.natAbs ≤ a) (hv : v.natAbs ≤ b) : (u * v).natAbs ≤ a * b := by
  rw [Int.natAbs_mul]; exact Nat.mul_le_mul hu hv
/-- one calculation, by whatever numbers -/
theorem run_eq {a b : api_Ratio} (wa : bd a) (wb : bd b) {op : api_Ratio → api_Ratio → Option (Int × Int)} {x y : Int} (hop : op a b = some (x, y)) (hx : okr a → okr b → x.natAbs ≤ 9223372036854775807) (hy : okr a → okr b → y.natAbs ≤ 9223372036854775807)
    {R : api_Ratio → api_Ratio → Option (api_Ratio × Int)} {S : api_Ratio → api_Ratio → Option (api_Ratio × Int)}
    (hR : R a b = Option.bind (F_yarn_with a b) fun r7 => Option.bind (α := (Int × Int × Int × Int × Int × Int × Int)) (if (r7.e == 0) = true then Option.bind (op r7.a r7.b) fun r23 => Option.bind (F_yarn_calc_set_s1 r7 r23.1 r23.2) fun r25 => some (r25.a.Num, r25.a.Den, r25.b.Num, r25.b.Den, r25.out.Num, r25.out.Den, r25.e) else some (r7.a.Num, r7.a.Den, r7.b.Num, r7.b.Den, r7.out.Num, r7.out.Den, r7.e)) fun (o12, o13, o14, o15, o16, o17, o18) => Option.bind (F_yarn_run_1_s0 (yarn_calc.mk (api_Ratio.mk o12 o13) (api_Ratio.mk o14 o15) (api_Ratio.mk o16 o17) o18) (api_Ratio.mk 0 0) 0) fun r28 => some (r28.2.1, r28.2.2))
    (hS : S a b = Option.bind (F_raddleref23_Both a b) fun r7 => if (r7 != 0) = true then some ((api_Ratio.mk 0 0), r7) else Option.bind (F_raddleref23_Make x y) fun r12 => some (r12.1, r12.2)) :
    ∃ r, R a b = some r ∧ S a b = some r ∧ bd r.1 := by
  rw [hR, hS, (with_eq wa wb).1, (with_eq wa wb).2]
  by_cases he : e2 a b = 0
  · obtain ⟨oa, ob⟩ := e2_ok he
    simp only [Option.bind_some, bT he, nF he, if_true, Bool.false_eq_true, if_false, hop, F_yarn_calc_set_s1, ymake_any x y (hx oa ob) (hy oa ob), rmake_any x y (hx oa ob) (hy oa ob), F_yarn_run_1_s0]
    exact ⟨_, rfl, rfl, smk_bd x y⟩
  · simp only [Option.bind_some, bF he, nT he, if_true, Bool.false_eq_true, if_false, F_yarn_run_1_s0]
    exact ⟨_, rfl, rfl, by unfold bd; simp⟩
theorem prod_ok {a b : api_Ratio} (ha : okr a) (hb : okr b) : (a.Num * b.Den).natAbs ≤ 1000000000000000000 ∧ (b.Num * a.Den).natAbs ≤ 1000000000000000000 ∧ (a.Den * b.Den).natAbs ≤ 1000000000000000000 ∧ (a.Num * b.Num).natAbs ≤ 1000000000000000000 ∧ (a.Den * b.Num).natAbs ≤ 1000000000000000000 := by
  have a1 := ha.1
  have a2 := ha.2.1
  have a3 := ha.2.2.1
  have b1 := hb.1
  have b2 := hb.2.1
  have b3 := hb.2.2.1
  exact ⟨mul_abs (a := 1000000000) (b := 1000000000) a3 (by omega), mul_abs (a := 1000000000) (b := 1000000000) b3 (by omega), mul_abs (a := 1000000000) (b := 1000000000) (by omega) (by omega), mul_abs (a := 1000000000) (b := 1000000000) a3 b3, mul_abs (a := 1000000000) (b := 1000000000) (by omega) b3⟩
theorem wok {z : Int} (h : z.natAbs ≤ 1000000000000000000) : w64 z = z := w64_of (by omega) (by omega)
theorem add_eq {a b : api_Ratio} (wa : bd a) (wb : bd b) : ∃ r, F_yarn_Add a b = some r ∧ F_raddleref23_Add a b = some r ∧ bd r.1 := by
  obtain ⟨r, r1, r2, r3⟩ := run_eq wa wb (op := F_yarn_Add_1) (R := F_yarn_run_s0) (S := F_raddleref23_Add) rfl
    (fun ha hb => by obtain ⟨h1, h2, h3, h4, h5⟩ := prod_ok ha hb; rw [wok h1, wok h2, w64_of (by omega) (by omega)]; omega)
    (fun ha hb => by obtain ⟨h1, h2, h3, h4, h5⟩ := prod_ok ha hb; rw [wok h3]; omega) rfl rfl
  exact ⟨r, by unfold F_yarn_Add; rw [r1]; rfl, r2, r3⟩

end Go.Proofs.Ytdfjcpnflmgdoaa
namespace Go.Proofs.Ytdfjcpnflmgdoaa
open Go.RowKit
set_option linter.unusedVariables false

noncomputable def F_raddleref23_Great (p0 : (List api_Count)) : Option Bool :=
  some (decide (50 < (p0.length : Int)))
set_option maxHeartbeats 4000000 in
set_option maxRecDepth 100000 in
theorem c_raddleref23_Great (E : Nat → Prop) (w0 : World) (p0 : (List api_Count)) (v0 : Value) (r : Bool) (h : F_raddleref23_Great p0 = some r) (S : St0 E [] w0 w0 [] [fRep (rL r_api_Count) (v0) p0]) :
    Calls Try.prog 22 #[v0] w0 (Ret (X := Unit) E [] w0 (fun _ => .bool r) (fun _ => []) (fun _ => [])) := by
  unfold F_raddleref23_Great at h
  obtain ⟨ad1, cp2, _, rfl, _⟩ := S.know (i := 0) (e := fRep (rL r_api_Count) (v0) p0) (by kernel_rfl)
  refine sEnter (args := [.slice ad1 p0.length cp2]) 6 Try.func22 rfl rfl (by simp) S (fun a S => ?_)
  refine sSeq (fun K3 hK3 => ?_)
  refine sRegion ?_
  refine sMove (.bool false) S (wN rfl) (.inr rfl) (by kernel_rfl) rfl (by decide) (fun a S => ?_)
  refine leafL (leafT (hK3 _ _ ?_))
  refine sSeq (fun K4 hK4 => ?_)
  refine sRegion ?_
  refine sMove (.slice ad1 p0.length cp2) S (wN rfl) (.inl rfl) (by kernel_rfl) rfl (by decide) (fun a S => ?_)
  refine sLen (ad := ad1) (m := p0.length) (c := cp2) S (wN rfl) rfl Try.underlying42 (by kernel_rfl) rfl (by decide) (fun a S => ?_)
  refine sBin (.bool (decide (50 < (p0.length : Int)))) S (wN rfl) rfl (by kernel_rfl) (by kernel_rfl) (bGt _ _ _ _ .i64 (p0.length : Int) 50) rfl (by decide) (fun a S => ?_)
  refine sMove (.bool (decide (50 < (p0.length : Int)))) S (wN rfl) (.inr rfl) (by kernel_rfl) rfl (by decide) (fun a S => ?_)
  refine leafL (leafT (hK4 _ _ ?_))
  obtain rfl := Option.some.inj h
  exact wp_ret (sRet (.bool (decide (50 < (p0.length : Int)))) S (rsl1 rfl (rvT (t := 2) (v := .bool (decide (50 < (p0.length : Int)))) S (by kernel_rfl))) ⟨(), rfl, S.mem.sel [] [] (by decide) (by kernel_rfl) (by kernel_rfl)⟩)

end Go.Proofs.Ytdfjcpnflmgdoaa
