/- Several texts in one: G3 LST LSG G18 G53 G55s0 G54s0 G28 G56s0 G54s1 G29 G57s0 G54s2 G30 G58s0 -/
import Derived.WalkKit
import Derived.Maps.AppendAt
import Derived.Deep.AppendLies
import Derived.KernelRfl
import Derived.Laws.OwnMore
import Derived.Great.BuildSlice
import Derived.Orders
import Derived.Laws.StructEq
import Derived.ChangeKeysEq
import Derived.Test.YtjndecalogklhaaProg
import Derived.ProofKit
import Derived.OpenShut
import Derived.ChangeOld
import Derived.Deep.Slices
import Derived.Lib.SmallJoins
import Derived.JoinedOf
import Derived.JoinedAt
import Derived.Below
import Derived.Test.YtjndecalogklhaaRows
import Derived.Test.YtjndecalogklhaaMSettSame5
namespace Go.Proofs.Ytjndecalogklhaa
open Go.RowKit
set_option linter.unusedVariables false

noncomputable def F_raddlelaw24_SettTurns (p0 : api_Grid) (p1 : Int) : Option Bool :=
  Option.bind (F_raddleref01_Great p0) fun r9 =>
  if r9 then
    some true
  else
    Option.bind (F_raddleref01_Twin p0) fun r14 =>
    Option.bind (F_sett_Turns r14) fun r23 =>
    Option.bind (F_raddleref24_Turns p0) fun r32 =>
    Option.bind (F_sett_Setts r14 p1) fun r41 =>
    Option.bind (F_raddleref24_Setts p0 p1) fun r48 =>
    Option.bind (α := Bool) (
      Option.bind (F_raddleref24_Same r23.1 r32.1) fun r57 =>
      if r57 then
        Option.bind (F_raddleref24_Same r23.2.1 r32.2.1) fun r60 =>
        if r60 then
          if r23.2.2 == r32.2.2 then
            if ((r41.1.Num == r48.1.Num) && ((r41.1.Den == r48.1.Den) && true)) then
              if ((r41.2.1.Num == r48.2.1.Num) && ((r41.2.1.Den == r48.2.1.Den) && true)) then
                if r41.2.2 == r48.2.2 then
                  Option.bind (F_raddleref01_Same r14 p0) fun r67 =>
                  some r67
                else
                  some false
              else
                some false
            else
              some false
          else
            some false
        else
          some false
      else
        some false) fun o54 =>
    some o54
set_option maxHeartbeats 4000000 in
set_option maxRecDepth 100000 in
theorem c_raddlelaw24_SettTurns (E : Nat → Prop) (w0 : World) (p0 : api_Grid) (v0 : Value) (p1 : Int) (r : Bool) (h : F_raddlelaw24_SettTurns p0 p1 = some r) (S : St0 E [] w0 w0 [] [fRep r_api_Grid (v0) p0]) :
    Calls Try.prog 3 #[v0, .int .i64 p1] w0 (Ret (X := Unit) E [] w0 (fun _ => .bool r) (fun _ => []) (fun _ => [])) := by
  unfold F_raddlelaw24_SettTurns at h
  obtain ⟨u1, rfl, hu2⟩ := S.know (i := 0) (e := fRep r_api_Grid (v0) p0) (by kernel_rfl)
  have S := S.learn (fRep (rL rB) u1 p0.Bits) hu2
  obtain ⟨ad3, cp4, _, rfl, _⟩ := hu2
  refine sEnter (args := [.agg #[.int .i64 p0.W, .int .i64 p0.H, .slice ad3 p0.Bits.length cp4], .int .i64 p1]) 81 Try.func3 rfl rfl (by simp) S (fun a S => ?_)
  refine sSeq (fun K5 hK5 => ?_)
  refine sRegion ?_
  refine sBox (v := .agg #[.int .i64 p0.W, .int .i64 p0.H, .slice ad3 p0.Bits.length cp4]) S (wN rfl) rfl (by kernel_rfl) [.int .i64 p0.W, .int .i64 p0.H, .slice ad3 p0.Bits.length cp4] rfl rfl (by decide) (fun a b6 w S => ?_)
  refine sMove (.bool false) S (wN rfl) (.inr rfl) (by kernel_rfl) rfl (by decide) (fun a S => ?_)
  refine leafL (leafT (hK5 _ _ ?_))
  refine sSeq (fun K7 hK7 => ?_)
  refine sSeq (fun K8 hK8 => ?_)
  refine sRegion ?_
  refine sLoadN (p := b6) (off := 0) (T := 24) (vs := [.int .i64 p0.W, .int .i64 p0.H, .slice ad3 p0.Bits.length cp4]) 0 [.int .i64 p0.W, .int .i64 p0.H, .slice ad3 p0.Bits.length cp4] S (wN rfl) rfl (by kernel_rfl) (by kernel_rfl) (by kernel_rfl) (by kernel_rfl) rfl rfl (by decide) (fun a S => ?_)
  obtain ⟨r9, hx10, h⟩ := bindSome h
  have S1 := S.mem
  refine sCallQ (X := Unit) (f := 9) (vs := [.agg #[.int .i64 p0.W, .int .i64 p0.H, .slice ad3 p0.Bits.length cp4]]) (val := fun _ => .bool r9) S (wN rfl) rfl callee9 (by kernel_rfl) (S1.quiet [1] (by kernel_rfl)) (fun E1 w1 S1 => c_raddleref01_Great E1 w1 p0 (.agg #[.int .i64 p0.W, .int .i64 p0.H, .slice ad3 p0.Bits.length cp4]) r9 hx10 S1) rfl (by decide) (fun _ a w S => ?_)
  refine leafL (leafT (hK8 _ _ ?_))
  rcases iteSome h with ⟨hc11, h⟩ | ⟨hc11, h⟩
  · refine sCondT (b := r9) S (by kernel_rfl) hc11 ?_
    refine sSeq (fun K12 hK12 => ?_)
    refine sRegion ?_
    refine sMove (.bool true) S (wN rfl) (.inr rfl) (by kernel_rfl) rfl (by decide) (fun a S => ?_)
    refine leafL (leafT (hK12 _ _ ?_))
    obtain rfl := Option.some.inj h
    exact wp_ret (rThen (sRet (.bool true) S (rsl1 rfl (rvT (t := 4) (v := .bool true) S (by kernel_rfl))) ⟨(), rfl, S.mem.sel [] [] (by decide) (by kernel_rfl) (by kernel_rfl)⟩))
  · refine sCondF (b := r9) S (by kernel_rfl) hc11 ?_
    refine wp_skip (leafT (hK7 _ _ ?_))
    refine sSeq (fun K13 hK13 => ?_)
    refine sRegion ?_
    refine sLoadN (p := b6) (off := 0) (T := 24) (vs := [.int .i64 p0.W, .int .i64 p0.H, .slice ad3 p0.Bits.length cp4]) 0 [.int .i64 p0.W, .int .i64 p0.H, .slice ad3 p0.Bits.length cp4] S (wN rfl) rfl (by kernel_rfl) (by kernel_rfl) (by kernel_rfl) (by kernel_rfl) rfl rfl (by decide) (fun a S => ?_)
    obtain ⟨r14, hx15, h⟩ := bindSome h
    refine sCall (X := Value) (f := 10) (vs := [.agg #[.int .i64 p0.W, .int .i64 p0.H, .slice ad3 p0.Bits.length cp4]]) (val := c_raddleref01_Twin_val r14) (B' := fun _ => []) (D' := c_raddleref01_Twin_D r14) [] [eBox b6 24 [.int .i64 p0.W, .int .i64 p0.H, .slice ad3 p0.Bits.length cp4]] [fRep r_api_Grid (.agg #[.int .i64 p0.W, .int .i64 p0.H, .slice ad3 p0.Bits.length cp4]) p0] [0] [1] S (wN rfl) rfl callee10 (by kernel_rfl) (by decide) (by kernel_rfl) (by kernel_rfl) (fun E1 w1 S1 => c_raddleref01_Twin E1 w1 p0 (.agg #[.int .i64 p0.W, .int .i64 p0.H, .slice ad3 p0.Bits.length cp4]) r14 hx15 S1) rfl (by decide) (fun u16 a w S => ?_)
    obtain ⟨u17, rfl, hu18⟩ := S.mem.know (i := 0) (e := fRep r_api_Grid (u16) r14) (by kernel_rfl)
    have S := S.learn (fRep (rL rB) u17 r14.Bits) hu18
    obtain ⟨ad19, cp20, _, rfl, _⟩ := hu18
    refine sAlloc (.agg #[.int .i64 0, .int .i64 0, .slice none 0 0]) S (wN rfl) rfl (by kernel_rfl) [.int .i64 0, .int .i64 0, .slice none 0 0] rfl rfl (by decide) (fun a b21 w S => ?_)
    refine sStore (p := b21) (off := 0) (T := 24) (vs := [.int .i64 0, .int .i64 0, .slice none 0 0]) (v := .agg #[.int .i64 r14.W, .int .i64 r14.H, .slice ad19 r14.Bits.length cp20]) 0 [.int .i64 r14.W, .int .i64 r14.H, .slice ad19 r14.Bits.length cp20] S (wN rfl) rfl (by kernel_rfl) (by kernel_rfl) rfl (by kernel_rfl) (by kernel_rfl) rfl (by simp) rfl (fun a w S => ?_)
    refine leafL (leafT (hK13 _ _ ?_))
    refine sSeq (fun K22 hK22 => ?_)
    refine sRegion ?_
    refine sLoadN (p := b21) (off := 0) (T := 24) (vs := [.int .i64 r14.W, .int .i64 r14.H, .slice ad19 r14.Bits.length cp20]) 0 [.int .i64 r14.W, .int .i64 r14.H, .slice ad19 r14.Bits.length cp20] S (wN rfl) rfl (by kernel_rfl) (by kernel_rfl) (by kernel_rfl) (by kernel_rfl) rfl rfl (by decide) (fun a S => ?_)
    obtain ⟨r23, hx24, h⟩ := bindSome h
    refine sCall (X := Value × Value) (f := 11) (vs := [.agg #[.int .i64 r14.W, .int .i64 r14.H, .slice ad19 r14.Bits.length cp20]]) (val := c_sett_Turns_val r23) (B' := fun _ => []) (D' := c_sett_Turns_D r23) [] [eBox b21 24 [.int .i64 r14.W, .int .i64 r14.H, .slice ad19 r14.Bits.length cp20], eBox b6 24 [.int .i64 p0.W, .int .i64 p0.H, .slice ad3 p0.Bits.length cp4]] [fRep r_api_Grid (.agg #[.int .i64 r14.W, .int .i64 r14.H, .slice ad19 r14.Bits.length cp20]) r14] [0, 1] [1] S (wN rfl) rfl callee11 (by kernel_rfl) (by decide) (by kernel_rfl) (by kernel_rfl) (fun E1 w1 S1 => c_sett_Turns E1 w1 r14 (.agg #[.int .i64 r14.W, .int .i64 r14.H, .slice ad19 r14.Bits.length cp20]) r23 hx24 S1) rfl (by decide) (fun xx a w S => ?_)
    obtain ⟨u25, u26⟩ := xx
    obtain ⟨ad27, cp28, _, rfl, _⟩ := S.mem.know (i := 0) (e := fRep (rL (rI .i64)) (u25) r23.1) (by kernel_rfl)
    obtain ⟨ad29, cp30, _, rfl, _⟩ := S.mem.know (i := 1) (e := fRep (rL (rI .i64)) (u26) r23.2.1) (by kernel_rfl)
    refine sMove (.tuple #[.slice ad27 r23.1.length cp28, .slice ad29 r23.2.1.length cp30, .int .i64 r23.2.2]) S (wN rfl) (.inl rfl) (by kernel_rfl) rfl (by decide) (fun a S => ?_)
    refine sExtract (vs := [.slice ad27 r23.1.length cp28, .slice ad29 r23.2.1.length cp30, .int .i64 r23.2.2]) (.slice ad27 r23.1.length cp28) S (wN rfl) rfl (by kernel_rfl) rfl rfl (by decide) (fun a S => ?_)
    refine sExtract (vs := [.slice ad27 r23.1.length cp28, .slice ad29 r23.2.1.length cp30, .int .i64 r23.2.2]) (.slice ad29 r23.2.1.length cp30) S (wN rfl) rfl (by kernel_rfl) rfl rfl (by decide) (fun a S => ?_)
    refine sExtract (vs := [.slice ad27 r23.1.length cp28, .slice ad29 r23.2.1.length cp30, .int .i64 r23.2.2]) (.int .i64 r23.2.2) S (wN rfl) rfl (by kernel_rfl) rfl rfl (by decide) (fun a S => ?_)
    refine sMove (.slice ad27 r23.1.length cp28) S (wN rfl) (.inr rfl) (by kernel_rfl) rfl (by decide) (fun a S => ?_)
    refine sMove (.slice ad29 r23.2.1.length cp30) S (wN rfl) (.inr rfl) (by kernel_rfl) rfl (by decide) (fun a S => ?_)
    refine sMove (.int .i64 r23.2.2) S (wN rfl) (.inr rfl) (by kernel_rfl) rfl (by decide) (fun a S => ?_)
    refine leafL (leafT (hK22 _ _ ?_))
    refine sSeq (fun K31 hK31 => ?_)
    refine sRegion ?_
    refine sLoadN (p := b6) (off := 0) (T := 24) (vs := [.int .i64 p0.W, .int .i64 p0.H, .slice ad3 p0.Bits.length cp4]) 1 [.int .i64 p0.W, .int .i64 p0.H, .slice ad3 p0.Bits.length cp4] S (wN rfl) rfl (by kernel_rfl) (by kernel_rfl) (by kernel_rfl) (by kernel_rfl) rfl rfl (by decide) (fun a S => ?_)
    obtain ⟨r32, hx33, h⟩ := bindSome h
    refine sCall (X := Value × Value) (f := 12) (vs := [.agg #[.int .i64 p0.W, .int .i64 p0.H, .slice ad3 p0.Bits.length cp4]]) (val := c_raddleref24_Turns_val r32) (B' := fun _ => []) (D' := c_raddleref24_Turns_D r32) [] [eBox b21 24 [.int .i64 r14.W, .int .i64 r14.H, .slice ad19 r14.Bits.length cp20], eBox b6 24 [.int .i64 p0.W, .int .i64 p0.H, .slice ad3 p0.Bits.length cp4]] [fRep r_api_Grid (.agg #[.int .i64 p0.W, .int .i64 p0.H, .slice ad3 p0.Bits.length cp4]) p0] [0, 1] [5] S (wN rfl) rfl callee12 (by kernel_rfl) (by decide) (by kernel_rfl) (by kernel_rfl) (fun E1 w1 S1 => c_raddleref24_Turns E1 w1 p0 (.agg #[.int .i64 p0.W, .int .i64 p0.H, .slice ad3 p0.Bits.length cp4]) r32 hx33 S1) rfl (by decide) (fun xx a w S => ?_)
    obtain ⟨u34, u35⟩ := xx
    obtain ⟨ad36, cp37, _, rfl, _⟩ := S.mem.know (i := 0) (e := fRep (rL (rI .i64)) (u34) r32.1) (by kernel_rfl)
    obtain ⟨ad38, cp39, _, rfl, _⟩ := S.mem.know (i := 1) (e := fRep (rL (rI .i64)) (u35) r32.2.1) (by kernel_rfl)
    refine sMove (.tuple #[.slice ad36 r32.1.length cp37, .slice ad38 r32.2.1.length cp39, .int .i64 r32.2.2]) S (wN rfl) (.inl rfl) (by kernel_rfl) rfl (by decide) (fun a S => ?_)
    refine sExtract (vs := [.slice ad36 r32.1.length cp37, .slice ad38 r32.2.1.length cp39, .int .i64 r32.2.2]) (.slice ad36 r32.1.length cp37) S (wN rfl) rfl (by kernel_rfl) rfl rfl (by decide) (fun a S => ?_)
    refine sExtract (vs := [.slice ad36 r32.1.length cp37, .slice ad38 r32.2.1.length cp39, .int .i64 r32.2.2]) (.slice ad38 r32.2.1.length cp39) S (wN rfl) rfl (by kernel_rfl) rfl rfl (by decide) (fun a S => ?_)
    refine sExtract (vs := [.slice ad36 r32.1.length cp37, .slice ad38 r32.2.1.length cp39, .int .i64 r32.2.2]) (.int .i64 r32.2.2) S (wN rfl) rfl (by kernel_rfl) rfl rfl (by decide) (fun a S => ?_)
    refine sMove (.slice ad36 r32.1.length cp37) S (wN rfl) (.inr rfl) (by kernel_rfl) rfl (by decide) (fun a S => ?_)
    refine sMove (.slice ad38 r32.2.1.length cp39) S (wN rfl) (.inr rfl) (by kernel_rfl) rfl (by decide) (fun a S => ?_)
    refine sMove (.int .i64 r32.2.2) S (wN rfl) (.inr rfl) (by kernel_rfl) rfl (by decide) (fun a S => ?_)
    refine leafL (leafT (hK31 _ _ ?_))
    refine sSeq (fun K40 hK40 => ?_)
    refine sRegion ?_
    refine sLoadN (p := b21) (off := 0) (T := 24) (vs := [.int .i64 r14.W, .int .i64 r14.H, .slice ad19 r14.Bits.length cp20]) 0 [.int .i64 r14.W, .int .i64 r14.H, .slice ad19 r14.Bits.length cp20] S (wN rfl) rfl (by kernel_rfl) (by kernel_rfl) (by kernel_rfl) (by kernel_rfl) rfl rfl (by decide) (fun a S => ?_)
    refine sMove (.int .i64 p1) S (wN rfl) (.inl rfl) (by kernel_rfl) rfl (by decide) (fun a S => ?_)
    obtain ⟨r41, hx42, h⟩ := bindSome h
    refine sCall (X := Value × Value) (f := 13) (vs := [.agg #[.int .i64 r14.W, .int .i64 r14.H, .slice ad19 r14.Bits.length cp20], .int .i64 p1]) (val := c_sett_Setts_val r41) (B' := fun _ => []) (D' := c_sett_Setts_D r41) [] [eBox b21 24 [.int .i64 r14.W, .int .i64 r14.H, .slice ad19 r14.Bits.length cp20], eBox b6 24 [.int .i64 p0.W, .int .i64 p0.H, .slice ad3 p0.Bits.length cp4]] [fRep r_api_Grid (.agg #[.int .i64 r14.W, .int .i64 r14.H, .slice ad19 r14.Bits.length cp20]) r14] [0, 1] [5] S (wN rfl) rfl callee13 (by kernel_rfl) (by decide) (by kernel_rfl) (by kernel_rfl) (fun E1 w1 S1 => c_sett_Setts E1 w1 r14 (.agg #[.int .i64 r14.W, .int .i64 r14.H, .slice ad19 r14.Bits.length cp20]) p1 r41 hx42 S1) rfl (by decide) (fun xx a w S => ?_)
    obtain ⟨u43, u44⟩ := xx
    obtain rfl : u43 = .agg #[.int .i64 r41.1.Num, .int .i64 r41.1.Den] := S.mem.know (i := 0) (e := fRep r_api_Ratio (u43) r41.1) (by kernel_rfl)
    obtain rfl : u44 = .agg #[.int .i64 r41.2.1.Num, .int .i64 r41.2.1.Den] := S.mem.know (i := 1) (e := fRep r_api_Ratio (u44) r41.2.1) (by kernel_rfl)
    refine sMove (.tuple #[.agg #[.int .i64 r41.1.Num, .int .i64 r41.1.Den], .agg #[.int .i64 r41.2.1.Num, .int .i64 r41.2.1.Den], .int .i64 r41.2.2]) S (wN rfl) (.inl rfl) (by kernel_rfl) rfl (by decide) (fun a S => ?_)
    refine sExtract (vs := [.agg #[.int .i64 r41.1.Num, .int .i64 r41.1.Den], .agg #[.int .i64 r41.2.1.Num, .int .i64 r41.2.1.Den], .int .i64 r41.2.2]) (.agg #[.int .i64 r41.1.Num, .int .i64 r41.1.Den]) S (wN rfl) rfl (by kernel_rfl) rfl rfl (by decide) (fun a S => ?_)
    refine sExtract (vs := [.agg #[.int .i64 r41.1.Num, .int .i64 r41.1.Den], .agg #[.int .i64 r41.2.1.Num, .int .i64 r41.2.1.Den], .int .i64 r41.2.2]) (.agg #[.int .i64 r41.2.1.Num, .int .i64 r41.2.1.Den]) S (wN rfl) rfl (by kernel_rfl) rfl rfl (by decide) (fun a S => ?_)
    refine sExtract (vs := [.agg #[.int .i64 r41.1.Num, .int .i64 r41.1.Den], .agg #[.int .i64 r41.2.1.Num, .int .i64 r41.2.1.Den], .int .i64 r41.2.2]) (.int .i64 r41.2.2) S (wN rfl) rfl (by kernel_rfl) rfl rfl (by decide) (fun a S => ?_)
    refine sAlloc (.agg #[.int .i64 0, .int .i64 0]) S (wN rfl) rfl (by kernel_rfl) [.int .i64 0, .int .i64 0] rfl rfl (by decide) (fun a b45 w S => ?_)
    refine sAlloc (.agg #[.int .i64 0, .int .i64 0]) S (wN rfl) rfl (by kernel_rfl) [.int .i64 0, .int .i64 0] rfl rfl (by decide) (fun a b46 w S => ?_)
    refine sStore (p := b45) (off := 0) (T := 34) (vs := [.int .i64 0, .int .i64 0]) (v := .agg #[.int .i64 r41.1.Num, .int .i64 r41.1.Den]) 1 [.int .i64 r41.1.Num, .int .i64 r41.1.Den] S (wN rfl) rfl (by kernel_rfl) (by kernel_rfl) rfl (by kernel_rfl) (by kernel_rfl) rfl (by simp) rfl (fun a w S => ?_)
    refine sStore (p := b46) (off := 0) (T := 34) (vs := [.int .i64 0, .int .i64 0]) (v := .agg #[.int .i64 r41.2.1.Num, .int .i64 r41.2.1.Den]) 1 [.int .i64 r41.2.1.Num, .int .i64 r41.2.1.Den] S (wN rfl) rfl (by kernel_rfl) (by kernel_rfl) rfl (by kernel_rfl) (by kernel_rfl) rfl (by simp) rfl (fun a w S => ?_)
    refine sMove (.int .i64 r41.2.2) S (wN rfl) (.inr rfl) (by kernel_rfl) rfl (by decide) (fun a S => ?_)
    refine leafL (leafT (hK40 _ _ ?_))
    refine sSeq (fun K47 hK47 => ?_)
    refine sRegion ?_
    refine sLoadN (p := b6) (off := 0) (T := 24) (vs := [.int .i64 p0.W, .int .i64 p0.H, .slice ad3 p0.Bits.length cp4]) 3 [.int .i64 p0.W, .int .i64 p0.H, .slice ad3 p0.Bits.length cp4] S (wN rfl) rfl (by kernel_rfl) (by kernel_rfl) (by kernel_rfl) (by kernel_rfl) rfl rfl (by decide) (fun a S => ?_)
    refine sMove (.int .i64 p1) S (wN rfl) (.inl rfl) (by kernel_rfl) rfl (by decide) (fun a S => ?_)
    obtain ⟨r48, hx49, h⟩ := bindSome h
    refine sCall (X := Value × Value) (f := 14) (vs := [.agg #[.int .i64 p0.W, .int .i64 p0.H, .slice ad3 p0.Bits.length cp4], .int .i64 p1]) (val := c_raddleref24_Setts_val r48) (B' := fun _ => []) (D' := c_raddleref24_Setts_D r48) [] [eBox b46 34 [.int .i64 r41.2.1.Num, .int .i64 r41.2.1.Den], eBox b45 34 [.int .i64 r41.1.Num, .int .i64 r41.1.Den], eBox b21 24 [.int .i64 r14.W, .int .i64 r14.H, .slice ad19 r14.Bits.length cp20], eBox b6 24 [.int .i64 p0.W, .int .i64 p0.H, .slice ad3 p0.Bits.length cp4]] [fRep r_api_Grid (.agg #[.int .i64 p0.W, .int .i64 p0.H, .slice ad3 p0.Bits.length cp4]) p0] [0, 1, 2, 3] [9] S (wN rfl) rfl callee14 (by kernel_rfl) (by decide) (by kernel_rfl) (by kernel_rfl) (fun E1 w1 S1 => c_raddleref24_Setts E1 w1 p0 (.agg #[.int .i64 p0.W, .int .i64 p0.H, .slice ad3 p0.Bits.length cp4]) p1 r48 hx49 S1) rfl (by decide) (fun xx a w S => ?_)
    obtain ⟨u50, u51⟩ := xx
    obtain rfl : u50 = .agg #[.int .i64 r48.1.Num, .int .i64 r48.1.Den] := S.mem.know (i := 0) (e := fRep r_api_Ratio (u50) r48.1) (by kernel_rfl)
    obtain rfl : u51 = .agg #[.int .i64 r48.2.1.Num, .int .i64 r48.2.1.Den] := S.mem.know (i := 1) (e := fRep r_api_Ratio (u51) r48.2.1) (by kernel_rfl)
    refine sMove (.tuple #[.agg #[.int .i64 r48.1.Num, .int .i64 r48.1.Den], .agg #[.int .i64 r48.2.1.Num, .int .i64 r48.2.1.Den], .int .i64 r48.2.2]) S (wN rfl) (.inl rfl) (by kernel_rfl) rfl (by decide) (fun a S => ?_)
    refine sExtract (vs := [.agg #[.int .i64 r48.1.Num, .int .i64 r48.1.Den], .agg #[.int .i64 r48.2.1.Num, .int .i64 r48.2.1.Den], .int .i64 r48.2.2]) (.agg #[.int .i64 r48.1.Num, .int .i64 r48.1.Den]) S (wN rfl) rfl (by kernel_rfl) rfl rfl (by decide) (fun a S => ?_)
    refine sExtract (vs := [.agg #[.int .i64 r48.1.Num, .int .i64 r48.1.Den], .agg #[.int .i64 r48.2.1.Num, .int .i64 r48.2.1.Den], .int .i64 r48.2.2]) (.agg #[.int .i64 r48.2.1.Num, .int .i64 r48.2.1.Den]) S (wN rfl) rfl (by kernel_rfl) rfl rfl (by decide) (fun a S => ?_)
    refine sExtract (vs := [.agg #[.int .i64 r48.1.Num, .int .i64 r48.1.Den], .agg #[.int .i64 r48.2.1.Num, .int .i64 r48.2.1.Den], .int .i64 r48.2.2]) (.int .i64 r48.2.2) S (wN rfl) rfl (by kernel_rfl) rfl rfl (by decide) (fun a S => ?_)
    refine sAlloc (.agg #[.int .i64 0, .int .i64 0]) S (wN rfl) rfl (by kernel_rfl) [.int .i64 0, .int .i64 0] rfl rfl (by decide) (fun a b52 w S => ?_)
    refine sAlloc (.agg #[.int .i64 0, .int .i64 0]) S (wN rfl) rfl (by kernel_rfl) [.int .i64 0, .int .i64 0] rfl rfl (by decide) (fun a b53 w S => ?_)
    refine sStore (p := b52) (off := 0) (T := 34) (vs := [.int .i64 0, .int .i64 0]) (v := .agg #[.int .i64 r48.1.Num, .int .i64 r48.1.Den]) 1 [.int .i64 r48.1.Num, .int .i64 r48.1.Den] S (wN rfl) rfl (by kernel_rfl) (by kernel_rfl) rfl (by kernel_rfl) (by kernel_rfl) rfl (by simp) rfl (fun a w S => ?_)
    refine sStore (p := b53) (off := 0) (T := 34) (vs := [.int .i64 0, .int .i64 0]) (v := .agg #[.int .i64 r48.2.1.Num, .int .i64 r48.2.1.Den]) 1 [.int .i64 r48.2.1.Num, .int .i64 r48.2.1.Den] S (wN rfl) rfl (by kernel_rfl) (by kernel_rfl) rfl (by kernel_rfl) (by kernel_rfl) rfl (by simp) rfl (fun a w S => ?_)
    refine sMove (.int .i64 r48.2.2) S (wN rfl) (.inr rfl) (by kernel_rfl) rfl (by decide) (fun a S => ?_)
    refine leafL (leafT (hK47 _ _ ?_))
    obtain ⟨t55, h, g56⟩ := bindSome h
    refine sCut (fun a w => ∃ o54, o54 = t55 ∧ St E [] w0 81 a w [(4, .bool o54)] [] []) ?_ (fun a w hI => ?_)
    · refine sRegion ?_
      refine sMove (.slice ad27 r23.1.length cp28) S (wN rfl) (.inl rfl) (by kernel_rfl) rfl (by decide) (fun a S => ?_)
      refine sMove (.slice ad36 r32.1.length cp37) S (wN rfl) (.inl rfl) (by kernel_rfl) rfl (by decide) (fun a S => ?_)
      obtain ⟨r57, hx58, h⟩ := bindSome h
      have S1 := S.mem
      refine sCallQ (X := Unit) (f := 15) (vs := [.slice ad27 r23.1.length cp28, .slice ad36 r32.1.length cp37]) (val := fun _ => .bool r57) S (wN rfl) rfl callee15 (by kernel_rfl) (S1.quiet [6, 4] (by kernel_rfl)) (fun E1 w1 S1 => c_raddleref24_Same E1 w1 r23.1 (.slice ad27 r23.1.length cp28) r32.1 (.slice ad36 r32.1.length cp37) r57 hx58 S1) rfl (by decide) (fun _ a w S => ?_)
      refine sMove (.bool r57) S (wN rfl) (.inl rfl) (by kernel_rfl) rfl (by decide) (fun a S => ?_)
      rcases iteSome h with ⟨hc59, h⟩ | ⟨hc59, h⟩
      · refine sMove (.slice ad29 r23.2.1.length cp30) S (wG (c := r57) 3 true 51 rfl rfl (by kernel_rfl) hc59) (.inl rfl) (by kernel_rfl) rfl (by decide) (fun a S => ?_)
        refine sMove (.slice ad38 r32.2.1.length cp39) S (wG (c := r57) 3 true 51 rfl rfl (by kernel_rfl) hc59) (.inl rfl) (by kernel_rfl) rfl (by decide) (fun a S => ?_)
        obtain ⟨r60, hx61, h⟩ := bindSome h
        have S1 := S.mem
        refine sCallQ (X := Unit) (f := 15) (vs := [.slice ad29 r23.2.1.length cp30, .slice ad38 r32.2.1.length cp39]) (val := fun _ => .bool r60) S (wG (c := r57) 3 true 51 rfl rfl (by kernel_rfl) hc59) rfl callee15 (by kernel_rfl) (S1.quiet [7, 5] (by kernel_rfl)) (fun E1 w1 S1 => c_raddleref24_Same E1 w1 r23.2.1 (.slice ad29 r23.2.1.length cp30) r32.2.1 (.slice ad38 r32.2.1.length cp39) r60 hx61 S1) rfl (by decide) (fun _ a w S => ?_)
        refine sPickT (b := r57) (.bool r60) S (wN rfl) rfl (by kernel_rfl) hc59 (by kernel_rfl) rfl (by decide) (fun a S => ?_)
        refine sMove (.bool r60) S (wN rfl) (.inl rfl) (by kernel_rfl) rfl (by decide) (fun a S => ?_)
        rcases iteSome h with ⟨hc62, h⟩ | ⟨hc62, h⟩
        · refine sMove (.int .i64 r23.2.2) S (wG (c := r60) 8 true 56 rfl rfl (by kernel_rfl) hc62) (.inl rfl) (by kernel_rfl) rfl (by decide) (fun a S => ?_)
          refine sMove (.int .i64 r32.2.2) S (wG (c := r60) 8 true 56 rfl rfl (by kernel_rfl) hc62) (.inl rfl) (by kernel_rfl) rfl (by decide) (fun a S => ?_)
          refine sBin (.bool (r23.2.2 == r32.2.2)) S (wG (c := r60) 8 true 56 rfl rfl (by kernel_rfl) hc62) rfl (by kernel_rfl) (by kernel_rfl) (bEq _ _ _ _ .i64 r23.2.2 r32.2.2) rfl (by decide) (fun a S => ?_)
          refine sPickT (b := r60) (.bool (r23.2.2 == r32.2.2)) S (wN rfl) rfl (by kernel_rfl) hc62 (by kernel_rfl) rfl (by decide) (fun a S => ?_)
          refine sMove (.bool (r23.2.2 == r32.2.2)) S (wN rfl) (.inl rfl) (by kernel_rfl) rfl (by decide) (fun a S => ?_)
          rcases iteSome h with ⟨hc63, h⟩ | ⟨hc63, h⟩
          · refine sLoadN (p := b45) (off := 0) (T := 34) (vs := [.int .i64 r41.1.Num, .int .i64 r41.1.Den]) 3 [.int .i64 r41.1.Num, .int .i64 r41.1.Den] S (wG (c := r23.2.2 == r32.2.2) 13 true 61 rfl rfl (by kernel_rfl) hc63) rfl (by kernel_rfl) (by kernel_rfl) (by kernel_rfl) (by kernel_rfl) rfl rfl (by decide) (fun a S => ?_)
            refine sLoadN (p := b52) (off := 0) (T := 34) (vs := [.int .i64 r48.1.Num, .int .i64 r48.1.Den]) 1 [.int .i64 r48.1.Num, .int .i64 r48.1.Den] S (wG (c := r23.2.2 == r32.2.2) 13 true 61 rfl rfl (by kernel_rfl) hc63) rfl (by kernel_rfl) (by kernel_rfl) (by kernel_rfl) (by kernel_rfl) rfl rfl (by decide) (fun a S => ?_)
            refine sBin (.bool ((r41.1.Num == r48.1.Num) && ((r41.1.Den == r48.1.Den) && true))) S (wG (c := r23.2.2 == r32.2.2) 13 true 61 rfl rfl (by kernel_rfl) hc63) rfl (by kernel_rfl) (by kernel_rfl) (bEqV _ _ _ _ #[.int .i64 r41.1.Num, .int .i64 r41.1.Den] #[.int .i64 r48.1.Num, .int .i64 r48.1.Den] ((r41.1.Num == r48.1.Num) && ((r41.1.Den == r48.1.Den) && true)) (by kernel_rfl) (eqlV_of (by kernel_rfl))) rfl (by decide) (fun a S => ?_)
            refine sPickT (b := r23.2.2 == r32.2.2) (.bool ((r41.1.Num == r48.1.Num) && ((r41.1.Den == r48.1.Den) && true))) S (wN rfl) rfl (by kernel_rfl) hc63 (by kernel_rfl) rfl (by decide) (fun a S => ?_)
            refine sMove (.bool ((r41.1.Num == r48.1.Num) && ((r41.1.Den == r48.1.Den) && true))) S (wN rfl) (.inl rfl) (by kernel_rfl) rfl (by decide) (fun a S => ?_)
            rcases iteSome h with ⟨hc64, h⟩ | ⟨hc64, h⟩
            · refine sLoadN (p := b46) (off := 0) (T := 34) (vs := [.int .i64 r41.2.1.Num, .int .i64 r41.2.1.Den]) 2 [.int .i64 r41.2.1.Num, .int .i64 r41.2.1.Den] S (wG (c := ((r41.1.Num == r48.1.Num) && ((r41.1.Den == r48.1.Den) && true))) 18 true 66 rfl rfl (by kernel_rfl) hc64) rfl (by kernel_rfl) (by kernel_rfl) (by kernel_rfl) (by kernel_rfl) rfl rfl (by decide) (fun a S => ?_)
              refine sLoadN (p := b53) (off := 0) (T := 34) (vs := [.int .i64 r48.2.1.Num, .int .i64 r48.2.1.Den]) 0 [.int .i64 r48.2.1.Num, .int .i64 r48.2.1.Den] S (wG (c := ((r41.1.Num == r48.1.Num) && ((r41.1.Den == r48.1.Den) && true))) 18 true 66 rfl rfl (by kernel_rfl) hc64) rfl (by kernel_rfl) (by kernel_rfl) (by kernel_rfl) (by kernel_rfl) rfl rfl (by decide) (fun a S => ?_)
              refine sBin (.bool ((r41.2.1.Num == r48.2.1.Num) && ((r41.2.1.Den == r48.2.1.Den) && true))) S (wG (c := ((r41.1.Num == r48.1.Num) && ((r41.1.Den == r48.1.Den) && true))) 18 true 66 rfl rfl (by kernel_rfl) hc64) rfl (by kernel_rfl) (by kernel_rfl) (bEqV _ _ _ _ #[.int .i64 r41.2.1.Num, .int .i64 r41.2.1.Den] #[.int .i64 r48.2.1.Num, .int .i64 r48.2.1.Den] ((r41.2.1.Num == r48.2.1.Num) && ((r41.2.1.Den == r48.2.1.Den) && true)) (by kernel_rfl) (eqlV_of (by kernel_rfl))) rfl (by decide) (fun a S => ?_)
              refine sPickT (b := ((r41.1.Num == r48.1.Num) && ((r41.1.Den == r48.1.Den) && true))) (.bool ((r41.2.1.Num == r48.2.1.Num) && ((r41.2.1.Den == r48.2.1.Den) && true))) S (wN rfl) rfl (by kernel_rfl) hc64 (by kernel_rfl) rfl (by decide) (fun a S => ?_)
              refine sMove (.bool ((r41.2.1.Num == r48.2.1.Num) && ((r41.2.1.Den == r48.2.1.Den) && true))) S (wN rfl) (.inl rfl) (by kernel_rfl) rfl (by decide) (fun a S => ?_)
              rcases iteSome h with ⟨hc65, h⟩ | ⟨hc65, h⟩
              · refine sMove (.int .i64 r41.2.2) S (wG (c := ((r41.2.1.Num == r48.2.1.Num) && ((r41.2.1.Den == r48.2.1.Den) && true))) 23 true 71 rfl rfl (by kernel_rfl) hc65) (.inl rfl) (by kernel_rfl) rfl (by decide) (fun a S => ?_)
                refine sMove (.int .i64 r48.2.2) S (wG (c := ((r41.2.1.Num == r48.2.1.Num) && ((r41.2.1.Den == r48.2.1.Den) && true))) 23 true 71 rfl rfl (by kernel_rfl) hc65) (.inl rfl) (by kernel_rfl) rfl (by decide) (fun a S => ?_)
                refine sBin (.bool (r41.2.2 == r48.2.2)) S (wG (c := ((r41.2.1.Num == r48.2.1.Num) && ((r41.2.1.Den == r48.2.1.Den) && true))) 23 true 71 rfl rfl (by kernel_rfl) hc65) rfl (by kernel_rfl) (by kernel_rfl) (bEq _ _ _ _ .i64 r41.2.2 r48.2.2) rfl (by decide) (fun a S => ?_)
                refine sPickT (b := ((r41.2.1.Num == r48.2.1.Num) && ((r41.2.1.Den == r48.2.1.Den) && true))) (.bool (r41.2.2 == r48.2.2)) S (wN rfl) rfl (by kernel_rfl) hc65 (by kernel_rfl) rfl (by decide) (fun a S => ?_)
                refine sMove (.bool (r41.2.2 == r48.2.2)) S (wN rfl) (.inl rfl) (by kernel_rfl) rfl (by decide) (fun a S => ?_)
                rcases iteSome h with ⟨hc66, h⟩ | ⟨hc66, h⟩
                · refine sLoadN (p := b21) (off := 0) (T := 24) (vs := [.int .i64 r14.W, .int .i64 r14.H, .slice ad19 r14.Bits.length cp20]) 4 [.int .i64 r14.W, .int .i64 r14.H, .slice ad19 r14.Bits.length cp20] S (wG (c := r41.2.2 == r48.2.2) 28 true 76 rfl rfl (by kernel_rfl) hc66) rfl (by kernel_rfl) (by kernel_rfl) (by kernel_rfl) (by kernel_rfl) rfl rfl (by decide) (fun a S => ?_)
                  refine sLoadN (p := b6) (off := 0) (T := 24) (vs := [.int .i64 p0.W, .int .i64 p0.H, .slice ad3 p0.Bits.length cp4]) 5 [.int .i64 p0.W, .int .i64 p0.H, .slice ad3 p0.Bits.length cp4] S (wG (c := r41.2.2 == r48.2.2) 28 true 76 rfl rfl (by kernel_rfl) hc66) rfl (by kernel_rfl) (by kernel_rfl) (by kernel_rfl) (by kernel_rfl) rfl rfl (by decide) (fun a S => ?_)
                  obtain ⟨r67, hx68, h⟩ := bindSome h
                  have S1 := S.mem
                  refine sCallQ (X := Unit) (f := 16) (vs := [.agg #[.int .i64 r14.W, .int .i64 r14.H, .slice ad19 r14.Bits.length cp20], .agg #[.int .i64 p0.W, .int .i64 p0.H, .slice ad3 p0.Bits.length cp4]]) (val := fun _ => .bool r67) S (wG (c := r41.2.2 == r48.2.2) 28 true 76 rfl rfl (by kernel_rfl) hc66) rfl callee16 (by kernel_rfl) (S1.quiet [9, 11] (by kernel_rfl)) (fun E1 w1 S1 => c_raddleref01_Same E1 w1 r14 (.agg #[.int .i64 r14.W, .int .i64 r14.H, .slice ad19 r14.Bits.length cp20]) p0 (.agg #[.int .i64 p0.W, .int .i64 p0.H, .slice ad3 p0.Bits.length cp4]) r67 hx68 S1) rfl (by decide) (fun _ a w S => ?_)
                  refine sPickT (b := r41.2.2 == r48.2.2) (.bool r67) S (wN rfl) rfl (by kernel_rfl) hc66 (by kernel_rfl) rfl (by decide) (fun a S => ?_)
                  refine sMove (.bool r67) S (wN rfl) (.inr rfl) (by kernel_rfl) rfl (by decide) (fun a S => ?_)
                  exact leafL (leafT (⟨r67, Option.some.inj h, S.fix [] [] (by decide) (by kernel_rfl) (by kernel_rfl) (by kernel_rfl)⟩))
                · refine sSkip (c := r41.2.2 == r48.2.2) 28 true 76 77 S rfl rfl (by kernel_rfl) hc66 rfl (by decide) (fun a S => ?_)
                  refine sSkip (c := r41.2.2 == r48.2.2) 28 true 76 78 S rfl rfl (by kernel_rfl) hc66 rfl (by decide) (fun a S => ?_)
                  refine sSkip (c := r41.2.2 == r48.2.2) 28 true 76 79 S rfl rfl (by kernel_rfl) hc66 rfl (by decide) (fun a S => ?_)
                  refine sPickF (b := r41.2.2 == r48.2.2) (.bool false) S (wN rfl) rfl (by kernel_rfl) hc66 (by kernel_rfl) rfl (by decide) (fun a S => ?_)
                  refine sMove (.bool false) S (wN rfl) (.inr rfl) (by kernel_rfl) rfl (by decide) (fun a S => ?_)
                  exact leafL (leafT (⟨false, Option.some.inj h, S.fix [] [] (by decide) (by kernel_rfl) (by kernel_rfl) (by kernel_rfl)⟩))
              · refine sSkip (c := ((r41.2.1.Num == r48.2.1.Num) && ((r41.2.1.Den == r48.2.1.Den) && true))) 23 true 71 72 S rfl rfl (by kernel_rfl) hc65 rfl (by decide) (fun a S => ?_)
                refine sSkip (c := ((r41.2.1.Num == r48.2.1.Num) && ((r41.2.1.Den == r48.2.1.Den) && true))) 23 true 71 73 S rfl rfl (by kernel_rfl) hc65 rfl (by decide) (fun a S => ?_)
                refine sSkip (c := ((r41.2.1.Num == r48.2.1.Num) && ((r41.2.1.Den == r48.2.1.Den) && true))) 23 true 71 74 S rfl rfl (by kernel_rfl) hc65 rfl (by decide) (fun a S => ?_)
                refine sPickF (b := ((r41.2.1.Num == r48.2.1.Num) && ((r41.2.1.Den == r48.2.1.Den) && true))) (.bool false) S (wN rfl) rfl (by kernel_rfl) hc65 (by kernel_rfl) rfl (by decide) (fun a S => ?_)
                refine sMove (.bool false) S (wN rfl) (.inl rfl) (by kernel_rfl) rfl (by decide) (fun a S => ?_)
                refine sSkip (c := false) 28 true 76 77 S rfl rfl (by kernel_rfl) rfl rfl (by decide) (fun a S => ?_)
                refine sSkip (c := false) 28 true 76 78 S rfl rfl (by kernel_rfl) rfl rfl (by decide) (fun a S => ?_)
                refine sSkip (c := false) 28 true 76 79 S rfl rfl (by kernel_rfl) rfl rfl (by decide) (fun a S => ?_)
                refine sPickF (b := false) (.bool false) S (wN rfl) rfl (by kernel_rfl) rfl (by kernel_rfl) rfl (by decide) (fun a S => ?_)
                refine sMove (.bool false) S (wN rfl) (.inr rfl) (by kernel_rfl) rfl (by decide) (fun a S => ?_)
                exact leafL (leafT (⟨false, Option.some.inj h, S.fix [] [] (by decide) (by kernel_rfl) (by kernel_rfl) (by kernel_rfl)⟩))
            · refine sSkip (c := ((r41.1.Num == r48.1.Num) && ((r41.1.Den == r48.1.Den) && true))) 18 true 66 67 S rfl rfl (by kernel_rfl) hc64 rfl (by decide) (fun a S => ?_)
              refine sSkip (c := ((r41.1.Num == r48.1.Num) && ((r41.1.Den == r48.1.Den) && true))) 18 true 66 68 S rfl rfl (by kernel_rfl) hc64 rfl (by decide) (fun a S => ?_)
              refine sSkip (c := ((r41.1.Num == r48.1.Num) && ((r41.1.Den == r48.1.Den) && true))) 18 true 66 69 S rfl rfl (by kernel_rfl) hc64 rfl (by decide) (fun a S => ?_)
              refine sPickF (b := ((r41.1.Num == r48.1.Num) && ((r41.1.Den == r48.1.Den) && true))) (.bool false) S (wN rfl) rfl (by kernel_rfl) hc64 (by kernel_rfl) rfl (by decide) (fun a S => ?_)
              refine sMove (.bool false) S (wN rfl) (.inl rfl) (by kernel_rfl) rfl (by decide) (fun a S => ?_)
              refine sSkip (c := false) 23 true 71 72 S rfl rfl (by kernel_rfl) rfl rfl (by decide) (fun a S => ?_)
              refine sSkip (c := false) 23 true 71 73 S rfl rfl (by kernel_rfl) rfl rfl (by decide) (fun a S => ?_)
              refine sSkip (c := false) 23 true 71 74 S rfl rfl (by kernel_rfl) rfl rfl (by decide) (fun a S => ?_)
              refine sPickF (b := false) (.bool false) S (wN rfl) rfl (by kernel_rfl) rfl (by kernel_rfl) rfl (by decide) (fun a S => ?_)
              refine sMove (.bool false) S (wN rfl) (.inl rfl) (by kernel_rfl) rfl (by decide) (fun a S => ?_)
              refine sSkip (c := false) 28 true 76 77 S rfl rfl (by kernel_rfl) rfl rfl (by decide) (fun a S => ?_)
              refine sSkip (c := false) 28 true 76 78 S rfl rfl (by kernel_rfl) rfl rfl (by decide) (fun a S => ?_)
              refine sSkip (c := false) 28 true 76 79 S rfl rfl (by kernel_rfl) rfl rfl (by decide) (fun a S => ?_)
              refine sPickF (b := false) (.bool false) S (wN rfl) rfl (by kernel_rfl) rfl (by kernel_rfl) rfl (by decide) (fun a S => ?_)
              refine sMove (.bool false) S (wN rfl) (.inr rfl) (by kernel_rfl) rfl (by decide) (fun a S => ?_)
              exact leafL (leafT (⟨false, Option.some.inj h, S.fix [] [] (by decide) (by kernel_rfl) (by kernel_rfl) (by kernel_rfl)⟩))
          · refine sSkip (c := r23.2.2 == r32.2.2) 13 true 61 62 S rfl rfl (by kernel_rfl) hc63 rfl (by decide) (fun a S => ?_)
            refine sSkip (c := r23.2.2 == r32.2.2) 13 true 61 63 S rfl rfl (by kernel_rfl) hc63 rfl (by decide) (fun a S => ?_)
            refine sSkip (c := r23.2.2 == r32.2.2) 13 true 61 64 S rfl rfl (by kernel_rfl) hc63 rfl (by decide) (fun a S => ?_)
            refine sPickF (b := r23.2.2 == r32.2.2) (.bool false) S (wN rfl) rfl (by kernel_rfl) hc63 (by kernel_rfl) rfl (by decide) (fun a S => ?_)
            refine sMove (.bool false) S (wN rfl) (.inl rfl) (by kernel_rfl) rfl (by decide) (fun a S => ?_)
            refine sSkip (c := false) 18 true 66 67 S rfl rfl (by kernel_rfl) rfl rfl (by decide) (fun a S => ?_)
            refine sSkip (c := false) 18 true 66 68 S rfl rfl (by kernel_rfl) rfl rfl (by decide) (fun a S => ?_)
            refine sSkip (c := false) 18 true 66 69 S rfl rfl (by kernel_rfl) rfl rfl (by decide) (fun a S => ?_)
            refine sPickF (b := false) (.bool false) S (wN rfl) rfl (by kernel_rfl) rfl (by kernel_rfl) rfl (by decide) (fun a S => ?_)
            refine sMove (.bool false) S (wN rfl) (.inl rfl) (by kernel_rfl) rfl (by decide) (fun a S => ?_)
            refine sSkip (c := false) 23 true 71 72 S rfl rfl (by kernel_rfl) rfl rfl (by decide) (fun a S => ?_)
            refine sSkip (c := false) 23 true 71 73 S rfl rfl (by kernel_rfl) rfl rfl (by decide) (fun a S => ?_)
            refine sSkip (c := false) 23 true 71 74 S rfl rfl (by kernel_rfl) rfl rfl (by decide) (fun a S => ?_)
            refine sPickF (b := false) (.bool false) S (wN rfl) rfl (by kernel_rfl) rfl (by kernel_rfl) rfl (by decide) (fun a S => ?_)
            refine sMove (.bool false) S (wN rfl) (.inl rfl) (by kernel_rfl) rfl (by decide) (fun a S => ?_)
            refine sSkip (c := false) 28 true 76 77 S rfl rfl (by kernel_rfl) rfl rfl (by decide) (fun a S => ?_)
            refine sSkip (c := false) 28 true 76 78 S rfl rfl (by kernel_rfl) rfl rfl (by decide) (fun a S => ?_)
            refine sSkip (c := false) 28 true 76 79 S rfl rfl (by kernel_rfl) rfl rfl (by decide) (fun a S => ?_)
            refine sPickF (b := false) (.bool false) S (wN rfl) rfl (by kernel_rfl) rfl (by kernel_rfl) rfl (by decide) (fun a S => ?_)
            refine sMove (.bool false) S (wN rfl) (.inr rfl) (by kernel_rfl) rfl (by decide) (fun a S => ?_)
            exact leafL (leafT (⟨false, Option.some.inj h, S.fix [] [] (by decide) (by kernel_rfl) (by kernel_rfl) (by kernel_rfl)⟩))
        · refine sSkip (c := r60) 8 true 56 57 S rfl rfl (by kernel_rfl) hc62 rfl (by decide) (fun a S => ?_)
          refine sSkip (c := r60) 8 true 56 58 S rfl rfl (by kernel_rfl) hc62 rfl (by decide) (fun a S => ?_)
          refine sSkip (c := r60) 8 true 56 59 S rfl rfl (by kernel_rfl) hc62 rfl (by decide) (fun a S => ?_)
          refine sPickF (b := r60) (.bool false) S (wN rfl) rfl (by kernel_rfl) hc62 (by kernel_rfl) rfl (by decide) (fun a S => ?_)
          refine sMove (.bool false) S (wN rfl) (.inl rfl) (by kernel_rfl) rfl (by decide) (fun a S => ?_)
          refine sSkip (c := false) 13 true 61 62 S rfl rfl (by kernel_rfl) rfl rfl (by decide) (fun a S => ?_)
          refine sSkip (c := false) 13 true 61 63 S rfl rfl (by kernel_rfl) rfl rfl (by decide) (fun a S => ?_)
          refine sSkip (c := false) 13 true 61 64 S rfl rfl (by kernel_rfl) rfl rfl (by decide) (fun a S => ?_)
          refine sPickF (b := false) (.bool false) S (wN rfl) rfl (by kernel_rfl) rfl (by kernel_rfl) rfl (by decide) (fun a S => ?_)
          refine sMove (.bool false) S (wN rfl) (.inl rfl) (by kernel_rfl) rfl (by decide) (fun a S => ?_)
          refine sSkip (c := false) 18 true 66 67 S rfl rfl (by kernel_rfl) rfl rfl (by decide) (fun a S => ?_)
          refine sSkip (c := false) 18 true 66 68 S rfl rfl (by kernel_rfl) rfl rfl (by decide) (fun a S => ?_)
          refine sSkip (c := false) 18 true 66 69 S rfl rfl (by kernel_rfl) rfl rfl (by decide) (fun a S => ?_)
          refine sPickF (b := false) (.bool false) S (wN rfl) rfl (by kernel_rfl) rfl (by kernel_rfl) rfl (by decide) (fun a S => ?_)
          refine sMove (.bool false) S (wN rfl) (.inl rfl) (by kernel_rfl) rfl (by decide) (fun a S => ?_)
          refine sSkip (c := false) 23 true 71 72 S rfl rfl (by kernel_rfl) rfl rfl (by decide) (fun a S => ?_)
          refine sSkip (c := false) 23 true 71 73 S rfl rfl (by kernel_rfl) rfl rfl (by decide) (fun a S => ?_)
          refine sSkip (c := false) 23 true 71 74 S rfl rfl (by kernel_rfl) rfl rfl (by decide) (fun a S => ?_)
          refine sPickF (b := false) (.bool false) S (wN rfl) rfl (by kernel_rfl) rfl (by kernel_rfl) rfl (by decide) (fun a S => ?_)
          refine sMove (.bool false) S (wN rfl) (.inl rfl) (by kernel_rfl) rfl (by decide) (fun a S => ?_)
          refine sSkip (c := false) 28 true 76 77 S rfl rfl (by kernel_rfl) rfl rfl (by decide) (fun a S => ?_)
          refine sSkip (c := false) 28 true 76 78 S rfl rfl (by kernel_rfl) rfl rfl (by decide) (fun a S => ?_)
          refine sSkip (c := false) 28 true 76 79 S rfl rfl (by kernel_rfl) rfl rfl (by decide) (fun a S => ?_)
          refine sPickF (b := false) (.bool false) S (wN rfl) rfl (by kernel_rfl) rfl (by kernel_rfl) rfl (by decide) (fun a S => ?_)
          refine sMove (.bool false) S (wN rfl) (.inr rfl) (by kernel_rfl) rfl (by decide) (fun a S => ?_)
          exact leafL (leafT (⟨false, Option.some.inj h, S.fix [] [] (by decide) (by kernel_rfl) (by kernel_rfl) (by kernel_rfl)⟩))
      · refine sSkip (c := r57) 3 true 51 52 S rfl rfl (by kernel_rfl) hc59 rfl (by decide) (fun a S => ?_)
        refine sSkip (c := r57) 3 true 51 53 S rfl rfl (by kernel_rfl) hc59 rfl (by decide) (fun a S => ?_)
        refine sSkip (c := r57) 3 true 51 54 S rfl rfl (by kernel_rfl) hc59 rfl (by decide) (fun a S => ?_)
        refine sPickF (b := r57) (.bool false) S (wN rfl) rfl (by kernel_rfl) hc59 (by kernel_rfl) rfl (by decide) (fun a S => ?_)
        refine sMove (.bool false) S (wN rfl) (.inl rfl) (by kernel_rfl) rfl (by decide) (fun a S => ?_)
        refine sSkip (c := false) 8 true 56 57 S rfl rfl (by kernel_rfl) rfl rfl (by decide) (fun a S => ?_)
        refine sSkip (c := false) 8 true 56 58 S rfl rfl (by kernel_rfl) rfl rfl (by decide) (fun a S => ?_)
        refine sSkip (c := false) 8 true 56 59 S rfl rfl (by kernel_rfl) rfl rfl (by decide) (fun a S => ?_)
        refine sPickF (b := false) (.bool false) S (wN rfl) rfl (by kernel_rfl) rfl (by kernel_rfl) rfl (by decide) (fun a S => ?_)
        refine sMove (.bool false) S (wN rfl) (.inl rfl) (by kernel_rfl) rfl (by decide) (fun a S => ?_)
        refine sSkip (c := false) 13 true 61 62 S rfl rfl (by kernel_rfl) rfl rfl (by decide) (fun a S => ?_)
        refine sSkip (c := false) 13 true 61 63 S rfl rfl (by kernel_rfl) rfl rfl (by decide) (fun a S => ?_)
        refine sSkip (c := false) 13 true 61 64 S rfl rfl (by kernel_rfl) rfl rfl (by decide) (fun a S => ?_)
        refine sPickF (b := false) (.bool false) S (wN rfl) rfl (by kernel_rfl) rfl (by kernel_rfl) rfl (by decide) (fun a S => ?_)
        refine sMove (.bool false) S (wN rfl) (.inl rfl) (by kernel_rfl) rfl (by decide) (fun a S => ?_)
        refine sSkip (c := false) 18 true 66 67 S rfl rfl (by kernel_rfl) rfl rfl (by decide) (fun a S => ?_)
        refine sSkip (c := false) 18 true 66 68 S rfl rfl (by kernel_rfl) rfl rfl (by decide) (fun a S => ?_)
        refine sSkip (c := false) 18 true 66 69 S rfl rfl (by kernel_rfl) rfl rfl (by decide) (fun a S => ?_)
        refine sPickF (b := false) (.bool false) S (wN rfl) rfl (by kernel_rfl) rfl (by kernel_rfl) rfl (by decide) (fun a S => ?_)
        refine sMove (.bool false) S (wN rfl) (.inl rfl) (by kernel_rfl) rfl (by decide) (fun a S => ?_)
        refine sSkip (c := false) 23 true 71 72 S rfl rfl (by kernel_rfl) rfl rfl (by decide) (fun a S => ?_)
        refine sSkip (c := false) 23 true 71 73 S rfl rfl (by kernel_rfl) rfl rfl (by decide) (fun a S => ?_)
        refine sSkip (c := false) 23 true 71 74 S rfl rfl (by kernel_rfl) rfl rfl (by decide) (fun a S => ?_)
        refine sPickF (b := false) (.bool false) S (wN rfl) rfl (by kernel_rfl) rfl (by kernel_rfl) rfl (by decide) (fun a S => ?_)
        refine sMove (.bool false) S (wN rfl) (.inl rfl) (by kernel_rfl) rfl (by decide) (fun a S => ?_)
        refine sSkip (c := false) 28 true 76 77 S rfl rfl (by kernel_rfl) rfl rfl (by decide) (fun a S => ?_)
        refine sSkip (c := false) 28 true 76 78 S rfl rfl (by kernel_rfl) rfl rfl (by decide) (fun a S => ?_)
        refine sSkip (c := false) 28 true 76 79 S rfl rfl (by kernel_rfl) rfl rfl (by decide) (fun a S => ?_)
        refine sPickF (b := false) (.bool false) S (wN rfl) rfl (by kernel_rfl) rfl (by kernel_rfl) rfl (by decide) (fun a S => ?_)
        refine sMove (.bool false) S (wN rfl) (.inr rfl) (by kernel_rfl) rfl (by decide) (fun a S => ?_)
        exact leafL (leafT (⟨false, Option.some.inj h, S.fix [] [] (by decide) (by kernel_rfl) (by kernel_rfl) (by kernel_rfl)⟩))
    · obtain ⟨o54, rfl, S⟩ := hI
      have h := g56
      clear g56
      try dsimp only at h
      obtain rfl := Option.some.inj h
      exact wp_ret (sRet (.bool o54) S (rsl1 rfl (rvT (t := 4) (v := .bool o54) S (by kernel_rfl))) ⟨(), rfl, S.mem.sel [] [] (by decide) (by kernel_rfl) (by kernel_rfl)⟩)

end Go.Proofs.Ytjndecalogklhaa
namespace Go.Proofs.Ytjndecalogklhaa
open Go.RowKit
set_option linter.unusedVariables false

theorem row_idx {α : Type} {n : Nat} {f : Nat → α} {k : Nat} (h : k < n) : idxO ((List.range n).map f) (k : Int) = some (f k) := by
  rw [idxO_nat (by simpa using h)]; simp
theorem row_set {α : Type} {n : Nat} {f : Nat → α} {k : Nat} (h : k < n) (v : α) : setO ((List.range n).map f) (k : Int) v = some ((List.range n).map fun j => if j = k then v else f j) := by
  rw [setO_nat (by simpa using h)]
  congr 1
  apply List.ext_getElem?
  intro j
  by_cases e : k = j
  · subst e; simp [h]
  · rw [List.getElem?_set_ne e]
    by_cases hj : j < n
    · simp [hj, show ¬ j = k from fun h => e h.symm]
    · rw [List.getElem?_eq_none (by simp; omega), List.getElem?_eq_none (by simp; omega)]
/-- how often a test holds below n -/
def cnt (p : Nat → Bool) (n : Nat) : Nat := (List.range n).countP p
theorem cnt_succ (p : Nat → Bool) (n : Nat) : cnt p (n + 1) = cnt p n + if p n = true then 1 else 0 := by
  unfold cnt
  rw [List.range_succ, List.countP_append, List.countP_singleton]
theorem cnt_le (p : Nat → Bool) (n : Nat) : cnt p n ≤ n := by
  unfold cnt
  exact Nat.le_trans List.countP_le_length (by simp)
theorem cnt_shift (p : Nat → Bool) (n : Nat) : cnt p (n + 1) = (if p 0 = true then 1 else 0) + cnt (fun k => p (k + 1)) n := by
  induction n with
  | zero => rw [cnt_succ]; simp [cnt]
  | succ n ih => rw [cnt_succ, ih, cnt_succ]; omega
theorem cnt_cong {p q : Nat → Bool} {n : Nat} (h : ∀ k, k < n → p k = q k) : cnt p n = cnt q n := by
  induction n with
  | zero => rfl
  | succ n ih => rw [cnt_succ, cnt_succ, ih (fun k hk => h k (by omega)), h n (by omega)]
/-- turns around, counted forward and backward -/
theorem cnt_round (a : Nat → Bool) (n : Nat) : cnt (fun k => a k != a ((k + 1) % n)) n = cnt (fun k => a k != a ((k + n - 1) % n)) n := by
  cases n with
  | zero => rfl
  | succ m =>
    rw [cnt_succ, cnt_shift]
    have e1 : cnt (fun k => a k != a ((k + 1) % (m + 1))) m = cnt (fun k => a k != a (k + 1)) m := cnt_cong fun k hk => by
      rw [Nat.mod_eq_of_lt (by omega)]
    have e2 : cnt (fun k => a (k + 1) != a ((k + 1 + (m + 1) - 1) % (m + 1))) m = cnt (fun k => a k != a (k + 1)) m := cnt_cong fun k hk => by
      rw [show k + 1 + (m + 1) - 1 = k + (m + 1) by omega, Nat.add_mod_right, Nat.mod_eq_of_lt (by omega), bne_comm]
    rw [e1, e2, show (m + 1) % (m + 1) = 0 from Nat.mod_self _, show (0 + (m + 1) - 1) % (m + 1) = m by rw [Nat.zero_add, Nat.add_sub_cancel]; exact Nat.mod_eq_of_lt (by omega), bne_comm (a := a m)]
    omega
/-- a valid grid, in numbers -/
structure Gr (g : api_Grid) (w h : Nat) : Prop where
  hw : g.W = (w : Int)
  hh : g.H = (h : Int)
  w0 : 1 ≤ w
  w1 : w ≤ 64
  h0 : 1 ≤ h
  h1 : h ≤ 64
  len : g.Bits.length = w * h
def cell (g : api_Grid) (w x y : Nat) : Bool := g.Bits.getD (y * w + x) false
theorem Gr.at {g : api_Grid} {w h : Nat} (G : Gr g w h) {x y : Nat} (hx : x < w) (hy : y < h) : idxO g.Bits (w64 ((w64 ((y : Int) * g.W)) + (x : Int))) = some (cell g w x y) := by
  have h1 : y * w + x < w * h := by
    have := Nat.mul_le_mul_right w (show y + 1 ≤ h by omega)
    rw [Nat.add_mul, Nat.one_mul, Nat.mul_comm h w] at this
    omega
  have h2 : w * h ≤ 64 * 64 := Nat.mul_le_mul G.w1 G.h1
  have e : ((y : Int) * g.W) = ((y * w : Nat) : Int) := by rw [G.hw]; simp
  have hz : w64 ((y * w : Nat) : Int) = ((y * w : Nat) : Int) := w64_of (by omega) (by omega)
  rw [e, hz, w64_of (by omega) (by omega)]
  exact idxO_of (k := y * w + x) (by omega) (by rw [G.len]; exact h1) |>.trans (by unfold cell; simp [G.len, h1])
theorem rem_nat {a b : Nat} (h : 0 < b) : remI (a : Int) (b : Int) = some ((a % b : Nat) : Int) := by
  unfold remI
  rw [if_neg (by omega)]
  rfl
theorem Mod_eq {x n : Nat} (hx : x < n) (hn : n ≤ 64) : F_raddleref01_Mod (w64 ((x : Int) - 1)) (n : Int) = some (((x + n - 1) % n : Nat) : Int) := by
  unfold F_raddleref01_Mod
  rw [w64_of (by omega) (by omega)]
  by_cases h0 : x = 0
  · subst h0
    have e1 : remI (((0 : Nat) : Int) - 1) (n : Int) = some (if n = 1 then 0 else -1) := by
      unfold remI
      rw [if_neg (by omega)]
      by_cases e : n = 1
      · subst e; rfl
      · have e2 : (1 : Nat) % n = 1 := Nat.mod_eq_of_lt (by omega)
        have e3 : Int.tmod (((0 : Nat) : Int) - 1) (n : Int) = -(((1 % n : Nat)) : Int) := rfl
        rw [e3, e2, if_neg e]; rfl
    rw [e1]
    simp only [Option.bind_some]
    by_cases e : n = 1
    · subst e; rfl
    · rw [if_neg e, w64_of (by omega) (by omega), show (-1 + (n : Int)) = ((n - 1 : Nat) : Int) by omega, rem_nat (by omega)]
      simp only [Option.bind_some, Nat.zero_add]
  · rw [show ((x : Int) - 1) = ((x - 1 : Nat) : Int) by omega, rem_nat (by omega)]
    simp only [Option.bind_some]
    rw [Nat.mod_eq_of_lt (show x - 1 < n by omega), w64_of (by omega) (by omega), show (((x - 1 : Nat) : Int) + (n : Int)) = ((x + n - 1 : Nat) : Int) by omega, rem_nat (by omega)]
    rfl
/-- turns of a pick, of an end -/
def dP (g : api_Grid) (w y : Nat) (x : Nat) : Bool := cell g w x y != cell g w ((x + w - 1) % w) y
def dE (g : api_Grid) (w h x : Nat) (y : Nat) : Bool := cell g w x y != cell g w x ((y + h - 1) % h)
def picksL (g : api_Grid) (w h : Nat) : List Int := (List.range h).map fun y => ((cnt (dP g w y) w : Nat) : Int)
def endsL (g : api_Grid) (w h : Nat) : List Int := (List.range w).map fun x => ((cnt (dE g w h x) h : Nat) : Int)
theorem turns0 {g : api_Grid} {w h : Nat} (G : Gr g w h) {y : Nat} (hy : y < h) : F_sett_line_turns_s0 g.W g (y : Int) = some ((cnt (dP g w y) w : Nat) : Int) := by
  have e : cnt (dP g w y) w = cnt (fun x => cell g w x y != cell g w ((x + 1) % w) y) w := (cnt_round (fun x => cell g w x y) w).symm
  rw [e]
  have key : ∃ t, whileO (sett_line_turns_s0_l1 g.W g (y : Int)) (0, 0) = some t ∧ t = ((cnt (fun x => cell g w x y != cell g w ((x + 1) % w) y) w : Nat) : Int) := by
    refine loop_st w (fun k s => s = ((cnt (fun x => cell g w x y != cell g w ((x + 1) % w) y) k : Nat) : Int)) _ rfl ?_ ?_
    · rintro k s hk rfl
      have hw := G.hw
      have hw1 := G.w1
      have hc := cnt_le (fun x => cell g w x y != cell g w ((x + 1) % w) y) k
      refine .inl ⟨_, ?_, rfl⟩
      unfold sett_line_turns_s0_l1 F_sett_Turns_1_s0
      rw [cnt_succ]
      simp only [dT (show (k : Int) < g.W by omega), if_true, G.at hk hy, Option.bind_some, w64_succ (show k < 9223372036854775807 by omega)]
      rw [hw, rem_nat (by omega), ← hw]
      simp only [Option.bind_some, G.at (Nat.mod_lt (k + 1) (show 0 < w by omega)) hy]
      cases (cell g w k y != cell g w ((k + 1) % w) y)
      · simp
      · simp only [if_true, Option.bind_some, w64_succ (show cnt (fun x => cell g w x y != cell g w ((x + 1) % w) y) k < 9223372036854775807 by omega)]
    · rintro s rfl
      refine ⟨_, ?_, rfl⟩
      unfold sett_line_turns_s0_l1
      simp only [G.hw, dF (show ¬ (w : Int) < (w : Int) by omega), Bool.false_eq_true, if_false]
  obtain ⟨t, t1, rfl⟩ := key
  unfold F_sett_line_turns_s0
  rw [t1]; rfl
theorem turns1 {g : api_Grid} {w h : Nat} (G : Gr g w h) {x : Nat} (hx : x < w) : F_sett_line_turns_s1 g.H g (x : Int) = some ((cnt (dE g w h x) h : Nat) : Int) := by
  have e : cnt (dE g w h x) h = cnt (fun y => cell g w x y != cell g w x ((y + 1) % h)) h := (cnt_round (fun y => cell g w x y) h).symm
  rw [e]
  have key : ∃ t, whileO (sett_line_turns_s1_l1 g.H g (x : Int)) (0, 0) = some t ∧ t = ((cnt (fun y => cell g w x y != cell g w x ((y + 1) % h)) h : Nat) : Int) := by
    refine loop_st h (fun k s => s = ((cnt (fun y => cell g w x y != cell g w x ((y + 1) % h)) k : Nat) : Int)) _ rfl ?_ ?_
    · rintro k s hk rfl
      have hw := G.hh
      have hw1 := G.h1
      have hc := cnt_le (fun y => cell g w x y != cell g w x ((y + 1) % h)) k
      refine .inl ⟨_, ?_, rfl⟩
      unfold sett_line_turns_s1_l1 F_sett_Turns_2_s0
      rw [cnt_succ]
      simp only [dT (show (k : Int) < g.H by omega), if_true, G.at hx hk, Option.bind_some, w64_succ (show k < 9223372036854775807 by omega)]
      rw [hw, rem_nat (by omega)]
      simp only [Option.bind_some, G.at hx (Nat.mod_lt (k + 1) (show 0 < h by omega))]
      cases (cell g w x k != cell g w x ((k + 1) % h))
      · simp
      · simp only [if_true, Option.bind_some, w64_succ (show cnt (fun y => cell g w x y != cell g w x ((y + 1) % h)) k < 9223372036854775807 by omega)]
    · rintro s rfl
      refine ⟨_, ?_, rfl⟩
      unfold sett_line_turns_s1_l1
      simp only [G.hh, dF (show ¬ (h : Int) < (h : Int) by omega), Bool.false_eq_true, if_false]
  obtain ⟨t, t1, rfl⟩ := key
  unfold F_sett_line_turns_s1
  rw [t1]; rfl
/-- the error of a grid -/
def gerr (g : api_Grid) : Int := if 64 < g.W ∨ 64 < g.H then 4 else if g.W < 1 ∨ g.H < 1 ∨ ¬ (g.Bits.length : Int) = g.W * g.H then 8 else 0
theorem gprod {g : api_Grid} (h1 : ¬ (64 < g.W ∨ 64 < g.H)) (h2 : ¬ (g.W < 1 ∨ g.H < 1)) : w64 (g.W * g.H) = g.W * g.H := by
  have := mul_bd (u := g.W) (v := g.H) (a := 64) (b := 64) (by omega) (by omega) (by omega) (by omega)
  exact w64_of (by omega) (by omega)
theorem gcheck_eq (g : api_Grid) : F_grid_Check g = some (gerr g) ∧ F_raddleref01_Check g = some (gerr g) := by
  unfold F_grid_Check F_raddleref01_Check gerr
  by_cases c1 : 64 < g.W ∨ 64 < g.H
  · constructor
    · have : (64 : Int) < (if g.W < g.H then g.H else g.W) := by split <;> omega
      simp only [dT this, if_true, c1]
    · by_cases c2 : 64 < g.W
      · simp only [dT c2, if_true, Option.bind_some, c1]
      · simp only [dF c2, dT (show 64 < g.H by omega), Bool.false_eq_true, if_true, if_false, Option.bind_some, c1]
  · have m1 : ¬ (64 : Int) < (if g.W < g.H then g.H else g.W) := by split <;> omega
    by_cases c2 : g.W < 1 ∨ g.H < 1
    · have m2 : (if g.H < g.W then g.H else g.W) < (1 : Int) := by split <;> omega
      have c3 : g.W < 1 ∨ g.H < 1 ∨ ¬ (g.Bits.length : Int) = g.W * g.H := by omega
      simp only [dF m1, dT m2, dF (show ¬ 64 < g.W by omega), dF (show ¬ 64 < g.H by omega), Bool.false_eq_true, if_true, if_false, Option.bind_some, c1, c3, true_and]
      by_cases c4 : g.W < 1
      · simp only [dT c4, if_true, Option.bind_some]
      · simp only [dF c4, dT (show g.H < 1 by omega), Bool.false_eq_true, if_true, if_false, Option.bind_some]
    · have m2 : ¬ (if g.H < g.W then g.H else g.W) < (1 : Int) := by split <;> omega
      have c4 : ¬ g.W < 1 := by omega
      have c5 : ¬ g.H < 1 := by omega
      have hb : (if 64 < g.W ∨ 64 < g.H then (4 : Int) else if g.W < 1 ∨ g.H < 1 ∨ ¬ (g.Bits.length : Int) = g.W * g.H then 8 else 0) = if (g.Bits.length : Int) = g.W * g.H then 0 else 8 := by
        rw [if_neg c1]
        by_cases c6 : (g.Bits.length : Int) = g.W * g.H
        · rw [if_neg (by omega), if_pos c6]
        · rw [if_pos (by omega), if_neg c6]
      rw [hb]
      by_cases c6 : (g.Bits.length : Int) = g.W * g.H
      · rw [if_pos c6]
        simp only [dF m1, dF m2, dF (show ¬ 64 < g.W by omega), dF (show ¬ 64 < g.H by omega), dF c4, dF c5, gprod c1 c2, nF c6, Bool.false_eq_true, if_false, Option.bind_some, and_self]
      · rw [if_neg c6]
        simp only [dF m1, dF m2, dF (show ¬ 64 < g.W by omega), dF (show ¬ 64 < g.H by omega), dF c4, dF c5, gprod c1 c2, nT c6, Bool.false_eq_true, if_true, if_false, Option.bind_some, and_self]
theorem gerr_zero {g : api_Grid} (h : gerr g = 0) : ∃ w h, Gr g w h := by
  unfold gerr at h
  by_cases c1 : 64 < g.W ∨ 64 < g.H
  · rw [if_pos c1] at h; cases h
  rw [if_neg c1] at h
  by_cases c2 : g.W < 1 ∨ g.H < 1 ∨ ¬ (g.Bits.length : Int) = g.W * g.H
  · rw [if_pos c2] at h; cases h
  have c3 : (g.Bits.length : Int) = g.W * g.H := by omega
  refine ⟨g.W.toNat, g.H.toNat, by omega, by omega, by omega, by omega, by omega, by omega, ?_⟩
  have e1 : g.W = (g.W.toNat : Int) := by omega
  have e2 : g.H = (g.H.toNat : Int) := by omega
  rw [e1, e2, ← Int.natCast_mul] at c3
  exact Int.ofNat.inj c3
theorem pturns {g : api_Grid} {w h : Nat} (G : Gr g w h) (he : gerr g = 0) : F_sett_Turns g = some (picksL g w h, endsL g w h, 0) := by
  have hw1 := G.w1
  have hh1 := G.h1
  have l1 : whileO (sett_Turns_l1 g) (([] : List Int), 0) = some (picksL g w h) := by
    refine loop_map h (fun y => ((cnt (dP g w y) w : Nat) : Int)) (fun k s hk hs => ?_) ?_
    · have hl : s.length = k := by rw [hs]; simp
      unfold sett_Turns_l1
      simp only [dT (show (k : Int) < g.H by rw [G.hh]; omega), if_true, turns0 G hk, Option.bind_some]
      rw [appO_of (by simp; omega)]
      simp only [Option.bind_some, w64_succ (show k < 9223372036854775807 by omega)]
    · unfold sett_Turns_l1
      simp only [dF (show ¬ (h : Int) < g.H by rw [G.hh]; omega), Bool.false_eq_true, if_false]
      rfl
  have l2 : whileO (sett_Turns_l2 g) (([] : List Int), 0) = some (endsL g w h) := by
    refine loop_map w (fun x => ((cnt (dE g w h x) h : Nat) : Int)) (fun k s hk hs => ?_) ?_
    · have hl : s.length = k := by rw [hs]; simp
      unfold sett_Turns_l2
      simp only [dT (show (k : Int) < g.W by rw [G.hw]; omega), if_true, turns1 G hk, Option.bind_some]
      rw [appO_of (by simp; omega)]
      simp only [Option.bind_some, w64_succ (show k < 9223372036854775807 by omega)]
    · unfold sett_Turns_l2
      simp only [dF (show ¬ (w : Int) < g.W by rw [G.hw]; omega), Bool.false_eq_true, if_false]
      rfl
  unfold F_sett_Turns
  simp only [(gcheck_eq g).1, he, Option.bind_some, bne_self_eq_false, Bool.false_eq_true, if_false, l1, l2]
/-- where the reference stands: the picks, the ends, ahead of the cell (x, y) -/
def pS (g : api_Grid) (w y x : Nat) (j : Nat) : Int := if j < y then ((cnt (dP g w j) w : Nat) : Int) else if j = y then ((cnt (dP g w y) x : Nat) : Int) else 0
def eS (g : api_Grid) (w h y x : Nat) (i : Nat) : Int := if i < x then ((cnt (dE g w h i) (y + 1) : Nat) : Int) else ((cnt (dE g w h i) y : Nat) : Int)
theorem pS_next (g : api_Grid) (w y : Nat) (j : Nat) : pS g w y w j = pS g w (y + 1) 0 j := by
  unfold pS
  by_cases h1 : j < y
  · rw [if_pos h1, if_pos (by omega)]
  · by_cases h2 : j = y
    · subst h2; rw [if_neg h1, if_pos rfl, if_pos (by omega)]
    · rw [if_neg h1, if_neg h2, if_neg (by omega)]
      by_cases h3 : j = y + 1
      · rw [if_pos h3]; rfl
      · rw [if_neg h3]
theorem rturns {g : api_Grid} {w h : Nat} (G : Gr g w h) (he : gerr g = 0) : F_raddleref24_Turns g = some (picksL g w h, endsL g w h, 0) := by
  have hw1 := G.w1
  have hh1 := G.h1
  have inner : ∀ y, y < h → ∃ t, whileO (raddleref24_Turns_l1 g (y : Int)) ((List.range h).map (pS g w y 0), (List.range w).map (eS g w h y 0), 0) = some t ∧ t = ((List.range h).map (pS g w (y + 1) 0), (List.range w).map (eS g w h (y + 1) 0)) := by
    intro y hy
    refine whileO_inv (fun s => ∃ k : Nat, k ≤ w ∧ s = ((List.range h).map (pS g w y k), (List.range w).map (eS g w h y k), (k : Int))) (fun s => ((w : Int) - s.2.2).toNat) _ ⟨0, Nat.zero_le _, rfl⟩ ?_
    rintro s ⟨k, hk, rfl⟩
    by_cases hlt : k < w
    · refine .inl ⟨((List.range h).map (pS g w y (k + 1)), (List.range w).map (eS g w h y (k + 1)), ((k + 1 : Nat) : Int)), ?_, ⟨k + 1, hlt, rfl⟩, by simp; omega⟩
      have hcp := cnt_le (dP g w y) k
      have hce := cnt_le (dE g w h k) y
      have hm1 : (k + w - 1) % w < w := Nat.mod_lt _ (by omega)
      have hm2 : (y + h - 1) % h < h := Nat.mod_lt _ (by omega)
      have p1 : (if (cell g w k y != cell g w ((k + w - 1) % w) y) = true then Option.bind (idxO ((List.range h).map (pS g w y k)) (y : Int)) fun x114 => Option.bind (setO ((List.range h).map (pS g w y k)) (y : Int) (w64 (x114 + 1))) fun l122 => some l122 else some ((List.range h).map (pS g w y k))) = some ((List.range h).map (pS g w y (k + 1))) := by
        by_cases hd : (cell g w k y != cell g w ((k + w - 1) % w) y) = true
        · rw [if_pos hd, row_idx hy, Option.bind_some, row_set hy, Option.bind_some]
          congr 1
          refine map_cong fun j hj => ?_
          unfold pS
          by_cases e : j = y
          · subst e
            rw [if_pos rfl, if_neg (by omega), if_pos rfl, if_neg (by omega), if_pos rfl, cnt_succ, if_pos (show dP g w j k = true from hd), w64_succ (by omega)]
          · rw [if_neg e, if_neg e]
            simp only [e, if_false]
        · rw [if_neg hd]
          congr 1
          refine map_cong fun j hj => ?_
          unfold pS
          rw [cnt_succ, if_neg (show ¬ dP g w y k = true from hd), Nat.add_zero]
      have p2 : ∀ o : List Int, (if (cell g w k y != cell g w k ((y + h - 1) % h)) = true then Option.bind (idxO ((List.range w).map (eS g w h y k)) (k : Int)) fun x132 => Option.bind (setO ((List.range w).map (eS g w h y k)) (k : Int) (w64 (x132 + 1))) fun l140 => some (o, l140) else some (o, (List.range w).map (eS g w h y k))) = some (o, (List.range w).map (eS g w h y (k + 1))) := by
        intro o
        by_cases hd : (cell g w k y != cell g w k ((y + h - 1) % h)) = true
        · rw [if_pos hd, row_idx hlt, Option.bind_some, row_set hlt, Option.bind_some]
          congr 2
          refine map_cong fun j hj => ?_
          unfold eS
          by_cases e : j = k
          · subst e
            rw [if_pos rfl, if_neg (by omega), if_pos (by omega), cnt_succ, if_pos (show dE g w h j y = true from hd), w64_succ (by omega)]
          · rw [if_neg e]
            by_cases e2 : j < k
            · rw [if_pos e2, if_pos (by omega)]
            · rw [if_neg e2, if_neg (by omega)]
        · rw [if_neg hd]
          congr 2
          refine map_cong fun j hj => ?_
          unfold eS
          by_cases e : j = k
          · subst e
            rw [if_neg (by omega), if_pos (by omega), cnt_succ, if_neg (show ¬ dE g w h j y = true from hd), Nat.add_zero]
          · by_cases e2 : j < k
            · rw [if_pos e2, if_pos (by omega)]
            · rw [if_neg e2, if_neg (by omega)]
      unfold raddleref24_Turns_l1 F_raddleref01_At
      have hk' : decide ((k : Int) < g.W) = true := dT (by rw [G.hw]; omega)
      have hM1 : F_raddleref01_Mod (w64 ((k : Int) - 1)) g.W = some (((k + w - 1) % w : Nat) : Int) := by rw [G.hw]; exact Mod_eq hlt hw1
      have hM2 : F_raddleref01_Mod (w64 ((y : Int) - 1)) g.H = some (((y + h - 1) % h : Nat) : Int) := by rw [G.hh]; exact Mod_eq hy hh1
      simp only [hk', if_true, G.at hlt hy, hM1, hM2, Option.bind_some, G.at hm1 hy, G.at hlt hm2, p1, p2, w64_succ (show k < 9223372036854775807 by omega)]
    · obtain rfl : k = w := by omega
      refine .inr ⟨((List.range h).map (pS g k y k), (List.range k).map (eS g k h y k)), ?_, ?_⟩
      · unfold raddleref24_Turns_l1
        simp only [dF (show ¬ (k : Int) < g.W by rw [G.hw]; omega), Bool.false_eq_true, if_false]
      · refine Prod.ext ?_ ?_
        · exact map_cong fun j _ => pS_next g k y j
        · refine map_cong fun i hi => ?_
          unfold eS
          rw [if_pos hi, if_neg (by omega)]
  have outer : ∃ t, whileO (raddleref24_Turns_l2 g) (List.replicate h 0, List.replicate w 0, 0) = some t ∧ t = (picksL g w h, endsL g w h) := by
    have i1 : List.replicate h (0 : Int) = (List.range h).map (pS g w 0 0) := by
      apply List.ext_getElem?
      intro j
      by_cases hj : j < h
      · have : pS g w 0 0 j = 0 := by unfold pS; rw [if_neg (by omega)]; split <;> rfl
        simp [hj, this]
      · rw [List.getElem?_eq_none (by simp; omega), List.getElem?_eq_none (by simp; omega)]
    have i2 : List.replicate w (0 : Int) = (List.range w).map (eS g w h 0 0) := by
      apply List.ext_getElem?
      intro j
      by_cases hj : j < w
      · have : eS g w h 0 0 j = 0 := by unfold eS; rw [if_neg (by omega)]; rfl
        simp [hj, this]
      · rw [List.getElem?_eq_none (by simp; omega), List.getElem?_eq_none (by simp; omega)]
    rw [i1, i2]
    refine whileO_inv (fun s => ∃ k : Nat, k ≤ h ∧ s = ((List.range h).map (pS g w k 0), (List.range w).map (eS g w h k 0), (k : Int))) (fun s => ((h : Int) - s.2.2).toNat) _ ⟨0, Nat.zero_le _, rfl⟩ ?_
    rintro s ⟨k, hk, rfl⟩
    by_cases hlt : k < h
    · obtain ⟨t, t1, rfl⟩ := inner k hlt
      refine .inl ⟨((List.range h).map (pS g w (k + 1) 0), (List.range w).map (eS g w h (k + 1) 0), ((k + 1 : Nat) : Int)), ?_, ⟨k + 1, hlt, rfl⟩, by simp; omega⟩
      unfold raddleref24_Turns_l2
      simp only [dT (show (k : Int) < g.H by rw [G.hh]; omega), if_true, t1, Option.bind_some, w64_succ (show k < 9223372036854775807 by omega)]
    · obtain rfl : k = h := by omega
      refine .inr ⟨((List.range k).map (pS g w k 0), (List.range w).map (eS g w k k 0)), ?_, ?_⟩
      · unfold raddleref24_Turns_l2
        simp only [dF (show ¬ (k : Int) < g.H by rw [G.hh]; omega), Bool.false_eq_true, if_false]
      · refine Prod.ext ?_ ?_
        · exact map_cong fun j hj => by unfold pS; rw [if_pos hj]
        · exact map_cong fun i _ => by unfold eS; rw [if_neg (by omega)]
  obtain ⟨t, t1, rfl⟩ := outer
  have m1 : makeO g.H (0 : Int) = some (List.replicate h 0) := makeO_of G.hh (by omega)
  have m2 : makeO g.W (0 : Int) = some (List.replicate w 0) := makeO_of G.hw (by omega)
  unfold F_raddleref24_Turns
  simp only [(gcheck_eq g).2, he, Option.bind_some, bne_self_eq_false, Bool.false_eq_true, if_false, m1, m2, t1]
/-- sums -/
def sumTo (l : List Int) (k : Nat) : Int := (l.take k).foldl (· + ·) 0
theorem sumTo_succ {l : List Int} {k : Nat} (h : k < l.length) : sumTo l (k + 1) = sumTo l k + l[k] := by
  unfold sumTo
  rw [List.take_succ_eq_append_getElem h, List.foldl_append]; rfl
theorem sumTo_le {l : List Int} (hl : ∀ x, x ∈ l → 0 ≤ x ∧ x ≤ 64) : ∀ {k : Nat}, k ≤ l.length → 0 ≤ sumTo l k ∧ sumTo l k ≤ 64 * k := by
  intro k
  induction k with
  | zero => intro _; simp [sumTo]
  | succ k ih =>
    intro h
    have h1 := ih (by omega)
    have h2 := hl _ (List.getElem_mem (show k < l.length by omega))
    rw [sumTo_succ (by omega)]
    omega
theorem sum_eq (a : Int) (l : List Int) (hl : ∀ x, x ∈ l → 0 ≤ x ∧ x ≤ 64) (hn : l.length ≤ 64) (h0 : 0 ≤ a) (h1 : a ≤ 4096) :
    F_sett_sum a l = some (a + sumTo l l.length) ∧ F_raddleref24_total l = some (sumTo l l.length) := by
  constructor
  · have key : ∃ t, whileO (sett_sum_l1 l) (a, 0) = some t ∧ t = a + sumTo l l.length := by
      refine loop_st l.length (fun k s => s = a + sumTo l k) _ (by simp [sumTo]) ?_ ?_
      · rintro k s hk rfl
        have := sumTo_le hl (show k ≤ l.length by omega)
        have := hl _ (List.getElem_mem hk)
        refine .inl ⟨_, ?_, rfl⟩
        unfold sett_sum_l1
        rw [sumTo_succ hk]
        simp only [dT (show (k : Int) < (l.length : Int) by omega), if_true, idxO_nat hk, Option.bind_some, w64_succ (show k < 9223372036854775807 by omega)]
        rw [w64_of (by omega) (by omega), Int.add_assoc]
      · rintro s rfl
        refine ⟨_, ?_, rfl⟩
        unfold sett_sum_l1
        simp
    obtain ⟨t, t1, rfl⟩ := key
    unfold F_sett_sum
    rw [t1]; rfl
  · have key : ∃ t, whileO (raddleref24_total_l1 l) (0, 0) = some t ∧ t = sumTo l l.length := by
      refine loop_st l.length (fun k s => s = sumTo l k) _ (by simp [sumTo]) ?_ ?_
      · rintro k s hk rfl
        have := sumTo_le hl (show k ≤ l.length by omega)
        have := hl _ (List.getElem_mem hk)
        refine .inl ⟨_, ?_, rfl⟩
        unfold raddleref24_total_l1
        rw [sumTo_succ hk]
        simp only [dT (show (k : Int) < (l.length : Int) by omega), if_true, idxO_nat hk, Option.bind_some, w64_succ (show k < 9223372036854775807 by omega)]
        rw [w64_of (by omega) (by omega)]
      · rintro s rfl
        refine ⟨_, ?_, rfl⟩
        unfold raddleref24_total_l1
        simp
    obtain ⟨t, t1, rfl⟩ := key
    unfold F_raddleref24_total
    rw [t1]; rfl
theorem picks_ok {g : api_Grid} {w h : Nat} (G : Gr g w h) : (∀ x, x ∈ picksL g w h → 0 ≤ x ∧ x ≤ 64) ∧ (picksL g w h).length = h := by
  refine ⟨fun x hx => ?_, by simp [picksL]⟩
  unfold picksL at hx
  rw [List.mem_map] at hx
  obtain ⟨y, _, rfl⟩ := hx
  have := cnt_le (dP g w y) w
  have := G.w1
  omega
theorem ends_ok {g : api_Grid} {w h : Nat} (G : Gr g w h) : (∀ x, x ∈ endsL g w h → 0 ≤ x ∧ x ≤ 64) ∧ (endsL g w h).length = w := by
  refine ⟨fun x hx => ?_, by simp [endsL]⟩
  unfold endsL at hx
  rw [List.mem_map] at hx
  obtain ⟨y, _, rfl⟩ := hx
  have := cnt_le (dE g w h y) h
  have := G.h1
  omega
theorem turns_eq (g : api_Grid) : ∃ x : (List Int) × (List Int) × Int, F_sett_Turns g = some x ∧ F_raddleref24_Turns g = some x ∧ x.1.length ≤ 64 ∧ x.2.1.length ≤ 64 ∧
    (x.2.2 = 0 → ∃ w h, Gr g w h ∧ x = (picksL g w h, endsL g w h, 0)) := by
  by_cases he : gerr g = 0
  · obtain ⟨w, h, G⟩ := gerr_zero he
    have h1 := picks_ok G
    have h2 := ends_ok G
    exact ⟨_, pturns G he, rturns G he, by show (picksL g w h).length ≤ 64; rw [h1.2]; exact G.h1, by show (endsL g w h).length ≤ 64; rw [h2.2]; exact G.w1, fun _ => ⟨w, h, G, rfl⟩⟩
  · unfold F_sett_Turns F_raddleref24_Turns
    simp only [(gcheck_eq g).1, (gcheck_eq g).2, Option.bind_some, nT he, if_true]
    exact ⟨_, rfl, rfl, by simp, by simp, fun h => absurd h he⟩
theorem setts_eq (g : api_Grid) (diam : Int) : ∃ x : api_Ratio × api_Ratio × Int, F_sett_Setts g diam = some x ∧ F_raddleref24_Setts g diam = some x := by
  obtain ⟨t, t1, t2, t3, t4, t5⟩ := turns_eq g
  unfold F_sett_Setts F_raddleref24_Setts
  simp only [t1, t2, Option.bind_some]
  by_cases he : t.2.2 = 0
  case neg => simp only [nT he, if_true]; exact ⟨_, rfl, rfl⟩
  obtain ⟨w, h, G, rfl⟩ := t5 he
  simp only [bne_self_eq_false, Bool.false_eq_true, if_false]
  by_cases d1 : diam < 1
  · simp only [dT d1, if_true, Option.bind_some]; exact ⟨_, rfl, rfl⟩
  by_cases d2 : 1000 < diam
  · simp only [dF d1, dT d2, Bool.false_eq_true, if_true, if_false, Option.bind_some]; exact ⟨_, rfl, rfl⟩
  have p1 := picks_ok G
  have p2 := ends_ok G
  have w0 := G.w0
  have w1 := G.w1
  have h0 := G.h0
  have h1 := G.h1
  have hp : w * h ≤ 64 * 64 := Nat.mul_le_mul G.w1 G.h1
  have hp0 : 0 < w * h := Nat.mul_pos w0 h0
  have e1 : w64 (g.W * g.H) = ((w * h : Nat) : Int) := by
    rw [G.hw, G.hh, ← Int.natCast_mul, w64_of (by omega) (by omega)]
  obtain ⟨D, rfl⟩ : ∃ D : Nat, diam = D := ⟨diam.toNat, by omega⟩
  have hq : D * (w * h) ≤ 1000 * 4096 := Nat.mul_le_mul (by omega) hp
  have e2 : w64 ((D : Int) * ((w * h : Nat) : Int)) = ((D * (w * h) : Nat) : Int) := by
    rw [← Int.natCast_mul, w64_of (by omega) (by omega)]
  have s1 := sum_eq ((w * h : Nat) : Int) (picksL g w h) p1.1 (by rw [p1.2]; exact h1) (by omega) (by omega)
  have s2 := sum_eq ((w * h : Nat) : Int) (endsL g w h) p2.1 (by rw [p2.2]; exact w1) (by omega) (by omega)
  have b1 := sumTo_le p1.1 (Nat.le_refl _)
  have b2 := sumTo_le p2.1 (Nat.le_refl _)
  rw [p1.2] at b1
  rw [p2.2] at b2
  have f1 : ∃ S : Nat, sumTo (picksL g w h) (picksL g w h).length = S ∧ S ≤ 10000 := ⟨(sumTo (picksL g w h) (picksL g w h).length).toNat, by rw [p1.2]; omega, by rw [p1.2]; omega⟩
  have f2 : ∃ S : Nat, sumTo (endsL g w h) (endsL g w h).length = S ∧ S ≤ 10000 := ⟨(sumTo (endsL g w h) (endsL g w h).length).toNat, by rw [p2.2]; omega, by rw [p2.2]; omega⟩
  obtain ⟨S1, g1, k1⟩ := f1
  obtain ⟨S2, g2, k2⟩ := f2
  rw [g1] at s1
  rw [g2] at s2
  have e3 : w64 (((w * h : Nat) : Int) + (S1 : Int)) = ((w * h + S1 : Nat) : Int) := by rw [w64_of (by omega) (by omega)]; omega
  have e4 : w64 (((w * h : Nat) : Int) + (S2 : Int)) = ((w * h + S2 : Nat) : Int) := by rw [w64_of (by omega) (by omega)]; omega
  have e5 : (((w * h : Nat) : Int) + (S1 : Int)) = ((w * h + S1 : Nat) : Int) := by omega
  have e6 : (((w * h : Nat) : Int) + (S2 : Int)) = ((w * h + S2 : Nat) : Int) := by omega
  simp only [dF d1, dF d2, Bool.false_eq_true, if_false, Option.bind_some, e1, e2, s1.1, s1.2, s2.1, s2.2, e3, e4]
  rw [e5, e6]
  simp only [ymake_eq _ _ (show D * (w * h) ≤ 9223372036854775807 by omega) (show w * h + S1 ≤ 9223372036854775807 by omega) (by omega), rmake_eq _ _ (show D * (w * h) ≤ 9223372036854775807 by omega) (show w * h + S1 ≤ 9223372036854775807 by omega) (by omega),
    ymake_eq _ _ (show D * (w * h) ≤ 9223372036854775807 by omega) (show w * h + S2 ≤ 9223372036854775807 by omega) (by omega), rmake_eq _ _ (show D * (w * h) ≤ 9223372036854775807 by omega) (show w * h + S2 ≤ 9223372036854775807 by omega) (by omega), Option.bind_some]
  exact ⟨_, rfl, rfl⟩
theorem lsame_self (l : List Int) (hl : l.length ≤ 1000000) : F_raddleref24_Same l l = some true := by
  have hw : whileO (raddleref24_Same_l1 l l) 0 = some (if (List.range l.length).all (fun _ => true) = true then .inr () else .inl false) := by
    refine loop_all _ _ _ _ (fun k hk => ?_) ?_
    · unfold raddleref24_Same_l1
      simp only [dT (show (k : Int) < (l.length : Int) by omega), if_true, idxO_nat hk, Option.bind_some, bne_self_eq_false, Bool.false_eq_true, if_false, w64_succ (show k < 9223372036854775807 by omega)]
    · unfold raddleref24_Same_l1; simp
  have : (List.range l.length).all (fun _ => true) = true := by simp
  rw [this] at hw
  unfold F_raddleref24_Same
  simp [hw]
theorem gsame_self (g : api_Grid) (hl : g.Bits.length ≤ 1000000) : F_raddleref01_Same g g = some true := by
  have hw : whileO (raddleref01_Same_l1 g g) 0 = some (if (List.range g.Bits.length).all (fun _ => true) = true then .inr () else .inl false) := by
    refine loop_all _ _ _ _ (fun k hk => ?_) ?_
    · unfold raddleref01_Same_l1
      simp only [dT (show (k : Int) < (g.Bits.length : Int) by omega), if_true, idxO_nat hk, Option.bind_some, bne_self_eq_false, Bool.false_eq_true, if_false, w64_succ (show k < 9223372036854775807 by omega)]
    · unfold raddleref01_Same_l1; simp
  have : (List.range g.Bits.length).all (fun _ => true) = true := by simp
  rw [this] at hw
  unfold F_raddleref01_Same
  simp [hw]
theorem law_SettTurns (g : api_Grid) (diam : Int) (wg : wf_api_Grid g) (wd : InK .i64 diam) : F_raddlelaw24_SettTurns g diam = some true := by
  unfold F_raddlelaw24_SettTurns F_raddleref01_Great
  by_cases hg : 4200 < g.Bits.length
  · simp [show (4200 : Int) < (g.Bits.length : Int) by omega]
  have ht : F_raddleref01_Twin g = some g := by
    unfold F_raddleref01_Twin
    rw [appO_of (by simp; omega)]
    rfl
  obtain ⟨x, x1, x2, x3, x4, _⟩ := turns_eq g
  obtain ⟨y, y1, y2⟩ := setts_eq g diam
  simp only [dF (show ¬ (4200 : Int) < (g.Bits.length : Int) by omega), Option.bind_some, Bool.false_eq_true, if_false, ht, x1, x2, y1, y2, lsame_self _ (show x.1.length ≤ 1000000 by omega), lsame_self _ (show x.2.1.length ≤ 1000000 by omega), if_true, beq_self_eq_true, Bool.and_self, gsame_self _ (show g.Bits.length ≤ 1000000 by omega)]

end Go.Proofs.Ytjndecalogklhaa
namespace Go.Proofs.Ytjndecalogklhaa
open Go.RowKit
set_option linter.unusedVariables false

theorem par_path (a : Nat → Bool) (n : Nat) : cnt (fun k => a k != a (k + 1)) n % 2 = if (a 0 != a n) = true then 1 else 0 := by
  induction n with
  | zero => simp [cnt]
  | succ n ih =>
    rw [cnt_succ, Nat.add_mod, ih]
    cases a 0 <;> cases a n <;> cases a (n + 1) <;> rfl
theorem even_round (a : Nat → Bool) (n : Nat) : cnt (fun k => a k != a ((k + n - 1) % n)) n % 2 = 0 := by
  rw [← cnt_round]
  cases n with
  | zero => rfl
  | succ m =>
    have e1 : cnt (fun k => a k != a ((k + 1) % (m + 1))) m = cnt (fun k => a k != a (k + 1)) m := cnt_cong fun k hk => by
      rw [Nat.mod_eq_of_lt (by omega)]
    rw [cnt_succ, e1, Nat.mod_self, Nat.add_mod, par_path]
    cases a 0 <;> cases a m <;> rfl
theorem sumTo_le' {c : Int} {l : List Int} (hl : ∀ x, x ∈ l → 0 ≤ x ∧ x ≤ c) : ∀ {k : Nat}, k ≤ l.length → 0 ≤ sumTo l k ∧ sumTo l k ≤ c * k := by
  intro k
  induction k with
  | zero => intro _; simp [sumTo]
  | succ k ih =>
    intro h
    have h1 := ih (by omega)
    have h2 := hl _ (List.getElem_mem (show k < l.length by omega))
    have h3 : c * ((k + 1 : Nat) : Int) = c * k + c := by rw [Int.natCast_add, Int.mul_add]; simp
    rw [sumTo_succ (by omega), h3]
    omega
theorem rule_loop {B : Int × Int → Option ((Int × Int) ⊕ (Bool ⊕ Int))} (l : List Int) (n : Nat) (m : Int) (hl : l.length = n) (hn : n ≤ 64) (hm : m ≤ 64) (hb : ∀ x, x ∈ l → 0 ≤ x ∧ x ≤ m ∧ remI x 2 = some 0)
    (hB : ∀ s i, B (s, i) = if decide (i < (n : Int)) = true then Option.bind (α := Bool) (Option.bind (idxO l i) fun x => if decide (x < 0) = true then some true else if decide (m < x) = true then some true else Option.bind (remI x 2) fun z => some (z != 0))
      (fun o => if o = true then some (.inr (.inl false)) else Option.bind (idxO l i) fun x => some (.inl (w64 (s + x), w64 (i + 1)))) else some (.inr (.inr s))) :
    whileO B (0, 0) = some (.inr (sumTo l n)) := by
  have key : ∃ t, whileO B (0, 0) = some t ∧ t = .inr (sumTo l n) := by
    refine loop_st n (fun k s => s = sumTo l k) _ (by simp [sumTo]) ?_ ?_
    · rintro k s hk rfl
      have hk' : k < l.length := by omega
      have hs := sumTo_le (l := l) (fun x hx => by have := hb x hx; omega) (show k ≤ l.length by omega)
      have hx := hb _ (List.getElem_mem hk')
      refine .inl ⟨_, ?_, rfl⟩
      rw [hB, sumTo_succ hk']
      simp only [dT (show (k : Int) < (n : Int) by omega), if_true, idxO_nat hk', Option.bind_some, dF (show ¬ l[k] < 0 by omega), dF (show ¬ m < l[k] by omega), hx.2.2, Bool.false_eq_true, if_false, bne_self_eq_false, w64_succ (show k < 9223372036854775807 by omega)]
      rw [w64_of (by omega) (by omega)]
    · rintro s rfl
      refine ⟨_, ?_, rfl⟩
      rw [hB]
      simp only [dF (show ¬ (n : Int) < (n : Int) by omega), Bool.false_eq_true, if_false]
  obtain ⟨t, t1, rfl⟩ := key
  exact t1
theorem wmul {a b : Nat} (h : a * b ≤ 9223372036854775807) : w64 ((a : Int) * (b : Int)) = ((a * b : Nat) : Int) := by
  rw [← Int.natCast_mul, w64_of (by omega) (by omega)]
theorem wadd {a b : Nat} (h : a + b ≤ 9223372036854775807) : w64 ((a : Int) + (b : Int)) = ((a + b : Nat) : Int) := by
  rw [w64_of (by omega) (by omega)]; omega
theorem ycheck_eq (x y : Nat) (h0 : 1 ≤ y) (h1 : y ≤ 1000000000) (h2 : x ≤ 1000000000) (h3 : Nat.gcd x y = 1) : F_yarn_Check ⟨(x : Int), (y : Int)⟩ = some 0 := by
  unfold F_yarn_Check
  simp only [dF (show ¬ (y : Int) < 1 by omega), dF (show ¬ (1000000000 : Int) < y by omega), dF (show ¬ (1000000000 : Int) < x by omega), size_eq x (by omega), u64_of (show (0 : Int) ≤ y by omega) (by omega), ygcd_eq, h3, show (((1 : Nat) : Int) != 1) = false from rfl, Bool.false_eq_true, if_false, Option.bind_some]
/-- what is known of a ratio that Make made of numbers that are not great -/
theorem mk_facts {X Y : Nat} (hX : X ≤ 1000000000) (hY : Y ≤ 1000000000) (hY0 : 0 < Y) : ∃ a b q : Nat, mk X Y = (⟨(a : Int), (b : Int)⟩, 0) ∧ a * q = X ∧ b * q = Y ∧ 0 < q ∧ 0 < b ∧ a ≤ X ∧ b ≤ Y ∧ Nat.gcd a b = 1 := by
  have hg : 0 < Nat.gcd X Y := Nat.gcd_pos_of_pos_right X hY0
  have h3 : Nat.gcd (X / Nat.gcd X Y) (Y / Nat.gcd X Y) = 1 := Nat.gcd_div_gcd_div_gcd_of_pos_right hY0
  have h4 : 1 ≤ Y / Nat.gcd X Y := (Nat.le_div_iff_mul_le hg).2 (by rw [Nat.one_mul]; exact Nat.gcd_le_right X hY0)
  have h5 : X / Nat.gcd X Y ≤ X := Nat.div_le_self _ _
  have h6 : Y / Nat.gcd X Y ≤ Y := Nat.div_le_self _ _
  refine ⟨X / Nat.gcd X Y, Y / Nat.gcd X Y, Nat.gcd X Y, ?_, Nat.div_mul_cancel (Nat.gcd_dvd_left X Y), Nat.div_mul_cancel (Nat.gcd_dvd_right X Y), hg, h4, h5, h6, h3⟩
  unfold mk
  rw [if_pos ⟨by omega, by omega⟩]
/-- the setts of a valid grid -/
theorem setts_val {g : api_Grid} {w h : Nat} (G : Gr g w h) (he : gerr g = 0) {D : Nat} (d0 : 1 ≤ D) (d1 : D ≤ 1000) : ∃ P E : Nat, sumTo (picksL g w h) h = (P : Int) ∧ sumTo (endsL g w h) w = (E : Int) ∧ P ≤ w * h ∧ E ≤ w * h ∧
    F_sett_Setts g (D : Int) = some ((mk (D * (w * h)) (w * h + P)).1, (mk (D * (w * h)) (w * h + E)).1, 0) := by
  have p1 := picks_ok G
  have p2 := ends_ok G
  have q1 : ∀ x, x ∈ picksL g w h → 0 ≤ x ∧ x ≤ (w : Int) := fun x hx => by
    unfold picksL at hx
    rw [List.mem_map] at hx
    obtain ⟨y, _, rfl⟩ := hx
    have := cnt_le (dP g w y) w
    omega
  have q2 : ∀ x, x ∈ endsL g w h → 0 ≤ x ∧ x ≤ (h : Int) := fun x hx => by
    unfold endsL at hx
    rw [List.mem_map] at hx
    obtain ⟨y, _, rfl⟩ := hx
    have := cnt_le (dE g w h y) h
    omega
  have w0 := G.w0
  have w1 := G.w1
  have h0 := G.h0
  have h1 := G.h1
  have hp : w * h ≤ 64 * 64 := Nat.mul_le_mul G.w1 G.h1
  have hp0 : 0 < w * h := Nat.mul_pos w0 h0
  have e1 : w64 (g.W * g.H) = ((w * h : Nat) : Int) := by
    rw [G.hw, G.hh, ← Int.natCast_mul, w64_of (by omega) (by omega)]
  have hq : D * (w * h) ≤ 1000 * 4096 := Nat.mul_le_mul (by omega) hp
  have e2 : w64 ((D : Int) * ((w * h : Nat) : Int)) = ((D * (w * h) : Nat) : Int) := wmul (by omega)
  have s1 := sum_eq ((w * h : Nat) : Int) (picksL g w h) p1.1 (by rw [p1.2]; exact h1) (by omega) (by omega)
  have s2 := sum_eq ((w * h : Nat) : Int) (endsL g w h) p2.1 (by rw [p2.2]; exact w1) (by omega) (by omega)
  have b1 := sumTo_le' q1 (Nat.le_refl _)
  have b2 := sumTo_le' q2 (Nat.le_refl _)
  rw [p1.2, ← Int.natCast_mul] at b1
  rw [p2.2, ← Int.natCast_mul, Nat.mul_comm h w] at b2
  rw [p1.2] at s1
  rw [p2.2] at s2
  obtain ⟨P, hP⟩ : ∃ P : Nat, sumTo (picksL g w h) h = P := ⟨(sumTo (picksL g w h) h).toNat, by omega⟩
  obtain ⟨E, hE⟩ : ∃ E : Nat, sumTo (endsL g w h) w = E := ⟨(sumTo (endsL g w h) w).toNat, by omega⟩
  rw [hP] at s1 b1
  rw [hE] at s2 b2
  refine ⟨P, E, hP, hE, by omega, by omega, ?_⟩
  unfold F_sett_Setts
  rw [pturns G he]
  have e5 : (((w * h : Nat) : Int) + (P : Int)) = ((w * h + P : Nat) : Int) := by omega
  have e6 : (((w * h : Nat) : Int) + (E : Int)) = ((w * h + E : Nat) : Int) := by omega
  simp only [bne_self_eq_false, dF (show ¬ (D : Int) < 1 by omega), dF (show ¬ 1000 < (D : Int) by omega), Bool.false_eq_true, if_false, Option.bind_some, e1, e2, s1.1, s2.1]
  rw [e5, e6]
  simp only [ymake_eq _ _ (show D * (w * h) ≤ 9223372036854775807 by omega) (show w * h + P ≤ 9223372036854775807 by omega) (by omega),
    ymake_eq _ _ (show D * (w * h) ≤ 9223372036854775807 by omega) (show w * h + E ≤ 9223372036854775807 by omega) (by omega), Option.bind_some]
/-- the rule, for one sett -/
theorem rule_one {D n P : Nat} (n0 : 0 < n) (n1 : n ≤ 4096) (d0 : 1 ≤ D) (d1 : D ≤ 1000) (hP : P ≤ n) : ∃ a b : Nat, (mk (D * n) (n + P)).1 = ⟨(a : Int), (b : Int)⟩ ∧ F_yarn_Check ⟨(a : Int), (b : Int)⟩ = some 0 ∧
    w64 ((a : Int) * w64 (((n : Nat) : Int) + (P : Int))) = w64 (w64 ((D : Int) * ((n : Nat) : Int)) * (b : Int)) ∧ w64 ((D : Int) * (b : Int)) ≤ w64 (2 * (a : Int)) ∧ (a : Int) ≤ w64 ((D : Int) * (b : Int)) := by
  have hq : D * n ≤ 1000 * 4096 := Nat.mul_le_mul d1 n1
  obtain ⟨a, b, q, e, h1, h2, h3, h4, h5, h6, h7⟩ := mk_facts (X := D * n) (Y := n + P) (by omega) (by omega) (by omega)
  refine ⟨a, b, by rw [e], ycheck_eq a b h4 (by omega) (by omega) h7, ?_, ?_, ?_⟩
  · have k1 : a * (n + P) = D * n * b := by rw [← h1, ← h2, ← Nat.mul_assoc, Nat.mul_right_comm]
    have k2 : a * (n + P) ≤ 4096000 * 8192 := Nat.mul_le_mul (by omega) (by omega)
    rw [wadd (by omega), wmul (by omega), wmul (by omega), wmul (by omega), k1]
  · have k1 : D * b ≤ 1000 * 8192 := Nat.mul_le_mul d1 (by omega)
    have k2 : D * (n + P) ≤ 2 * (D * n) := by
      have : D * (n + P) ≤ D * (2 * n) := Nat.mul_le_mul_left D (by omega)
      rw [Nat.mul_left_comm] at this
      exact this
    have k3 : D * b * q ≤ 2 * a * q := by rw [Nat.mul_assoc, h2, Nat.mul_assoc, h1]; exact k2
    have k4 : D * b ≤ 2 * a := Nat.le_of_mul_le_mul_right k3 h3
    rw [wmul (by omega), w64_of (by omega) (by omega)]
    omega
  · have k1 : D * b ≤ 1000 * 8192 := Nat.mul_le_mul d1 (by omega)
    have k2 : a * q ≤ D * b * q := by rw [h1, Nat.mul_assoc, h2]; exact Nat.mul_le_mul_left D (by omega)
    have k3 : a ≤ D * b := Nat.le_of_mul_le_mul_right k2 h3
    rw [wmul (by omega)]
    omega

end Go.Proofs.Ytjndecalogklhaa
namespace Go.Proofs.Ytjndecalogklhaa
open Go.RowKit
set_option linter.unusedVariables false

noncomputable def F_raddlelaw24_fit (p0 : api_Grid) : Option Bool :=
  Option.bind (α := Bool) (
    Option.bind (F_raddleref01_Great p0) fun r10 =>
    if !r10 then
      Option.bind (F_raddleref01_Check p0) fun r13 =>
      some (r13 == 0)
    else
      some false) fun o7 =>
  some o7
set_option maxHeartbeats 4000000 in
set_option maxRecDepth 100000 in
theorem c_raddlelaw24_fit (E : Nat → Prop) (w0 : World) (p0 : api_Grid) (v0 : Value) (r : Bool) (h : F_raddlelaw24_fit p0 = some r) (S : St0 E [] w0 w0 [] [fRep r_api_Grid (v0) p0]) :
    Calls Try.prog 18 #[v0] w0 (Ret (X := Unit) E [] w0 (fun _ => .bool r) (fun _ => []) (fun _ => [])) := by
  unfold F_raddlelaw24_fit at h
  obtain ⟨u1, rfl, hu2⟩ := S.know (i := 0) (e := fRep r_api_Grid (v0) p0) (by kernel_rfl)
  have S := S.learn (fRep (rL rB) u1 p0.Bits) hu2
  obtain ⟨ad3, cp4, _, rfl, _⟩ := hu2
  refine sEnter (args := [.agg #[.int .i64 p0.W, .int .i64 p0.H, .slice ad3 p0.Bits.length cp4]]) 11 Try.func18 rfl rfl (by simp) S (fun a S => ?_)
  refine sSeq (fun K5 hK5 => ?_)
  refine sRegion ?_
  refine sBox (v := .agg #[.int .i64 p0.W, .int .i64 p0.H, .slice ad3 p0.Bits.length cp4]) S (wN rfl) rfl (by kernel_rfl) [.int .i64 p0.W, .int .i64 p0.H, .slice ad3 p0.Bits.length cp4] rfl rfl (by decide) (fun a b6 w S => ?_)
  refine sMove (.bool false) S (wN rfl) (.inr rfl) (by kernel_rfl) rfl (by decide) (fun a S => ?_)
  refine leafL (leafT (hK5 _ _ ?_))
  obtain ⟨t8, h, g9⟩ := bindSome h
  refine sCut (fun a w => ∃ o7, o7 = t8 ∧ St E [] w0 11 a w [(2, .bool o7)] [] []) ?_ (fun a w hI => ?_)
  · refine sRegion ?_
    refine sLoadN (p := b6) (off := 0) (T := 24) (vs := [.int .i64 p0.W, .int .i64 p0.H, .slice ad3 p0.Bits.length cp4]) 0 [.int .i64 p0.W, .int .i64 p0.H, .slice ad3 p0.Bits.length cp4] S (wN rfl) rfl (by kernel_rfl) (by kernel_rfl) (by kernel_rfl) (by kernel_rfl) rfl rfl (by decide) (fun a S => ?_)
    obtain ⟨r10, hx11, h⟩ := bindSome h
    have S1 := S.mem
    refine sCallQ (X := Unit) (f := 9) (vs := [.agg #[.int .i64 p0.W, .int .i64 p0.H, .slice ad3 p0.Bits.length cp4]]) (val := fun _ => .bool r10) S (wN rfl) rfl callee9 (by kernel_rfl) (S1.quiet [1] (by kernel_rfl)) (fun E1 w1 S1 => c_raddleref01_Great E1 w1 p0 (.agg #[.int .i64 p0.W, .int .i64 p0.H, .slice ad3 p0.Bits.length cp4]) r10 hx11 S1) rfl (by decide) (fun _ a w S => ?_)
    refine sNot (b := r10) S (wN rfl) rfl (by kernel_rfl) rfl (by decide) (fun a S => ?_)
    refine sMove (.bool (!r10)) S (wN rfl) (.inl rfl) (by kernel_rfl) rfl (by decide) (fun a S => ?_)
    rcases iteSome h with ⟨hc12, h⟩ | ⟨hc12, h⟩
    · refine sLoadN (p := b6) (off := 0) (T := 24) (vs := [.int .i64 p0.W, .int .i64 p0.H, .slice ad3 p0.Bits.length cp4]) 0 [.int .i64 p0.W, .int .i64 p0.H, .slice ad3 p0.Bits.length cp4] S (wG (c := !r10) 3 true 6 rfl rfl (by kernel_rfl) hc12) rfl (by kernel_rfl) (by kernel_rfl) (by kernel_rfl) (by kernel_rfl) rfl rfl (by decide) (fun a S => ?_)
      obtain ⟨r13, hx14, h⟩ := bindSome h
      have S1 := S.mem
      refine sCallQ (X := Unit) (f := 36) (vs := [.agg #[.int .i64 p0.W, .int .i64 p0.H, .slice ad3 p0.Bits.length cp4]]) (val := fun _ => .int .i64 r13) S (wG (c := !r10) 3 true 6 rfl rfl (by kernel_rfl) hc12) rfl callee36 (by kernel_rfl) (S1.quiet [1] (by kernel_rfl)) (fun E1 w1 S1 => c_raddleref01_Check E1 w1 p0 (.agg #[.int .i64 p0.W, .int .i64 p0.H, .slice ad3 p0.Bits.length cp4]) r13 hx14 S1) rfl (by decide) (fun _ a w S => ?_)
      refine sBin (.bool (r13 == 0)) S (wG (c := !r10) 3 true 6 rfl rfl (by kernel_rfl) hc12) rfl (by kernel_rfl) (by kernel_rfl) (bEq _ _ _ _ .i64 r13 0) rfl (by decide) (fun a S => ?_)
      refine sPickT (b := !r10) (.bool (r13 == 0)) S (wN rfl) rfl (by kernel_rfl) hc12 (by kernel_rfl) rfl (by decide) (fun a S => ?_)
      refine sMove (.bool (r13 == 0)) S (wN rfl) (.inr rfl) (by kernel_rfl) rfl (by decide) (fun a S => ?_)
      exact leafL (leafT (⟨r13 == 0, Option.some.inj h, S.fix [] [] (by decide) (by kernel_rfl) (by kernel_rfl) (by kernel_rfl)⟩))
    · refine sSkip (c := !r10) 3 true 6 7 S rfl rfl (by kernel_rfl) hc12 rfl (by decide) (fun a S => ?_)
      refine sSkip (c := !r10) 3 true 6 8 S rfl rfl (by kernel_rfl) hc12 rfl (by decide) (fun a S => ?_)
      refine sSkip (c := !r10) 3 true 6 9 S rfl rfl (by kernel_rfl) hc12 rfl (by decide) (fun a S => ?_)
      refine sPickF (b := !r10) (.bool false) S (wN rfl) rfl (by kernel_rfl) hc12 (by kernel_rfl) rfl (by decide) (fun a S => ?_)
      refine sMove (.bool false) S (wN rfl) (.inr rfl) (by kernel_rfl) rfl (by decide) (fun a S => ?_)
      exact leafL (leafT (⟨false, Option.some.inj h, S.fix [] [] (by decide) (by kernel_rfl) (by kernel_rfl) (by kernel_rfl)⟩))
  · obtain ⟨o7, rfl, S⟩ := hI
    have h := g9
    clear g9
    try dsimp only at h
    obtain rfl := Option.some.inj h
    exact wp_ret (sRet (.bool o7) S (rsl1 rfl (rvT (t := 2) (v := .bool o7) S (by kernel_rfl))) ⟨(), rfl, S.mem.sel [] [] (by decide) (by kernel_rfl) (by kernel_rfl)⟩)

end Go.Proofs.Ytjndecalogklhaa
namespace Go.Proofs.Ytjndecalogklhaa
open Go.RowKit
set_option linter.unusedVariables false

noncomputable def F_grid_around (p0 : Int) (p1 : Int) : Option Int :=
  Option.bind (α := Int) (
    Option.bind (remI p0 p1) fun z6 =>
    if decide (z6 < 0) then
      some (w64 (z6 + p1))
    else
      some z6) fun o2 =>
  some o2
set_option maxHeartbeats 4000000 in
set_option maxRecDepth 100000 in
theorem c_grid_around (E : Nat → Prop) (w0 : World) (p0 : Int) (p1 : Int) (r : Int) (h : F_grid_around p0 p1 = some r) (S : St0 E [] w0 w0 [] []) :
    Calls Try.prog 53 #[.int .i64 p0, .int .i64 p1] w0 (Ret (X := Unit) E [] w0 (fun _ => .int .i64 r) (fun _ => []) (fun _ => [])) := by
  unfold F_grid_around at h
  refine sEnter (args := [.int .i64 p0, .int .i64 p1]) 14 Try.func53 rfl rfl (by simp) S (fun a S => ?_)
  refine sSeq (fun K1 hK1 => ?_)
  refine sRegion ?_
  refine sMove (.int .i64 0) S (wN rfl) (.inr rfl) (by kernel_rfl) rfl (by decide) (fun a S => ?_)
  refine leafL (leafT (hK1 _ _ ?_))
  obtain ⟨t3, h, g4⟩ := bindSome h
  refine sCut (fun a w => ∃ o2, o2 = t3 ∧ St E [] w0 14 a w [(0, .int .i64 o2)] [] []) ?_ (fun a w hI => ?_)
  · refine sSeq (fun K5 hK5 => ?_)
    refine sRegion ?_
    refine sMove (.int .i64 p0) S (wN rfl) (.inl rfl) (by kernel_rfl) rfl (by decide) (fun a S => ?_)
    refine sMove (.int .i64 p1) S (wN rfl) (.inl rfl) (by kernel_rfl) rfl (by decide) (fun a S => ?_)
    obtain ⟨z6, hx7, h⟩ := bindSome h
    refine sBin (.int .i64 z6) S (wN rfl) rfl (by kernel_rfl) (by kernel_rfl) (bRem _ _ _ _ (x := p0) (y := p1) hx7) rfl (by decide) (fun a S => ?_)
    refine sMove (.int .i64 z6) S (wN rfl) (.inr rfl) (by kernel_rfl) rfl (by decide) (fun a S => ?_)
    refine leafL (leafT (hK5 _ _ ?_))
    refine sSeq (fun K8 hK8 => ?_)
    refine sRegion ?_
    refine sMove (.int .i64 z6) S (wN rfl) (.inl rfl) (by kernel_rfl) rfl (by decide) (fun a S => ?_)
    refine sBin (.bool (decide (z6 < 0))) S (wN rfl) rfl (by kernel_rfl) (by kernel_rfl) (bLt _ _ _ _ .i64 z6 0) rfl (by decide) (fun a S => ?_)
    refine leafL (leafT (hK8 _ _ ?_))
    rcases iteSome h with ⟨hc9, h⟩ | ⟨hc9, h⟩
    · refine sCondT (b := decide (z6 < 0)) S (by kernel_rfl) hc9 ?_
      refine sRegion ?_
      refine sMove (.int .i64 z6) S (wN rfl) (.inl rfl) (by kernel_rfl) rfl (by decide) (fun a S => ?_)
      refine sMove (.int .i64 p1) S (wN rfl) (.inl rfl) (by kernel_rfl) rfl (by decide) (fun a S => ?_)
      refine sBin (.int .i64 (w64 (z6 + p1))) S (wN rfl) rfl (by kernel_rfl) (by kernel_rfl) (bAdd _ _ _ _ z6 p1) rfl (by decide) (fun a S => ?_)
      refine sMove (.int .i64 (w64 (z6 + p1))) S (wN rfl) (.inr rfl) (by kernel_rfl) rfl (by decide) (fun a S => ?_)
      exact leafL (leafT (⟨w64 (z6 + p1), Option.some.inj h, S.fix [] [] (by decide) (by kernel_rfl) (by kernel_rfl) (by kernel_rfl)⟩))
    · refine sCondF (b := decide (z6 < 0)) S (by kernel_rfl) hc9 ?_
      exact wp_skip (leafT (⟨z6, Option.some.inj h, S.fix [] [] (by decide) (by kernel_rfl) (by kernel_rfl) (by kernel_rfl)⟩))
  · obtain ⟨o2, rfl, S⟩ := hI
    have h := g4
    clear g4
    try dsimp only at h
    refine sSeq (fun K10 hK10 => ?_)
    refine sRegion ?_
    refine sMove (.int .i64 o2) S (wN rfl) (.inl rfl) (by kernel_rfl) rfl (by decide) (fun a S => ?_)
    refine sMove (.int .i64 o2) S (wN rfl) (.inr rfl) (by kernel_rfl) rfl (by decide) (fun a S => ?_)
    refine leafL (leafT (hK10 _ _ ?_))
    obtain rfl := Option.some.inj h
    exact wp_ret (sRet (.int .i64 o2) S (rsl1 rfl (rvT (t := 4) (v := .int .i64 o2) S (by kernel_rfl))) ⟨(), rfl, S.mem.sel [] [] (by decide) (by kernel_rfl) (by kernel_rfl)⟩)

end Go.Proofs.Ytjndecalogklhaa
namespace Go.Proofs.Ytjndecalogklhaa
open Go.RowKit
set_option linter.unusedVariables false

def anc_grid_Shift_1_s0_0 : List (List Nat) := [[], [0], [], [], [2, 3], [], [5], [2, 3, 4, 5, 6], [], [8], [2, 3, 4, 5, 6, 7, 8, 9], [], [], [11, 12], [], [14], [2, 3, 4, 5, 6, 7, 11, 12, 13, 14, 15], [2, 3, 4, 5, 6, 7, 8, 9, 10, 11, 12, 13, 14, 15, 16], [0, 1, 2, 3, 4, 5, 6, 7, 8, 9, 10, 11, 12, 13, 14, 15, 16, 17], [0, 1, 2, 3, 4, 5, 6, 7, 8, 9, 10, 11, 12, 13, 14, 15, 16, 17, 18], [0, 1, 2, 3, 4, 5, 6, 7, 8, 9, 10, 11, 12, 13, 14, 15, 16, 17, 18, 19]]
noncomputable def F_grid_Shift_1_s0 (p0 : Int) (p1 : Int) (p2 : api_Grid) (p3 : Int) (p4 : Int) : Option Bool :=
  Option.bind (F_grid_around (w64 (p1 - p3)) p2.H) fun r12 =>
  Option.bind (F_grid_around (w64 (p0 - p4)) p2.W) fun r21 =>
  Option.bind (idxO p2.Bits (w64 ((w64 (r12 * p2.W)) + r21))) fun x23 =>
  some x23
set_option maxHeartbeats 4000000 in
set_option maxRecDepth 100000 in
theorem c_grid_Shift_1_s0 (E : Nat → Prop) (w0 : World) (p0 : Int) (p1 : Int) (p2 : api_Grid) (v2 : Value) (p3 : Int) (v3 : Value) (p4 : Int) (v4 : Value) (r : Bool) (h : F_grid_Shift_1_s0 p0 p1 p2 p3 p4 = some r) (S : St0 E [] w0 w0 [] [fPtr r_api_Grid (v2) p2, fPtr (rI .i64) (v3) p3, fPtr (rI .i64) (v4) p4]) :
    Calls Try.prog 55 #[.int .i64 p0, .int .i64 p1, v2, v3, v4] w0 (Ret (X := Unit) E [] w0 (fun _ => .bool r) (fun _ => []) (fun _ => [])) := by
  unfold F_grid_Shift_1_s0 at h
  refine sEnter (args := [.int .i64 p0, .int .i64 p1, v2, v3, v4]) 28 Try.func55 rfl rfl (by simp) S (fun a S => ?_)
  refine sSeq (fun K1 hK1 => ?_)
  refine sRegion ?_
  refine sMove (.bool false) S (wN rfl) (.inr rfl) (by kernel_rfl) rfl (by decide) (fun a S => ?_)
  refine leafL (leafT (hK1 _ _ ?_))
  refine sSeq (fun K2 hK2 => ?_)
  obtain ⟨r12, hx13, h⟩ := bindSome h
  obtain ⟨r21, hx22, h⟩ := bindSome h
  obtain ⟨x23, hx24, h⟩ := bindSome h
  obtain ⟨q28, hq29, S⟩ := pFld (P := Try.prog) (r := r_api_Grid) (s2 := (rL rB)) (g := (·.Bits)) (q := v2) (z := p2) 24 2 0 2 S (by kernel_rfl) (by kernel_rfl) comp_api_Grid_Bits
  obtain ⟨u30, S⟩ := pLoad (r := (rL rB)) (q := q28) (x := p2.Bits) 0 S (by kernel_rfl)
  obtain ⟨ad31, cp32, _, rfl, _⟩ := S.mem.know (i := 1) (e := fRep (rL rB) (u30) p2.Bits) (by kernel_rfl)
  obtain ⟨u33, S⟩ := pLoad (r := (rI .i64)) (q := v3) (x := p3) 4 S (by kernel_rfl)
  obtain rfl : u33 = .int .i64 p3 := S.mem.know (i := 1) (e := fRep (rI .i64) (u33) p3) (by kernel_rfl)
  obtain ⟨q34, hq35, S⟩ := pFld (P := Try.prog) (r := r_api_Grid) (s2 := (rI .i64)) (g := (·.H)) (q := v2) (z := p2) 24 1 5 1 S (by kernel_rfl) (by kernel_rfl) comp_api_Grid_H
  obtain ⟨u36, S⟩ := pLoad (r := (rI .i64)) (q := q34) (x := p2.H) 0 S (by kernel_rfl)
  obtain rfl : u36 = .int .i64 p2.H := S.mem.know (i := 1) (e := fRep (rI .i64) (u36) p2.H) (by kernel_rfl)
  obtain ⟨q37, hq38, S⟩ := pFld (P := Try.prog) (r := r_api_Grid) (s2 := (rI .i64)) (g := (·.W)) (q := v2) (z := p2) 24 0 8 0 S (by kernel_rfl) (by kernel_rfl) comp_api_Grid_W
  obtain ⟨u39, S⟩ := pLoad (r := (rI .i64)) (q := q37) (x := p2.W) 0 S (by kernel_rfl)
  obtain rfl : u39 = .int .i64 p2.W := S.mem.know (i := 1) (e := fRep (rI .i64) (u39) p2.W) (by kernel_rfl)
  obtain ⟨u40, S⟩ := pLoad (r := (rI .i64)) (q := v4) (x := p4) 13 S (by kernel_rfl)
  obtain rfl : u40 = .int .i64 p4 := S.mem.know (i := 1) (e := fRep (rI .i64) (u40) p4) (by kernel_rfl)
  obtain ⟨q41, hq42, S⟩ := pFld (P := Try.prog) (r := r_api_Grid) (s2 := (rI .i64)) (g := (·.W)) (q := v2) (z := p2) 24 0 13 0 S (by kernel_rfl) (by kernel_rfl) comp_api_Grid_W
  obtain ⟨u43, S⟩ := pLoad (r := (rI .i64)) (q := q41) (x := p2.W) 0 S (by kernel_rfl)
  obtain rfl : u43 = .int .i64 p2.W := S.mem.know (i := 1) (e := fRep (rI .i64) (u43) p2.W) (by kernel_rfl)
  obtain ⟨q44, hq45, S⟩ := pIdx (P := Try.prog) (r := rB) (v := .slice ad31 p2.Bits.length cp32) (xs := p2.Bits) (j := w64 ((w64 (r12 * p2.W)) + r21)) 22 4 14 S Try.underlying22 (by kernel_rfl) (by kernel_rfl) hx24
  obtain ⟨u46, S⟩ := pLoad (r := rB) (q := q44) (x := x23) 0 S (by kernel_rfl)
  obtain rfl : u46 = .bool x23 := S.mem.know (i := 1) (e := fRep rB (u46) x23) (by kernel_rfl)
  refine sDraw (nf := []) (W := [(0, 8, q28), (1, 9, .slice ad31 p2.Bits.length cp32), (2, 10, .int .i64 p1), (3, 11, .int .i64 p3), (4, 12, .int .i64 (w64 (p1 - p3))), (5, 13, q34), (6, 14, .int .i64 p2.H), (7, 15, .int .i64 r12), (8, 16, q37), (9, 17, .int .i64 p2.W), (10, 18, .int .i64 (w64 (r12 * p2.W))), (11, 19, .int .i64 p0), (12, 20, .int .i64 p4), (13, 21, .int .i64 (w64 (p0 - p4))), (14, 22, q41), (15, 23, .int .i64 p2.W), (16, 24, .int .i64 r21), (17, 25, .int .i64 (w64 ((w64 (r12 * p2.W)) + r21))), (18, 26, q44), (19, 27, .bool x23), (20, 7, .bool x23)]) (by kernel_rfl) S ?_
  refine node_by (A := anc_grid_Shift_1_s0_0) (nf := []) (Y := []) (W := [(0, 8, q28), (1, 9, .slice ad31 p2.Bits.length cp32), (2, 10, .int .i64 p1), (3, 11, .int .i64 p3), (4, 12, .int .i64 (w64 (p1 - p3))), (5, 13, q34), (6, 14, .int .i64 p2.H), (7, 15, .int .i64 r12), (8, 16, q37), (9, 17, .int .i64 p2.W), (10, 18, .int .i64 (w64 (r12 * p2.W))), (11, 19, .int .i64 p0), (12, 20, .int .i64 p4), (13, 21, .int .i64 (w64 (p0 - p4))), (14, 22, q41), (15, 23, .int .i64 p2.W), (16, 24, .int .i64 r21), (17, 25, .int .i64 (w64 ((w64 (r12 * p2.W)) + r21))), (18, 26, q44), (19, 27, .bool x23), (20, 7, .bool x23)]) 21 (by kernel_rfl) (by kernel_rfl) (by kernel_rfl) (by kernel_rfl) (by kernel_rfl) [0, 1, 2, 3, 4, 5, 6, 7, 8, 9, 10, 11, 12, 13, 14, 15, 16, 17, 18, 19, 20] (by kernel_rfl) (by decide) (by decide) (aF 0 20 (by decide) ?_ (aF 1 19 (by decide) ?_ (aF 2 18 (by decide) ?_ (aF 3 17 (by decide) ?_ (aF 4 16 (by decide) ?_ (aF 5 15 (by decide) ?_ (aF 6 14 (by decide) ?_ (aF 7 13 (by decide) ?_ (aF 8 12 (by decide) ?_ (aF 9 11 (by decide) ?_ (aF 10 10 (by decide) ?_ (aF 11 9 (by decide) ?_ (aF 12 8 (by decide) ?_ (aF 13 7 (by decide) ?_ (aF 14 6 (by decide) ?_ (aF 15 5 (by decide) ?_ (aF 16 4 (by decide) ?_ (aF 17 3 (by decide) ?_ (aF 18 2 (by decide) ?_ (aF 19 1 (by decide) ?_ (aF 20 0 (by decide) ?_ (trivial)))))))))))))))))))))) [(7, .bool x23)] (fin_of [some 20] rfl (by kernel_rfl) (by kernel_rfl)) (fun _ a w S => ?_)
  · refine fI 8 q28 [(2, v2)] 0 [none] rfl rfl (by kernel_rfl) rfl (by kernel_rfl) (by kernel_rfl) fun G a w S => ?_
    refine sFldV (q := v2) S (wN rfl) rfl (by kernel_rfl) hq29 rfl (by decide) (fun a S => ?_)
    exact leafL ⟨rfl, S⟩
  · refine fI 9 (.slice ad31 p2.Bits.length cp32) [(8, q28)] 1 [some 0] rfl rfl (by kernel_rfl) rfl (by kernel_rfl) (by kernel_rfl) fun G a w S => ?_
    refine sLoadV1 (vq := q28) 16 (.slice ad31 p2.Bits.length cp32) S (wN rfl) rfl (by kernel_rfl) (by kernel_rfl) (by kernel_rfl) rfl (by decide) (fun a S => ?_)
    exact leafL ⟨rfl, S⟩
  · refine fI 10 (.int .i64 p1) [(1, .int .i64 p1)] 2 [none] rfl rfl (by kernel_rfl) rfl (by kernel_rfl) (by kernel_rfl) fun G a w S => ?_
    refine sMove (.int .i64 p1) S (wN rfl) (.inl rfl) (by kernel_rfl) rfl (by decide) (fun a S => ?_)
    exact leafL ⟨rfl, S⟩
  · refine fI 11 (.int .i64 p3) [(3, v3)] 3 [none] rfl rfl (by kernel_rfl) rfl (by kernel_rfl) (by kernel_rfl) fun G a w S => ?_
    refine sLoadV1 (vq := v3) 14 (.int .i64 p3) S (wN rfl) rfl (by kernel_rfl) (by kernel_rfl) (by kernel_rfl) rfl (by decide) (fun a S => ?_)
    exact leafL ⟨rfl, S⟩
  · refine fI 12 (.int .i64 (w64 (p1 - p3))) [(10, .int .i64 p1), (11, .int .i64 p3)] 4 [some 2, some 3] rfl rfl (by kernel_rfl) rfl (by kernel_rfl) (by kernel_rfl) fun G a w S => ?_
    refine sBin (.int .i64 (w64 (p1 - p3))) S (wN rfl) rfl (by kernel_rfl) (by kernel_rfl) (bSub _ _ _ _ p1 p3) rfl (by decide) (fun a S => ?_)
    exact leafL ⟨rfl, S⟩
  · refine fI 13 q34 [(2, v2)] 5 [none] rfl rfl (by kernel_rfl) rfl (by kernel_rfl) (by kernel_rfl) fun G a w S => ?_
    refine sFldV (q := v2) S (wN rfl) rfl (by kernel_rfl) hq35 rfl (by decide) (fun a S => ?_)
    exact leafL ⟨rfl, S⟩
  · refine fI 14 (.int .i64 p2.H) [(13, q34)] 6 [some 5] rfl rfl (by kernel_rfl) rfl (by kernel_rfl) (by kernel_rfl) fun G a w S => ?_
    refine sLoadV1 (vq := q34) 11 (.int .i64 p2.H) S (wN rfl) rfl (by kernel_rfl) (by kernel_rfl) (by kernel_rfl) rfl (by decide) (fun a S => ?_)
    exact leafL ⟨rfl, S⟩
  · refine fI 15 (.int .i64 r12) [(12, .int .i64 (w64 (p1 - p3))), (14, .int .i64 p2.H)] 7 [some 4, some 6] rfl rfl (by kernel_rfl) rfl (by kernel_rfl) (by kernel_rfl) fun G a w S => ?_
    have S1 := S.mem
    refine sCallQ (X := Unit) (f := 53) (vs := [.int .i64 (w64 (p1 - p3)), .int .i64 p2.H]) (val := fun _ => .int .i64 r12) S (wN rfl) rfl callee53 (by kernel_rfl) (S1.quiet [] (by kernel_rfl)) (fun E1 w1 S1 => c_grid_around E1 w1 (w64 (p1 - p3)) p2.H r12 hx13 S1) rfl (by decide) (fun _ a w S => ?_)
    exact leafL ⟨rfl, S⟩
  · refine fI 16 q37 [(2, v2)] 8 [none] rfl rfl (by kernel_rfl) rfl (by kernel_rfl) (by kernel_rfl) fun G a w S => ?_
    refine sFldV (q := v2) S (wN rfl) rfl (by kernel_rfl) hq38 rfl (by decide) (fun a S => ?_)
    exact leafL ⟨rfl, S⟩
  · refine fI 17 (.int .i64 p2.W) [(16, q37)] 9 [some 8] rfl rfl (by kernel_rfl) rfl (by kernel_rfl) (by kernel_rfl) fun G a w S => ?_
    refine sLoadV1 (vq := q37) 8 (.int .i64 p2.W) S (wN rfl) rfl (by kernel_rfl) (by kernel_rfl) (by kernel_rfl) rfl (by decide) (fun a S => ?_)
    exact leafL ⟨rfl, S⟩
  · refine fI 18 (.int .i64 (w64 (r12 * p2.W))) [(15, .int .i64 r12), (17, .int .i64 p2.W)] 10 [some 7, some 9] rfl rfl (by kernel_rfl) rfl (by kernel_rfl) (by kernel_rfl) fun G a w S => ?_
    refine sBin (.int .i64 (w64 (r12 * p2.W))) S (wN rfl) rfl (by kernel_rfl) (by kernel_rfl) (bMul _ _ _ _ r12 p2.W) rfl (by decide) (fun a S => ?_)
    exact leafL ⟨rfl, S⟩
  · refine fI 19 (.int .i64 p0) [(0, .int .i64 p0)] 11 [none] rfl rfl (by kernel_rfl) rfl (by kernel_rfl) (by kernel_rfl) fun G a w S => ?_
    refine sMove (.int .i64 p0) S (wN rfl) (.inl rfl) (by kernel_rfl) rfl (by decide) (fun a S => ?_)
    exact leafL ⟨rfl, S⟩
  · refine fI 20 (.int .i64 p4) [(4, v4)] 12 [none] rfl rfl (by kernel_rfl) rfl (by kernel_rfl) (by kernel_rfl) fun G a w S => ?_
    refine sLoadV1 (vq := v4) 6 (.int .i64 p4) S (wN rfl) rfl (by kernel_rfl) (by kernel_rfl) (by kernel_rfl) rfl (by decide) (fun a S => ?_)
    exact leafL ⟨rfl, S⟩
  · refine fI 21 (.int .i64 (w64 (p0 - p4))) [(19, .int .i64 p0), (20, .int .i64 p4)] 13 [some 11, some 12] rfl rfl (by kernel_rfl) rfl (by kernel_rfl) (by kernel_rfl) fun G a w S => ?_
    refine sBin (.int .i64 (w64 (p0 - p4))) S (wN rfl) rfl (by kernel_rfl) (by kernel_rfl) (bSub _ _ _ _ p0 p4) rfl (by decide) (fun a S => ?_)
    exact leafL ⟨rfl, S⟩
  · refine fI 22 q41 [(2, v2)] 14 [none] rfl rfl (by kernel_rfl) rfl (by kernel_rfl) (by kernel_rfl) fun G a w S => ?_
    refine sFldV (q := v2) S (wN rfl) rfl (by kernel_rfl) hq42 rfl (by decide) (fun a S => ?_)
    exact leafL ⟨rfl, S⟩
  · refine fI 23 (.int .i64 p2.W) [(22, q41)] 15 [some 14] rfl rfl (by kernel_rfl) rfl (by kernel_rfl) (by kernel_rfl) fun G a w S => ?_
    refine sLoadV1 (vq := q41) 3 (.int .i64 p2.W) S (wN rfl) rfl (by kernel_rfl) (by kernel_rfl) (by kernel_rfl) rfl (by decide) (fun a S => ?_)
    exact leafL ⟨rfl, S⟩
  · refine fI 24 (.int .i64 r21) [(21, .int .i64 (w64 (p0 - p4))), (23, .int .i64 p2.W)] 16 [some 13, some 15] rfl rfl (by kernel_rfl) rfl (by kernel_rfl) (by kernel_rfl) fun G a w S => ?_
    have S1 := S.mem
    refine sCallQ (X := Unit) (f := 53) (vs := [.int .i64 (w64 (p0 - p4)), .int .i64 p2.W]) (val := fun _ => .int .i64 r21) S (wN rfl) rfl callee53 (by kernel_rfl) (S1.quiet [] (by kernel_rfl)) (fun E1 w1 S1 => c_grid_around E1 w1 (w64 (p0 - p4)) p2.W r21 hx22 S1) rfl (by decide) (fun _ a w S => ?_)
    exact leafL ⟨rfl, S⟩
  · refine fI 25 (.int .i64 (w64 ((w64 (r12 * p2.W)) + r21))) [(18, .int .i64 (w64 (r12 * p2.W))), (24, .int .i64 r21)] 17 [some 10, some 16] rfl rfl (by kernel_rfl) rfl (by kernel_rfl) (by kernel_rfl) fun G a w S => ?_
    refine sBin (.int .i64 (w64 ((w64 (r12 * p2.W)) + r21))) S (wN rfl) rfl (by kernel_rfl) (by kernel_rfl) (bAdd _ _ _ _ (w64 (r12 * p2.W)) r21) rfl (by decide) (fun a S => ?_)
    exact leafL ⟨rfl, S⟩
  · refine fI 26 q44 [(9, .slice ad31 p2.Bits.length cp32), (25, .int .i64 (w64 ((w64 (r12 * p2.W)) + r21)))] 18 [some 1, some 17] rfl rfl (by kernel_rfl) rfl (by kernel_rfl) (by kernel_rfl) fun G a w S => ?_
    refine sIdxV (v := .slice ad31 p2.Bits.length cp32) (k := .i64) (j := w64 ((w64 (r12 * p2.W)) + r21)) S (wN rfl) rfl (by kernel_rfl) (by kernel_rfl) hq45 rfl (by decide) (fun a S => ?_)
    exact leafL ⟨rfl, S⟩
  · refine fI 27 (.bool x23) [(26, q44)] 19 [some 18] rfl rfl (by kernel_rfl) rfl (by kernel_rfl) (by kernel_rfl) fun G a w S => ?_
    refine sLoadV1 (vq := q44) 0 (.bool x23) S (wN rfl) rfl (by kernel_rfl) (by kernel_rfl) (by kernel_rfl) rfl (by decide) (fun a S => ?_)
    exact leafL ⟨rfl, S⟩
  · refine fI 7 (.bool x23) [(27, .bool x23)] 20 [some 19] rfl rfl (by kernel_rfl) rfl (by kernel_rfl) (by kernel_rfl) fun G a w S => ?_
    refine sMove (.bool x23) S (wN rfl) (.inr rfl) (by kernel_rfl) rfl (by decide) (fun a S => ?_)
    exact leafL ⟨rfl, S⟩
  · refine leafT (hK2 _ _ ?_)
    obtain rfl := Option.some.inj h
    exact wp_ret (sRet (.bool x23) S (rsl1 rfl (rvT (t := 7) (v := .bool x23) S (by kernel_rfl))) ⟨(), rfl, S.mem.sel [] [] (by decide) (by kernel_rfl) (by kernel_rfl)⟩)

end Go.Proofs.Ytjndecalogklhaa
namespace Go.Proofs.Ytjndecalogklhaa
open Go.RowKit
set_option linter.unusedVariables false

def anc_grid_build_s0_0 : List (List Nat) := [[], [0], [], [], [], [2, 3, 4], [2, 3, 4, 5], [0, 1, 2, 3, 4, 5, 6], [0, 1, 2, 3, 4, 5, 6, 7], [0, 1, 2, 3, 4, 5, 6, 7, 8]]
noncomputable def grid_build_s0_l1 (p0 : Int) (s15 : Int) (p2 : api_Grid) (p3 : Int) (p4 : Int) : (Int × List Bool) → Option ((Int × List Bool) ⊕ List Bool) := fun s0 => match s0 with
  | (s35, s36) =>
    if decide (s35 < p0) then
      Option.bind (F_grid_Shift_1_s0 s35 s15 p2 p3 p4) fun r50 =>
      Option.bind (appO s36 [r50]) fun l54 =>
      some (.inl (w64 (s35 + 1), l54))
    else
      some (.inr s36)
noncomputable def grid_build_s0_l2 (p1 : Int) (p0 : Int) (p2 : api_Grid) (p3 : Int) (p4 : Int) : (Int × List Bool) → Option ((Int × List Bool) ⊕ List Bool) := fun s0 => match s0 with
  | (s15, s16) =>
    if decide (s15 < p1) then
      Option.bind (α := List Bool) (
        Option.bind (whileO (grid_build_s0_l1 p0 s15 p2 p3 p4) (0, s16)) fun e42 =>
          some e42) fun o28 =>
      some (.inl (w64 (s15 + 1), o28))
    else
      some (.inr s16)
noncomputable def F_grid_build_s0 (p0 : Int) (p1 : Int) (p2 : api_Grid) (p3 : Int) (p4 : Int) : Option api_Grid :=
  Option.bind (capO (w64 (p0 * p1))) fun z6 =>
  Option.bind (α := List Bool) (
    Option.bind (whileO (grid_build_s0_l2 p1 p0 p2 p3 p4) (0, ([] : List Bool))) fun e22 =>
      some e22) fun o9 =>
  some (api_Grid.mk p0 p1 o9)
def c_grid_build_s0_val (r : api_Grid) (x : Value) : Value := x
def c_grid_build_s0_D (r : api_Grid) (x : Value) : List Fact := [fRep r_api_Grid x r]
set_option maxHeartbeats 4000000 in
set_option maxRecDepth 100000 in
theorem c_grid_build_s0 (E : Nat → Prop) (w0 : World) (p0 : Int) (p1 : Int) (p2 : api_Grid) (v2 : Value) (p3 : Int) (v3 : Value) (p4 : Int) (v4 : Value) (r : api_Grid) (h : F_grid_build_s0 p0 p1 p2 p3 p4 = some r) (S : St0 E [] w0 w0 [] [fPtr r_api_Grid (v2) p2, fPtr (rI .i64) (v3) p3, fPtr (rI .i64) (v4) p4]) :
    Calls Try.prog 54 #[.int .i64 p0, .int .i64 p1, .func (.func 55) #[] #[v2, v3, v4]] w0 (Ret (X := Value) E [] w0 (c_grid_build_s0_val r) (fun _ => []) (c_grid_build_s0_D r)) := by
  unfold F_grid_build_s0 at h
  refine sEnter (args := [.int .i64 p0, .int .i64 p1, .func (.func 55) #[] #[v2, v3, v4]]) 37 Try.func54 rfl rfl (by simp) S (fun a S => ?_)
  refine sSeq (fun K1 hK1 => ?_)
  refine sRegion ?_
  refine sAlloc (.agg #[.int .i64 0, .int .i64 0, .slice none 0 0]) S (wN rfl) rfl (by kernel_rfl) [.int .i64 0, .int .i64 0, .slice none 0 0] rfl rfl (by decide) (fun a b2 w S => ?_)
  refine leafL (leafT (hK1 _ _ ?_))
  refine sSeq (fun K3 hK3 => ?_)
  refine sRegion ?_
  refine sMove (.int .i64 p0) S (wN rfl) (.inl rfl) (by kernel_rfl) rfl (by decide) (fun a S => ?_)
  refine sMove (.int .i64 p1) S (wN rfl) (.inl rfl) (by kernel_rfl) rfl (by decide) (fun a S => ?_)
  refine sMove (.int .i64 p0) S (wN rfl) (.inl rfl) (by kernel_rfl) rfl (by decide) (fun a S => ?_)
  refine sMove (.int .i64 p1) S (wN rfl) (.inl rfl) (by kernel_rfl) rfl (by decide) (fun a S => ?_)
  refine sBin (.int .i64 (w64 (p0 * p1))) S (wN rfl) rfl (by kernel_rfl) (by kernel_rfl) (bMul _ _ _ _ p0 p1) rfl (by decide) (fun a S => ?_)
  obtain ⟨z6, hx7, h⟩ := bindSome h
  refine sMake0 rB (m := w64 (p0 * p1)) (u := z6) (.bool false) 1 S (wN rfl) rfl Try.underlying22 (by kernel_rfl) (by decide) (by kernel_rfl) (by kernel_rfl) hx7 rfl (by decide) (fun a w ad4 cp5 S => ?_)
  refine sBuild [(0, .int .i64 p0), (1, .int .i64 p1), (2, .slice ad4 ([] : List Bool).length cp5)] [.int .i64 p0, .int .i64 p1, .slice ad4 ([] : List Bool).length cp5] S (wN rfl) rfl (by kernel_rfl) (by kernel_rfl) rfl (by decide) (fun a S => ?_)
  refine sAlloc (.agg #[.int .i64 0, .int .i64 0, .slice none 0 0]) S (wN rfl) rfl (by kernel_rfl) [.int .i64 0, .int .i64 0, .slice none 0 0] rfl rfl (by decide) (fun a b8 w S => ?_)
  refine sStore (p := b8) (off := 0) (T := 24) (vs := [.int .i64 0, .int .i64 0, .slice none 0 0]) (v := .agg #[.int .i64 p0, .int .i64 p1, .slice ad4 ([] : List Bool).length cp5]) 0 [.int .i64 p0, .int .i64 p1, .slice ad4 ([] : List Bool).length cp5] S (wN rfl) rfl (by kernel_rfl) (by kernel_rfl) rfl (by kernel_rfl) (by kernel_rfl) rfl (by simp) rfl (fun a w S => ?_)
  refine leafL (leafT (hK3 _ _ ?_))
  obtain ⟨t12, h, g13⟩ := bindSome h
  refine sCut (fun a w => ∃ o9, o9 = t12 ∧ ∃ ad10, ∃ cp11, St E [] w0 37 a w [(6, .pointer (some ⟨b2, 0, none⟩)), (7, .pointer (some ⟨b8, 0, none⟩))] [eBox b2 24 [.int .i64 0, .int .i64 0, .slice none 0 0], eBox b8 24 [.int .i64 p0, .int .i64 p1, .slice ad10 o9.length cp11], eRow rB 4 (.slice ad10 o9.length cp11) o9] []) ?_ (fun a w hI => ?_)
  · refine sSeq (fun K14 hK14 => ?_)
    refine sRegion ?_
    refine sMove (.int .i64 p1) S (wN rfl) (.inl rfl) (by kernel_rfl) rfl (by decide) (fun a S => ?_)
    refine sMove (.int .i64 0) S (wN rfl) (.inl rfl) (by kernel_rfl) rfl (by decide) (fun a S => ?_)
    refine leafL (leafT (hK14 _ _ ?_))
    refine wp_block ?_
    obtain ⟨t21, hl, g20⟩ := bindSome h
    refine sLoop hl (fun s0 a w => match s0 with | (s15, s16) => ∃ ad17, ∃ cp18, St E [] w0 37 a w [(0, .int .i64 p0), (2, .func (.func 55) #[] #[v2, v3, v4]), (6, .pointer (some ⟨b2, 0, none⟩)), (7, .pointer (some ⟨b8, 0, none⟩)), (17, .int .i64 p1), (18, .int .i64 s15)] [eBox b2 24 [.int .i64 0, .int .i64 0, .slice none 0 0], eBox b8 24 [.int .i64 p0, .int .i64 p1, .slice ad17 s16.length cp18], eRow rB 4 (.slice ad17 s16.length cp18) s16] [fPtr r_api_Grid (v2) p2, fPtr (rI .i64) (v3) p3, fPtr (rI .i64) (v4) p4]) ⟨ad4, cp5, S.fix [2, 0, 1] [0, 1, 2] (by decide) (by kernel_rfl) (by kernel_rfl) (by kernel_rfl)⟩ ?_
    clear hl h
    intro s0 a w c0 hI h hu19
    obtain ⟨s15, s16⟩ := s0
    unfold grid_build_s0_l2 at h
    dsimp only at h hI
    obtain ⟨ad17, cp18, S⟩ := hI
    refine sSeq (fun K25 hK25 => ?_)
    refine sRegion ?_
    refine sBin (.bool (decide (s15 < p1))) S (wN rfl) rfl (by kernel_rfl) (by kernel_rfl) (bLt _ _ _ _ .i64 s15 p1) rfl (by decide) (fun a S => ?_)
    refine leafL (leafT (hK25 _ _ ?_))
    refine sSeq (fun K26 hK26 => ?_)
    rcases iteSome h with ⟨hc27, h⟩ | ⟨hc27, h⟩
    · refine sCondT (b := decide (s15 < p1)) S (by kernel_rfl) hc27 ?_
      refine wp_skip (leafT (hK26 _ _ ?_))
      obtain ⟨t31, h, g32⟩ := bindSome h
      refine sCut (fun a w => ∃ o28, o28 = t31 ∧ ∃ ad29, ∃ cp30, St E [] w0 37 a w [(0, .int .i64 p0), (2, .func (.func 55) #[] #[v2, v3, v4]), (6, .pointer (some ⟨b2, 0, none⟩)), (7, .pointer (some ⟨b8, 0, none⟩)), (17, .int .i64 p1), (18, .int .i64 s15)] [eBox b2 24 [.int .i64 0, .int .i64 0, .slice none 0 0], eBox b8 24 [.int .i64 p0, .int .i64 p1, .slice ad29 o28.length cp30], eRow rB 4 (.slice ad29 o28.length cp30) o28] [fPtr r_api_Grid (v2) p2, fPtr (rI .i64) (v3) p3, fPtr (rI .i64) (v4) p4]) ?_ (fun a w hI => ?_)
      · refine wp_block ?_
        refine sSeq (fun K33 hK33 => ?_)
        refine sRegion ?_
        refine sMove (.int .i64 s15) S (wN rfl) (.inl rfl) (by kernel_rfl) rfl (by decide) (fun a S => ?_)
        refine sMove (.int .i64 s15) S (wN rfl) (.inr rfl) (by kernel_rfl) rfl (by decide) (fun a S => ?_)
        refine leafL (leafT (hK33 _ _ ?_))
        refine sSeq (fun K34 hK34 => ?_)
        refine sRegion ?_
        refine sMove (.int .i64 p0) S (wN rfl) (.inl rfl) (by kernel_rfl) rfl (by decide) (fun a S => ?_)
        refine sMove (.int .i64 0) S (wN rfl) (.inl rfl) (by kernel_rfl) rfl (by decide) (fun a S => ?_)
        refine leafL (leafT (hK34 _ _ ?_))
        refine wp_block ?_
        obtain ⟨t41, hl, g40⟩ := bindSome h
        refine sLoop hl (fun s0 a w => match s0 with | (s35, s36) => ∃ ad37, ∃ cp38, St E [] w0 37 a w [(0, .int .i64 p0), (2, .func (.func 55) #[] #[v2, v3, v4]), (6, .pointer (some ⟨b2, 0, none⟩)), (7, .pointer (some ⟨b8, 0, none⟩)), (8, .int .i64 s15), (17, .int .i64 p1), (18, .int .i64 s15), (21, .int .i64 p0), (22, .int .i64 s35)] [eBox b2 24 [.int .i64 0, .int .i64 0, .slice none 0 0], eBox b8 24 [.int .i64 p0, .int .i64 p1, .slice ad37 s36.length cp38], eRow rB 4 (.slice ad37 s36.length cp38) s36] [fPtr r_api_Grid (v2) p2, fPtr (rI .i64) (v3) p3, fPtr (rI .i64) (v4) p4]) ⟨ad17, cp18, S.fix [0, 1, 2] [0, 1, 2] (by decide) (by kernel_rfl) (by kernel_rfl) (by kernel_rfl)⟩ ?_
        clear hl h
        intro s0 a w c0 hI h hu39
        obtain ⟨s35, s36⟩ := s0
        unfold grid_build_s0_l1 at h
        dsimp only at h hI
        obtain ⟨ad37, cp38, S⟩ := hI
        refine sSeq (fun K45 hK45 => ?_)
        refine sRegion ?_
        refine sBin (.bool (decide (s35 < p0))) S (wN rfl) rfl (by kernel_rfl) (by kernel_rfl) (bLt _ _ _ _ .i64 s35 p0) rfl (by decide) (fun a S => ?_)
        refine leafL (leafT (hK45 _ _ ?_))
        refine sSeq (fun K46 hK46 => ?_)
        rcases iteSome h with ⟨hc47, h⟩ | ⟨hc47, h⟩
        · refine sCondT (b := decide (s35 < p0)) S (by kernel_rfl) hc47 ?_
          refine wp_skip (leafT (hK46 _ _ ?_))
          refine sSeq (fun K48 hK48 => ?_)
          refine wp_block ?_
          refine sSeq (fun K49 hK49 => ?_)
          refine sRegion ?_
          refine sMove (.int .i64 s35) S (wN rfl) (.inl rfl) (by kernel_rfl) rfl (by decide) (fun a S => ?_)
          refine sMove (.int .i64 s35) S (wN rfl) (.inr rfl) (by kernel_rfl) rfl (by decide) (fun a S => ?_)
          refine leafL (leafT (hK49 _ _ ?_))
          obtain ⟨r50, hx51, h⟩ := bindSome h
          obtain ⟨l54, hx55, h⟩ := bindSome h
          refine sDraw (nf := [6, 7, 9]) (W := [(0, 25, .pointer (some ⟨b8, 2, none⟩)), (1, 26, .slice ad37 s36.length cp38), (2, 27, .func (.func 55) #[] #[v2, v3, v4]), (3, 28, .int .i64 s35), (4, 29, .int .i64 s15), (5, 30, .bool r50)]) (by kernel_rfl) S ?_
          refine node_by (A := anc_grid_build_s0_0) (nf := [6, 7, 9]) (Y := []) (W := [(0, 25, .pointer (some ⟨b8, 2, none⟩)), (1, 26, .slice ad37 s36.length cp38), (2, 27, .func (.func 55) #[] #[v2, v3, v4]), (3, 28, .int .i64 s35), (4, 29, .int .i64 s15), (5, 30, .bool r50)]) 10 (by kernel_rfl) (by kernel_rfl) (by kernel_rfl) (by kernel_rfl) (by kernel_rfl) [0, 1, 2, 3, 4, 5] (by kernel_rfl) (by decide) (by decide) (aF 0 9 (by decide) ?_ (aF 1 8 (by decide) ?_ (aF 2 7 (by decide) ?_ (aF 3 6 (by decide) ?_ (aF 4 5 (by decide) ?_ (aF 5 4 (by decide) ?_ (aN 6 3 (by decide) ?_ (aB 7 2 6 (by decide) (aE 8 1 6 (by decide) (aB 9 0 6 (by decide) (trivial))))))))))) [] (fun q hq => by cases hq) (fun hY => absurd (hY 6 (by decide)) (by decide))
          · refine fI 25 (.pointer (some ⟨b8, 2, none⟩)) [(7, .pointer (some ⟨b8, 0, none⟩))] 0 [none] rfl rfl (by kernel_rfl) rfl (by kernel_rfl) (by kernel_rfl) fun G a w S => ?_
            refine sField (b := b8) (off := 0) 2 2 S (wN rfl) rfl (by kernel_rfl) (by kernel_rfl) rfl rfl (by decide) (fun a S => ?_)
            exact leafL ⟨rfl, S⟩
          · refine fI 26 (.slice ad37 s36.length cp38) [(25, .pointer (some ⟨b8, 2, none⟩))] 1 [some 0] rfl rfl (by kernel_rfl) rfl (by kernel_rfl) (by kernel_rfl) fun G a w S => ?_
            refine sLoad1 (p := b8) (off := 2) (T := 24) (vs := [.int .i64 p0, .int .i64 p1, .slice ad37 s36.length cp38]) 1 (.slice ad37 s36.length cp38) S (wN rfl) rfl (by kernel_rfl) (by kernel_rfl) (by kernel_rfl) rfl rfl (by decide) (fun a S => ?_)
            exact leafL ⟨rfl, S⟩
          · refine fI 27 (.func (.func 55) #[] #[v2, v3, v4]) [(2, .func (.func 55) #[] #[v2, v3, v4])] 2 [none] rfl rfl (by kernel_rfl) rfl (by kernel_rfl) (by kernel_rfl) fun G a w S => ?_
            refine sMove (.func (.func 55) #[] #[v2, v3, v4]) S (wN rfl) (.inl rfl) (by kernel_rfl) rfl (by decide) (fun a S => ?_)
            exact leafL ⟨rfl, S⟩
          · refine fI 28 (.int .i64 s35) [(9, .int .i64 s35)] 3 [none] rfl rfl (by kernel_rfl) rfl (by kernel_rfl) (by kernel_rfl) fun G a w S => ?_
            refine sMove (.int .i64 s35) S (wN rfl) (.inl rfl) (by kernel_rfl) rfl (by decide) (fun a S => ?_)
            exact leafL ⟨rfl, S⟩
          · refine fI 29 (.int .i64 s15) [(8, .int .i64 s15)] 4 [none] rfl rfl (by kernel_rfl) rfl (by kernel_rfl) (by kernel_rfl) fun G a w S => ?_
            refine sMove (.int .i64 s15) S (wN rfl) (.inl rfl) (by kernel_rfl) rfl (by decide) (fun a S => ?_)
            exact leafL ⟨rfl, S⟩
          · refine fI 30 (.bool r50) [(27, .func (.func 55) #[] #[v2, v3, v4]), (28, .int .i64 s35), (29, .int .i64 s15)] 5 [some 2, some 3, some 4] rfl rfl (by kernel_rfl) rfl (by kernel_rfl) (by kernel_rfl) fun G a w S => ?_
            have S1 := S.mem
            refine sCallVQ (X := Unit) (g := 55) (vs := [.int .i64 s35, .int .i64 s15]) (caps := [v2, v3, v4]) (val := fun _ => .bool r50) S (wN rfl) rfl (by kernel_rfl) callee55 (by kernel_rfl) (S1.quiet [0, 1, 2] (by kernel_rfl)) (fun E1 w1 S1 => c_grid_Shift_1_s0 E1 w1 s35 s15 p2 v2 p3 v3 p4 v4 r50 hx51 S1) rfl (by decide) (fun _ a w S => ?_)
            exact leafL ⟨rfl, S⟩
          · refine ⟨_, [(30, .bool r50)], rfl, (srcs_of [some 5] rfl (by kernel_rfl) (by kernel_rfl)), fun G a w S => ?_⟩
            refine sLit (r := rB) (T := 4) (xs := [r50]) [(0, .bool r50)] 1 [.bool r50] [.bool r50] (.bool false) 1 S (wN rfl) rfl (by kernel_rfl) Try.underlying22 (by kernel_rfl) (by decide) (by decide) (by kernel_rfl) rfl (fun E1 w1 hE => All.cons rfl (All.nil _ _ _)) rfl rfl (by decide) (fun a w ad58 cp59 S => ?_)
            refine leafL ⟨rfl, _, _, .inl ⟨31, (.slice ad58 [r50].length cp59), [], rfl, S, hz_of (by kernel_rfl), ?_⟩⟩
            refine node_by (A := anc_grid_build_s0_0) (nf := [6, 7, 9]) (Y := [6]) 10 (by kernel_rfl) (by kernel_rfl) (by kernel_rfl) (by kernel_rfl) (by kernel_rfl) [6, 0, 1, 2, 3, 4, 5] (by kernel_rfl) (by decide) (by decide) (aF 0 9 (by decide) ?_ (aF 1 8 (by decide) ?_ (aD 2 7 6 (by decide) (aD 3 6 6 (by decide) (aD 4 5 6 (by decide) (aD 5 4 6 (by decide) (aY 6 3 (by decide) (aN 7 2 (by decide) ?_ (aE 8 1 7 (by decide) (aB 9 0 7 (by decide) (trivial))))))))))) [] (fun q hq => by cases hq) (fun hY => absurd (hY 7 (by decide)) (by decide))
            · refine fI 25 (.pointer (some ⟨b8, 2, none⟩)) [(7, .pointer (some ⟨b8, 0, none⟩))] 1 [none] rfl rfl (by kernel_rfl) rfl (by kernel_rfl) (by kernel_rfl) fun G a w S => ?_
              refine sField (b := b8) (off := 0) 2 2 S (wN rfl) rfl (by kernel_rfl) (by kernel_rfl) rfl rfl (by decide) (fun a S => ?_)
              exact leafL ⟨rfl, S⟩
            · refine fI 26 (.slice ad37 s36.length cp38) [(25, .pointer (some ⟨b8, 2, none⟩))] 2 [some 1] rfl rfl (by kernel_rfl) rfl (by kernel_rfl) (by kernel_rfl) fun G a w S => ?_
              refine sLoad1 (p := b8) (off := 2) (T := 24) (vs := [.int .i64 p0, .int .i64 p1, .slice ad37 s36.length cp38]) 2 (.slice ad37 s36.length cp38) S (wN rfl) rfl (by kernel_rfl) (by kernel_rfl) (by kernel_rfl) rfl rfl (by decide) (fun a S => ?_)
              exact leafL ⟨rfl, S⟩
            · refine ⟨_, [(26, .slice ad37 s36.length cp38), (31, .slice ad58 [r50].length cp59)], rfl, (srcs_of [some 2, some 0] rfl (by kernel_rfl) (by kernel_rfl)), fun G a w S => ?_⟩
              refine sApp (r := rB) (T := 4) (xs := s36) (ys := [r50]) (v := .slice ad37 s36.length cp38) (u := .slice ad58 [r50].length cp59) 3 (.bool false) 1 S (wN rfl) rfl Try.underlying22 (by kernel_rfl) rfl (by decide) (by kernel_rfl) (by kernel_rfl) (by kernel_rfl) (src_R (T := 4) 0 S.mem (by kernel_rfl)) hx55 rfl (by decide) (fun a w ad60 cp61 S => ?_)
              refine leafL ⟨rfl, _, _, .inl ⟨32, (.slice ad60 l54.length cp61), [(8, 33, .pointer (some ⟨b8, 2, none⟩))], rfl, S, hz_of (by kernel_rfl), ?_⟩⟩
              refine node_by (A := anc_grid_build_s0_0) (nf := [6, 7, 9]) (Y := [7, 6]) 10 (by kernel_rfl) (by kernel_rfl) (by kernel_rfl) (by kernel_rfl) (by kernel_rfl) [8, 7, 6, 0, 1, 2, 3, 4, 5] (by kernel_rfl) (by decide) (by decide) (aD 0 9 7 (by decide) (aD 1 8 7 (by decide) (aD 2 7 7 (by decide) (aD 3 6 7 (by decide) (aD 4 5 7 (by decide) (aD 5 4 7 (by decide) (aY 6 3 (by decide) (aY 7 2 (by decide) (aF 8 1 (by decide) ?_ (aN 9 0 (by decide) ?_ (trivial))))))))))) [] (fun q hq => by cases hq) (fun hY => absurd (hY 9 (by decide)) (by decide))
              · refine fI 33 (.pointer (some ⟨b8, 2, none⟩)) [(7, .pointer (some ⟨b8, 0, none⟩))] 0 [none] rfl rfl (by kernel_rfl) rfl (by kernel_rfl) (by kernel_rfl) fun G a w S => ?_
                refine sField (b := b8) (off := 0) 2 2 S (wN rfl) rfl (by kernel_rfl) (by kernel_rfl) rfl rfl (by decide) (fun a S => ?_)
                exact leafL ⟨rfl, S⟩
              · refine ⟨_, [(32, .slice ad60 l54.length cp61), (33, .pointer (some ⟨b8, 2, none⟩))], rfl, (srcs_of [some 1, some 0] rfl (by kernel_rfl) (by kernel_rfl)), fun G a w S => ?_⟩
                refine sStore (p := b8) (off := 2) (T := 24) (vs := [.int .i64 p0, .int .i64 p1, .slice ad37 s36.length cp38]) (v := .slice ad60 l54.length cp61) 3 [.slice ad60 l54.length cp61] S (wN rfl) rfl (by kernel_rfl) (by kernel_rfl) rfl (by kernel_rfl) (by kernel_rfl) rfl (by simp) rfl (fun a w S => ?_)
                refine leafL ⟨rfl, _, _, .inr ⟨[], rfl, S, hz_of (by kernel_rfl), ?_⟩⟩
                refine node_by (A := anc_grid_build_s0_0) (nf := [6, 7, 9]) (Y := [9, 7, 6]) 10 (by kernel_rfl) (by kernel_rfl) (by kernel_rfl) (by kernel_rfl) (by kernel_rfl) [8, 7, 6, 0, 1, 2, 3, 4, 5] (by kernel_rfl) (by decide) (by decide) (aD 0 9 9 (by decide) (aD 1 8 9 (by decide) (aD 2 7 9 (by decide) (aD 3 6 9 (by decide) (aD 4 5 9 (by decide) (aD 5 4 9 (by decide) (aY 6 3 (by decide) (aY 7 2 (by decide) (aD 8 1 9 (by decide) (aY 9 0 (by decide) (trivial))))))))))) [(0, .int .i64 p0), (2, .func (.func 55) #[] #[v2, v3, v4]), (6, .pointer (some ⟨b2, 0, none⟩)), (7, .pointer (some ⟨b8, 0, none⟩)), (8, .int .i64 s15), (17, .int .i64 p1), (18, .int .i64 s15), (21, .int .i64 p0), (22, .int .i64 s35)] (fin_of [none, none, none, none, none, none, none, none, none] rfl (by kernel_rfl) (by kernel_rfl)) (fun _ a w S => ?_)
                · refine leafB (leafT (hK48 _ _ ?_))
                  refine sRegion ?_
                  refine sBin (.int .i64 (w64 (s35 + 1))) S (wN rfl) rfl (by kernel_rfl) (by kernel_rfl) (bAdd _ _ _ _ s35 1) rfl (by decide) (fun a S => ?_)
                  refine sMove (.int .i64 (w64 (s35 + 1))) S (wN rfl) (.inl rfl) (by kernel_rfl) rfl (by decide) (fun a S => ?_)
                  exact leafL (leafT (⟨(w64 (s35 + 1), l54), (Option.some.inj h).symm, ⟨ad60, cp61, S.fix [3, 0, 1] [0, 1, 2] (by decide) (by kernel_rfl) (by kernel_rfl) (by kernel_rfl)⟩⟩))
        · refine sCondF (b := decide (s35 < p0)) S (by kernel_rfl) hc47 ?_
          obtain rfl := Option.some.inj h
          obtain rfl := hu39 _ rfl
          have h := g40
          clear g40
          try dsimp only at h
          exact wp_exit (xThen (xThen (xHit (leafB (leafT (⟨s36, Option.some.inj h, ad37, cp38, S.fix [0, 1, 2] [0, 1, 2] (by decide) (by kernel_rfl) (by kernel_rfl) (by kernel_rfl)⟩))))))
      · obtain ⟨o28, rfl, ad29, cp30, S⟩ := hI
        have h := g32
        clear g32
        try dsimp only at h
        refine sRegion ?_
        refine sBin (.int .i64 (w64 (s15 + 1))) S (wN rfl) rfl (by kernel_rfl) (by kernel_rfl) (bAdd _ _ _ _ s15 1) rfl (by decide) (fun a S => ?_)
        refine sMove (.int .i64 (w64 (s15 + 1))) S (wN rfl) (.inl rfl) (by kernel_rfl) rfl (by decide) (fun a S => ?_)
        exact leafL (leafT (⟨(w64 (s15 + 1), o28), (Option.some.inj h).symm, ⟨ad29, cp30, S.fix [0, 1, 2] [0, 1, 2] (by decide) (by kernel_rfl) (by kernel_rfl) (by kernel_rfl)⟩⟩))
    · refine sCondF (b := decide (s15 < p1)) S (by kernel_rfl) hc27 ?_
      obtain rfl := Option.some.inj h
      obtain rfl := hu19 _ rfl
      have h := g20
      clear g20
      try dsimp only at h
      exact wp_exit (xThen (xThen (xHit (leafT (⟨s16, Option.some.inj h, ad17, cp18, S.fix [0, 1, 2] [] (by decide) (by kernel_rfl) (by kernel_rfl) (by kernel_rfl)⟩)))))
  · obtain ⟨o9, rfl, ad10, cp11, S⟩ := hI
    have h := g13
    clear g13
    try dsimp only at h
    refine sSeq (fun K62 hK62 => ?_)
    refine sRegion ?_
    refine sLoadN (p := b8) (off := 0) (T := 24) (vs := [.int .i64 p0, .int .i64 p1, .slice ad10 o9.length cp11]) 1 [.int .i64 p0, .int .i64 p1, .slice ad10 o9.length cp11] S (wN rfl) rfl (by kernel_rfl) (by kernel_rfl) (by kernel_rfl) (by kernel_rfl) rfl rfl (by decide) (fun a S => ?_)
    refine sStore (p := b2) (off := 0) (T := 24) (vs := [.int .i64 0, .int .i64 0, .slice none 0 0]) (v := .agg #[.int .i64 p0, .int .i64 p1, .slice ad10 o9.length cp11]) 0 [.int .i64 p0, .int .i64 p1, .slice ad10 o9.length cp11] S (wN rfl) rfl (by kernel_rfl) (by kernel_rfl) rfl (by kernel_rfl) (by kernel_rfl) rfl (by simp) rfl (fun a w S => ?_)
    refine leafL (leafT (hK62 _ _ ?_))
    obtain rfl := Option.some.inj h
    have S := S.shutR (r := rB) (T := 4) (v := .slice ad10 o9.length cp11) (xs := o9) 2 (by kernel_rfl)
    have S := S.learn (fRep r_api_Grid (.agg #[.int .i64 p0, .int .i64 p1, .slice ad10 o9.length cp11]) (api_Grid.mk p0 p1 o9)) ⟨_, rfl, S.mem.know (i := 0) (e := fRep (rL rB) (.slice ad10 o9.length cp11) o9) (by kernel_rfl)⟩
    exact wp_ret (sRet (.agg #[.int .i64 p0, .int .i64 p1, .slice ad10 o9.length cp11]) S (rsl1 rfl (rvN (c := 6) (t := 24) (T := 24) (p := b2) 0 [.int .i64 p0, .int .i64 p1, .slice ad10 o9.length cp11] S (by kernel_rfl) (by kernel_rfl) (by kernel_rfl) (by kernel_rfl))) ⟨(.agg #[.int .i64 p0, .int .i64 p1, .slice ad10 o9.length cp11]), rfl, S.mem.sel [] [0] (by decide) (by kernel_rfl) (by kernel_rfl)⟩)

end Go.Proofs.Ytjndecalogklhaa
namespace Go.Proofs.Ytjndecalogklhaa
open Go.RowKit
set_option linter.unusedVariables false

def anc_grid_Shift_0 : List (List Nat) := [[], [], [1], [0, 1, 2], [], [], [5], [0, 1, 2, 3, 4, 5, 6], [0, 1, 2, 3, 4, 5, 6, 7], [0, 1, 2, 3, 4, 5, 6, 7, 8]]
noncomputable def F_grid_Shift (p0 : api_Grid) (p1 : Int) (p2 : Int) : Option (api_Grid × Int) :=
  Option.bind (F_grid_Check p0) fun r12 =>
  if r12 != 0 then
    some ((api_Grid.mk 0 0 ([] : (List Bool))), r12)
  else
    Option.bind (F_grid_around p1 p0.W) fun r18 =>
    Option.bind (F_grid_around p2 p0.H) fun r20 =>
    Option.bind (F_grid_build_s0 p0.W p0.H p0 r20 r18) fun r23 =>
    some (r23, 0)
def c_grid_Shift_val (r : (api_Grid × Int)) (x : Value) : Value := .tuple #[x, .int .i64 r.2]
def c_grid_Shift_D (r : (api_Grid × Int)) (x : Value) : List Fact := [fRep r_api_Grid x r.1]
set_option maxHeartbeats 4000000 in
set_option maxRecDepth 100000 in
theorem c_grid_Shift (E : Nat → Prop) (w0 : World) (p0 : api_Grid) (v0 : Value) (p1 : Int) (p2 : Int) (r : (api_Grid × Int)) (h : F_grid_Shift p0 p1 p2 = some r) (S : St0 E [] w0 w0 [] [fRep r_api_Grid (v0) p0]) :
    Calls Try.prog 28 #[v0, .int .i64 p1, .int .i64 p2] w0 (Ret (X := Value) E [] w0 (c_grid_Shift_val r) (fun _ => []) (c_grid_Shift_D r)) := by
  unfold F_grid_Shift at h
  obtain ⟨u1, rfl, hu2⟩ := S.know (i := 0) (e := fRep r_api_Grid (v0) p0) (by kernel_rfl)
  have S := S.learn (fRep (rL rB) u1 p0.Bits) hu2
  obtain ⟨ad3, cp4, _, rfl, _⟩ := hu2
  refine sEnter (args := [.agg #[.int .i64 p0.W, .int .i64 p0.H, .slice ad3 p0.Bits.length cp4], .int .i64 p1, .int .i64 p2]) 29 Try.func28 rfl rfl (by simp) S (fun a S => ?_)
  refine sSeq (fun K5 hK5 => ?_)
  refine sRegion ?_
  refine sBox (v := .agg #[.int .i64 p0.W, .int .i64 p0.H, .slice ad3 p0.Bits.length cp4]) S (wN rfl) rfl (by kernel_rfl) [.int .i64 p0.W, .int .i64 p0.H, .slice ad3 p0.Bits.length cp4] rfl rfl (by decide) (fun a b6 w S => ?_)
  refine sBox (v := .int .i64 p1) S (wN rfl) rfl (by kernel_rfl) [.int .i64 p1] rfl rfl (by decide) (fun a b7 w S => ?_)
  refine sBox (v := .int .i64 p2) S (wN rfl) rfl (by kernel_rfl) [.int .i64 p2] rfl rfl (by decide) (fun a b8 w S => ?_)
  refine sAlloc (.agg #[.int .i64 0, .int .i64 0, .slice none 0 0]) S (wN rfl) rfl (by kernel_rfl) [.int .i64 0, .int .i64 0, .slice none 0 0] rfl rfl (by decide) (fun a b9 w S => ?_)
  refine sMove (.int .i64 0) S (wN rfl) (.inr rfl) (by kernel_rfl) rfl (by decide) (fun a S => ?_)
  refine leafL (leafT (hK5 _ _ ?_))
  refine sSeq (fun K10 hK10 => ?_)
  refine sSeq (fun K11 hK11 => ?_)
  refine sRegion ?_
  refine sLoadN (p := b6) (off := 0) (T := 24) (vs := [.int .i64 p0.W, .int .i64 p0.H, .slice ad3 p0.Bits.length cp4]) 3 [.int .i64 p0.W, .int .i64 p0.H, .slice ad3 p0.Bits.length cp4] S (wN rfl) rfl (by kernel_rfl) (by kernel_rfl) (by kernel_rfl) (by kernel_rfl) rfl rfl (by decide) (fun a S => ?_)
  obtain ⟨r12, hx13, h⟩ := bindSome h
  have S1 := S.mem
  refine sCallQ (X := Unit) (f := 32) (vs := [.agg #[.int .i64 p0.W, .int .i64 p0.H, .slice ad3 p0.Bits.length cp4]]) (val := fun _ => .int .i64 r12) S (wN rfl) rfl callee32 (by kernel_rfl) (S1.quiet [1] (by kernel_rfl)) (fun E1 w1 S1 => c_grid_Check E1 w1 p0 (.agg #[.int .i64 p0.W, .int .i64 p0.H, .slice ad3 p0.Bits.length cp4]) r12 hx13 S1) rfl (by decide) (fun _ a w S => ?_)
  refine sMove (.int .i64 r12) S (wN rfl) (.inr rfl) (by kernel_rfl) rfl (by decide) (fun a S => ?_)
  refine leafL (leafT (hK11 _ _ ?_))
  refine sSeq (fun K14 hK14 => ?_)
  refine sRegion ?_
  refine sMove (.int .i64 r12) S (wN rfl) (.inl rfl) (by kernel_rfl) rfl (by decide) (fun a S => ?_)
  refine sBin (.bool (r12 != 0)) S (wN rfl) rfl (by kernel_rfl) (by kernel_rfl) (bNe _ _ _ _ .i64 r12 0) rfl (by decide) (fun a S => ?_)
  refine leafL (leafT (hK14 _ _ ?_))
  rcases iteSome h with ⟨hc15, h⟩ | ⟨hc15, h⟩
  · refine sCondT (b := r12 != 0) S (by kernel_rfl) hc15 ?_
    refine sSeq (fun K16 hK16 => ?_)
    refine sRegion ?_
    refine sBuild [] [.int .i64 0, .int .i64 0, .slice none 0 0] S (wN rfl) rfl (by kernel_rfl) (by kernel_rfl) rfl (by decide) (fun a S => ?_)
    refine sMove (.int .i64 r12) S (wN rfl) (.inl rfl) (by kernel_rfl) rfl (by decide) (fun a S => ?_)
    refine sStore (p := b9) (off := 0) (T := 24) (vs := [.int .i64 0, .int .i64 0, .slice none 0 0]) (v := .agg #[.int .i64 0, .int .i64 0, .slice none 0 0]) 0 [.int .i64 0, .int .i64 0, .slice none 0 0] S (wN rfl) rfl (by kernel_rfl) (by kernel_rfl) rfl (by kernel_rfl) (by kernel_rfl) rfl (by simp) rfl (fun a w S => ?_)
    refine sMove (.int .i64 r12) S (wN rfl) (.inr rfl) (by kernel_rfl) rfl (by decide) (fun a S => ?_)
    refine leafL (leafT (hK16 _ _ ?_))
    obtain rfl := Option.some.inj h
    have S := S.learn (fRep (rL rB) (.slice none 0 0) ([] : (List Bool))) (rL_nil _ _ _)
    have S := S.learn (fRep r_api_Grid (.agg #[.int .i64 0, .int .i64 0, .slice none 0 0]) (api_Grid.mk 0 0 ([] : (List Bool)))) ⟨_, rfl, S.mem.know (i := 0) (e := fRep (rL rB) (.slice none 0 0) ([] : (List Bool))) (by kernel_rfl)⟩
    exact wp_ret (rThen (sRet (.tuple #[.agg #[.int .i64 0, .int .i64 0, .slice none 0 0], .int .i64 r12]) S (rsl2 rfl (rvN (c := 6) (t := 24) (T := 24) (p := b9) 0 [.int .i64 0, .int .i64 0, .slice none 0 0] S (by kernel_rfl) (by kernel_rfl) (by kernel_rfl) (by kernel_rfl)) (rvT (t := 7) (v := .int .i64 r12) S (by kernel_rfl))) ⟨(.agg #[.int .i64 0, .int .i64 0, .slice none 0 0]), rfl, S.mem.sel [] [0] (by decide) (by kernel_rfl) (by kernel_rfl)⟩))
  · refine sCondF (b := r12 != 0) S (by kernel_rfl) hc15 ?_
    refine wp_skip (leafT (hK10 _ _ ?_))
    refine sSeq (fun K17 hK17 => ?_)
    obtain ⟨r18, hx19, h⟩ := bindSome h
    obtain ⟨r20, hx21, h⟩ := bindSome h
    refine sDraw (nf := [8, 9]) (W := [(0, 15, .int .i64 p1), (1, 16, .pointer (some ⟨b6, 0, none⟩)), (2, 17, .int .i64 p0.W), (3, 18, .int .i64 r18), (4, 19, .int .i64 p2), (5, 20, .pointer (some ⟨b6, 1, none⟩)), (6, 21, .int .i64 p0.H), (7, 22, .int .i64 r20)]) (by kernel_rfl) S ?_
    refine node_by (A := anc_grid_Shift_0) (nf := [8, 9]) (Y := []) (W := [(0, 15, .int .i64 p1), (1, 16, .pointer (some ⟨b6, 0, none⟩)), (2, 17, .int .i64 p0.W), (3, 18, .int .i64 r18), (4, 19, .int .i64 p2), (5, 20, .pointer (some ⟨b6, 1, none⟩)), (6, 21, .int .i64 p0.H), (7, 22, .int .i64 r20)]) 10 (by kernel_rfl) (by kernel_rfl) (by kernel_rfl) (by kernel_rfl) (by kernel_rfl) [0, 1, 2, 3, 4, 5, 6, 7] (by kernel_rfl) (by decide) (by decide) (aF 0 9 (by decide) ?_ (aF 1 8 (by decide) ?_ (aF 2 7 (by decide) ?_ (aF 3 6 (by decide) ?_ (aF 4 5 (by decide) ?_ (aF 5 4 (by decide) ?_ (aF 6 3 (by decide) ?_ (aF 7 2 (by decide) ?_ (aN 8 1 (by decide) ?_ (aB 9 0 8 (by decide) (trivial))))))))))) [] (fun q hq => by cases hq) (fun hY => absurd (hY 8 (by decide)) (by decide))
    · refine fI 15 (.int .i64 p1) [(4, .pointer (some ⟨b7, 0, none⟩))] 0 [none] rfl rfl (by kernel_rfl) rfl (by kernel_rfl) (by kernel_rfl) fun G a w S => ?_
      refine sLoad1 (p := b7) (off := 0) (T := 3) (vs := [.int .i64 p1]) 2 (.int .i64 p1) S (wN rfl) rfl (by kernel_rfl) (by kernel_rfl) (by kernel_rfl) rfl rfl (by decide) (fun a S => ?_)
      exact leafL ⟨rfl, S⟩
    · refine fI 16 (.pointer (some ⟨b6, 0, none⟩)) [(3, .pointer (some ⟨b6, 0, none⟩))] 1 [none] rfl rfl (by kernel_rfl) rfl (by kernel_rfl) (by kernel_rfl) fun G a w S => ?_
      refine sField (b := b6) (off := 0) 0 0 S (wN rfl) rfl (by kernel_rfl) (by kernel_rfl) rfl rfl (by decide) (fun a S => ?_)
      exact leafL ⟨rfl, S⟩
    · refine fI 17 (.int .i64 p0.W) [(16, .pointer (some ⟨b6, 0, none⟩))] 2 [some 1] rfl rfl (by kernel_rfl) rfl (by kernel_rfl) (by kernel_rfl) fun G a w S => ?_
      refine sLoad1 (p := b6) (off := 0) (T := 24) (vs := [.int .i64 p0.W, .int .i64 p0.H, .slice ad3 p0.Bits.length cp4]) 3 (.int .i64 p0.W) S (wN rfl) rfl (by kernel_rfl) (by kernel_rfl) (by kernel_rfl) rfl rfl (by decide) (fun a S => ?_)
      exact leafL ⟨rfl, S⟩
    · refine fI 18 (.int .i64 r18) [(15, .int .i64 p1), (17, .int .i64 p0.W)] 3 [some 0, some 2] rfl rfl (by kernel_rfl) rfl (by kernel_rfl) (by kernel_rfl) fun G a w S => ?_
      have S1 := S.mem
      refine sCallQ (X := Unit) (f := 53) (vs := [.int .i64 p1, .int .i64 p0.W]) (val := fun _ => .int .i64 r18) S (wN rfl) rfl callee53 (by kernel_rfl) (S1.quiet [] (by kernel_rfl)) (fun E1 w1 S1 => c_grid_around E1 w1 p1 p0.W r18 hx19 S1) rfl (by decide) (fun _ a w S => ?_)
      exact leafL ⟨rfl, S⟩
    · refine fI 19 (.int .i64 p2) [(5, .pointer (some ⟨b8, 0, none⟩))] 4 [none] rfl rfl (by kernel_rfl) rfl (by kernel_rfl) (by kernel_rfl) fun G a w S => ?_
      refine sLoad1 (p := b8) (off := 0) (T := 3) (vs := [.int .i64 p2]) 1 (.int .i64 p2) S (wN rfl) rfl (by kernel_rfl) (by kernel_rfl) (by kernel_rfl) rfl rfl (by decide) (fun a S => ?_)
      exact leafL ⟨rfl, S⟩
    · refine fI 20 (.pointer (some ⟨b6, 1, none⟩)) [(3, .pointer (some ⟨b6, 0, none⟩))] 5 [none] rfl rfl (by kernel_rfl) rfl (by kernel_rfl) (by kernel_rfl) fun G a w S => ?_
      refine sField (b := b6) (off := 0) 1 1 S (wN rfl) rfl (by kernel_rfl) (by kernel_rfl) rfl rfl (by decide) (fun a S => ?_)
      exact leafL ⟨rfl, S⟩
    · refine fI 21 (.int .i64 p0.H) [(20, .pointer (some ⟨b6, 1, none⟩))] 6 [some 5] rfl rfl (by kernel_rfl) rfl (by kernel_rfl) (by kernel_rfl) fun G a w S => ?_
      refine sLoad1 (p := b6) (off := 1) (T := 24) (vs := [.int .i64 p0.W, .int .i64 p0.H, .slice ad3 p0.Bits.length cp4]) 3 (.int .i64 p0.H) S (wN rfl) rfl (by kernel_rfl) (by kernel_rfl) (by kernel_rfl) rfl rfl (by decide) (fun a S => ?_)
      exact leafL ⟨rfl, S⟩
    · refine fI 22 (.int .i64 r20) [(19, .int .i64 p2), (21, .int .i64 p0.H)] 7 [some 4, some 6] rfl rfl (by kernel_rfl) rfl (by kernel_rfl) (by kernel_rfl) fun G a w S => ?_
      have S1 := S.mem
      refine sCallQ (X := Unit) (f := 53) (vs := [.int .i64 p2, .int .i64 p0.H]) (val := fun _ => .int .i64 r20) S (wN rfl) rfl callee53 (by kernel_rfl) (S1.quiet [] (by kernel_rfl)) (fun E1 w1 S1 => c_grid_around E1 w1 p2 p0.H r20 hx21 S1) rfl (by decide) (fun _ a w S => ?_)
      exact leafL ⟨rfl, S⟩
    · refine ⟨_, [(4, .pointer (some ⟨b7, 0, none⟩)), (18, .int .i64 r18)], rfl, (srcs_of [none, some 3] rfl (by kernel_rfl) (by kernel_rfl)), fun G a w S => ?_⟩
      refine sStore (p := b7) (off := 0) (T := 3) (vs := [.int .i64 p1]) (v := .int .i64 r18) 2 [.int .i64 r18] S (wN rfl) rfl (by kernel_rfl) (by kernel_rfl) rfl (by kernel_rfl) (by kernel_rfl) rfl (by simp) rfl (fun a w S => ?_)
      refine leafL ⟨rfl, _, _, .inr ⟨[], rfl, S, hz_of (by kernel_rfl), ?_⟩⟩
      refine node_by (A := anc_grid_Shift_0) (nf := [8, 9]) (Y := [8]) 10 (by kernel_rfl) (by kernel_rfl) (by kernel_rfl) (by kernel_rfl) (by kernel_rfl) [0, 1, 2, 3, 4, 5, 6, 7] (by kernel_rfl) (by decide) (by decide) (aD 0 9 8 (by decide) (aD 1 8 8 (by decide) (aD 2 7 8 (by decide) (aD 3 6 8 (by decide) (aD 4 5 8 (by decide) (aD 5 4 8 (by decide) (aD 6 3 8 (by decide) (aD 7 2 8 (by decide) (aY 8 1 (by decide) (aN 9 0 (by decide) ?_ (trivial))))))))))) [] (fun q hq => by cases hq) (fun hY => absurd (hY 9 (by decide)) (by decide))
      · refine ⟨_, [(5, .pointer (some ⟨b8, 0, none⟩)), (22, .int .i64 r20)], rfl, (srcs_of [none, some 7] rfl (by kernel_rfl) (by kernel_rfl)), fun G a w S => ?_⟩
        refine sStore (p := b8) (off := 0) (T := 3) (vs := [.int .i64 p2]) (v := .int .i64 r20) 2 [.int .i64 r20] S (wN rfl) rfl (by kernel_rfl) (by kernel_rfl) rfl (by kernel_rfl) (by kernel_rfl) rfl (by simp) rfl (fun a w S => ?_)
        refine leafL ⟨rfl, _, _, .inr ⟨[], rfl, S, hz_of (by kernel_rfl), ?_⟩⟩
        refine node_by (A := anc_grid_Shift_0) (nf := [8, 9]) (Y := [9, 8]) 10 (by kernel_rfl) (by kernel_rfl) (by kernel_rfl) (by kernel_rfl) (by kernel_rfl) [0, 1, 2, 3, 4, 5, 6, 7] (by kernel_rfl) (by decide) (by decide) (aD 0 9 9 (by decide) (aD 1 8 9 (by decide) (aD 2 7 9 (by decide) (aD 3 6 9 (by decide) (aD 4 5 9 (by decide) (aD 5 4 9 (by decide) (aD 6 3 9 (by decide) (aD 7 2 9 (by decide) (aY 8 1 (by decide) (aY 9 0 (by decide) (trivial))))))))))) [(3, .pointer (some ⟨b6, 0, none⟩)), (4, .pointer (some ⟨b7, 0, none⟩)), (5, .pointer (some ⟨b8, 0, none⟩)), (6, .pointer (some ⟨b9, 0, none⟩))] (fin_of [none, none, none, none] rfl (by kernel_rfl) (by kernel_rfl)) (fun _ a w S => ?_)
        · refine leafT (hK17 _ _ ?_)
          refine sSeq (fun K22 hK22 => ?_)
          refine sRegion ?_
          refine sField (b := b6) (off := 0) 0 0 S (wN rfl) rfl (by kernel_rfl) (by kernel_rfl) rfl rfl (by decide) (fun a S => ?_)
          refine sLoad1 (p := b6) (off := 0) (T := 24) (vs := [.int .i64 p0.W, .int .i64 p0.H, .slice ad3 p0.Bits.length cp4]) 3 (.int .i64 p0.W) S (wN rfl) rfl (by kernel_rfl) (by kernel_rfl) (by kernel_rfl) rfl rfl (by decide) (fun a S => ?_)
          refine sField (b := b6) (off := 0) 1 1 S (wN rfl) rfl (by kernel_rfl) (by kernel_rfl) rfl rfl (by decide) (fun a S => ?_)
          refine sLoad1 (p := b6) (off := 1) (T := 24) (vs := [.int .i64 p0.W, .int .i64 p0.H, .slice ad3 p0.Bits.length cp4]) 3 (.int .i64 p0.H) S (wN rfl) rfl (by kernel_rfl) (by kernel_rfl) (by kernel_rfl) rfl rfl (by decide) (fun a S => ?_)
          refine sFunc (g := 55) (vs := [.pointer (some ⟨b6, 0, none⟩), .pointer (some ⟨b8, 0, none⟩), .pointer (some ⟨b7, 0, none⟩)]) S (wN rfl) rfl (by kernel_rfl) rfl (by decide) (fun a S => ?_)
          obtain ⟨r23, hx24, h⟩ := bindSome h
          have S := S.shutB (r := r_api_Grid) (T := 24) (b := b6) (cs := [.int .i64 p0.W, .int .i64 p0.H, .slice ad3 p0.Bits.length cp4]) 3 (.agg #[.int .i64 p0.W, .int .i64 p0.H, .slice ad3 p0.Bits.length cp4]) p0 (by kernel_rfl) rfl (S.mem.know (i := 1) (e := fRep r_api_Grid (.agg #[.int .i64 p0.W, .int .i64 p0.H, .slice ad3 p0.Bits.length cp4]) p0) (by kernel_rfl))
          have S := S.shutB (r := (rI .i64)) (T := 3) (b := b8) (cs := [.int .i64 r20]) 0 (.int .i64 r20) r20 (by kernel_rfl) rfl (rfl)
          have S := S.shutB (r := (rI .i64)) (T := 3) (b := b7) (cs := [.int .i64 r18]) 0 (.int .i64 r18) r18 (by kernel_rfl) rfl (rfl)
          refine sCall (X := Value) (f := 54) (vs := [.int .i64 p0.W, .int .i64 p0.H, .func (.func 55) #[] #[.pointer (some ⟨b6, 0, none⟩), .pointer (some ⟨b8, 0, none⟩), .pointer (some ⟨b7, 0, none⟩)]]) (val := c_grid_build_s0_val r23) (B' := fun _ => []) (D' := c_grid_build_s0_D r23) [] [eBox b9 24 [.int .i64 0, .int .i64 0, .slice none 0 0]] [fPtr r_api_Grid (.pointer (some ⟨b6, 0, none⟩)) p0, fPtr (rI .i64) (.pointer (some ⟨b8, 0, none⟩)) r20, fPtr (rI .i64) (.pointer (some ⟨b7, 0, none⟩)) r18] [0] [2, 1, 0] S (wN rfl) rfl callee54 (by kernel_rfl) (by decide) (by kernel_rfl) (by kernel_rfl) (fun E1 w1 S1 => c_grid_build_s0 E1 w1 p0.W p0.H p0 (.pointer (some ⟨b6, 0, none⟩)) r20 (.pointer (some ⟨b8, 0, none⟩)) r18 (.pointer (some ⟨b7, 0, none⟩)) r23 hx24 S1) rfl (by decide) (fun u25 a w S => ?_)
          obtain ⟨u26, rfl, hu27⟩ := S.mem.know (i := 0) (e := fRep r_api_Grid (u25) r23) (by kernel_rfl)
          have S := S.learn (fRep (rL rB) u26 r23.Bits) hu27
          obtain ⟨ad28, cp29, _, rfl, _⟩ := hu27
          refine sStore (p := b9) (off := 0) (T := 24) (vs := [.int .i64 0, .int .i64 0, .slice none 0 0]) (v := .agg #[.int .i64 r23.W, .int .i64 r23.H, .slice ad28 r23.Bits.length cp29]) 0 [.int .i64 r23.W, .int .i64 r23.H, .slice ad28 r23.Bits.length cp29] S (wN rfl) rfl (by kernel_rfl) (by kernel_rfl) rfl (by kernel_rfl) (by kernel_rfl) rfl (by simp) rfl (fun a w S => ?_)
          refine sMove (.int .i64 0) S (wN rfl) (.inr rfl) (by kernel_rfl) rfl (by decide) (fun a S => ?_)
          refine leafL (leafT (hK22 _ _ ?_))
          obtain rfl := Option.some.inj h
          exact wp_ret (sRet (.tuple #[.agg #[.int .i64 r23.W, .int .i64 r23.H, .slice ad28 r23.Bits.length cp29], .int .i64 0]) S (rsl2 rfl (rvN (c := 6) (t := 24) (T := 24) (p := b9) 0 [.int .i64 r23.W, .int .i64 r23.H, .slice ad28 r23.Bits.length cp29] S (by kernel_rfl) (by kernel_rfl) (by kernel_rfl) (by kernel_rfl)) (rvT (t := 7) (v := .int .i64 0) S (by kernel_rfl))) ⟨(.agg #[.int .i64 r23.W, .int .i64 r23.H, .slice ad28 r23.Bits.length cp29]), rfl, S.mem.sel [] [1] (by decide) (by kernel_rfl) (by kernel_rfl)⟩)

end Go.Proofs.Ytjndecalogklhaa
namespace Go.Proofs.Ytjndecalogklhaa
open Go.RowKit
set_option linter.unusedVariables false

noncomputable def F_grid_Not_1_s0 (p0 : Int) (p1 : Int) (p2 : api_Grid) : Option Bool :=
  Option.bind (idxO p2.Bits (w64 ((w64 (p1 * p2.W)) + p0))) fun x11 =>
  some (!x11)
set_option maxHeartbeats 4000000 in
set_option maxRecDepth 100000 in
theorem c_grid_Not_1_s0 (E : Nat → Prop) (w0 : World) (p0 : Int) (p1 : Int) (p2 : api_Grid) (v2 : Value) (r : Bool) (h : F_grid_Not_1_s0 p0 p1 p2 = some r) (S : St0 E [] w0 w0 [] [fPtr r_api_Grid (v2) p2]) :
    Calls Try.prog 56 #[.int .i64 p0, .int .i64 p1, v2] w0 (Ret (X := Unit) E [] w0 (fun _ => .bool r) (fun _ => []) (fun _ => [])) := by
  unfold F_grid_Not_1_s0 at h
  refine sEnter (args := [.int .i64 p0, .int .i64 p1, v2]) 17 Try.func56 rfl rfl (by simp) S (fun a S => ?_)
  refine sSeq (fun K1 hK1 => ?_)
  refine sRegion ?_
  refine sMove (.bool false) S (wN rfl) (.inr rfl) (by kernel_rfl) rfl (by decide) (fun a S => ?_)
  refine leafL (leafT (hK1 _ _ ?_))
  refine sSeq (fun K2 hK2 => ?_)
  refine sRegion ?_
  obtain ⟨q3, hq4, S⟩ := pFld (P := Try.prog) (r := r_api_Grid) (s2 := (rL rB)) (g := (·.Bits)) (q := v2) (z := p2) 24 2 0 2 S (by kernel_rfl) (by kernel_rfl) comp_api_Grid_Bits
  refine sFldV (q := v2) S (wN rfl) rfl (by kernel_rfl) hq4 rfl (by decide) (fun a S => ?_)
  obtain ⟨u5, S⟩ := pLoad (r := (rL rB)) (q := q3) (x := p2.Bits) 0 S (by kernel_rfl)
  obtain ⟨ad6, cp7, _, rfl, _⟩ := S.mem.know (i := 1) (e := fRep (rL rB) (u5) p2.Bits) (by kernel_rfl)
  refine sLoadV1 (vq := q3) 0 (.slice ad6 p2.Bits.length cp7) S (wN rfl) rfl (by kernel_rfl) (by kernel_rfl) (by kernel_rfl) rfl (by decide) (fun a S => ?_)
  refine sMove (.int .i64 p1) S (wN rfl) (.inl rfl) (by kernel_rfl) rfl (by decide) (fun a S => ?_)
  obtain ⟨q8, hq9, S⟩ := pFld (P := Try.prog) (r := r_api_Grid) (s2 := (rI .i64)) (g := (·.W)) (q := v2) (z := p2) 24 0 3 0 S (by kernel_rfl) (by kernel_rfl) comp_api_Grid_W
  refine sFldV (q := v2) S (wN rfl) rfl (by kernel_rfl) hq9 rfl (by decide) (fun a S => ?_)
  obtain ⟨u10, S⟩ := pLoad (r := (rI .i64)) (q := q8) (x := p2.W) 0 S (by kernel_rfl)
  obtain rfl : u10 = .int .i64 p2.W := S.mem.know (i := 1) (e := fRep (rI .i64) (u10) p2.W) (by kernel_rfl)
  refine sLoadV1 (vq := q8) 0 (.int .i64 p2.W) S (wN rfl) rfl (by kernel_rfl) (by kernel_rfl) (by kernel_rfl) rfl (by decide) (fun a S => ?_)
  refine sBin (.int .i64 (w64 (p1 * p2.W))) S (wN rfl) rfl (by kernel_rfl) (by kernel_rfl) (bMul _ _ _ _ p1 p2.W) rfl (by decide) (fun a S => ?_)
  refine sMove (.int .i64 p0) S (wN rfl) (.inl rfl) (by kernel_rfl) rfl (by decide) (fun a S => ?_)
  refine sBin (.int .i64 (w64 ((w64 (p1 * p2.W)) + p0))) S (wN rfl) rfl (by kernel_rfl) (by kernel_rfl) (bAdd _ _ _ _ (w64 (p1 * p2.W)) p0) rfl (by decide) (fun a S => ?_)
  obtain ⟨x11, hx12, h⟩ := bindSome h
  obtain ⟨q13, hq14, S⟩ := pIdx (P := Try.prog) (r := rB) (v := .slice ad6 p2.Bits.length cp7) (xs := p2.Bits) (j := w64 ((w64 (p1 * p2.W)) + p0)) 22 4 4 S Try.underlying22 (by kernel_rfl) (by kernel_rfl) hx12
  refine sIdxV (v := .slice ad6 p2.Bits.length cp7) (k := .i64) (j := w64 ((w64 (p1 * p2.W)) + p0)) S (wN rfl) rfl (by kernel_rfl) (by kernel_rfl) hq14 rfl (by decide) (fun a S => ?_)
  obtain ⟨u15, S⟩ := pLoad (r := rB) (q := q13) (x := x11) 0 S (by kernel_rfl)
  obtain rfl : u15 = .bool x11 := S.mem.know (i := 1) (e := fRep rB (u15) x11) (by kernel_rfl)
  refine sLoadV1 (vq := q13) 0 (.bool x11) S (wN rfl) rfl (by kernel_rfl) (by kernel_rfl) (by kernel_rfl) rfl (by decide) (fun a S => ?_)
  refine sNot (b := x11) S (wN rfl) rfl (by kernel_rfl) rfl (by decide) (fun a S => ?_)
  refine sMove (.bool (!x11)) S (wN rfl) (.inr rfl) (by kernel_rfl) rfl (by decide) (fun a S => ?_)
  refine leafL (leafT (hK2 _ _ ?_))
  obtain rfl := Option.some.inj h
  exact wp_ret (sRet (.bool (!x11)) S (rsl1 rfl (rvT (t := 5) (v := .bool (!x11)) S (by kernel_rfl))) ⟨(), rfl, S.mem.sel [] [] (by decide) (by kernel_rfl) (by kernel_rfl)⟩)

end Go.Proofs.Ytjndecalogklhaa
namespace Go.Proofs.Ytjndecalogklhaa
open Go.RowKit
set_option linter.unusedVariables false

def anc_grid_build_s1_0 : List (List Nat) := [[], [0], [], [], [], [2, 3, 4], [2, 3, 4, 5], [0, 1, 2, 3, 4, 5, 6], [0, 1, 2, 3, 4, 5, 6, 7], [0, 1, 2, 3, 4, 5, 6, 7, 8]]
noncomputable def grid_build_s1_l1 (p0 : Int) (s15 : Int) (p2 : api_Grid) : (Int × List Bool) → Option ((Int × List Bool) ⊕ List Bool) := fun s0 => match s0 with
  | (s35, s36) =>
    if decide (s35 < p0) then
      Option.bind (F_grid_Not_1_s0 s35 s15 p2) fun r50 =>
      Option.bind (appO s36 [r50]) fun l54 =>
      some (.inl (w64 (s35 + 1), l54))
    else
      some (.inr s36)
noncomputable def grid_build_s1_l2 (p1 : Int) (p0 : Int) (p2 : api_Grid) : (Int × List Bool) → Option ((Int × List Bool) ⊕ List Bool) := fun s0 => match s0 with
  | (s15, s16) =>
    if decide (s15 < p1) then
      Option.bind (α := List Bool) (
        Option.bind (whileO (grid_build_s1_l1 p0 s15 p2) (0, s16)) fun e42 =>
          some e42) fun o28 =>
      some (.inl (w64 (s15 + 1), o28))
    else
      some (.inr s16)
noncomputable def F_grid_build_s1 (p0 : Int) (p1 : Int) (p2 : api_Grid) : Option api_Grid :=
  Option.bind (capO (w64 (p0 * p1))) fun z6 =>
  Option.bind (α := List Bool) (
    Option.bind (whileO (grid_build_s1_l2 p1 p0 p2) (0, ([] : List Bool))) fun e22 =>
      some e22) fun o9 =>
  some (api_Grid.mk p0 p1 o9)
def c_grid_build_s1_val (r : api_Grid) (x : Value) : Value := x
def c_grid_build_s1_D (r : api_Grid) (x : Value) : List Fact := [fRep r_api_Grid x r]
set_option maxHeartbeats 4000000 in
set_option maxRecDepth 100000 in
theorem c_grid_build_s1 (E : Nat → Prop) (w0 : World) (p0 : Int) (p1 : Int) (p2 : api_Grid) (v2 : Value) (r : api_Grid) (h : F_grid_build_s1 p0 p1 p2 = some r) (S : St0 E [] w0 w0 [] [fPtr r_api_Grid (v2) p2]) :
    Calls Try.prog 54 #[.int .i64 p0, .int .i64 p1, .func (.func 56) #[] #[v2]] w0 (Ret (X := Value) E [] w0 (c_grid_build_s1_val r) (fun _ => []) (c_grid_build_s1_D r)) := by
  unfold F_grid_build_s1 at h
  refine sEnter (args := [.int .i64 p0, .int .i64 p1, .func (.func 56) #[] #[v2]]) 37 Try.func54 rfl rfl (by simp) S (fun a S => ?_)
  refine sSeq (fun K1 hK1 => ?_)
  refine sRegion ?_
  refine sAlloc (.agg #[.int .i64 0, .int .i64 0, .slice none 0 0]) S (wN rfl) rfl (by kernel_rfl) [.int .i64 0, .int .i64 0, .slice none 0 0] rfl rfl (by decide) (fun a b2 w S => ?_)
  refine leafL (leafT (hK1 _ _ ?_))
  refine sSeq (fun K3 hK3 => ?_)
  refine sRegion ?_
  refine sMove (.int .i64 p0) S (wN rfl) (.inl rfl) (by kernel_rfl) rfl (by decide) (fun a S => ?_)
  refine sMove (.int .i64 p1) S (wN rfl) (.inl rfl) (by kernel_rfl) rfl (by decide) (fun a S => ?_)
  refine sMove (.int .i64 p0) S (wN rfl) (.inl rfl) (by kernel_rfl) rfl (by decide) (fun a S => ?_)
  refine sMove (.int .i64 p1) S (wN rfl) (.inl rfl) (by kernel_rfl) rfl (by decide) (fun a S => ?_)
  refine sBin (.int .i64 (w64 (p0 * p1))) S (wN rfl) rfl (by kernel_rfl) (by kernel_rfl) (bMul _ _ _ _ p0 p1) rfl (by decide) (fun a S => ?_)
  obtain ⟨z6, hx7, h⟩ := bindSome h
  refine sMake0 rB (m := w64 (p0 * p1)) (u := z6) (.bool false) 1 S (wN rfl) rfl Try.underlying22 (by kernel_rfl) (by decide) (by kernel_rfl) (by kernel_rfl) hx7 rfl (by decide) (fun a w ad4 cp5 S => ?_)
  refine sBuild [(0, .int .i64 p0), (1, .int .i64 p1), (2, .slice ad4 ([] : List Bool).length cp5)] [.int .i64 p0, .int .i64 p1, .slice ad4 ([] : List Bool).length cp5] S (wN rfl) rfl (by kernel_rfl) (by kernel_rfl) rfl (by decide) (fun a S => ?_)
  refine sAlloc (.agg #[.int .i64 0, .int .i64 0, .slice none 0 0]) S (wN rfl) rfl (by kernel_rfl) [.int .i64 0, .int .i64 0, .slice none 0 0] rfl rfl (by decide) (fun a b8 w S => ?_)
  refine sStore (p := b8) (off := 0) (T := 24) (vs := [.int .i64 0, .int .i64 0, .slice none 0 0]) (v := .agg #[.int .i64 p0, .int .i64 p1, .slice ad4 ([] : List Bool).length cp5]) 0 [.int .i64 p0, .int .i64 p1, .slice ad4 ([] : List Bool).length cp5] S (wN rfl) rfl (by kernel_rfl) (by kernel_rfl) rfl (by kernel_rfl) (by kernel_rfl) rfl (by simp) rfl (fun a w S => ?_)
  refine leafL (leafT (hK3 _ _ ?_))
  obtain ⟨t12, h, g13⟩ := bindSome h
  refine sCut (fun a w => ∃ o9, o9 = t12 ∧ ∃ ad10, ∃ cp11, St E [] w0 37 a w [(6, .pointer (some ⟨b2, 0, none⟩)), (7, .pointer (some ⟨b8, 0, none⟩))] [eBox b2 24 [.int .i64 0, .int .i64 0, .slice none 0 0], eBox b8 24 [.int .i64 p0, .int .i64 p1, .slice ad10 o9.length cp11], eRow rB 4 (.slice ad10 o9.length cp11) o9] []) ?_ (fun a w hI => ?_)
  · refine sSeq (fun K14 hK14 => ?_)
    refine sRegion ?_
    refine sMove (.int .i64 p1) S (wN rfl) (.inl rfl) (by kernel_rfl) rfl (by decide) (fun a S => ?_)
    refine sMove (.int .i64 0) S (wN rfl) (.inl rfl) (by kernel_rfl) rfl (by decide) (fun a S => ?_)
    refine leafL (leafT (hK14 _ _ ?_))
    refine wp_block ?_
    obtain ⟨t21, hl, g20⟩ := bindSome h
    refine sLoop hl (fun s0 a w => match s0 with | (s15, s16) => ∃ ad17, ∃ cp18, St E [] w0 37 a w [(0, .int .i64 p0), (2, .func (.func 56) #[] #[v2]), (6, .pointer (some ⟨b2, 0, none⟩)), (7, .pointer (some ⟨b8, 0, none⟩)), (17, .int .i64 p1), (18, .int .i64 s15)] [eBox b2 24 [.int .i64 0, .int .i64 0, .slice none 0 0], eBox b8 24 [.int .i64 p0, .int .i64 p1, .slice ad17 s16.length cp18], eRow rB 4 (.slice ad17 s16.length cp18) s16] [fPtr r_api_Grid (v2) p2]) ⟨ad4, cp5, S.fix [2, 0, 1] [0] (by decide) (by kernel_rfl) (by kernel_rfl) (by kernel_rfl)⟩ ?_
    clear hl h
    intro s0 a w c0 hI h hu19
    obtain ⟨s15, s16⟩ := s0
    unfold grid_build_s1_l2 at h
    dsimp only at h hI
    obtain ⟨ad17, cp18, S⟩ := hI
    refine sSeq (fun K25 hK25 => ?_)
    refine sRegion ?_
    refine sBin (.bool (decide (s15 < p1))) S (wN rfl) rfl (by kernel_rfl) (by kernel_rfl) (bLt _ _ _ _ .i64 s15 p1) rfl (by decide) (fun a S => ?_)
    refine leafL (leafT (hK25 _ _ ?_))
    refine sSeq (fun K26 hK26 => ?_)
    rcases iteSome h with ⟨hc27, h⟩ | ⟨hc27, h⟩
    · refine sCondT (b := decide (s15 < p1)) S (by kernel_rfl) hc27 ?_
      refine wp_skip (leafT (hK26 _ _ ?_))
      obtain ⟨t31, h, g32⟩ := bindSome h
      refine sCut (fun a w => ∃ o28, o28 = t31 ∧ ∃ ad29, ∃ cp30, St E [] w0 37 a w [(0, .int .i64 p0), (2, .func (.func 56) #[] #[v2]), (6, .pointer (some ⟨b2, 0, none⟩)), (7, .pointer (some ⟨b8, 0, none⟩)), (17, .int .i64 p1), (18, .int .i64 s15)] [eBox b2 24 [.int .i64 0, .int .i64 0, .slice none 0 0], eBox b8 24 [.int .i64 p0, .int .i64 p1, .slice ad29 o28.length cp30], eRow rB 4 (.slice ad29 o28.length cp30) o28] [fPtr r_api_Grid (v2) p2]) ?_ (fun a w hI => ?_)
      · refine wp_block ?_
        refine sSeq (fun K33 hK33 => ?_)
        refine sRegion ?_
        refine sMove (.int .i64 s15) S (wN rfl) (.inl rfl) (by kernel_rfl) rfl (by decide) (fun a S => ?_)
        refine sMove (.int .i64 s15) S (wN rfl) (.inr rfl) (by kernel_rfl) rfl (by decide) (fun a S => ?_)
        refine leafL (leafT (hK33 _ _ ?_))
        refine sSeq (fun K34 hK34 => ?_)
        refine sRegion ?_
        refine sMove (.int .i64 p0) S (wN rfl) (.inl rfl) (by kernel_rfl) rfl (by decide) (fun a S => ?_)
        refine sMove (.int .i64 0) S (wN rfl) (.inl rfl) (by kernel_rfl) rfl (by decide) (fun a S => ?_)
        refine leafL (leafT (hK34 _ _ ?_))
        refine wp_block ?_
        obtain ⟨t41, hl, g40⟩ := bindSome h
        refine sLoop hl (fun s0 a w => match s0 with | (s35, s36) => ∃ ad37, ∃ cp38, St E [] w0 37 a w [(0, .int .i64 p0), (2, .func (.func 56) #[] #[v2]), (6, .pointer (some ⟨b2, 0, none⟩)), (7, .pointer (some ⟨b8, 0, none⟩)), (8, .int .i64 s15), (17, .int .i64 p1), (18, .int .i64 s15), (21, .int .i64 p0), (22, .int .i64 s35)] [eBox b2 24 [.int .i64 0, .int .i64 0, .slice none 0 0], eBox b8 24 [.int .i64 p0, .int .i64 p1, .slice ad37 s36.length cp38], eRow rB 4 (.slice ad37 s36.length cp38) s36] [fPtr r_api_Grid (v2) p2]) ⟨ad17, cp18, S.fix [0, 1, 2] [0] (by decide) (by kernel_rfl) (by kernel_rfl) (by kernel_rfl)⟩ ?_
        clear hl h
        intro s0 a w c0 hI h hu39
        obtain ⟨s35, s36⟩ := s0
        unfold grid_build_s1_l1 at h
        dsimp only at h hI
        obtain ⟨ad37, cp38, S⟩ := hI
        refine sSeq (fun K45 hK45 => ?_)
        refine sRegion ?_
        refine sBin (.bool (decide (s35 < p0))) S (wN rfl) rfl (by kernel_rfl) (by kernel_rfl) (bLt _ _ _ _ .i64 s35 p0) rfl (by decide) (fun a S => ?_)
        refine leafL (leafT (hK45 _ _ ?_))
        refine sSeq (fun K46 hK46 => ?_)
        rcases iteSome h with ⟨hc47, h⟩ | ⟨hc47, h⟩
        · refine sCondT (b := decide (s35 < p0)) S (by kernel_rfl) hc47 ?_
          refine wp_skip (leafT (hK46 _ _ ?_))
          refine sSeq (fun K48 hK48 => ?_)
          refine wp_block ?_
          refine sSeq (fun K49 hK49 => ?_)
          refine sRegion ?_
          refine sMove (.int .i64 s35) S (wN rfl) (.inl rfl) (by kernel_rfl) rfl (by decide) (fun a S => ?_)
          refine sMove (.int .i64 s35) S (wN rfl) (.inr rfl) (by kernel_rfl) rfl (by decide) (fun a S => ?_)
          refine leafL (leafT (hK49 _ _ ?_))
          obtain ⟨r50, hx51, h⟩ := bindSome h
          obtain ⟨l54, hx55, h⟩ := bindSome h
          refine sDraw (nf := [6, 7, 9]) (W := [(0, 25, .pointer (some ⟨b8, 2, none⟩)), (1, 26, .slice ad37 s36.length cp38), (2, 27, .func (.func 56) #[] #[v2]), (3, 28, .int .i64 s35), (4, 29, .int .i64 s15), (5, 30, .bool r50)]) (by kernel_rfl) S ?_
          refine node_by (A := anc_grid_build_s1_0) (nf := [6, 7, 9]) (Y := []) (W := [(0, 25, .pointer (some ⟨b8, 2, none⟩)), (1, 26, .slice ad37 s36.length cp38), (2, 27, .func (.func 56) #[] #[v2]), (3, 28, .int .i64 s35), (4, 29, .int .i64 s15), (5, 30, .bool r50)]) 10 (by kernel_rfl) (by kernel_rfl) (by kernel_rfl) (by kernel_rfl) (by kernel_rfl) [0, 1, 2, 3, 4, 5] (by kernel_rfl) (by decide) (by decide) (aF 0 9 (by decide) ?_ (aF 1 8 (by decide) ?_ (aF 2 7 (by decide) ?_ (aF 3 6 (by decide) ?_ (aF 4 5 (by decide) ?_ (aF 5 4 (by decide) ?_ (aN 6 3 (by decide) ?_ (aB 7 2 6 (by decide) (aE 8 1 6 (by decide) (aB 9 0 6 (by decide) (trivial))))))))))) [] (fun q hq => by cases hq) (fun hY => absurd (hY 6 (by decide)) (by decide))
          · refine fI 25 (.pointer (some ⟨b8, 2, none⟩)) [(7, .pointer (some ⟨b8, 0, none⟩))] 0 [none] rfl rfl (by kernel_rfl) rfl (by kernel_rfl) (by kernel_rfl) fun G a w S => ?_
            refine sField (b := b8) (off := 0) 2 2 S (wN rfl) rfl (by kernel_rfl) (by kernel_rfl) rfl rfl (by decide) (fun a S => ?_)
            exact leafL ⟨rfl, S⟩
          · refine fI 26 (.slice ad37 s36.length cp38) [(25, .pointer (some ⟨b8, 2, none⟩))] 1 [some 0] rfl rfl (by kernel_rfl) rfl (by kernel_rfl) (by kernel_rfl) fun G a w S => ?_
            refine sLoad1 (p := b8) (off := 2) (T := 24) (vs := [.int .i64 p0, .int .i64 p1, .slice ad37 s36.length cp38]) 1 (.slice ad37 s36.length cp38) S (wN rfl) rfl (by kernel_rfl) (by kernel_rfl) (by kernel_rfl) rfl rfl (by decide) (fun a S => ?_)
            exact leafL ⟨rfl, S⟩
          · refine fI 27 (.func (.func 56) #[] #[v2]) [(2, .func (.func 56) #[] #[v2])] 2 [none] rfl rfl (by kernel_rfl) rfl (by kernel_rfl) (by kernel_rfl) fun G a w S => ?_
            refine sMove (.func (.func 56) #[] #[v2]) S (wN rfl) (.inl rfl) (by kernel_rfl) rfl (by decide) (fun a S => ?_)
            exact leafL ⟨rfl, S⟩
          · refine fI 28 (.int .i64 s35) [(9, .int .i64 s35)] 3 [none] rfl rfl (by kernel_rfl) rfl (by kernel_rfl) (by kernel_rfl) fun G a w S => ?_
            refine sMove (.int .i64 s35) S (wN rfl) (.inl rfl) (by kernel_rfl) rfl (by decide) (fun a S => ?_)
            exact leafL ⟨rfl, S⟩
          · refine fI 29 (.int .i64 s15) [(8, .int .i64 s15)] 4 [none] rfl rfl (by kernel_rfl) rfl (by kernel_rfl) (by kernel_rfl) fun G a w S => ?_
            refine sMove (.int .i64 s15) S (wN rfl) (.inl rfl) (by kernel_rfl) rfl (by decide) (fun a S => ?_)
            exact leafL ⟨rfl, S⟩
          · refine fI 30 (.bool r50) [(27, .func (.func 56) #[] #[v2]), (28, .int .i64 s35), (29, .int .i64 s15)] 5 [some 2, some 3, some 4] rfl rfl (by kernel_rfl) rfl (by kernel_rfl) (by kernel_rfl) fun G a w S => ?_
            have S1 := S.mem
            refine sCallVQ (X := Unit) (g := 56) (vs := [.int .i64 s35, .int .i64 s15]) (caps := [v2]) (val := fun _ => .bool r50) S (wN rfl) rfl (by kernel_rfl) callee56 (by kernel_rfl) (S1.quiet [0] (by kernel_rfl)) (fun E1 w1 S1 => c_grid_Not_1_s0 E1 w1 s35 s15 p2 v2 r50 hx51 S1) rfl (by decide) (fun _ a w S => ?_)
            exact leafL ⟨rfl, S⟩
          · refine ⟨_, [(30, .bool r50)], rfl, (srcs_of [some 5] rfl (by kernel_rfl) (by kernel_rfl)), fun G a w S => ?_⟩
            refine sLit (r := rB) (T := 4) (xs := [r50]) [(0, .bool r50)] 1 [.bool r50] [.bool r50] (.bool false) 1 S (wN rfl) rfl (by kernel_rfl) Try.underlying22 (by kernel_rfl) (by decide) (by decide) (by kernel_rfl) rfl (fun E1 w1 hE => All.cons rfl (All.nil _ _ _)) rfl rfl (by decide) (fun a w ad58 cp59 S => ?_)
            refine leafL ⟨rfl, _, _, .inl ⟨31, (.slice ad58 [r50].length cp59), [], rfl, S, hz_of (by kernel_rfl), ?_⟩⟩
            refine node_by (A := anc_grid_build_s1_0) (nf := [6, 7, 9]) (Y := [6]) 10 (by kernel_rfl) (by kernel_rfl) (by kernel_rfl) (by kernel_rfl) (by kernel_rfl) [6, 0, 1, 2, 3, 4, 5] (by kernel_rfl) (by decide) (by decide) (aF 0 9 (by decide) ?_ (aF 1 8 (by decide) ?_ (aD 2 7 6 (by decide) (aD 3 6 6 (by decide) (aD 4 5 6 (by decide) (aD 5 4 6 (by decide) (aY 6 3 (by decide) (aN 7 2 (by decide) ?_ (aE 8 1 7 (by decide) (aB 9 0 7 (by decide) (trivial))))))))))) [] (fun q hq => by cases hq) (fun hY => absurd (hY 7 (by decide)) (by decide))
            · refine fI 25 (.pointer (some ⟨b8, 2, none⟩)) [(7, .pointer (some ⟨b8, 0, none⟩))] 1 [none] rfl rfl (by kernel_rfl) rfl (by kernel_rfl) (by kernel_rfl) fun G a w S => ?_
              refine sField (b := b8) (off := 0) 2 2 S (wN rfl) rfl (by kernel_rfl) (by kernel_rfl) rfl rfl (by decide) (fun a S => ?_)
              exact leafL ⟨rfl, S⟩
            · refine fI 26 (.slice ad37 s36.length cp38) [(25, .pointer (some ⟨b8, 2, none⟩))] 2 [some 1] rfl rfl (by kernel_rfl) rfl (by kernel_rfl) (by kernel_rfl) fun G a w S => ?_
              refine sLoad1 (p := b8) (off := 2) (T := 24) (vs := [.int .i64 p0, .int .i64 p1, .slice ad37 s36.length cp38]) 2 (.slice ad37 s36.length cp38) S (wN rfl) rfl (by kernel_rfl) (by kernel_rfl) (by kernel_rfl) rfl rfl (by decide) (fun a S => ?_)
              exact leafL ⟨rfl, S⟩
            · refine ⟨_, [(26, .slice ad37 s36.length cp38), (31, .slice ad58 [r50].length cp59)], rfl, (srcs_of [some 2, some 0] rfl (by kernel_rfl) (by kernel_rfl)), fun G a w S => ?_⟩
              refine sApp (r := rB) (T := 4) (xs := s36) (ys := [r50]) (v := .slice ad37 s36.length cp38) (u := .slice ad58 [r50].length cp59) 3 (.bool false) 1 S (wN rfl) rfl Try.underlying22 (by kernel_rfl) rfl (by decide) (by kernel_rfl) (by kernel_rfl) (by kernel_rfl) (src_R (T := 4) 0 S.mem (by kernel_rfl)) hx55 rfl (by decide) (fun a w ad60 cp61 S => ?_)
              refine leafL ⟨rfl, _, _, .inl ⟨32, (.slice ad60 l54.length cp61), [(8, 33, .pointer (some ⟨b8, 2, none⟩))], rfl, S, hz_of (by kernel_rfl), ?_⟩⟩
              refine node_by (A := anc_grid_build_s1_0) (nf := [6, 7, 9]) (Y := [7, 6]) 10 (by kernel_rfl) (by kernel_rfl) (by kernel_rfl) (by kernel_rfl) (by kernel_rfl) [8, 7, 6, 0, 1, 2, 3, 4, 5] (by kernel_rfl) (by decide) (by decide) (aD 0 9 7 (by decide) (aD 1 8 7 (by decide) (aD 2 7 7 (by decide) (aD 3 6 7 (by decide) (aD 4 5 7 (by decide) (aD 5 4 7 (by decide) (aY 6 3 (by decide) (aY 7 2 (by decide) (aF 8 1 (by decide) ?_ (aN 9 0 (by decide) ?_ (trivial))))))))))) [] (fun q hq => by cases hq) (fun hY => absurd (hY 9 (by decide)) (by decide))
              · refine fI 33 (.pointer (some ⟨b8, 2, none⟩)) [(7, .pointer (some ⟨b8, 0, none⟩))] 0 [none] rfl rfl (by kernel_rfl) rfl (by kernel_rfl) (by kernel_rfl) fun G a w S => ?_
                refine sField (b := b8) (off := 0) 2 2 S (wN rfl) rfl (by kernel_rfl) (by kernel_rfl) rfl rfl (by decide) (fun a S => ?_)
                exact leafL ⟨rfl, S⟩
              · refine ⟨_, [(32, .slice ad60 l54.length cp61), (33, .pointer (some ⟨b8, 2, none⟩))], rfl, (srcs_of [some 1, some 0] rfl (by kernel_rfl) (by kernel_rfl)), fun G a w S => ?_⟩
                refine sStore (p := b8) (off := 2) (T := 24) (vs := [.int .i64 p0, .int .i64 p1, .slice ad37 s36.length cp38]) (v := .slice ad60 l54.length cp61) 3 [.slice ad60 l54.length cp61] S (wN rfl) rfl (by kernel_rfl) (by kernel_rfl) rfl (by kernel_rfl) (by kernel_rfl) rfl (by simp) rfl (fun a w S => ?_)
                refine leafL ⟨rfl, _, _, .inr ⟨[], rfl, S, hz_of (by kernel_rfl), ?_⟩⟩
                refine node_by (A := anc_grid_build_s1_0) (nf := [6, 7, 9]) (Y := [9, 7, 6]) 10 (by kernel_rfl) (by kernel_rfl) (by kernel_rfl) (by kernel_rfl) (by kernel_rfl) [8, 7, 6, 0, 1, 2, 3, 4, 5] (by kernel_rfl) (by decide) (by decide) (aD 0 9 9 (by decide) (aD 1 8 9 (by decide) (aD 2 7 9 (by decide) (aD 3 6 9 (by decide) (aD 4 5 9 (by decide) (aD 5 4 9 (by decide) (aY 6 3 (by decide) (aY 7 2 (by decide) (aD 8 1 9 (by decide) (aY 9 0 (by decide) (trivial))))))))))) [(0, .int .i64 p0), (2, .func (.func 56) #[] #[v2]), (6, .pointer (some ⟨b2, 0, none⟩)), (7, .pointer (some ⟨b8, 0, none⟩)), (8, .int .i64 s15), (17, .int .i64 p1), (18, .int .i64 s15), (21, .int .i64 p0), (22, .int .i64 s35)] (fin_of [none, none, none, none, none, none, none, none, none] rfl (by kernel_rfl) (by kernel_rfl)) (fun _ a w S => ?_)
                · refine leafB (leafT (hK48 _ _ ?_))
                  refine sRegion ?_
                  refine sBin (.int .i64 (w64 (s35 + 1))) S (wN rfl) rfl (by kernel_rfl) (by kernel_rfl) (bAdd _ _ _ _ s35 1) rfl (by decide) (fun a S => ?_)
                  refine sMove (.int .i64 (w64 (s35 + 1))) S (wN rfl) (.inl rfl) (by kernel_rfl) rfl (by decide) (fun a S => ?_)
                  exact leafL (leafT (⟨(w64 (s35 + 1), l54), (Option.some.inj h).symm, ⟨ad60, cp61, S.fix [3, 0, 1] [0] (by decide) (by kernel_rfl) (by kernel_rfl) (by kernel_rfl)⟩⟩))
        · refine sCondF (b := decide (s35 < p0)) S (by kernel_rfl) hc47 ?_
          obtain rfl := Option.some.inj h
          obtain rfl := hu39 _ rfl
          have h := g40
          clear g40
          try dsimp only at h
          exact wp_exit (xThen (xThen (xHit (leafB (leafT (⟨s36, Option.some.inj h, ad37, cp38, S.fix [0, 1, 2] [0] (by decide) (by kernel_rfl) (by kernel_rfl) (by kernel_rfl)⟩))))))
      · obtain ⟨o28, rfl, ad29, cp30, S⟩ := hI
        have h := g32
        clear g32
        try dsimp only at h
        refine sRegion ?_
        refine sBin (.int .i64 (w64 (s15 + 1))) S (wN rfl) rfl (by kernel_rfl) (by kernel_rfl) (bAdd _ _ _ _ s15 1) rfl (by decide) (fun a S => ?_)
        refine sMove (.int .i64 (w64 (s15 + 1))) S (wN rfl) (.inl rfl) (by kernel_rfl) rfl (by decide) (fun a S => ?_)
        exact leafL (leafT (⟨(w64 (s15 + 1), o28), (Option.some.inj h).symm, ⟨ad29, cp30, S.fix [0, 1, 2] [0] (by decide) (by kernel_rfl) (by kernel_rfl) (by kernel_rfl)⟩⟩))
    · refine sCondF (b := decide (s15 < p1)) S (by kernel_rfl) hc27 ?_
      obtain rfl := Option.some.inj h
      obtain rfl := hu19 _ rfl
      have h := g20
      clear g20
      try dsimp only at h
      exact wp_exit (xThen (xThen (xHit (leafT (⟨s16, Option.some.inj h, ad17, cp18, S.fix [0, 1, 2] [] (by decide) (by kernel_rfl) (by kernel_rfl) (by kernel_rfl)⟩)))))
  · obtain ⟨o9, rfl, ad10, cp11, S⟩ := hI
    have h := g13
    clear g13
    try dsimp only at h
    refine sSeq (fun K62 hK62 => ?_)
    refine sRegion ?_
    refine sLoadN (p := b8) (off := 0) (T := 24) (vs := [.int .i64 p0, .int .i64 p1, .slice ad10 o9.length cp11]) 1 [.int .i64 p0, .int .i64 p1, .slice ad10 o9.length cp11] S (wN rfl) rfl (by kernel_rfl) (by kernel_rfl) (by kernel_rfl) (by kernel_rfl) rfl rfl (by decide) (fun a S => ?_)
    refine sStore (p := b2) (off := 0) (T := 24) (vs := [.int .i64 0, .int .i64 0, .slice none 0 0]) (v := .agg #[.int .i64 p0, .int .i64 p1, .slice ad10 o9.length cp11]) 0 [.int .i64 p0, .int .i64 p1, .slice ad10 o9.length cp11] S (wN rfl) rfl (by kernel_rfl) (by kernel_rfl) rfl (by kernel_rfl) (by kernel_rfl) rfl (by simp) rfl (fun a w S => ?_)
    refine leafL (leafT (hK62 _ _ ?_))
    obtain rfl := Option.some.inj h
    have S := S.shutR (r := rB) (T := 4) (v := .slice ad10 o9.length cp11) (xs := o9) 2 (by kernel_rfl)
    have S := S.learn (fRep r_api_Grid (.agg #[.int .i64 p0, .int .i64 p1, .slice ad10 o9.length cp11]) (api_Grid.mk p0 p1 o9)) ⟨_, rfl, S.mem.know (i := 0) (e := fRep (rL rB) (.slice ad10 o9.length cp11) o9) (by kernel_rfl)⟩
    exact wp_ret (sRet (.agg #[.int .i64 p0, .int .i64 p1, .slice ad10 o9.length cp11]) S (rsl1 rfl (rvN (c := 6) (t := 24) (T := 24) (p := b2) 0 [.int .i64 p0, .int .i64 p1, .slice ad10 o9.length cp11] S (by kernel_rfl) (by kernel_rfl) (by kernel_rfl) (by kernel_rfl))) ⟨(.agg #[.int .i64 p0, .int .i64 p1, .slice ad10 o9.length cp11]), rfl, S.mem.sel [] [0] (by decide) (by kernel_rfl) (by kernel_rfl)⟩)

end Go.Proofs.Ytjndecalogklhaa
namespace Go.Proofs.Ytjndecalogklhaa
open Go.RowKit
set_option linter.unusedVariables false

noncomputable def F_grid_Not (p0 : api_Grid) : Option (api_Grid × Int) :=
  Option.bind (F_grid_Check p0) fun r10 =>
  if r10 != 0 then
    some ((api_Grid.mk 0 0 ([] : (List Bool))), r10)
  else
    Option.bind (F_grid_build_s1 p0.W p0.H p0) fun r16 =>
    some (r16, 0)
def c_grid_Not_val (r : (api_Grid × Int)) (x : Value) : Value := .tuple #[x, .int .i64 r.2]
def c_grid_Not_D (r : (api_Grid × Int)) (x : Value) : List Fact := [fRep r_api_Grid x r.1]
set_option maxHeartbeats 4000000 in
set_option maxRecDepth 100000 in
theorem c_grid_Not (E : Nat → Prop) (w0 : World) (p0 : api_Grid) (v0 : Value) (r : (api_Grid × Int)) (h : F_grid_Not p0 = some r) (S : St0 E [] w0 w0 [] [fRep r_api_Grid (v0) p0]) :
    Calls Try.prog 29 #[v0] w0 (Ret (X := Value) E [] w0 (c_grid_Not_val r) (fun _ => []) (c_grid_Not_D r)) := by
  unfold F_grid_Not at h
  obtain ⟨u1, rfl, hu2⟩ := S.know (i := 0) (e := fRep r_api_Grid (v0) p0) (by kernel_rfl)
  have S := S.learn (fRep (rL rB) u1 p0.Bits) hu2
  obtain ⟨ad3, cp4, _, rfl, _⟩ := hu2
  refine sEnter (args := [.agg #[.int .i64 p0.W, .int .i64 p0.H, .slice ad3 p0.Bits.length cp4]]) 17 Try.func29 rfl rfl (by simp) S (fun a S => ?_)
  refine sSeq (fun K5 hK5 => ?_)
  refine sRegion ?_
  refine sBox (v := .agg #[.int .i64 p0.W, .int .i64 p0.H, .slice ad3 p0.Bits.length cp4]) S (wN rfl) rfl (by kernel_rfl) [.int .i64 p0.W, .int .i64 p0.H, .slice ad3 p0.Bits.length cp4] rfl rfl (by decide) (fun a b6 w S => ?_)
  refine sAlloc (.agg #[.int .i64 0, .int .i64 0, .slice none 0 0]) S (wN rfl) rfl (by kernel_rfl) [.int .i64 0, .int .i64 0, .slice none 0 0] rfl rfl (by decide) (fun a b7 w S => ?_)
  refine sMove (.int .i64 0) S (wN rfl) (.inr rfl) (by kernel_rfl) rfl (by decide) (fun a S => ?_)
  refine leafL (leafT (hK5 _ _ ?_))
  refine sSeq (fun K8 hK8 => ?_)
  refine sSeq (fun K9 hK9 => ?_)
  refine sRegion ?_
  refine sLoadN (p := b6) (off := 0) (T := 24) (vs := [.int .i64 p0.W, .int .i64 p0.H, .slice ad3 p0.Bits.length cp4]) 1 [.int .i64 p0.W, .int .i64 p0.H, .slice ad3 p0.Bits.length cp4] S (wN rfl) rfl (by kernel_rfl) (by kernel_rfl) (by kernel_rfl) (by kernel_rfl) rfl rfl (by decide) (fun a S => ?_)
  obtain ⟨r10, hx11, h⟩ := bindSome h
  have S1 := S.mem
  refine sCallQ (X := Unit) (f := 32) (vs := [.agg #[.int .i64 p0.W, .int .i64 p0.H, .slice ad3 p0.Bits.length cp4]]) (val := fun _ => .int .i64 r10) S (wN rfl) rfl callee32 (by kernel_rfl) (S1.quiet [1] (by kernel_rfl)) (fun E1 w1 S1 => c_grid_Check E1 w1 p0 (.agg #[.int .i64 p0.W, .int .i64 p0.H, .slice ad3 p0.Bits.length cp4]) r10 hx11 S1) rfl (by decide) (fun _ a w S => ?_)
  refine sMove (.int .i64 r10) S (wN rfl) (.inr rfl) (by kernel_rfl) rfl (by decide) (fun a S => ?_)
  refine leafL (leafT (hK9 _ _ ?_))
  refine sSeq (fun K12 hK12 => ?_)
  refine sRegion ?_
  refine sMove (.int .i64 r10) S (wN rfl) (.inl rfl) (by kernel_rfl) rfl (by decide) (fun a S => ?_)
  refine sBin (.bool (r10 != 0)) S (wN rfl) rfl (by kernel_rfl) (by kernel_rfl) (bNe _ _ _ _ .i64 r10 0) rfl (by decide) (fun a S => ?_)
  refine leafL (leafT (hK12 _ _ ?_))
  rcases iteSome h with ⟨hc13, h⟩ | ⟨hc13, h⟩
  · refine sCondT (b := r10 != 0) S (by kernel_rfl) hc13 ?_
    refine sSeq (fun K14 hK14 => ?_)
    refine sRegion ?_
    refine sBuild [] [.int .i64 0, .int .i64 0, .slice none 0 0] S (wN rfl) rfl (by kernel_rfl) (by kernel_rfl) rfl (by decide) (fun a S => ?_)
    refine sMove (.int .i64 r10) S (wN rfl) (.inl rfl) (by kernel_rfl) rfl (by decide) (fun a S => ?_)
    refine sStore (p := b7) (off := 0) (T := 24) (vs := [.int .i64 0, .int .i64 0, .slice none 0 0]) (v := .agg #[.int .i64 0, .int .i64 0, .slice none 0 0]) 0 [.int .i64 0, .int .i64 0, .slice none 0 0] S (wN rfl) rfl (by kernel_rfl) (by kernel_rfl) rfl (by kernel_rfl) (by kernel_rfl) rfl (by simp) rfl (fun a w S => ?_)
    refine sMove (.int .i64 r10) S (wN rfl) (.inr rfl) (by kernel_rfl) rfl (by decide) (fun a S => ?_)
    refine leafL (leafT (hK14 _ _ ?_))
    obtain rfl := Option.some.inj h
    have S := S.learn (fRep (rL rB) (.slice none 0 0) ([] : (List Bool))) (rL_nil _ _ _)
    have S := S.learn (fRep r_api_Grid (.agg #[.int .i64 0, .int .i64 0, .slice none 0 0]) (api_Grid.mk 0 0 ([] : (List Bool)))) ⟨_, rfl, S.mem.know (i := 0) (e := fRep (rL rB) (.slice none 0 0) ([] : (List Bool))) (by kernel_rfl)⟩
    exact wp_ret (rThen (sRet (.tuple #[.agg #[.int .i64 0, .int .i64 0, .slice none 0 0], .int .i64 r10]) S (rsl2 rfl (rvN (c := 2) (t := 24) (T := 24) (p := b7) 0 [.int .i64 0, .int .i64 0, .slice none 0 0] S (by kernel_rfl) (by kernel_rfl) (by kernel_rfl) (by kernel_rfl)) (rvT (t := 3) (v := .int .i64 r10) S (by kernel_rfl))) ⟨(.agg #[.int .i64 0, .int .i64 0, .slice none 0 0]), rfl, S.mem.sel [] [0] (by decide) (by kernel_rfl) (by kernel_rfl)⟩))
  · refine sCondF (b := r10 != 0) S (by kernel_rfl) hc13 ?_
    refine wp_skip (leafT (hK8 _ _ ?_))
    refine sSeq (fun K15 hK15 => ?_)
    refine sRegion ?_
    refine sField (b := b6) (off := 0) 0 0 S (wN rfl) rfl (by kernel_rfl) (by kernel_rfl) rfl rfl (by decide) (fun a S => ?_)
    refine sLoad1 (p := b6) (off := 0) (T := 24) (vs := [.int .i64 p0.W, .int .i64 p0.H, .slice ad3 p0.Bits.length cp4]) 1 (.int .i64 p0.W) S (wN rfl) rfl (by kernel_rfl) (by kernel_rfl) (by kernel_rfl) rfl rfl (by decide) (fun a S => ?_)
    refine sField (b := b6) (off := 0) 1 1 S (wN rfl) rfl (by kernel_rfl) (by kernel_rfl) rfl rfl (by decide) (fun a S => ?_)
    refine sLoad1 (p := b6) (off := 1) (T := 24) (vs := [.int .i64 p0.W, .int .i64 p0.H, .slice ad3 p0.Bits.length cp4]) 1 (.int .i64 p0.H) S (wN rfl) rfl (by kernel_rfl) (by kernel_rfl) (by kernel_rfl) rfl rfl (by decide) (fun a S => ?_)
    refine sFunc (g := 56) (vs := [.pointer (some ⟨b6, 0, none⟩)]) S (wN rfl) rfl (by kernel_rfl) rfl (by decide) (fun a S => ?_)
    obtain ⟨r16, hx17, h⟩ := bindSome h
    have S := S.shutB (r := r_api_Grid) (T := 24) (b := b6) (cs := [.int .i64 p0.W, .int .i64 p0.H, .slice ad3 p0.Bits.length cp4]) 1 (.agg #[.int .i64 p0.W, .int .i64 p0.H, .slice ad3 p0.Bits.length cp4]) p0 (by kernel_rfl) rfl (S.mem.know (i := 1) (e := fRep r_api_Grid (.agg #[.int .i64 p0.W, .int .i64 p0.H, .slice ad3 p0.Bits.length cp4]) p0) (by kernel_rfl))
    refine sCall (X := Value) (f := 54) (vs := [.int .i64 p0.W, .int .i64 p0.H, .func (.func 56) #[] #[.pointer (some ⟨b6, 0, none⟩)]]) (val := c_grid_build_s1_val r16) (B' := fun _ => []) (D' := c_grid_build_s1_D r16) [] [eBox b7 24 [.int .i64 0, .int .i64 0, .slice none 0 0]] [fPtr r_api_Grid (.pointer (some ⟨b6, 0, none⟩)) p0] [0] [0] S (wN rfl) rfl callee54 (by kernel_rfl) (by decide) (by kernel_rfl) (by kernel_rfl) (fun E1 w1 S1 => c_grid_build_s1 E1 w1 p0.W p0.H p0 (.pointer (some ⟨b6, 0, none⟩)) r16 hx17 S1) rfl (by decide) (fun u18 a w S => ?_)
    obtain ⟨u19, rfl, hu20⟩ := S.mem.know (i := 0) (e := fRep r_api_Grid (u18) r16) (by kernel_rfl)
    have S := S.learn (fRep (rL rB) u19 r16.Bits) hu20
    obtain ⟨ad21, cp22, _, rfl, _⟩ := hu20
    refine sStore (p := b7) (off := 0) (T := 24) (vs := [.int .i64 0, .int .i64 0, .slice none 0 0]) (v := .agg #[.int .i64 r16.W, .int .i64 r16.H, .slice ad21 r16.Bits.length cp22]) 0 [.int .i64 r16.W, .int .i64 r16.H, .slice ad21 r16.Bits.length cp22] S (wN rfl) rfl (by kernel_rfl) (by kernel_rfl) rfl (by kernel_rfl) (by kernel_rfl) rfl (by simp) rfl (fun a w S => ?_)
    refine sMove (.int .i64 0) S (wN rfl) (.inr rfl) (by kernel_rfl) rfl (by decide) (fun a S => ?_)
    refine leafL (leafT (hK15 _ _ ?_))
    obtain rfl := Option.some.inj h
    exact wp_ret (sRet (.tuple #[.agg #[.int .i64 r16.W, .int .i64 r16.H, .slice ad21 r16.Bits.length cp22], .int .i64 0]) S (rsl2 rfl (rvN (c := 2) (t := 24) (T := 24) (p := b7) 0 [.int .i64 r16.W, .int .i64 r16.H, .slice ad21 r16.Bits.length cp22] S (by kernel_rfl) (by kernel_rfl) (by kernel_rfl) (by kernel_rfl)) (rvT (t := 3) (v := .int .i64 0) S (by kernel_rfl))) ⟨(.agg #[.int .i64 r16.W, .int .i64 r16.H, .slice ad21 r16.Bits.length cp22]), rfl, S.mem.sel [] [1] (by decide) (by kernel_rfl) (by kernel_rfl)⟩)

end Go.Proofs.Ytjndecalogklhaa
namespace Go.Proofs.Ytjndecalogklhaa
open Go.RowKit
set_option linter.unusedVariables false

noncomputable def F_grid_Turn_1_s0 (p0 : Int) (p1 : Int) (p2 : api_Grid) : Option Bool :=
  Option.bind (idxO p2.Bits (w64 ((w64 (p0 * p2.W)) + p1))) fun x11 =>
  some x11
set_option maxHeartbeats 4000000 in
set_option maxRecDepth 100000 in
theorem c_grid_Turn_1_s0 (E : Nat → Prop) (w0 : World) (p0 : Int) (p1 : Int) (p2 : api_Grid) (v2 : Value) (r : Bool) (h : F_grid_Turn_1_s0 p0 p1 p2 = some r) (S : St0 E [] w0 w0 [] [fPtr r_api_Grid (v2) p2]) :
    Calls Try.prog 57 #[.int .i64 p0, .int .i64 p1, v2] w0 (Ret (X := Unit) E [] w0 (fun _ => .bool r) (fun _ => []) (fun _ => [])) := by
  unfold F_grid_Turn_1_s0 at h
  refine sEnter (args := [.int .i64 p0, .int .i64 p1, v2]) 16 Try.func57 rfl rfl (by simp) S (fun a S => ?_)
  refine sSeq (fun K1 hK1 => ?_)
  refine sRegion ?_
  refine sMove (.bool false) S (wN rfl) (.inr rfl) (by kernel_rfl) rfl (by decide) (fun a S => ?_)
  refine leafL (leafT (hK1 _ _ ?_))
  refine sSeq (fun K2 hK2 => ?_)
  refine sRegion ?_
  obtain ⟨q3, hq4, S⟩ := pFld (P := Try.prog) (r := r_api_Grid) (s2 := (rL rB)) (g := (·.Bits)) (q := v2) (z := p2) 24 2 0 2 S (by kernel_rfl) (by kernel_rfl) comp_api_Grid_Bits
  refine sFldV (q := v2) S (wN rfl) rfl (by kernel_rfl) hq4 rfl (by decide) (fun a S => ?_)
  obtain ⟨u5, S⟩ := pLoad (r := (rL rB)) (q := q3) (x := p2.Bits) 0 S (by kernel_rfl)
  obtain ⟨ad6, cp7, _, rfl, _⟩ := S.mem.know (i := 1) (e := fRep (rL rB) (u5) p2.Bits) (by kernel_rfl)
  refine sLoadV1 (vq := q3) 0 (.slice ad6 p2.Bits.length cp7) S (wN rfl) rfl (by kernel_rfl) (by kernel_rfl) (by kernel_rfl) rfl (by decide) (fun a S => ?_)
  refine sMove (.int .i64 p0) S (wN rfl) (.inl rfl) (by kernel_rfl) rfl (by decide) (fun a S => ?_)
  obtain ⟨q8, hq9, S⟩ := pFld (P := Try.prog) (r := r_api_Grid) (s2 := (rI .i64)) (g := (·.W)) (q := v2) (z := p2) 24 0 3 0 S (by kernel_rfl) (by kernel_rfl) comp_api_Grid_W
  refine sFldV (q := v2) S (wN rfl) rfl (by kernel_rfl) hq9 rfl (by decide) (fun a S => ?_)
  obtain ⟨u10, S⟩ := pLoad (r := (rI .i64)) (q := q8) (x := p2.W) 0 S (by kernel_rfl)
  obtain rfl : u10 = .int .i64 p2.W := S.mem.know (i := 1) (e := fRep (rI .i64) (u10) p2.W) (by kernel_rfl)
  refine sLoadV1 (vq := q8) 0 (.int .i64 p2.W) S (wN rfl) rfl (by kernel_rfl) (by kernel_rfl) (by kernel_rfl) rfl (by decide) (fun a S => ?_)
  refine sBin (.int .i64 (w64 (p0 * p2.W))) S (wN rfl) rfl (by kernel_rfl) (by kernel_rfl) (bMul _ _ _ _ p0 p2.W) rfl (by decide) (fun a S => ?_)
  refine sMove (.int .i64 p1) S (wN rfl) (.inl rfl) (by kernel_rfl) rfl (by decide) (fun a S => ?_)
  refine sBin (.int .i64 (w64 ((w64 (p0 * p2.W)) + p1))) S (wN rfl) rfl (by kernel_rfl) (by kernel_rfl) (bAdd _ _ _ _ (w64 (p0 * p2.W)) p1) rfl (by decide) (fun a S => ?_)
  obtain ⟨x11, hx12, h⟩ := bindSome h
  obtain ⟨q13, hq14, S⟩ := pIdx (P := Try.prog) (r := rB) (v := .slice ad6 p2.Bits.length cp7) (xs := p2.Bits) (j := w64 ((w64 (p0 * p2.W)) + p1)) 22 4 4 S Try.underlying22 (by kernel_rfl) (by kernel_rfl) hx12
  refine sIdxV (v := .slice ad6 p2.Bits.length cp7) (k := .i64) (j := w64 ((w64 (p0 * p2.W)) + p1)) S (wN rfl) rfl (by kernel_rfl) (by kernel_rfl) hq14 rfl (by decide) (fun a S => ?_)
  obtain ⟨u15, S⟩ := pLoad (r := rB) (q := q13) (x := x11) 0 S (by kernel_rfl)
  obtain rfl : u15 = .bool x11 := S.mem.know (i := 1) (e := fRep rB (u15) x11) (by kernel_rfl)
  refine sLoadV1 (vq := q13) 0 (.bool x11) S (wN rfl) rfl (by kernel_rfl) (by kernel_rfl) (by kernel_rfl) rfl (by decide) (fun a S => ?_)
  refine sMove (.bool x11) S (wN rfl) (.inr rfl) (by kernel_rfl) rfl (by decide) (fun a S => ?_)
  refine leafL (leafT (hK2 _ _ ?_))
  obtain rfl := Option.some.inj h
  exact wp_ret (sRet (.bool x11) S (rsl1 rfl (rvT (t := 5) (v := .bool x11) S (by kernel_rfl))) ⟨(), rfl, S.mem.sel [] [] (by decide) (by kernel_rfl) (by kernel_rfl)⟩)

end Go.Proofs.Ytjndecalogklhaa
namespace Go.Proofs.Ytjndecalogklhaa
open Go.RowKit
set_option linter.unusedVariables false

def anc_grid_build_s2_0 : List (List Nat) := [[], [0], [], [], [], [2, 3, 4], [2, 3, 4, 5], [0, 1, 2, 3, 4, 5, 6], [0, 1, 2, 3, 4, 5, 6, 7], [0, 1, 2, 3, 4, 5, 6, 7, 8]]
noncomputable def grid_build_s2_l1 (p0 : Int) (s15 : Int) (p2 : api_Grid) : (Int × List Bool) → Option ((Int × List Bool) ⊕ List Bool) := fun s0 => match s0 with
  | (s35, s36) =>
    if decide (s35 < p0) then
      Option.bind (F_grid_Turn_1_s0 s35 s15 p2) fun r50 =>
      Option.bind (appO s36 [r50]) fun l54 =>
      some (.inl (w64 (s35 + 1), l54))
    else
      some (.inr s36)
noncomputable def grid_build_s2_l2 (p1 : Int) (p0 : Int) (p2 : api_Grid) : (Int × List Bool) → Option ((Int × List Bool) ⊕ List Bool) := fun s0 => match s0 with
  | (s15, s16) =>
    if decide (s15 < p1) then
      Option.bind (α := List Bool) (
        Option.bind (whileO (grid_build_s2_l1 p0 s15 p2) (0, s16)) fun e42 =>
          some e42) fun o28 =>
      some (.inl (w64 (s15 + 1), o28))
    else
      some (.inr s16)
noncomputable def F_grid_build_s2 (p0 : Int) (p1 : Int) (p2 : api_Grid) : Option api_Grid :=
  Option.bind (capO (w64 (p0 * p1))) fun z6 =>
  Option.bind (α := List Bool) (
    Option.bind (whileO (grid_build_s2_l2 p1 p0 p2) (0, ([] : List Bool))) fun e22 =>
      some e22) fun o9 =>
  some (api_Grid.mk p0 p1 o9)
def c_grid_build_s2_val (r : api_Grid) (x : Value) : Value := x
def c_grid_build_s2_D (r : api_Grid) (x : Value) : List Fact := [fRep r_api_Grid x r]
set_option maxHeartbeats 4000000 in
set_option maxRecDepth 100000 in
theorem c_grid_build_s2 (E : Nat → Prop) (w0 : World) (p0 : Int) (p1 : Int) (p2 : api_Grid) (v2 : Value) (r : api_Grid) (h : F_grid_build_s2 p0 p1 p2 = some r) (S : St0 E [] w0 w0 [] [fPtr r_api_Grid (v2) p2]) :
    Calls Try.prog 54 #[.int .i64 p0, .int .i64 p1, .func (.func 57) #[] #[v2]] w0 (Ret (X := Value) E [] w0 (c_grid_build_s2_val r) (fun _ => []) (c_grid_build_s2_D r)) := by
  unfold F_grid_build_s2 at h
  refine sEnter (args := [.int .i64 p0, .int .i64 p1, .func (.func 57) #[] #[v2]]) 37 Try.func54 rfl rfl (by simp) S (fun a S => ?_)
  refine sSeq (fun K1 hK1 => ?_)
  refine sRegion ?_
  refine sAlloc (.agg #[.int .i64 0, .int .i64 0, .slice none 0 0]) S (wN rfl) rfl (by kernel_rfl) [.int .i64 0, .int .i64 0, .slice none 0 0] rfl rfl (by decide) (fun a b2 w S => ?_)
  refine leafL (leafT (hK1 _ _ ?_))
  refine sSeq (fun K3 hK3 => ?_)
  refine sRegion ?_
  refine sMove (.int .i64 p0) S (wN rfl) (.inl rfl) (by kernel_rfl) rfl (by decide) (fun a S => ?_)
  refine sMove (.int .i64 p1) S (wN rfl) (.inl rfl) (by kernel_rfl) rfl (by decide) (fun a S => ?_)
  refine sMove (.int .i64 p0) S (wN rfl) (.inl rfl) (by kernel_rfl) rfl (by decide) (fun a S => ?_)
  refine sMove (.int .i64 p1) S (wN rfl) (.inl rfl) (by kernel_rfl) rfl (by decide) (fun a S => ?_)
  refine sBin (.int .i64 (w64 (p0 * p1))) S (wN rfl) rfl (by kernel_rfl) (by kernel_rfl) (bMul _ _ _ _ p0 p1) rfl (by decide) (fun a S => ?_)
  obtain ⟨z6, hx7, h⟩ := bindSome h
  refine sMake0 rB (m := w64 (p0 * p1)) (u := z6) (.bool false) 1 S (wN rfl) rfl Try.underlying22 (by kernel_rfl) (by decide) (by kernel_rfl) (by kernel_rfl) hx7 rfl (by decide) (fun a w ad4 cp5 S => ?_)
  refine sBuild [(0, .int .i64 p0), (1, .int .i64 p1), (2, .slice ad4 ([] : List Bool).length cp5)] [.int .i64 p0, .int .i64 p1, .slice ad4 ([] : List Bool).length cp5] S (wN rfl) rfl (by kernel_rfl) (by kernel_rfl) rfl (by decide) (fun a S => ?_)
  refine sAlloc (.agg #[.int .i64 0, .int .i64 0, .slice none 0 0]) S (wN rfl) rfl (by kernel_rfl) [.int .i64 0, .int .i64 0, .slice none 0 0] rfl rfl (by decide) (fun a b8 w S => ?_)
  refine sStore (p := b8) (off := 0) (T := 24) (vs := [.int .i64 0, .int .i64 0, .slice none 0 0]) (v := .agg #[.int .i64 p0, .int .i64 p1, .slice ad4 ([] : List Bool).length cp5]) 0 [.int .i64 p0, .int .i64 p1, .slice ad4 ([] : List Bool).length cp5] S (wN rfl) rfl (by kernel_rfl) (by kernel_rfl) rfl (by kernel_rfl) (by kernel_rfl) rfl (by simp) rfl (fun a w S => ?_)
  refine leafL (leafT (hK3 _ _ ?_))
  obtain ⟨t12, h, g13⟩ := bindSome h
  refine sCut (fun a w => ∃ o9, o9 = t12 ∧ ∃ ad10, ∃ cp11, St E [] w0 37 a w [(6, .pointer (some ⟨b2, 0, none⟩)), (7, .pointer (some ⟨b8, 0, none⟩))] [eBox b2 24 [.int .i64 0, .int .i64 0, .slice none 0 0], eBox b8 24 [.int .i64 p0, .int .i64 p1, .slice ad10 o9.length cp11], eRow rB 4 (.slice ad10 o9.length cp11) o9] []) ?_ (fun a w hI => ?_)
  · refine sSeq (fun K14 hK14 => ?_)
    refine sRegion ?_
    refine sMove (.int .i64 p1) S (wN rfl) (.inl rfl) (by kernel_rfl) rfl (by decide) (fun a S => ?_)
    refine sMove (.int .i64 0) S (wN rfl) (.inl rfl) (by kernel_rfl) rfl (by decide) (fun a S => ?_)
    refine leafL (leafT (hK14 _ _ ?_))
    refine wp_block ?_
    obtain ⟨t21, hl, g20⟩ := bindSome h
    refine sLoop hl (fun s0 a w => match s0 with | (s15, s16) => ∃ ad17, ∃ cp18, St E [] w0 37 a w [(0, .int .i64 p0), (2, .func (.func 57) #[] #[v2]), (6, .pointer (some ⟨b2, 0, none⟩)), (7, .pointer (some ⟨b8, 0, none⟩)), (17, .int .i64 p1), (18, .int .i64 s15)] [eBox b2 24 [.int .i64 0, .int .i64 0, .slice none 0 0], eBox b8 24 [.int .i64 p0, .int .i64 p1, .slice ad17 s16.length cp18], eRow rB 4 (.slice ad17 s16.length cp18) s16] [fPtr r_api_Grid (v2) p2]) ⟨ad4, cp5, S.fix [2, 0, 1] [0] (by decide) (by kernel_rfl) (by kernel_rfl) (by kernel_rfl)⟩ ?_
    clear hl h
    intro s0 a w c0 hI h hu19
    obtain ⟨s15, s16⟩ := s0
    unfold grid_build_s2_l2 at h
    dsimp only at h hI
    obtain ⟨ad17, cp18, S⟩ := hI
    refine sSeq (fun K25 hK25 => ?_)
    refine sRegion ?_
    refine sBin (.bool (decide (s15 < p1))) S (wN rfl) rfl (by kernel_rfl) (by kernel_rfl) (bLt _ _ _ _ .i64 s15 p1) rfl (by decide) (fun a S => ?_)
    refine leafL (leafT (hK25 _ _ ?_))
    refine sSeq (fun K26 hK26 => ?_)
    rcases iteSome h with ⟨hc27, h⟩ | ⟨hc27, h⟩
    · refine sCondT (b := decide (s15 < p1)) S (by kernel_rfl) hc27 ?_
      refine wp_skip (leafT (hK26 _ _ ?_))
      obtain ⟨t31, h, g32⟩ := bindSome h
      refine sCut (fun a w => ∃ o28, o28 = t31 ∧ ∃ ad29, ∃ cp30, St E [] w0 37 a w [(0, .int .i64 p0), (2, .func (.func 57) #[] #[v2]), (6, .pointer (some ⟨b2, 0, none⟩)), (7, .pointer (some ⟨b8, 0, none⟩)), (17, .int .i64 p1), (18, .int .i64 s15)] [eBox b2 24 [.int .i64 0, .int .i64 0, .slice none 0 0], eBox b8 24 [.int .i64 p0, .int .i64 p1, .slice ad29 o28.length cp30], eRow rB 4 (.slice ad29 o28.length cp30) o28] [fPtr r_api_Grid (v2) p2]) ?_ (fun a w hI => ?_)
      · refine wp_block ?_
        refine sSeq (fun K33 hK33 => ?_)
        refine sRegion ?_
        refine sMove (.int .i64 s15) S (wN rfl) (.inl rfl) (by kernel_rfl) rfl (by decide) (fun a S => ?_)
        refine sMove (.int .i64 s15) S (wN rfl) (.inr rfl) (by kernel_rfl) rfl (by decide) (fun a S => ?_)
        refine leafL (leafT (hK33 _ _ ?_))
        refine sSeq (fun K34 hK34 => ?_)
        refine sRegion ?_
        refine sMove (.int .i64 p0) S (wN rfl) (.inl rfl) (by kernel_rfl) rfl (by decide) (fun a S => ?_)
        refine sMove (.int .i64 0) S (wN rfl) (.inl rfl) (by kernel_rfl) rfl (by decide) (fun a S => ?_)
        refine leafL (leafT (hK34 _ _ ?_))
        refine wp_block ?_
        obtain ⟨t41, hl, g40⟩ := bindSome h
        refine sLoop hl (fun s0 a w => match s0 with | (s35, s36) => ∃ ad37, ∃ cp38, St E [] w0 37 a w [(0, .int .i64 p0), (2, .func (.func 57) #[] #[v2]), (6, .pointer (some ⟨b2, 0, none⟩)), (7, .pointer (some ⟨b8, 0, none⟩)), (8, .int .i64 s15), (17, .int .i64 p1), (18, .int .i64 s15), (21, .int .i64 p0), (22, .int .i64 s35)] [eBox b2 24 [.int .i64 0, .int .i64 0, .slice none 0 0], eBox b8 24 [.int .i64 p0, .int .i64 p1, .slice ad37 s36.length cp38], eRow rB 4 (.slice ad37 s36.length cp38) s36] [fPtr r_api_Grid (v2) p2]) ⟨ad17, cp18, S.fix [0, 1, 2] [0] (by decide) (by kernel_rfl) (by kernel_rfl) (by kernel_rfl)⟩ ?_
        clear hl h
        intro s0 a w c0 hI h hu39
        obtain ⟨s35, s36⟩ := s0
        unfold grid_build_s2_l1 at h
        dsimp only at h hI
        obtain ⟨ad37, cp38, S⟩ := hI
        refine sSeq (fun K45 hK45 => ?_)
        refine sRegion ?_
        refine sBin (.bool (decide (s35 < p0))) S (wN rfl) rfl (by kernel_rfl) (by kernel_rfl) (bLt _ _ _ _ .i64 s35 p0) rfl (by decide) (fun a S => ?_)
        refine leafL (leafT (hK45 _ _ ?_))
        refine sSeq (fun K46 hK46 => ?_)
        rcases iteSome h with ⟨hc47, h⟩ | ⟨hc47, h⟩
        · refine sCondT (b := decide (s35 < p0)) S (by kernel_rfl) hc47 ?_
          refine wp_skip (leafT (hK46 _ _ ?_))
          refine sSeq (fun K48 hK48 => ?_)
          refine wp_block ?_
          refine sSeq (fun K49 hK49 => ?_)
          refine sRegion ?_
          refine sMove (.int .i64 s35) S (wN rfl) (.inl rfl) (by kernel_rfl) rfl (by decide) (fun a S => ?_)
          refine sMove (.int .i64 s35) S (wN rfl) (.inr rfl) (by kernel_rfl) rfl (by decide) (fun a S => ?_)
          refine leafL (leafT (hK49 _ _ ?_))
          obtain ⟨r50, hx51, h⟩ := bindSome h
          obtain ⟨l54, hx55, h⟩ := bindSome h
          refine sDraw (nf := [6, 7, 9]) (W := [(0, 25, .pointer (some ⟨b8, 2, none⟩)), (1, 26, .slice ad37 s36.length cp38), (2, 27, .func (.func 57) #[] #[v2]), (3, 28, .int .i64 s35), (4, 29, .int .i64 s15), (5, 30, .bool r50)]) (by kernel_rfl) S ?_
          refine node_by (A := anc_grid_build_s2_0) (nf := [6, 7, 9]) (Y := []) (W := [(0, 25, .pointer (some ⟨b8, 2, none⟩)), (1, 26, .slice ad37 s36.length cp38), (2, 27, .func (.func 57) #[] #[v2]), (3, 28, .int .i64 s35), (4, 29, .int .i64 s15), (5, 30, .bool r50)]) 10 (by kernel_rfl) (by kernel_rfl) (by kernel_rfl) (by kernel_rfl) (by kernel_rfl) [0, 1, 2, 3, 4, 5] (by kernel_rfl) (by decide) (by decide) (aF 0 9 (by decide) ?_ (aF 1 8 (by decide) ?_ (aF 2 7 (by decide) ?_ (aF 3 6 (by decide) ?_ (aF 4 5 (by decide) ?_ (aF 5 4 (by decide) ?_ (aN 6 3 (by decide) ?_ (aB 7 2 6 (by decide) (aE 8 1 6 (by decide) (aB 9 0 6 (by decide) (trivial))))))))))) [] (fun q hq => by cases hq) (fun hY => absurd (hY 6 (by decide)) (by decide))
          · refine fI 25 (.pointer (some ⟨b8, 2, none⟩)) [(7, .pointer (some ⟨b8, 0, none⟩))] 0 [none] rfl rfl (by kernel_rfl) rfl (by kernel_rfl) (by kernel_rfl) fun G a w S => ?_
            refine sField (b := b8) (off := 0) 2 2 S (wN rfl) rfl (by kernel_rfl) (by kernel_rfl) rfl rfl (by decide) (fun a S => ?_)
            exact leafL ⟨rfl, S⟩
          · refine fI 26 (.slice ad37 s36.length cp38) [(25, .pointer (some ⟨b8, 2, none⟩))] 1 [some 0] rfl rfl (by kernel_rfl) rfl (by kernel_rfl) (by kernel_rfl) fun G a w S => ?_
            refine sLoad1 (p := b8) (off := 2) (T := 24) (vs := [.int .i64 p0, .int .i64 p1, .slice ad37 s36.length cp38]) 1 (.slice ad37 s36.length cp38) S (wN rfl) rfl (by kernel_rfl) (by kernel_rfl) (by kernel_rfl) rfl rfl (by decide) (fun a S => ?_)
            exact leafL ⟨rfl, S⟩
          · refine fI 27 (.func (.func 57) #[] #[v2]) [(2, .func (.func 57) #[] #[v2])] 2 [none] rfl rfl (by kernel_rfl) rfl (by kernel_rfl) (by kernel_rfl) fun G a w S => ?_
            refine sMove (.func (.func 57) #[] #[v2]) S (wN rfl) (.inl rfl) (by kernel_rfl) rfl (by decide) (fun a S => ?_)
            exact leafL ⟨rfl, S⟩
          · refine fI 28 (.int .i64 s35) [(9, .int .i64 s35)] 3 [none] rfl rfl (by kernel_rfl) rfl (by kernel_rfl) (by kernel_rfl) fun G a w S => ?_
            refine sMove (.int .i64 s35) S (wN rfl) (.inl rfl) (by kernel_rfl) rfl (by decide) (fun a S => ?_)
            exact leafL ⟨rfl, S⟩
          · refine fI 29 (.int .i64 s15) [(8, .int .i64 s15)] 4 [none] rfl rfl (by kernel_rfl) rfl (by kernel_rfl) (by kernel_rfl) fun G a w S => ?_
            refine sMove (.int .i64 s15) S (wN rfl) (.inl rfl) (by kernel_rfl) rfl (by decide) (fun a S => ?_)
            exact leafL ⟨rfl, S⟩
          · refine fI 30 (.bool r50) [(27, .func (.func 57) #[] #[v2]), (28, .int .i64 s35), (29, .int .i64 s15)] 5 [some 2, some 3, some 4] rfl rfl (by kernel_rfl) rfl (by kernel_rfl) (by kernel_rfl) fun G a w S => ?_
            have S1 := S.mem
            refine sCallVQ (X := Unit) (g := 57) (vs := [.int .i64 s35, .int .i64 s15]) (caps := [v2]) (val := fun _ => .bool r50) S (wN rfl) rfl (by kernel_rfl) callee57 (by kernel_rfl) (S1.quiet [0] (by kernel_rfl)) (fun E1 w1 S1 => c_grid_Turn_1_s0 E1 w1 s35 s15 p2 v2 r50 hx51 S1) rfl (by decide) (fun _ a w S => ?_)
            exact leafL ⟨rfl, S⟩
          · refine ⟨_, [(30, .bool r50)], rfl, (srcs_of [some 5] rfl (by kernel_rfl) (by kernel_rfl)), fun G a w S => ?_⟩
            refine sLit (r := rB) (T := 4) (xs := [r50]) [(0, .bool r50)] 1 [.bool r50] [.bool r50] (.bool false) 1 S (wN rfl) rfl (by kernel_rfl) Try.underlying22 (by kernel_rfl) (by decide) (by decide) (by kernel_rfl) rfl (fun E1 w1 hE => All.cons rfl (All.nil _ _ _)) rfl rfl (by decide) (fun a w ad58 cp59 S => ?_)
            refine leafL ⟨rfl, _, _, .inl ⟨31, (.slice ad58 [r50].length cp59), [], rfl, S, hz_of (by kernel_rfl), ?_⟩⟩
            refine node_by (A := anc_grid_build_s2_0) (nf := [6, 7, 9]) (Y := [6]) 10 (by kernel_rfl) (by kernel_rfl) (by kernel_rfl) (by kernel_rfl) (by kernel_rfl) [6, 0, 1, 2, 3, 4, 5] (by kernel_rfl) (by decide) (by decide) (aF 0 9 (by decide) ?_ (aF 1 8 (by decide) ?_ (aD 2 7 6 (by decide) (aD 3 6 6 (by decide) (aD 4 5 6 (by decide) (aD 5 4 6 (by decide) (aY 6 3 (by decide) (aN 7 2 (by decide) ?_ (aE 8 1 7 (by decide) (aB 9 0 7 (by decide) (trivial))))))))))) [] (fun q hq => by cases hq) (fun hY => absurd (hY 7 (by decide)) (by decide))
            · refine fI 25 (.pointer (some ⟨b8, 2, none⟩)) [(7, .pointer (some ⟨b8, 0, none⟩))] 1 [none] rfl rfl (by kernel_rfl) rfl (by kernel_rfl) (by kernel_rfl) fun G a w S => ?_
              refine sField (b := b8) (off := 0) 2 2 S (wN rfl) rfl (by kernel_rfl) (by kernel_rfl) rfl rfl (by decide) (fun a S => ?_)
              exact leafL ⟨rfl, S⟩
            · refine fI 26 (.slice ad37 s36.length cp38) [(25, .pointer (some ⟨b8, 2, none⟩))] 2 [some 1] rfl rfl (by kernel_rfl) rfl (by kernel_rfl) (by kernel_rfl) fun G a w S => ?_
              refine sLoad1 (p := b8) (off := 2) (T := 24) (vs := [.int .i64 p0, .int .i64 p1, .slice ad37 s36.length cp38]) 2 (.slice ad37 s36.length cp38) S (wN rfl) rfl (by kernel_rfl) (by kernel_rfl) (by kernel_rfl) rfl rfl (by decide) (fun a S => ?_)
              exact leafL ⟨rfl, S⟩
            · refine ⟨_, [(26, .slice ad37 s36.length cp38), (31, .slice ad58 [r50].length cp59)], rfl, (srcs_of [some 2, some 0] rfl (by kernel_rfl) (by kernel_rfl)), fun G a w S => ?_⟩
              refine sApp (r := rB) (T := 4) (xs := s36) (ys := [r50]) (v := .slice ad37 s36.length cp38) (u := .slice ad58 [r50].length cp59) 3 (.bool false) 1 S (wN rfl) rfl Try.underlying22 (by kernel_rfl) rfl (by decide) (by kernel_rfl) (by kernel_rfl) (by kernel_rfl) (src_R (T := 4) 0 S.mem (by kernel_rfl)) hx55 rfl (by decide) (fun a w ad60 cp61 S => ?_)
              refine leafL ⟨rfl, _, _, .inl ⟨32, (.slice ad60 l54.length cp61), [(8, 33, .pointer (some ⟨b8, 2, none⟩))], rfl, S, hz_of (by kernel_rfl), ?_⟩⟩
              refine node_by (A := anc_grid_build_s2_0) (nf := [6, 7, 9]) (Y := [7, 6]) 10 (by kernel_rfl) (by kernel_rfl) (by kernel_rfl) (by kernel_rfl) (by kernel_rfl) [8, 7, 6, 0, 1, 2, 3, 4, 5] (by kernel_rfl) (by decide) (by decide) (aD 0 9 7 (by decide) (aD 1 8 7 (by decide) (aD 2 7 7 (by decide) (aD 3 6 7 (by decide) (aD 4 5 7 (by decide) (aD 5 4 7 (by decide) (aY 6 3 (by decide) (aY 7 2 (by decide) (aF 8 1 (by decide) ?_ (aN 9 0 (by decide) ?_ (trivial))))))))))) [] (fun q hq => by cases hq) (fun hY => absurd (hY 9 (by decide)) (by decide))
              · refine fI 33 (.pointer (some ⟨b8, 2, none⟩)) [(7, .pointer (some ⟨b8, 0, none⟩))] 0 [none] rfl rfl (by kernel_rfl) rfl (by kernel_rfl) (by kernel_rfl) fun G a w S => ?_
                refine sField (b := b8) (off := 0) 2 2 S (wN rfl) rfl (by kernel_rfl) (by kernel_rfl) rfl rfl (by decide) (fun a S => ?_)
                exact leafL ⟨rfl, S⟩
              · refine ⟨_, [(32, .slice ad60 l54.length cp61), (33, .pointer (some ⟨b8, 2, none⟩))], rfl, (srcs_of [some 1, some 0] rfl (by kernel_rfl) (by kernel_rfl)), fun G a w S => ?_⟩
                refine sStore (p := b8) (off := 2) (T := 24) (vs := [.int .i64 p0, .int .i64 p1, .slice ad37 s36.length cp38]) (v := .slice ad60 l54.length cp61) 3 [.slice ad60 l54.length cp61] S (wN rfl) rfl (by kernel_rfl) (by kernel_rfl) rfl (by kernel_rfl) (by kernel_rfl) rfl (by simp) rfl (fun a w S => ?_)
                refine leafL ⟨rfl, _, _, .inr ⟨[], rfl, S, hz_of (by kernel_rfl), ?_⟩⟩
                refine node_by (A := anc_grid_build_s2_0) (nf := [6, 7, 9]) (Y := [9, 7, 6]) 10 (by kernel_rfl) (by kernel_rfl) (by kernel_rfl) (by kernel_rfl) (by kernel_rfl) [8, 7, 6, 0, 1, 2, 3, 4, 5] (by kernel_rfl) (by decide) (by decide) (aD 0 9 9 (by decide) (aD 1 8 9 (by decide) (aD 2 7 9 (by decide) (aD 3 6 9 (by decide) (aD 4 5 9 (by decide) (aD 5 4 9 (by decide) (aY 6 3 (by decide) (aY 7 2 (by decide) (aD 8 1 9 (by decide) (aY 9 0 (by decide) (trivial))))))))))) [(0, .int .i64 p0), (2, .func (.func 57) #[] #[v2]), (6, .pointer (some ⟨b2, 0, none⟩)), (7, .pointer (some ⟨b8, 0, none⟩)), (8, .int .i64 s15), (17, .int .i64 p1), (18, .int .i64 s15), (21, .int .i64 p0), (22, .int .i64 s35)] (fin_of [none, none, none, none, none, none, none, none, none] rfl (by kernel_rfl) (by kernel_rfl)) (fun _ a w S => ?_)
                · refine leafB (leafT (hK48 _ _ ?_))
                  refine sRegion ?_
                  refine sBin (.int .i64 (w64 (s35 + 1))) S (wN rfl) rfl (by kernel_rfl) (by kernel_rfl) (bAdd _ _ _ _ s35 1) rfl (by decide) (fun a S => ?_)
                  refine sMove (.int .i64 (w64 (s35 + 1))) S (wN rfl) (.inl rfl) (by kernel_rfl) rfl (by decide) (fun a S => ?_)
                  exact leafL (leafT (⟨(w64 (s35 + 1), l54), (Option.some.inj h).symm, ⟨ad60, cp61, S.fix [3, 0, 1] [0] (by decide) (by kernel_rfl) (by kernel_rfl) (by kernel_rfl)⟩⟩))
        · refine sCondF (b := decide (s35 < p0)) S (by kernel_rfl) hc47 ?_
          obtain rfl := Option.some.inj h
          obtain rfl := hu39 _ rfl
          have h := g40
          clear g40
          try dsimp only at h
          exact wp_exit (xThen (xThen (xHit (leafB (leafT (⟨s36, Option.some.inj h, ad37, cp38, S.fix [0, 1, 2] [0] (by decide) (by kernel_rfl) (by kernel_rfl) (by kernel_rfl)⟩))))))
      · obtain ⟨o28, rfl, ad29, cp30, S⟩ := hI
        have h := g32
        clear g32
        try dsimp only at h
        refine sRegion ?_
        refine sBin (.int .i64 (w64 (s15 + 1))) S (wN rfl) rfl (by kernel_rfl) (by kernel_rfl) (bAdd _ _ _ _ s15 1) rfl (by decide) (fun a S => ?_)
        refine sMove (.int .i64 (w64 (s15 + 1))) S (wN rfl) (.inl rfl) (by kernel_rfl) rfl (by decide) (fun a S => ?_)
        exact leafL (leafT (⟨(w64 (s15 + 1), o28), (Option.some.inj h).symm, ⟨ad29, cp30, S.fix [0, 1, 2] [0] (by decide) (by kernel_rfl) (by kernel_rfl) (by kernel_rfl)⟩⟩))
    · refine sCondF (b := decide (s15 < p1)) S (by kernel_rfl) hc27 ?_
      obtain rfl := Option.some.inj h
      obtain rfl := hu19 _ rfl
      have h := g20
      clear g20
      try dsimp only at h
      exact wp_exit (xThen (xThen (xHit (leafT (⟨s16, Option.some.inj h, ad17, cp18, S.fix [0, 1, 2] [] (by decide) (by kernel_rfl) (by kernel_rfl) (by kernel_rfl)⟩)))))
  · obtain ⟨o9, rfl, ad10, cp11, S⟩ := hI
    have h := g13
    clear g13
    try dsimp only at h
    refine sSeq (fun K62 hK62 => ?_)
    refine sRegion ?_
    refine sLoadN (p := b8) (off := 0) (T := 24) (vs := [.int .i64 p0, .int .i64 p1, .slice ad10 o9.length cp11]) 1 [.int .i64 p0, .int .i64 p1, .slice ad10 o9.length cp11] S (wN rfl) rfl (by kernel_rfl) (by kernel_rfl) (by kernel_rfl) (by kernel_rfl) rfl rfl (by decide) (fun a S => ?_)
    refine sStore (p := b2) (off := 0) (T := 24) (vs := [.int .i64 0, .int .i64 0, .slice none 0 0]) (v := .agg #[.int .i64 p0, .int .i64 p1, .slice ad10 o9.length cp11]) 0 [.int .i64 p0, .int .i64 p1, .slice ad10 o9.length cp11] S (wN rfl) rfl (by kernel_rfl) (by kernel_rfl) rfl (by kernel_rfl) (by kernel_rfl) rfl (by simp) rfl (fun a w S => ?_)
    refine leafL (leafT (hK62 _ _ ?_))
    obtain rfl := Option.some.inj h
    have S := S.shutR (r := rB) (T := 4) (v := .slice ad10 o9.length cp11) (xs := o9) 2 (by kernel_rfl)
    have S := S.learn (fRep r_api_Grid (.agg #[.int .i64 p0, .int .i64 p1, .slice ad10 o9.length cp11]) (api_Grid.mk p0 p1 o9)) ⟨_, rfl, S.mem.know (i := 0) (e := fRep (rL rB) (.slice ad10 o9.length cp11) o9) (by kernel_rfl)⟩
    exact wp_ret (sRet (.agg #[.int .i64 p0, .int .i64 p1, .slice ad10 o9.length cp11]) S (rsl1 rfl (rvN (c := 6) (t := 24) (T := 24) (p := b2) 0 [.int .i64 p0, .int .i64 p1, .slice ad10 o9.length cp11] S (by kernel_rfl) (by kernel_rfl) (by kernel_rfl) (by kernel_rfl))) ⟨(.agg #[.int .i64 p0, .int .i64 p1, .slice ad10 o9.length cp11]), rfl, S.mem.sel [] [0] (by decide) (by kernel_rfl) (by kernel_rfl)⟩)

end Go.Proofs.Ytjndecalogklhaa
namespace Go.Proofs.Ytjndecalogklhaa
open Go.RowKit
set_option linter.unusedVariables false

noncomputable def F_grid_Turn (p0 : api_Grid) : Option (api_Grid × Int) :=
  Option.bind (F_grid_Check p0) fun r10 =>
  if r10 != 0 then
    some ((api_Grid.mk 0 0 ([] : (List Bool))), r10)
  else
    Option.bind (F_grid_build_s2 p0.H p0.W p0) fun r16 =>
    some (r16, 0)
def c_grid_Turn_val (r : (api_Grid × Int)) (x : Value) : Value := .tuple #[x, .int .i64 r.2]
def c_grid_Turn_D (r : (api_Grid × Int)) (x : Value) : List Fact := [fRep r_api_Grid x r.1]
set_option maxHeartbeats 4000000 in
set_option maxRecDepth 100000 in
theorem c_grid_Turn (E : Nat → Prop) (w0 : World) (p0 : api_Grid) (v0 : Value) (r : (api_Grid × Int)) (h : F_grid_Turn p0 = some r) (S : St0 E [] w0 w0 [] [fRep r_api_Grid (v0) p0]) :
    Calls Try.prog 30 #[v0] w0 (Ret (X := Value) E [] w0 (c_grid_Turn_val r) (fun _ => []) (c_grid_Turn_D r)) := by
  unfold F_grid_Turn at h
  obtain ⟨u1, rfl, hu2⟩ := S.know (i := 0) (e := fRep r_api_Grid (v0) p0) (by kernel_rfl)
  have S := S.learn (fRep (rL rB) u1 p0.Bits) hu2
  obtain ⟨ad3, cp4, _, rfl, _⟩ := hu2
  refine sEnter (args := [.agg #[.int .i64 p0.W, .int .i64 p0.H, .slice ad3 p0.Bits.length cp4]]) 17 Try.func30 rfl rfl (by simp) S (fun a S => ?_)
  refine sSeq (fun K5 hK5 => ?_)
  refine sRegion ?_
  refine sBox (v := .agg #[.int .i64 p0.W, .int .i64 p0.H, .slice ad3 p0.Bits.length cp4]) S (wN rfl) rfl (by kernel_rfl) [.int .i64 p0.W, .int .i64 p0.H, .slice ad3 p0.Bits.length cp4] rfl rfl (by decide) (fun a b6 w S => ?_)
  refine sAlloc (.agg #[.int .i64 0, .int .i64 0, .slice none 0 0]) S (wN rfl) rfl (by kernel_rfl) [.int .i64 0, .int .i64 0, .slice none 0 0] rfl rfl (by decide) (fun a b7 w S => ?_)
  refine sMove (.int .i64 0) S (wN rfl) (.inr rfl) (by kernel_rfl) rfl (by decide) (fun a S => ?_)
  refine leafL (leafT (hK5 _ _ ?_))
  refine sSeq (fun K8 hK8 => ?_)
  refine sSeq (fun K9 hK9 => ?_)
  refine sRegion ?_
  refine sLoadN (p := b6) (off := 0) (T := 24) (vs := [.int .i64 p0.W, .int .i64 p0.H, .slice ad3 p0.Bits.length cp4]) 1 [.int .i64 p0.W, .int .i64 p0.H, .slice ad3 p0.Bits.length cp4] S (wN rfl) rfl (by kernel_rfl) (by kernel_rfl) (by kernel_rfl) (by kernel_rfl) rfl rfl (by decide) (fun a S => ?_)
  obtain ⟨r10, hx11, h⟩ := bindSome h
  have S1 := S.mem
  refine sCallQ (X := Unit) (f := 32) (vs := [.agg #[.int .i64 p0.W, .int .i64 p0.H, .slice ad3 p0.Bits.length cp4]]) (val := fun _ => .int .i64 r10) S (wN rfl) rfl callee32 (by kernel_rfl) (S1.quiet [1] (by kernel_rfl)) (fun E1 w1 S1 => c_grid_Check E1 w1 p0 (.agg #[.int .i64 p0.W, .int .i64 p0.H, .slice ad3 p0.Bits.length cp4]) r10 hx11 S1) rfl (by decide) (fun _ a w S => ?_)
  refine sMove (.int .i64 r10) S (wN rfl) (.inr rfl) (by kernel_rfl) rfl (by decide) (fun a S => ?_)
  refine leafL (leafT (hK9 _ _ ?_))
  refine sSeq (fun K12 hK12 => ?_)
  refine sRegion ?_
  refine sMove (.int .i64 r10) S (wN rfl) (.inl rfl) (by kernel_rfl) rfl (by decide) (fun a S => ?_)
  refine sBin (.bool (r10 != 0)) S (wN rfl) rfl (by kernel_rfl) (by kernel_rfl) (bNe _ _ _ _ .i64 r10 0) rfl (by decide) (fun a S => ?_)
  refine leafL (leafT (hK12 _ _ ?_))
  rcases iteSome h with ⟨hc13, h⟩ | ⟨hc13, h⟩
  · refine sCondT (b := r10 != 0) S (by kernel_rfl) hc13 ?_
    refine sSeq (fun K14 hK14 => ?_)
    refine sRegion ?_
    refine sBuild [] [.int .i64 0, .int .i64 0, .slice none 0 0] S (wN rfl) rfl (by kernel_rfl) (by kernel_rfl) rfl (by decide) (fun a S => ?_)
    refine sMove (.int .i64 r10) S (wN rfl) (.inl rfl) (by kernel_rfl) rfl (by decide) (fun a S => ?_)
    refine sStore (p := b7) (off := 0) (T := 24) (vs := [.int .i64 0, .int .i64 0, .slice none 0 0]) (v := .agg #[.int .i64 0, .int .i64 0, .slice none 0 0]) 0 [.int .i64 0, .int .i64 0, .slice none 0 0] S (wN rfl) rfl (by kernel_rfl) (by kernel_rfl) rfl (by kernel_rfl) (by kernel_rfl) rfl (by simp) rfl (fun a w S => ?_)
    refine sMove (.int .i64 r10) S (wN rfl) (.inr rfl) (by kernel_rfl) rfl (by decide) (fun a S => ?_)
    refine leafL (leafT (hK14 _ _ ?_))
    obtain rfl := Option.some.inj h
    have S := S.learn (fRep (rL rB) (.slice none 0 0) ([] : (List Bool))) (rL_nil _ _ _)
    have S := S.learn (fRep r_api_Grid (.agg #[.int .i64 0, .int .i64 0, .slice none 0 0]) (api_Grid.mk 0 0 ([] : (List Bool)))) ⟨_, rfl, S.mem.know (i := 0) (e := fRep (rL rB) (.slice none 0 0) ([] : (List Bool))) (by kernel_rfl)⟩
    exact wp_ret (rThen (sRet (.tuple #[.agg #[.int .i64 0, .int .i64 0, .slice none 0 0], .int .i64 r10]) S (rsl2 rfl (rvN (c := 2) (t := 24) (T := 24) (p := b7) 0 [.int .i64 0, .int .i64 0, .slice none 0 0] S (by kernel_rfl) (by kernel_rfl) (by kernel_rfl) (by kernel_rfl)) (rvT (t := 3) (v := .int .i64 r10) S (by kernel_rfl))) ⟨(.agg #[.int .i64 0, .int .i64 0, .slice none 0 0]), rfl, S.mem.sel [] [0] (by decide) (by kernel_rfl) (by kernel_rfl)⟩))
  · refine sCondF (b := r10 != 0) S (by kernel_rfl) hc13 ?_
    refine wp_skip (leafT (hK8 _ _ ?_))
    refine sSeq (fun K15 hK15 => ?_)
    refine sRegion ?_
    refine sField (b := b6) (off := 0) 1 1 S (wN rfl) rfl (by kernel_rfl) (by kernel_rfl) rfl rfl (by decide) (fun a S => ?_)
    refine sLoad1 (p := b6) (off := 1) (T := 24) (vs := [.int .i64 p0.W, .int .i64 p0.H, .slice ad3 p0.Bits.length cp4]) 1 (.int .i64 p0.H) S (wN rfl) rfl (by kernel_rfl) (by kernel_rfl) (by kernel_rfl) rfl rfl (by decide) (fun a S => ?_)
    refine sField (b := b6) (off := 0) 0 0 S (wN rfl) rfl (by kernel_rfl) (by kernel_rfl) rfl rfl (by decide) (fun a S => ?_)
    refine sLoad1 (p := b6) (off := 0) (T := 24) (vs := [.int .i64 p0.W, .int .i64 p0.H, .slice ad3 p0.Bits.length cp4]) 1 (.int .i64 p0.W) S (wN rfl) rfl (by kernel_rfl) (by kernel_rfl) (by kernel_rfl) rfl rfl (by decide) (fun a S => ?_)
    refine sFunc (g := 57) (vs := [.pointer (some ⟨b6, 0, none⟩)]) S (wN rfl) rfl (by kernel_rfl) rfl (by decide) (fun a S => ?_)
    obtain ⟨r16, hx17, h⟩ := bindSome h
    have S := S.shutB (r := r_api_Grid) (T := 24) (b := b6) (cs := [.int .i64 p0.W, .int .i64 p0.H, .slice ad3 p0.Bits.length cp4]) 1 (.agg #[.int .i64 p0.W, .int .i64 p0.H, .slice ad3 p0.Bits.length cp4]) p0 (by kernel_rfl) rfl (S.mem.know (i := 1) (e := fRep r_api_Grid (.agg #[.int .i64 p0.W, .int .i64 p0.H, .slice ad3 p0.Bits.length cp4]) p0) (by kernel_rfl))
    refine sCall (X := Value) (f := 54) (vs := [.int .i64 p0.H, .int .i64 p0.W, .func (.func 57) #[] #[.pointer (some ⟨b6, 0, none⟩)]]) (val := c_grid_build_s2_val r16) (B' := fun _ => []) (D' := c_grid_build_s2_D r16) [] [eBox b7 24 [.int .i64 0, .int .i64 0, .slice none 0 0]] [fPtr r_api_Grid (.pointer (some ⟨b6, 0, none⟩)) p0] [0] [0] S (wN rfl) rfl callee54 (by kernel_rfl) (by decide) (by kernel_rfl) (by kernel_rfl) (fun E1 w1 S1 => c_grid_build_s2 E1 w1 p0.H p0.W p0 (.pointer (some ⟨b6, 0, none⟩)) r16 hx17 S1) rfl (by decide) (fun u18 a w S => ?_)
    obtain ⟨u19, rfl, hu20⟩ := S.mem.know (i := 0) (e := fRep r_api_Grid (u18) r16) (by kernel_rfl)
    have S := S.learn (fRep (rL rB) u19 r16.Bits) hu20
    obtain ⟨ad21, cp22, _, rfl, _⟩ := hu20
    refine sStore (p := b7) (off := 0) (T := 24) (vs := [.int .i64 0, .int .i64 0, .slice none 0 0]) (v := .agg #[.int .i64 r16.W, .int .i64 r16.H, .slice ad21 r16.Bits.length cp22]) 0 [.int .i64 r16.W, .int .i64 r16.H, .slice ad21 r16.Bits.length cp22] S (wN rfl) rfl (by kernel_rfl) (by kernel_rfl) rfl (by kernel_rfl) (by kernel_rfl) rfl (by simp) rfl (fun a w S => ?_)
    refine sMove (.int .i64 0) S (wN rfl) (.inr rfl) (by kernel_rfl) rfl (by decide) (fun a S => ?_)
    refine leafL (leafT (hK15 _ _ ?_))
    obtain rfl := Option.some.inj h
    exact wp_ret (sRet (.tuple #[.agg #[.int .i64 r16.W, .int .i64 r16.H, .slice ad21 r16.Bits.length cp22], .int .i64 0]) S (rsl2 rfl (rvN (c := 2) (t := 24) (T := 24) (p := b7) 0 [.int .i64 r16.W, .int .i64 r16.H, .slice ad21 r16.Bits.length cp22] S (by kernel_rfl) (by kernel_rfl) (by kernel_rfl) (by kernel_rfl)) (rvT (t := 3) (v := .int .i64 0) S (by kernel_rfl))) ⟨(.agg #[.int .i64 r16.W, .int .i64 r16.H, .slice ad21 r16.Bits.length cp22]), rfl, S.mem.sel [] [1] (by decide) (by kernel_rfl) (by kernel_rfl)⟩)

end Go.Proofs.Ytjndecalogklhaa
namespace Go.Proofs.Ytjndecalogklhaa
open Go.RowKit
set_option linter.unusedVariables false

noncomputable def F_grid_Mirror_1_s0 (p0 : Int) (p1 : Int) (p2 : api_Grid) : Option Bool :=
  Option.bind (idxO p2.Bits (w64 ((w64 ((w64 ((w64 (p1 * p2.W)) + p2.W)) - 1)) - p0))) fun x14 =>
  some x14
set_option maxHeartbeats 4000000 in
set_option maxRecDepth 100000 in
theorem c_grid_Mirror_1_s0 (E : Nat → Prop) (w0 : World) (p0 : Int) (p1 : Int) (p2 : api_Grid) (v2 : Value) (r : Bool) (h : F_grid_Mirror_1_s0 p0 p1 p2 = some r) (S : St0 E [] w0 w0 [] [fPtr r_api_Grid (v2) p2]) :
    Calls Try.prog 58 #[.int .i64 p0, .int .i64 p1, v2] w0 (Ret (X := Unit) E [] w0 (fun _ => .bool r) (fun _ => []) (fun _ => [])) := by
  unfold F_grid_Mirror_1_s0 at h
  refine sEnter (args := [.int .i64 p0, .int .i64 p1, v2]) 20 Try.func58 rfl rfl (by simp) S (fun a S => ?_)
  refine sSeq (fun K1 hK1 => ?_)
  refine sRegion ?_
  refine sMove (.bool false) S (wN rfl) (.inr rfl) (by kernel_rfl) rfl (by decide) (fun a S => ?_)
  refine leafL (leafT (hK1 _ _ ?_))
  refine sSeq (fun K2 hK2 => ?_)
  refine sRegion ?_
  obtain ⟨q3, hq4, S⟩ := pFld (P := Try.prog) (r := r_api_Grid) (s2 := (rL rB)) (g := (·.Bits)) (q := v2) (z := p2) 24 2 0 2 S (by kernel_rfl) (by kernel_rfl) comp_api_Grid_Bits
  refine sFldV (q := v2) S (wN rfl) rfl (by kernel_rfl) hq4 rfl (by decide) (fun a S => ?_)
  obtain ⟨u5, S⟩ := pLoad (r := (rL rB)) (q := q3) (x := p2.Bits) 0 S (by kernel_rfl)
  obtain ⟨ad6, cp7, _, rfl, _⟩ := S.mem.know (i := 1) (e := fRep (rL rB) (u5) p2.Bits) (by kernel_rfl)
  refine sLoadV1 (vq := q3) 0 (.slice ad6 p2.Bits.length cp7) S (wN rfl) rfl (by kernel_rfl) (by kernel_rfl) (by kernel_rfl) rfl (by decide) (fun a S => ?_)
  refine sMove (.int .i64 p1) S (wN rfl) (.inl rfl) (by kernel_rfl) rfl (by decide) (fun a S => ?_)
  obtain ⟨q8, hq9, S⟩ := pFld (P := Try.prog) (r := r_api_Grid) (s2 := (rI .i64)) (g := (·.W)) (q := v2) (z := p2) 24 0 3 0 S (by kernel_rfl) (by kernel_rfl) comp_api_Grid_W
  refine sFldV (q := v2) S (wN rfl) rfl (by kernel_rfl) hq9 rfl (by decide) (fun a S => ?_)
  obtain ⟨u10, S⟩ := pLoad (r := (rI .i64)) (q := q8) (x := p2.W) 0 S (by kernel_rfl)
  obtain rfl : u10 = .int .i64 p2.W := S.mem.know (i := 1) (e := fRep (rI .i64) (u10) p2.W) (by kernel_rfl)
  refine sLoadV1 (vq := q8) 0 (.int .i64 p2.W) S (wN rfl) rfl (by kernel_rfl) (by kernel_rfl) (by kernel_rfl) rfl (by decide) (fun a S => ?_)
  refine sBin (.int .i64 (w64 (p1 * p2.W))) S (wN rfl) rfl (by kernel_rfl) (by kernel_rfl) (bMul _ _ _ _ p1 p2.W) rfl (by decide) (fun a S => ?_)
  obtain ⟨q11, hq12, S⟩ := pFld (P := Try.prog) (r := r_api_Grid) (s2 := (rI .i64)) (g := (·.W)) (q := v2) (z := p2) 24 0 6 0 S (by kernel_rfl) (by kernel_rfl) comp_api_Grid_W
  refine sFldV (q := v2) S (wN rfl) rfl (by kernel_rfl) hq12 rfl (by decide) (fun a S => ?_)
  obtain ⟨u13, S⟩ := pLoad (r := (rI .i64)) (q := q11) (x := p2.W) 0 S (by kernel_rfl)
  obtain rfl : u13 = .int .i64 p2.W := S.mem.know (i := 1) (e := fRep (rI .i64) (u13) p2.W) (by kernel_rfl)
  refine sLoadV1 (vq := q11) 0 (.int .i64 p2.W) S (wN rfl) rfl (by kernel_rfl) (by kernel_rfl) (by kernel_rfl) rfl (by decide) (fun a S => ?_)
  refine sBin (.int .i64 (w64 ((w64 (p1 * p2.W)) + p2.W))) S (wN rfl) rfl (by kernel_rfl) (by kernel_rfl) (bAdd _ _ _ _ (w64 (p1 * p2.W)) p2.W) rfl (by decide) (fun a S => ?_)
  refine sBin (.int .i64 (w64 ((w64 ((w64 (p1 * p2.W)) + p2.W)) - 1))) S (wN rfl) rfl (by kernel_rfl) (by kernel_rfl) (bSub _ _ _ _ (w64 ((w64 (p1 * p2.W)) + p2.W)) 1) rfl (by decide) (fun a S => ?_)
  refine sMove (.int .i64 p0) S (wN rfl) (.inl rfl) (by kernel_rfl) rfl (by decide) (fun a S => ?_)
  refine sBin (.int .i64 (w64 ((w64 ((w64 ((w64 (p1 * p2.W)) + p2.W)) - 1)) - p0))) S (wN rfl) rfl (by kernel_rfl) (by kernel_rfl) (bSub _ _ _ _ (w64 ((w64 ((w64 (p1 * p2.W)) + p2.W)) - 1)) p0) rfl (by decide) (fun a S => ?_)
  obtain ⟨x14, hx15, h⟩ := bindSome h
  obtain ⟨q16, hq17, S⟩ := pIdx (P := Try.prog) (r := rB) (v := .slice ad6 p2.Bits.length cp7) (xs := p2.Bits) (j := w64 ((w64 ((w64 ((w64 (p1 * p2.W)) + p2.W)) - 1)) - p0)) 22 4 7 S Try.underlying22 (by kernel_rfl) (by kernel_rfl) hx15
  refine sIdxV (v := .slice ad6 p2.Bits.length cp7) (k := .i64) (j := w64 ((w64 ((w64 ((w64 (p1 * p2.W)) + p2.W)) - 1)) - p0)) S (wN rfl) rfl (by kernel_rfl) (by kernel_rfl) hq17 rfl (by decide) (fun a S => ?_)
  obtain ⟨u18, S⟩ := pLoad (r := rB) (q := q16) (x := x14) 0 S (by kernel_rfl)
  obtain rfl : u18 = .bool x14 := S.mem.know (i := 1) (e := fRep rB (u18) x14) (by kernel_rfl)
  refine sLoadV1 (vq := q16) 0 (.bool x14) S (wN rfl) rfl (by kernel_rfl) (by kernel_rfl) (by kernel_rfl) rfl (by decide) (fun a S => ?_)
  refine sMove (.bool x14) S (wN rfl) (.inr rfl) (by kernel_rfl) rfl (by decide) (fun a S => ?_)
  refine leafL (leafT (hK2 _ _ ?_))
  obtain rfl := Option.some.inj h
  exact wp_ret (sRet (.bool x14) S (rsl1 rfl (rvT (t := 5) (v := .bool x14) S (by kernel_rfl))) ⟨(), rfl, S.mem.sel [] [] (by decide) (by kernel_rfl) (by kernel_rfl)⟩)

end Go.Proofs.Ytjndecalogklhaa
