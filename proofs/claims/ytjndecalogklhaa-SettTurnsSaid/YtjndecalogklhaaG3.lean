import Derived.Test.YtjndecalogklhaaGTy
import Derived.Test.YtjndecalogklhaaG10
import Derived.Test.YtjndecalogklhaaG11
import Derived.Test.YtjndecalogklhaaG12
import Derived.Test.YtjndecalogklhaaG13
import Derived.Test.YtjndecalogklhaaG14
import Derived.Test.YtjndecalogklhaaG15
import Derived.Test.YtjndecalogklhaaG16
import Derived.Test.YtjndecalogklhaaG9
namespace Go.Proofs.Ytjndecalogklhaa
open Go.RowKit
set_option linter.unusedVariables false

noncomputable def F_raddlelaw24_SettTurns (p0 : api_Grid) (p1 : Int) : Option Bool :=
  Option.bind (F_raddleref01_Great p0) fun r9 =>
  if r9 then
    some true
  else
    Option.bind (F_raddleref01_Twin p0) fun r14 =>
    Option.bind (F_sett_Turns r14) fun r23 =>
    Option.bind (F_raddleref24_Turns p0) fun r32 =>
    Option.bind (F_sett_Setts r14 p1) fun r41 =>
    Option.bind (F_raddleref24_Setts p0 p1) fun r48 =>
    Option.bind (α := Bool) (
      Option.bind (F_raddleref24_Same r23.1 r32.1) fun r57 =>
      if r57 then
        Option.bind (F_raddleref24_Same r23.2.1 r32.2.1) fun r60 =>
        if r60 then
          if r23.2.2 == r32.2.2 then
            if ((r41.1.Num == r48.1.Num) && ((r41.1.Den == r48.1.Den) && true)) then
              if ((r41.2.1.Num == r48.2.1.Num) && ((r41.2.1.Den == r48.2.1.Den) && true)) then
                if r41.2.2 == r48.2.2 then
                  Option.bind (F_raddleref01_Same r14 p0) fun r67 =>
                  some r67
                else
                  some false
              else
                some false
            else
              some false
          else
            some false
        else
          some false
      else
        some false) fun o54 =>
    some o54
set_option maxHeartbeats 4000000 in
set_option maxRecDepth 100000 in
theorem c_raddlelaw24_SettTurns (E : Nat → Prop) (w0 : World) (p0 : api_Grid) (v0 : Value) (p1 : Int) (r : Bool) (h : F_raddlelaw24_SettTurns p0 p1 = some r) (S : St0 E [] w0 w0 [] [fRep r_api_Grid (v0) p0]) :
    Calls Try.prog 3 #[v0, .int .i64 p1] w0 (Ret (X := Unit) E [] w0 (fun _ => .bool r) (fun _ => []) (fun _ => [])) := by
  unfold F_raddlelaw24_SettTurns at h
  obtain ⟨u1, rfl, hu2⟩ := S.know (i := 0) (e := fRep r_api_Grid (v0) p0) (by kernel_rfl)
  have S := S.learn (fRep (rL rB) u1 p0.Bits) hu2
  obtain ⟨ad3, cp4, _, rfl, _⟩ := hu2
  refine sEnter (args := [.agg #[.int .i64 p0.W, .int .i64 p0.H, .slice ad3 p0.Bits.length cp4], .int .i64 p1]) 81 Try.func3 rfl rfl (by simp) S (fun a S => ?_)
  refine sSeq (fun K5 hK5 => ?_)
  refine sRegion ?_
  refine sBox (v := .agg #[.int .i64 p0.W, .int .i64 p0.H, .slice ad3 p0.Bits.length cp4]) S (wN rfl) rfl (by kernel_rfl) [.int .i64 p0.W, .int .i64 p0.H, .slice ad3 p0.Bits.length cp4] rfl rfl (by decide) (fun a b6 w S => ?_)
  refine sMove (.bool false) S (wN rfl) (.inr rfl) (by kernel_rfl) rfl (by decide) (fun a S => ?_)
  refine leafL (leafT (hK5 _ _ ?_))
  refine sSeq (fun K7 hK7 => ?_)
  refine sSeq (fun K8 hK8 => ?_)
  refine sRegion ?_
  refine sLoadN (p := b6) (off := 0) (T := 24) (vs := [.int .i64 p0.W, .int .i64 p0.H, .slice ad3 p0.Bits.length cp4]) 0 [.int .i64 p0.W, .int .i64 p0.H, .slice ad3 p0.Bits.length cp4] S (wN rfl) rfl (by kernel_rfl) (by kernel_rfl) (by kernel_rfl) (by kernel_rfl) rfl rfl (by decide) (fun a S => ?_)
  obtain ⟨r9, hx10, h⟩ := bindSome h
  have S1 := S.mem
  refine sCallQ (X := Unit) (f := 9) (vs := [.agg #[.int .i64 p0.W, .int .i64 p0.H, .slice ad3 p0.Bits.length cp4]]) (val := fun _ => .bool r9) S (wN rfl) rfl callee9 (by kernel_rfl) (S1.quiet [1] (by kernel_rfl)) (fun E1 w1 S1 => c_raddleref01_Great E1 w1 p0 (.agg #[.int .i64 p0.W, .int .i64 p0.H, .slice ad3 p0.Bits.length cp4]) r9 hx10 S1) rfl (by decide) (fun _ a w S => ?_)
  refine leafL (leafT (hK8 _ _ ?_))
  rcases iteSome h with ⟨hc11, h⟩ | ⟨hc11, h⟩
  · refine sCondT (b := r9) S (by kernel_rfl) hc11 ?_
    refine sSeq (fun K12 hK12 => ?_)
    refine sRegion ?_
    refine sMove (.bool true) S (wN rfl) (.inr rfl) (by kernel_rfl) rfl (by decide) (fun a S => ?_)
    refine leafL (leafT (hK12 _ _ ?_))
    obtain rfl := Option.some.inj h
    exact wp_ret (rThen (sRet (.bool true) S (rsl1 rfl (rvT (t := 4) (v := .bool true) S (by kernel_rfl))) ⟨(), rfl, S.mem.sel [] [] (by decide) (by kernel_rfl) (by kernel_rfl)⟩))
  · refine sCondF (b := r9) S (by kernel_rfl) hc11 ?_
    refine wp_skip (leafT (hK7 _ _ ?_))
    refine sSeq (fun K13 hK13 => ?_)
    refine sRegion ?_
    refine sLoadN (p := b6) (off := 0) (T := 24) (vs := [.int .i64 p0.W, .int .i64 p0.H, .slice ad3 p0.Bits.length cp4]) 0 [.int .i64 p0.W, .int .i64 p0.H, .slice ad3 p0.Bits.length cp4] S (wN rfl) rfl (by kernel_rfl) (by kernel_rfl) (by kernel_rfl) (by kernel_rfl) rfl rfl (by decide) (fun a S => ?_)
    obtain ⟨r14, hx15, h⟩ := bindSome h
    refine sCall (X := Value) (f := 10) (vs := [.agg #[.int .i64 p0.W, .int .i64 p0.H, .slice ad3 p0.Bits.length cp4]]) (val := c_raddleref01_Twin_val r14) (B' := fun _ => []) (D' := c_raddleref01_Twin_D r14) [] [eBox b6 24 [.int .i64 p0.W, .int .i64 p0.H, .slice ad3 p0.Bits.length cp4]] [fRep r_api_Grid (.agg #[.int .i64 p0.W, .int .i64 p0.H, .slice ad3 p0.Bits.length cp4]) p0] [0] [1] S (wN rfl) rfl callee10 (by kernel_rfl) (by decide) (by kernel_rfl) (by kernel_rfl) (fun E1 w1 S1 => c_raddleref01_Twin E1 w1 p0 (.agg #[.int .i64 p0.W, .int .i64 p0.H, .slice ad3 p0.Bits.length cp4]) r14 hx15 S1) rfl (by decide) (fun u16 a w S => ?_)
    obtain ⟨u17, rfl, hu18⟩ := S.mem.know (i := 0) (e := fRep r_api_Grid (u16) r14) (by kernel_rfl)
    have S := S.learn (fRep (rL rB) u17 r14.Bits) hu18
    obtain ⟨ad19, cp20, _, rfl, _⟩ := hu18
    refine sAlloc (.agg #[.int .i64 0, .int .i64 0, .slice none 0 0]) S (wN rfl) rfl (by kernel_rfl) [.int .i64 0, .int .i64 0, .slice none 0 0] rfl rfl (by decide) (fun a b21 w S => ?_)
    refine sStore (p := b21) (off := 0) (T := 24) (vs := [.int .i64 0, .int .i64 0, .slice none 0 0]) (v := .agg #[.int .i64 r14.W, .int .i64 r14.H, .slice ad19 r14.Bits.length cp20]) 0 [.int .i64 r14.W, .int .i64 r14.H, .slice ad19 r14.Bits.length cp20] S (wN rfl) rfl (by kernel_rfl) (by kernel_rfl) rfl (by kernel_rfl) (by kernel_rfl) rfl (by simp) rfl (fun a w S => ?_)
    refine leafL (leafT (hK13 _ _ ?_))
    refine sSeq (fun K22 hK22 => ?_)
    refine sRegion ?_
    refine sLoadN (p := b21) (off := 0) (T := 24) (vs := [.int .i64 r14.W, .int .i64 r14.H, .slice ad19 r14.Bits.length cp20]) 0 [.int .i64 r14.W, .int .i64 r14.H, .slice ad19 r14.Bits.length cp20] S (wN rfl) rfl (by kernel_rfl) (by kernel_rfl) (by kernel_rfl) (by kernel_rfl) rfl rfl (by decide) (fun a S => ?_)
    obtain ⟨r23, hx24, h⟩ := bindSome h
    refine sCall (X := Value × Value) (f := 11) (vs := [.agg #[.int .i64 r14.W, .int .i64 r14.H, .slice ad19 r14.Bits.length cp20]]) (val := c_sett_Turns_val r23) (B' := fun _ => []) (D' := c_sett_Turns_D r23) [] [eBox b21 24 [.int .i64 r14.W, .int .i64 r14.H, .slice ad19 r14.Bits.length cp20], eBox b6 24 [.int .i64 p0.W, .int .i64 p0.H, .slice ad3 p0.Bits.length cp4]] [fRep r_api_Grid (.agg #[.int .i64 r14.W, .int .i64 r14.H, .slice ad19 r14.Bits.length cp20]) r14] [0, 1] [1] S (wN rfl) rfl callee11 (by kernel_rfl) (by decide) (by kernel_rfl) (by kernel_rfl) (fun E1 w1 S1 => c_sett_Turns E1 w1 r14 (.agg #[.int .i64 r14.W, .int .i64 r14.H, .slice ad19 r14.Bits.length cp20]) r23 hx24 S1) rfl (by decide) (fun xx a w S => ?_)
    obtain ⟨u25, u26⟩ := xx
    obtain ⟨ad27, cp28, _, rfl, _⟩ := S.mem.know (i := 0) (e := fRep (rL (rI .i64)) (u25) r23.1) (by kernel_rfl)
    obtain ⟨ad29, cp30, _, rfl, _⟩ := S.mem.know (i := 1) (e := fRep (rL (rI .i64)) (u26) r23.2.1) (by kernel_rfl)
    refine sMove (.tuple #[.slice ad27 r23.1.length cp28, .slice ad29 r23.2.1.length cp30, .int .i64 r23.2.2]) S (wN rfl) (.inl rfl) (by kernel_rfl) rfl (by decide) (fun a S => ?_)
    refine sExtract (vs := [.slice ad27 r23.1.length cp28, .slice ad29 r23.2.1.length cp30, .int .i64 r23.2.2]) (.slice ad27 r23.1.length cp28) S (wN rfl) rfl (by kernel_rfl) rfl rfl (by decide) (fun a S => ?_)
    refine sExtract (vs := [.slice ad27 r23.1.length cp28, .slice ad29 r23.2.1.length cp30, .int .i64 r23.2.2]) (.slice ad29 r23.2.1.length cp30) S (wN rfl) rfl (by kernel_rfl) rfl rfl (by decide) (fun a S => ?_)
    refine sExtract (vs := [.slice ad27 r23.1.length cp28, .slice ad29 r23.2.1.length cp30, .int .i64 r23.2.2]) (.int .i64 r23.2.2) S (wN rfl) rfl (by kernel_rfl) rfl rfl (by decide) (fun a S => ?_)
    refine sMove (.slice ad27 r23.1.length cp28) S (wN rfl) (.inr rfl) (by kernel_rfl) rfl (by decide) (fun a S => ?_)
    refine sMove (.slice ad29 r23.2.1.length cp30) S (wN rfl) (.inr rfl) (by kernel_rfl) rfl (by decide) (fun a S => ?_)
    refine sMove (.int .i64 r23.2.2) S (wN rfl) (.inr rfl) (by kernel_rfl) rfl (by decide) (fun a S => ?_)
    refine leafL (leafT (hK22 _ _ ?_))
    refine sSeq (fun K31 hK31 => ?_)
    refine sRegion ?_
    refine sLoadN (p := b6) (off := 0) (T := 24) (vs := [.int .i64 p0.W, .int .i64 p0.H, .slice ad3 p0.Bits.length cp4]) 1 [.int .i64 p0.W, .int .i64 p0.H, .slice ad3 p0.Bits.length cp4] S (wN rfl) rfl (by kernel_rfl) (by kernel_rfl) (by kernel_rfl) (by kernel_rfl) rfl rfl (by decide) (fun a S => ?_)
    obtain ⟨r32, hx33, h⟩ := bindSome h
    refine sCall (X := Value × Value) (f := 12) (vs := [.agg #[.int .i64 p0.W, .int .i64 p0.H, .slice ad3 p0.Bits.length cp4]]) (val := c_raddleref24_Turns_val r32) (B' := fun _ => []) (D' := c_raddleref24_Turns_D r32) [] [eBox b21 24 [.int .i64 r14.W, .int .i64 r14.H, .slice ad19 r14.Bits.length cp20], eBox b6 24 [.int .i64 p0.W, .int .i64 p0.H, .slice ad3 p0.Bits.length cp4]] [fRep r_api_Grid (.agg #[.int .i64 p0.W, .int .i64 p0.H, .slice ad3 p0.Bits.length cp4]) p0] [0, 1] [5] S (wN rfl) rfl callee12 (by kernel_rfl) (by decide) (by kernel_rfl) (by kernel_rfl) (fun E1 w1 S1 => c_raddleref24_Turns E1 w1 p0 (.agg #[.int .i64 p0.W, .int .i64 p0.H, .slice ad3 p0.Bits.length cp4]) r32 hx33 S1) rfl (by decide) (fun xx a w S => ?_)
    obtain ⟨u34, u35⟩ := xx
    obtain ⟨ad36, cp37, _, rfl, _⟩ := S.mem.know (i := 0) (e := fRep (rL (rI .i64)) (u34) r32.1) (by kernel_rfl)
    obtain ⟨ad38, cp39, _, rfl, _⟩ := S.mem.know (i := 1) (e := fRep (rL (rI .i64)) (u35) r32.2.1) (by kernel_rfl)
    refine sMove (.tuple #[.slice ad36 r32.1.length cp37, .slice ad38 r32.2.1.length cp39, .int .i64 r32.2.2]) S (wN rfl) (.inl rfl) (by kernel_rfl) rfl (by decide) (fun a S => ?_)
    refine sExtract (vs := [.slice ad36 r32.1.length cp37, .slice ad38 r32.2.1.length cp39, .int .i64 r32.2.2]) (.slice ad36 r32.1.length cp37) S (wN rfl) rfl (by kernel_rfl) rfl rfl (by decide) (fun a S => ?_)
    refine sExtract (vs := [.slice ad36 r32.1.length cp37, .slice ad38 r32.2.1.length cp39, .int .i64 r32.2.2]) (.slice ad38 r32.2.1.length cp39) S (wN rfl) rfl (by kernel_rfl) rfl rfl (by decide) (fun a S => ?_)
    refine sExtract (vs := [.slice ad36 r32.1.length cp37, .slice ad38 r32.2.1.length cp39, .int .i64 r32.2.2]) (.int .i64 r32.2.2) S (wN rfl) rfl (by kernel_rfl) rfl rfl (by decide) (fun a S => ?_)
    refine sMove (.slice ad36 r32.1.length cp37) S (wN rfl) (.inr rfl) (by kernel_rfl) rfl (by decide) (fun a S => ?_)
    refine sMove (.slice ad38 r32.2.1.length cp39) S (wN rfl) (.inr rfl) (by kernel_rfl) rfl (by decide) (fun a S => ?_)
    refine sMove (.int .i64 r32.2.2) S (wN rfl) (.inr rfl) (by kernel_rfl) rfl (by decide) (fun a S => ?_)
    refine leafL (leafT (hK31 _ _ ?_))
    refine sSeq (fun K40 hK40 => ?_)
    refine sRegion ?_
    refine sLoadN (p := b21) (off := 0) (T := 24) (vs := [.int .i64 r14.W, .int .i64 r14.H, .slice ad19 r14.Bits.length cp20]) 0 [.int .i64 r14.W, .int .i64 r14.H, .slice ad19 r14.Bits.length cp20] S (wN rfl) rfl (by kernel_rfl) (by kernel_rfl) (by kernel_rfl) (by kernel_rfl) rfl rfl (by decide) (fun a S => ?_)
    refine sMove (.int .i64 p1) S (wN rfl) (.inl rfl) (by kernel_rfl) rfl (by decide) (fun a S => ?_)
    obtain ⟨r41, hx42, h⟩ := bindSome h
    refine sCall (X := Value × Value) (f := 13) (vs := [.agg #[.int .i64 r14.W, .int .i64 r14.H, .slice ad19 r14.Bits.length cp20], .int .i64 p1]) (val := c_sett_Setts_val r41) (B' := fun _ => []) (D' := c_sett_Setts_D r41) [] [eBox b21 24 [.int .i64 r14.W, .int .i64 r14.H, .slice ad19 r14.Bits.length cp20], eBox b6 24 [.int .i64 p0.W, .int .i64 p0.H, .slice ad3 p0.Bits.length cp4]] [fRep r_api_Grid (.agg #[.int .i64 r14.W, .int .i64 r14.H, .slice ad19 r14.Bits.length cp20]) r14] [0, 1] [5] S (wN rfl) rfl callee13 (by kernel_rfl) (by decide) (by kernel_rfl) (by kernel_rfl) (fun E1 w1 S1 => c_sett_Setts E1 w1 r14 (.agg #[.int .i64 r14.W, .int .i64 r14.H, .slice ad19 r14.Bits.length cp20]) p1 r41 hx42 S1) rfl (by decide) (fun xx a w S => ?_)
    obtain ⟨u43, u44⟩ := xx
    obtain rfl : u43 = .agg #[.int .i64 r41.1.Num, .int .i64 r41.1.Den] := S.mem.know (i := 0) (e := fRep r_api_Ratio (u43) r41.1) (by kernel_rfl)
    obtain rfl : u44 = .agg #[.int .i64 r41.2.1.Num, .int .i64 r41.2.1.Den] := S.mem.know (i := 1) (e := fRep r_api_Ratio (u44) r41.2.1) (by kernel_rfl)
    refine sMove (.tuple #[.agg #[.int .i64 r41.1.Num, .int .i64 r41.1.Den], .agg #[.int .i64 r41.2.1.Num, .int .i64 r41.2.1.Den], .int .i64 r41.2.2]) S (wN rfl) (.inl rfl) (by kernel_rfl) rfl (by decide) (fun a S => ?_)
    refine sExtract (vs := [.agg #[.int .i64 r41.1.Num, .int .i64 r41.1.Den], .agg #[.int .i64 r41.2.1.Num, .int .i64 r41.2.1.Den], .int .i64 r41.2.2]) (.agg #[.int .i64 r41.1.Num, .int .i64 r41.1.Den]) S (wN rfl) rfl (by kernel_rfl) rfl rfl (by decide) (fun a S => ?_)
    refine sExtract (vs := [.agg #[.int .i64 r41.1.Num, .int .i64 r41.1.Den], .agg #[.int .i64 r41.2.1.Num, .int .i64 r41.2.1.Den], .int .i64 r41.2.2]) (.agg #[.int .i64 r41.2.1.Num, .int .i64 r41.2.1.Den]) S (wN rfl) rfl (by kernel_rfl) rfl rfl (by decide) (fun a S => ?_)
    refine sExtract (vs := [.agg #[.int .i64 r41.1.Num, .int .i64 r41.1.Den], .agg #[.int .i64 r41.2.1.Num, .int .i64 r41.2.1.Den], .int .i64 r41.2.2]) (.int .i64 r41.2.2) S (wN rfl) rfl (by kernel_rfl) rfl rfl (by decide) (fun a S => ?_)
    refine sAlloc (.agg #[.int .i64 0, .int .i64 0]) S (wN rfl) rfl (by kernel_rfl) [.int .i64 0, .int .i64 0] rfl rfl (by decide) (fun a b45 w S => ?_)
    refine sAlloc (.agg #[.int .i64 0, .int .i64 0]) S (wN rfl) rfl (by kernel_rfl) [.int .i64 0, .int .i64 0] rfl rfl (by decide) (fun a b46 w S => ?_)
    refine sStore (p := b45) (off := 0) (T := 34) (vs := [.int .i64 0, .int .i64 0]) (v := .agg #[.int .i64 r41.1.Num, .int .i64 r41.1.Den]) 1 [.int .i64 r41.1.Num, .int .i64 r41.1.Den] S (wN rfl) rfl (by kernel_rfl) (by kernel_rfl) rfl (by kernel_rfl) (by kernel_rfl) rfl (by simp) rfl (fun a w S => ?_)
    refine sStore (p := b46) (off := 0) (T := 34) (vs := [.int .i64 0, .int .i64 0]) (v := .agg #[.int .i64 r41.2.1.Num, .int .i64 r41.2.1.Den]) 1 [.int .i64 r41.2.1.Num, .int .i64 r41.2.1.Den] S (wN rfl) rfl (by kernel_rfl) (by kernel_rfl) rfl (by kernel_rfl) (by kernel_rfl) rfl (by simp) rfl (fun a w S => ?_)
    refine sMove (.int .i64 r41.2.2) S (wN rfl) (.inr rfl) (by kernel_rfl) rfl (by decide) (fun a S => ?_)
    refine leafL (leafT (hK40 _ _ ?_))
    refine sSeq (fun K47 hK47 => ?_)
    refine sRegion ?_
    refine sLoadN (p := b6) (off := 0) (T := 24) (vs := [.int .i64 p0.W, .int .i64 p0.H, .slice ad3 p0.Bits.length cp4]) 3 [.int .i64 p0.W, .int .i64 p0.H, .slice ad3 p0.Bits.length cp4] S (wN rfl) rfl (by kernel_rfl) (by kernel_rfl) (by kernel_rfl) (by kernel_rfl) rfl rfl (by decide) (fun a S => ?_)
    refine sMove (.int .i64 p1) S (wN rfl) (.inl rfl) (by kernel_rfl) rfl (by decide) (fun a S => ?_)
    obtain ⟨r48, hx49, h⟩ := bindSome h
    refine sCall (X := Value × Value) (f := 14) (vs := [.agg #[.int .i64 p0.W, .int .i64 p0.H, .slice ad3 p0.Bits.length cp4], .int .i64 p1]) (val := c_raddleref24_Setts_val r48) (B' := fun _ => []) (D' := c_raddleref24_Setts_D r48) [] [eBox b46 34 [.int .i64 r41.2.1.Num, .int .i64 r41.2.1.Den], eBox b45 34 [.int .i64 r41.1.Num, .int .i64 r41.1.Den], eBox b21 24 [.int .i64 r14.W, .int .i64 r14.H, .slice ad19 r14.Bits.length cp20], eBox b6 24 [.int .i64 p0.W, .int .i64 p0.H, .slice ad3 p0.Bits.length cp4]] [fRep r_api_Grid (.agg #[.int .i64 p0.W, .int .i64 p0.H, .slice ad3 p0.Bits.length cp4]) p0] [0, 1, 2, 3] [9] S (wN rfl) rfl callee14 (by kernel_rfl) (by decide) (by kernel_rfl) (by kernel_rfl) (fun E1 w1 S1 => c_raddleref24_Setts E1 w1 p0 (.agg #[.int .i64 p0.W, .int .i64 p0.H, .slice ad3 p0.Bits.length cp4]) p1 r48 hx49 S1) rfl (by decide) (fun xx a w S => ?_)
    obtain ⟨u50, u51⟩ := xx
    obtain rfl : u50 = .agg #[.int .i64 r48.1.Num, .int .i64 r48.1.Den] := S.mem.know (i := 0) (e := fRep r_api_Ratio (u50) r48.1) (by kernel_rfl)
    obtain rfl : u51 = .agg #[.int .i64 r48.2.1.Num, .int .i64 r48.2.1.Den] := S.mem.know (i := 1) (e := fRep r_api_Ratio (u51) r48.2.1) (by kernel_rfl)
    refine sMove (.tuple #[.agg #[.int .i64 r48.1.Num, .int .i64 r48.1.Den], .agg #[.int .i64 r48.2.1.Num, .int .i64 r48.2.1.Den], .int .i64 r48.2.2]) S (wN rfl) (.inl rfl) (by kernel_rfl) rfl (by decide) (fun a S => ?_)
    refine sExtract (vs := [.agg #[.int .i64 r48.1.Num, .int .i64 r48.1.Den], .agg #[.int .i64 r48.2.1.Num, .int .i64 r48.2.1.Den], .int .i64 r48.2.2]) (.agg #[.int .i64 r48.1.Num, .int .i64 r48.1.Den]) S (wN rfl) rfl (by kernel_rfl) rfl rfl (by decide) (fun a S => ?_)
    refine sExtract (vs := [.agg #[.int .i64 r48.1.Num, .int .i64 r48.1.Den], .agg #[.int .i64 r48.2.1.Num, .int .i64 r48.2.1.Den], .int .i64 r48.2.2]) (.agg #[.int .i64 r48.2.1.Num, .int .i64 r48.2.1.Den]) S (wN rfl) rfl (by kernel_rfl) rfl rfl (by decide) (fun a S => ?_)
    refine sExtract (vs := [.agg #[.int .i64 r48.1.Num, .int .i64 r48.1.Den], .agg #[.int .i64 r48.2.1.Num, .int .i64 r48.2.1.Den], .int .i64 r48.2.2]) (.int .i64 r48.2.2) S (wN rfl) rfl (by kernel_rfl) rfl rfl (by decide) (fun a S => ?_)
    refine sAlloc (.agg #[.int .i64 0, .int .i64 0]) S (wN rfl) rfl (by kernel_rfl) [.int .i64 0, .int .i64 0] rfl rfl (by decide) (fun a b52 w S => ?_)
    refine sAlloc (.agg #[.int .i64 0, .int .i64 0]) S (wN rfl) rfl (by kernel_rfl) [.int .i64 0, .int .i64 0] rfl rfl (by decide) (fun a b53 w S => ?_)
    refine sStore (p := b52) (off := 0) (T := 34) (vs := [.int .i64 0, .int .i64 0]) (v := .agg #[.int .i64 r48.1.Num, .int .i64 r48.1.Den]) 1 [.int .i64 r48.1.Num, .int .i64 r48.1.Den] S (wN rfl) rfl (by kernel_rfl) (by kernel_rfl) rfl (by kernel_rfl) (by kernel_rfl) rfl (by simp) rfl (fun a w S => ?_)
    refine sStore (p := b53) (off := 0) (T := 34) (vs := [.int .i64 0, .int .i64 0]) (v := .agg #[.int .i64 r48.2.1.Num, .int .i64 r48.2.1.Den]) 1 [.int .i64 r48.2.1.Num, .int .i64 r48.2.1.Den] S (wN rfl) rfl (by kernel_rfl) (by kernel_rfl) rfl (by kernel_rfl) (by kernel_rfl) rfl (by simp) rfl (fun a w S => ?_)
    refine sMove (.int .i64 r48.2.2) S (wN rfl) (.inr rfl) (by kernel_rfl) rfl (by decide) (fun a S => ?_)
    refine leafL (leafT (hK47 _ _ ?_))
    obtain ⟨t55, h, g56⟩ := bindSome h
    refine sCut (fun a w => ∃ o54, o54 = t55 ∧ St E [] w0 81 a w [(4, .bool o54)] [] []) ?_ (fun a w hI => ?_)
    · refine sRegion ?_
      refine sMove (.slice ad27 r23.1.length cp28) S (wN rfl) (.inl rfl) (by kernel_rfl) rfl (by decide) (fun a S => ?_)
      refine sMove (.slice ad36 r32.1.length cp37) S (wN rfl) (.inl rfl) (by kernel_rfl) rfl (by decide) (fun a S => ?_)
      obtain ⟨r57, hx58, h⟩ := bindSome h
      have S1 := S.mem
      refine sCallQ (X := Unit) (f := 15) (vs := [.slice ad27 r23.1.length cp28, .slice ad36 r32.1.length cp37]) (val := fun _ => .bool r57) S (wN rfl) rfl callee15 (by kernel_rfl) (S1.quiet [6, 4] (by kernel_rfl)) (fun E1 w1 S1 => c_raddleref24_Same E1 w1 r23.1 (.slice ad27 r23.1.length cp28) r32.1 (.slice ad36 r32.1.length cp37) r57 hx58 S1) rfl (by decide) (fun _ a w S => ?_)
      refine sMove (.bool r57) S (wN rfl) (.inl rfl) (by kernel_rfl) rfl (by decide) (fun a S => ?_)
      rcases iteSome h with ⟨hc59, h⟩ | ⟨hc59, h⟩
      · refine sMove (.slice ad29 r23.2.1.length cp30) S (wG (c := r57) 3 true 51 rfl rfl (by kernel_rfl) hc59) (.inl rfl) (by kernel_rfl) rfl (by decide) (fun a S => ?_)
        refine sMove (.slice ad38 r32.2.1.length cp39) S (wG (c := r57) 3 true 51 rfl rfl (by kernel_rfl) hc59) (.inl rfl) (by kernel_rfl) rfl (by decide) (fun a S => ?_)
        obtain ⟨r60, hx61, h⟩ := bindSome h
        have S1 := S.mem
        refine sCallQ (X := Unit) (f := 15) (vs := [.slice ad29 r23.2.1.length cp30, .slice ad38 r32.2.1.length cp39]) (val := fun _ => .bool r60) S (wG (c := r57) 3 true 51 rfl rfl (by kernel_rfl) hc59) rfl callee15 (by kernel_rfl) (S1.quiet [7, 5] (by kernel_rfl)) (fun E1 w1 S1 => c_raddleref24_Same E1 w1 r23.2.1 (.slice ad29 r23.2.1.length cp30) r32.2.1 (.slice ad38 r32.2.1.length cp39) r60 hx61 S1) rfl (by decide) (fun _ a w S => ?_)
        refine sPickT (b := r57) (.bool r60) S (wN rfl) rfl (by kernel_rfl) hc59 (by kernel_rfl) rfl (by decide) (fun a S => ?_)
        refine sMove (.bool r60) S (wN rfl) (.inl rfl) (by kernel_rfl) rfl (by decide) (fun a S => ?_)
        rcases iteSome h with ⟨hc62, h⟩ | ⟨hc62, h⟩
        · refine sMove (.int .i64 r23.2.2) S (wG (c := r60) 8 true 56 rfl rfl (by kernel_rfl) hc62) (.inl rfl) (by kernel_rfl) rfl (by decide) (fun a S => ?_)
          refine sMove (.int .i64 r32.2.2) S (wG (c := r60) 8 true 56 rfl rfl (by kernel_rfl) hc62) (.inl rfl) (by kernel_rfl) rfl (by decide) (fun a S => ?_)
          refine sBin (.bool (r23.2.2 == r32.2.2)) S (wG (c := r60) 8 true 56 rfl rfl (by kernel_rfl) hc62) rfl (by kernel_rfl) (by kernel_rfl) (bEq _ _ _ _ .i64 r23.2.2 r32.2.2) rfl (by decide) (fun a S => ?_)
          refine sPickT (b := r60) (.bool (r23.2.2 == r32.2.2)) S (wN rfl) rfl (by kernel_rfl) hc62 (by kernel_rfl) rfl (by decide) (fun a S => ?_)
          refine sMove (.bool (r23.2.2 == r32.2.2)) S (wN rfl) (.inl rfl) (by kernel_rfl) rfl (by decide) (fun a S => ?_)
          rcases iteSome h with ⟨hc63, h⟩ | ⟨hc63, h⟩
          · refine sLoadN (p := b45) (off := 0) (T := 34) (vs := [.int .i64 r41.1.Num, .int .i64 r41.1.Den]) 3 [.int .i64 r41.1.Num, .int .i64 r41.1.Den] S (wG (c := r23.2.2 == r32.2.2) 13 true 61 rfl rfl (by kernel_rfl) hc63) rfl (by kernel_rfl) (by kernel_rfl) (by kernel_rfl) (by kernel_rfl) rfl rfl (by decide) (fun a S => ?_)
            refine sLoadN (p := b52) (off := 0) (T := 34) (vs := [.int .i64 r48.1.Num, .int .i64 r48.1.Den]) 1 [.int .i64 r48.1.Num, .int .i64 r48.1.Den] S (wG (c := r23.2.2 == r32.2.2) 13 true 61 rfl rfl (by kernel_rfl) hc63) rfl (by kernel_rfl) (by kernel_rfl) (by kernel_rfl) (by kernel_rfl) rfl rfl (by decide) (fun a S => ?_)
            refine sBin (.bool ((r41.1.Num == r48.1.Num) && ((r41.1.Den == r48.1.Den) && true))) S (wG (c := r23.2.2 == r32.2.2) 13 true 61 rfl rfl (by kernel_rfl) hc63) rfl (by kernel_rfl) (by kernel_rfl) (bEqV _ _ _ _ #[.int .i64 r41.1.Num, .int .i64 r41.1.Den] #[.int .i64 r48.1.Num, .int .i64 r48.1.Den] ((r41.1.Num == r48.1.Num) && ((r41.1.Den == r48.1.Den) && true)) (by kernel_rfl) (eqlV_of (by kernel_rfl))) rfl (by decide) (fun a S => ?_)
            refine sPickT (b := r23.2.2 == r32.2.2) (.bool ((r41.1.Num == r48.1.Num) && ((r41.1.Den == r48.1.Den) && true))) S (wN rfl) rfl (by kernel_rfl) hc63 (by kernel_rfl) rfl (by decide) (fun a S => ?_)
            refine sMove (.bool ((r41.1.Num == r48.1.Num) && ((r41.1.Den == r48.1.Den) && true))) S (wN rfl) (.inl rfl) (by kernel_rfl) rfl (by decide) (fun a S => ?_)
            rcases iteSome h with ⟨hc64, h⟩ | ⟨hc64, h⟩
            · refine sLoadN (p := b46) (off := 0) (T := 34) (vs := [.int .i64 r41.2.1.Num, .int .i64 r41.2.1.Den]) 2 [.int .i64 r41.2.1.Num, .int .i64 r41.2.1.Den] S (wG (c := ((r41.1.Num == r48.1.Num) && ((r41.1.Den == r48.1.Den) && true))) 18 true 66 rfl rfl (by kernel_rfl) hc64) rfl (by kernel_rfl) (by kernel_rfl) (by kernel_rfl) (by kernel_rfl) rfl rfl (by decide) (fun a S => ?_)
              refine sLoadN (p := b53) (off := 0) (T := 34) (vs := [.int .i64 r48.2.1.Num, .int .i64 r48.2.1.Den]) 0 [.int .i64 r48.2.1.Num, .int .i64 r48.2.1.Den] S (wG (c := ((r41.1.Num == r48.1.Num) && ((r41.1.Den == r48.1.Den) && true))) 18 true 66 rfl rfl (by kernel_rfl) hc64) rfl (by kernel_rfl) (by kernel_rfl) (by kernel_rfl) (by kernel_rfl) rfl rfl (by decide) (fun a S => ?_)
              refine sBin (.bool ((r41.2.1.Num == r48.2.1.Num) && ((r41.2.1.Den == r48.2.1.Den) && true))) S (wG (c := ((r41.1.Num == r48.1.Num) && ((r41.1.Den == r48.1.Den) && true))) 18 true 66 rfl rfl (by kernel_rfl) hc64) rfl (by kernel_rfl) (by kernel_rfl) (bEqV _ _ _ _ #[.int .i64 r41.2.1.Num, .int .i64 r41.2.1.Den] #[.int .i64 r48.2.1.Num, .int .i64 r48.2.1.Den] ((r41.2.1.Num == r48.2.1.Num) && ((r41.2.1.Den == r48.2.1.Den) && true)) (by kernel_rfl) (eqlV_of (by kernel_rfl))) rfl (by decide) (fun a S => ?_)
              refine sPickT (b := ((r41.1.Num == r48.1.Num) && ((r41.1.Den == r48.1.Den) && true))) (.bool ((r41.2.1.Num == r48.2.1.Num) && ((r41.2.1.Den == r48.2.1.Den) && true))) S (wN rfl) rfl (by kernel_rfl) hc64 (by kernel_rfl) rfl (by decide) (fun a S => ?_)
              refine sMove (.bool ((r41.2.1.Num == r48.2.1.Num) && ((r41.2.1.Den == r48.2.1.Den) && true))) S (wN rfl) (.inl rfl) (by kernel_rfl) rfl (by decide) (fun a S => ?_)
              rcases iteSome h with ⟨hc65, h⟩ | ⟨hc65, h⟩
              · refine sMove (.int .i64 r41.2.2) S (wG (c := ((r41.2.1.Num == r48.2.1.Num) && ((r41.2.1.Den == r48.2.1.Den) && true))) 23 true 71 rfl rfl (by kernel_rfl) hc65) (.inl rfl) (by kernel_rfl) rfl (by decide) (fun a S => ?_)
                refine sMove (.int .i64 r48.2.2) S (wG (c := ((r41.2.1.Num == r48.2.1.Num) && ((r41.2.1.Den == r48.2.1.Den) && true))) 23 true 71 rfl rfl (by kernel_rfl) hc65) (.inl rfl) (by kernel_rfl) rfl (by decide) (fun a S => ?_)
                refine sBin (.bool (r41.2.2 == r48.2.2)) S (wG (c := ((r41.2.1.Num == r48.2.1.Num) && ((r41.2.1.Den == r48.2.1.Den) && true))) 23 true 71 rfl rfl (by kernel_rfl) hc65) rfl (by kernel_rfl) (by kernel_rfl) (bEq _ _ _ _ .i64 r41.2.2 r48.2.2) rfl (by decide) (fun a S => ?_)
                refine sPickT (b := ((r41.2.1.Num == r48.2.1.Num) && ((r41.2.1.Den == r48.2.1.Den) && true))) (.bool (r41.2.2 == r48.2.2)) S (wN rfl) rfl (by kernel_rfl) hc65 (by kernel_rfl) rfl (by decide) (fun a S => ?_)
                refine sMove (.bool (r41.2.2 == r48.2.2)) S (wN rfl) (.inl rfl) (by kernel_rfl) rfl (by decide) (fun a S => ?_)
                rcases iteSome h with ⟨hc66, h⟩ | ⟨hc66, h⟩
                · refine sLoadN (p := b21) (off := 0) (T := 24) (vs := [.int .i64 r14.W, .int .i64 r14.H, .slice ad19 r14.Bits.length cp20]) 4 [.int .i64 r14.W, .int .i64 r14.H, .slice ad19 r14.Bits.length cp20] S (wG (c := r41.2.2 == r48.2.2) 28 true 76 rfl rfl (by kernel_rfl) hc66) rfl (by kernel_rfl) (by kernel_rfl) (by kernel_rfl) (by kernel_rfl) rfl rfl (by decide) (fun a S => ?_)
                  refine sLoadN (p := b6) (off := 0) (T := 24) (vs := [.int .i64 p0.W, .int .i64 p0.H, .slice ad3 p0.Bits.length cp4]) 5 [.int .i64 p0.W, .int .i64 p0.H, .slice ad3 p0.Bits.length cp4] S (wG (c := r41.2.2 == r48.2.2) 28 true 76 rfl rfl (by kernel_rfl) hc66) rfl (by kernel_rfl) (by kernel_rfl) (by kernel_rfl) (by kernel_rfl) rfl rfl (by decide) (fun a S => ?_)
                  obtain ⟨r67, hx68, h⟩ := bindSome h
                  have S1 := S.mem
                  refine sCallQ (X := Unit) (f := 16) (vs := [.agg #[.int .i64 r14.W, .int .i64 r14.H, .slice ad19 r14.Bits.length cp20], .agg #[.int .i64 p0.W, .int .i64 p0.H, .slice ad3 p0.Bits.length cp4]]) (val := fun _ => .bool r67) S (wG (c := r41.2.2 == r48.2.2) 28 true 76 rfl rfl (by kernel_rfl) hc66) rfl callee16 (by kernel_rfl) (S1.quiet [9, 11] (by kernel_rfl)) (fun E1 w1 S1 => c_raddleref01_Same E1 w1 r14 (.agg #[.int .i64 r14.W, .int .i64 r14.H, .slice ad19 r14.Bits.length cp20]) p0 (.agg #[.int .i64 p0.W, .int .i64 p0.H, .slice ad3 p0.Bits.length cp4]) r67 hx68 S1) rfl (by decide) (fun _ a w S => ?_)
                  refine sPickT (b := r41.2.2 == r48.2.2) (.bool r67) S (wN rfl) rfl (by kernel_rfl) hc66 (by kernel_rfl) rfl (by decide) (fun a S => ?_)
                  refine sMove (.bool r67) S (wN rfl) (.inr rfl) (by kernel_rfl) rfl (by decide) (fun a S => ?_)
                  exact leafL (leafT (⟨r67, Option.some.inj h, S.fix [] [] (by decide) (by kernel_rfl) (by kernel_rfl) (by kernel_rfl)⟩))
                · refine sSkip (c := r41.2.2 == r48.2.2) 28 true 76 77 S rfl rfl (by kernel_rfl) hc66 rfl (by decide) (fun a S => ?_)
                  refine sSkip (c := r41.2.2 == r48.2.2) 28 true 76 78 S rfl rfl (by kernel_rfl) hc66 rfl (by decide) (fun a S => ?_)
                  refine sSkip (c := r41.2.2 == r48.2.2) 28 true 76 79 S rfl rfl (by kernel_rfl) hc66 rfl (by decide) (fun a S => ?_)
                  refine sPickF (b := r41.2.2 == r48.2.2) (.bool false) S (wN rfl) rfl (by kernel_rfl) hc66 (by kernel_rfl) rfl (by decide) (fun a S => ?_)
                  refine sMove (.bool false) S (wN rfl) (.inr rfl) (by kernel_rfl) rfl (by decide) (fun a S => ?_)
                  exact leafL (leafT (⟨false, Option.some.inj h, S.fix [] [] (by decide) (by kernel_rfl) (by kernel_rfl) (by kernel_rfl)⟩))
              · refine sSkip (c := ((r41.2.1.Num == r48.2.1.Num) && ((r41.2.1.Den == r48.2.1.Den) && true))) 23 true 71 72 S rfl rfl (by kernel_rfl) hc65 rfl (by decide) (fun a S => ?_)
                refine sSkip (c := ((r41.2.1.Num == r48.2.1.Num) && ((r41.2.1.Den == r48.2.1.Den) && true))) 23 true 71 73 S rfl rfl (by kernel_rfl) hc65 rfl (by decide) (fun a S => ?_)
                refine sSkip (c := ((r41.2.1.Num == r48.2.1.Num) && ((r41.2.1.Den == r48.2.1.Den) && true))) 23 true 71 74 S rfl rfl (by kernel_rfl) hc65 rfl (by decide) (fun a S => ?_)
                refine sPickF (b := ((r41.2.1.Num == r48.2.1.Num) && ((r41.2.1.Den == r48.2.1.Den) && true))) (.bool false) S (wN rfl) rfl (by kernel_rfl) hc65 (by kernel_rfl) rfl (by decide) (fun a S => ?_)
                refine sMove (.bool false) S (wN rfl) (.inl rfl) (by kernel_rfl) rfl (by decide) (fun a S => ?_)
                refine sSkip (c := false) 28 true 76 77 S rfl rfl (by kernel_rfl) rfl rfl (by decide) (fun a S => ?_)
                refine sSkip (c := false) 28 true 76 78 S rfl rfl (by kernel_rfl) rfl rfl (by decide) (fun a S => ?_)
                refine sSkip (c := false) 28 true 76 79 S rfl rfl (by kernel_rfl) rfl rfl (by decide) (fun a S => ?_)
                refine sPickF (b := false) (.bool false) S (wN rfl) rfl (by kernel_rfl) rfl (by kernel_rfl) rfl (by decide) (fun a S => ?_)
                refine sMove (.bool false) S (wN rfl) (.inr rfl) (by kernel_rfl) rfl (by decide) (fun a S => ?_)
                exact leafL (leafT (⟨false, Option.some.inj h, S.fix [] [] (by decide) (by kernel_rfl) (by kernel_rfl) (by kernel_rfl)⟩))
            · refine sSkip (c := ((r41.1.Num == r48.1.Num) && ((r41.1.Den == r48.1.Den) && true))) 18 true 66 67 S rfl rfl (by kernel_rfl) hc64 rfl (by decide) (fun a S => ?_)
              refine sSkip (c := ((r41.1.Num == r48.1.Num) && ((r41.1.Den == r48.1.Den) && true))) 18 true 66 68 S rfl rfl (by kernel_rfl) hc64 rfl (by decide) (fun a S => ?_)
              refine sSkip (c := ((r41.1.Num == r48.1.Num) && ((r41.1.Den == r48.1.Den) && true))) 18 true 66 69 S rfl rfl (by kernel_rfl) hc64 rfl (by decide) (fun a S => ?_)
              refine sPickF (b := ((r41.1.Num == r48.1.Num) && ((r41.1.Den == r48.1.Den) && true))) (.bool false) S (wN rfl) rfl (by kernel_rfl) hc64 (by kernel_rfl) rfl (by decide) (fun a S => ?_)
              refine sMove (.bool false) S (wN rfl) (.inl rfl) (by kernel_rfl) rfl (by decide) (fun a S => ?_)
              refine sSkip (c := false) 23 true 71 72 S rfl rfl (by kernel_rfl) rfl rfl (by decide) (fun a S => ?_)
              refine sSkip (c := false) 23 true 71 73 S rfl rfl (by kernel_rfl) rfl rfl (by decide) (fun a S => ?_)
              refine sSkip (c := false) 23 true 71 74 S rfl rfl (by kernel_rfl) rfl rfl (by decide) (fun a S => ?_)
              refine sPickF (b := false) (.bool false) S (wN rfl) rfl (by kernel_rfl) rfl (by kernel_rfl) rfl (by decide) (fun a S => ?_)
              refine sMove (.bool false) S (wN rfl) (.inl rfl) (by kernel_rfl) rfl (by decide) (fun a S => ?_)
              refine sSkip (c := false) 28 true 76 77 S rfl rfl (by kernel_rfl) rfl rfl (by decide) (fun a S => ?_)
              refine sSkip (c := false) 28 true 76 78 S rfl rfl (by kernel_rfl) rfl rfl (by decide) (fun a S => ?_)
              refine sSkip (c := false) 28 true 76 79 S rfl rfl (by kernel_rfl) rfl rfl (by decide) (fun a S => ?_)
              refine sPickF (b := false) (.bool false) S (wN rfl) rfl (by kernel_rfl) rfl (by kernel_rfl) rfl (by decide) (fun a S => ?_)
              refine sMove (.bool false) S (wN rfl) (.inr rfl) (by kernel_rfl) rfl (by decide) (fun a S => ?_)
              exact leafL (leafT (⟨false, Option.some.inj h, S.fix [] [] (by decide) (by kernel_rfl) (by kernel_rfl) (by kernel_rfl)⟩))
          · refine sSkip (c := r23.2.2 == r32.2.2) 13 true 61 62 S rfl rfl (by kernel_rfl) hc63 rfl (by decide) (fun a S => ?_)
            refine sSkip (c := r23.2.2 == r32.2.2) 13 true 61 63 S rfl rfl (by kernel_rfl) hc63 rfl (by decide) (fun a S => ?_)
            refine sSkip (c := r23.2.2 == r32.2.2) 13 true 61 64 S rfl rfl (by kernel_rfl) hc63 rfl (by decide) (fun a S => ?_)
            refine sPickF (b := r23.2.2 == r32.2.2) (.bool false) S (wN rfl) rfl (by kernel_rfl) hc63 (by kernel_rfl) rfl (by decide) (fun a S => ?_)
            refine sMove (.bool false) S (wN rfl) (.inl rfl) (by kernel_rfl) rfl (by decide) (fun a S => ?_)
            refine sSkip (c := false) 18 true 66 67 S rfl rfl (by kernel_rfl) rfl rfl (by decide) (fun a S => ?_)
            refine sSkip (c := false) 18 true 66 68 S rfl rfl (by kernel_rfl) rfl rfl (by decide) (fun a S => ?_)
            refine sSkip (c := false) 18 true 66 69 S rfl rfl (by kernel_rfl) rfl rfl (by decide) (fun a S => ?_)
            refine sPickF (b := false) (.bool false) S (wN rfl) rfl (by kernel_rfl) rfl (by kernel_rfl) rfl (by decide) (fun a S => ?_)
            refine sMove (.bool false) S (wN rfl) (.inl rfl) (by kernel_rfl) rfl (by decide) (fun a S => ?_)
            refine sSkip (c := false) 23 true 71 72 S rfl rfl (by kernel_rfl) rfl rfl (by decide) (fun a S => ?_)
            refine sSkip (c := false) 23 true 71 73 S rfl rfl (by kernel_rfl) rfl rfl (by decide) (fun a S => ?_)
            refine sSkip (c := false) 23 true 71 74 S rfl rfl (by kernel_rfl) rfl rfl (by decide) (fun a S => ?_)
            refine sPickF (b := false) (.bool false) S (wN rfl) rfl (by kernel_rfl) rfl (by kernel_rfl) rfl (by decide) (fun a S => ?_)
            refine sMove (.bool false) S (wN rfl) (.inl rfl) (by kernel_rfl) rfl (by decide) (fun a S => ?_)
            refine sSkip (c := false) 28 true 76 77 S rfl rfl (by kernel_rfl) rfl rfl (by decide) (fun a S => ?_)
            refine sSkip (c := false) 28 true 76 78 S rfl rfl (by kernel_rfl) rfl rfl (by decide) (fun a S => ?_)
            refine sSkip (c := false) 28 true 76 79 S rfl rfl (by kernel_rfl) rfl rfl (by decide) (fun a S => ?_)
            refine sPickF (b := false) (.bool false) S (wN rfl) rfl (by kernel_rfl) rfl (by kernel_rfl) rfl (by decide) (fun a S => ?_)
            refine sMove (.bool false) S (wN rfl) (.inr rfl) (by kernel_rfl) rfl (by decide) (fun a S => ?_)
            exact leafL (leafT (⟨false, Option.some.inj h, S.fix [] [] (by decide) (by kernel_rfl) (by kernel_rfl) (by kernel_rfl)⟩))
        · refine sSkip (c := r60) 8 true 56 57 S rfl rfl (by kernel_rfl) hc62 rfl (by decide) (fun a S => ?_)
          refine sSkip (c := r60) 8 true 56 58 S rfl rfl (by kernel_rfl) hc62 rfl (by decide) (fun a S => ?_)
          refine sSkip (c := r60) 8 true 56 59 S rfl rfl (by kernel_rfl) hc62 rfl (by decide) (fun a S => ?_)
          refine sPickF (b := r60) (.bool false) S (wN rfl) rfl (by kernel_rfl) hc62 (by kernel_rfl) rfl (by decide) (fun a S => ?_)
          refine sMove (.bool false) S (wN rfl) (.inl rfl) (by kernel_rfl) rfl (by decide) (fun a S => ?_)
          refine sSkip (c := false) 13 true 61 62 S rfl rfl (by kernel_rfl) rfl rfl (by decide) (fun a S => ?_)
          refine sSkip (c := false) 13 true 61 63 S rfl rfl (by kernel_rfl) rfl rfl (by decide) (fun a S => ?_)
          refine sSkip (c := false) 13 true 61 64 S rfl rfl (by kernel_rfl) rfl rfl (by decide) (fun a S => ?_)
          refine sPickF (b := false) (.bool false) S (wN rfl) rfl (by kernel_rfl) rfl (by kernel_rfl) rfl (by decide) (fun a S => ?_)
          refine sMove (.bool false) S (wN rfl) (.inl rfl) (by kernel_rfl) rfl (by decide) (fun a S => ?_)
          refine sSkip (c := false) 18 true 66 67 S rfl rfl (by kernel_rfl) rfl rfl (by decide) (fun a S => ?_)
          refine sSkip (c := false) 18 true 66 68 S rfl rfl (by kernel_rfl) rfl rfl (by decide) (fun a S => ?_)
          refine sSkip (c := false) 18 true 66 69 S rfl rfl (by kernel_rfl) rfl rfl (by decide) (fun a S => ?_)
          refine sPickF (b := false) (.bool false) S (wN rfl) rfl (by kernel_rfl) rfl (by kernel_rfl) rfl (by decide) (fun a S => ?_)
          refine sMove (.bool false) S (wN rfl) (.inl rfl) (by kernel_rfl) rfl (by decide) (fun a S => ?_)
          refine sSkip (c := false) 23 true 71 72 S rfl rfl (by kernel_rfl) rfl rfl (by decide) (fun a S => ?_)
          refine sSkip (c := false) 23 true 71 73 S rfl rfl (by kernel_rfl) rfl rfl (by decide) (fun a S => ?_)
          refine sSkip (c := false) 23 true 71 74 S rfl rfl (by kernel_rfl) rfl rfl (by decide) (fun a S => ?_)
          refine sPickF (b := false) (.bool false) S (wN rfl) rfl (by kernel_rfl) rfl (by kernel_rfl) rfl (by decide) (fun a S => ?_)
          refine sMove (.bool false) S (wN rfl) (.inl rfl) (by kernel_rfl) rfl (by decide) (fun a S => ?_)
          refine sSkip (c := false) 28 true 76 77 S rfl rfl (by kernel_rfl) rfl rfl (by decide) (fun a S => ?_)
          refine sSkip (c := false) 28 true 76 78 S rfl rfl (by kernel_rfl) rfl rfl (by decide) (fun a S => ?_)
          refine sSkip (c := false) 28 true 76 79 S rfl rfl (by kernel_rfl) rfl rfl (by decide) (fun a S => ?_)
          refine sPickF (b := false) (.bool false) S (wN rfl) rfl (by kernel_rfl) rfl (by kernel_rfl) rfl (by decide) (fun a S => ?_)
          refine sMove (.bool false) S (wN rfl) (.inr rfl) (by kernel_rfl) rfl (by decide) (fun a S => ?_)
          exact leafL (leafT (⟨false, Option.some.inj h, S.fix [] [] (by decide) (by kernel_rfl) (by kernel_rfl) (by kernel_rfl)⟩))
      · refine sSkip (c := r57) 3 true 51 52 S rfl rfl (by kernel_rfl) hc59 rfl (by decide) (fun a S => ?_)
        refine sSkip (c := r57) 3 true 51 53 S rfl rfl (by kernel_rfl) hc59 rfl (by decide) (fun a S => ?_)
        refine sSkip (c := r57) 3 true 51 54 S rfl rfl (by kernel_rfl) hc59 rfl (by decide) (fun a S => ?_)
        refine sPickF (b := r57) (.bool false) S (wN rfl) rfl (by kernel_rfl) hc59 (by kernel_rfl) rfl (by decide) (fun a S => ?_)
        refine sMove (.bool false) S (wN rfl) (.inl rfl) (by kernel_rfl) rfl (by decide) (fun a S => ?_)
        refine sSkip (c := false) 8 true 56 57 S rfl rfl (by kernel_rfl) rfl rfl (by decide) (fun a S => ?_)
        refine sSkip (c := false) 8 true 56 58 S rfl rfl (by kernel_rfl) rfl rfl (by decide) (fun a S => ?_)
        refine sSkip (c := false) 8 true 56 59 S rfl rfl (by kernel_rfl) rfl rfl (by decide) (fun a S => ?_)
        refine sPickF (b := false) (.bool false) S (wN rfl) rfl (by kernel_rfl) rfl (by kernel_rfl) rfl (by decide) (fun a S => ?_)
        refine sMove (.bool false) S (wN rfl) (.inl rfl) (by kernel_rfl) rfl (by decide) (fun a S => ?_)
        refine sSkip (c := false) 13 true 61 62 S rfl rfl (by kernel_rfl) rfl rfl (by decide) (fun a S => ?_)
        refine sSkip (c := false) 13 true 61 63 S rfl rfl (by kernel_rfl) rfl rfl (by decide) (fun a S => ?_)
        refine sSkip (c := false) 13 true 61 64 S rfl rfl (by kernel_rfl) rfl rfl (by decide) (fun a S => ?_)
        refine sPickF (b := false) (.bool false) S (wN rfl) rfl (by kernel_rfl) rfl (by kernel_rfl) rfl (by decide) (fun a S => ?_)
        refine sMove (.bool false) S (wN rfl) (.inl rfl) (by kernel_rfl) rfl (by decide) (fun a S => ?_)
        refine sSkip (c := false) 18 true 66 67 S rfl rfl (by kernel_rfl) rfl rfl (by decide) (fun a S => ?_)
        refine sSkip (c := false) 18 true 66 68 S rfl rfl (by kernel_rfl) rfl rfl (by decide) (fun a S => ?_)
        refine sSkip (c := false) 18 true 66 69 S rfl rfl (by kernel_rfl) rfl rfl (by decide) (fun a S => ?_)
        refine sPickF (b := false) (.bool false) S (wN rfl) rfl (by kernel_rfl) rfl (by kernel_rfl) rfl (by decide) (fun a S => ?_)
        refine sMove (.bool false) S (wN rfl) (.inl rfl) (by kernel_rfl) rfl (by decide) (fun a S => ?_)
        refine sSkip (c := false) 23 true 71 72 S rfl rfl (by kernel_rfl) rfl rfl (by decide) (fun a S => ?_)
        refine sSkip (c := false) 23 true 71 73 S rfl rfl (by kernel_rfl) rfl rfl (by decide) (fun a S => ?_)
        refine sSkip (c := false) 23 true 71 74 S rfl rfl (by kernel_rfl) rfl rfl (by decide) (fun a S => ?_)
        refine sPickF (b := false) (.bool false) S (wN rfl) rfl (by kernel_rfl) rfl (by kernel_rfl) rfl (by decide) (fun a S => ?_)
        refine sMove (.bool false) S (wN rfl) (.inl rfl) (by kernel_rfl) rfl (by decide) (fun a S => ?_)
        refine sSkip (c := false) 28 true 76 77 S rfl rfl (by kernel_rfl) rfl rfl (by decide) (fun a S => ?_)
        refine sSkip (c := false) 28 true 76 78 S rfl rfl (by kernel_rfl) rfl rfl (by decide) (fun a S => ?_)
        refine sSkip (c := false) 28 true 76 79 S rfl rfl (by kernel_rfl) rfl rfl (by decide) (fun a S => ?_)
        refine sPickF (b := false) (.bool false) S (wN rfl) rfl (by kernel_rfl) rfl (by kernel_rfl) rfl (by decide) (fun a S => ?_)
        refine sMove (.bool false) S (wN rfl) (.inr rfl) (by kernel_rfl) rfl (by decide) (fun a S => ?_)
        exact leafL (leafT (⟨false, Option.some.inj h, S.fix [] [] (by decide) (by kernel_rfl) (by kernel_rfl) (by kernel_rfl)⟩))
    · obtain ⟨o54, rfl, S⟩ := hI
      have h := g56
      clear g56
      try dsimp only at h
      obtain rfl := Option.some.inj h
      exact wp_ret (sRet (.bool o54) S (rsl1 rfl (rvT (t := 4) (v := .bool o54) S (by kernel_rfl))) ⟨(), rfl, S.mem.sel [] [] (by decide) (by kernel_rfl) (by kernel_rfl)⟩)

end Go.Proofs.Ytjndecalogklhaa
