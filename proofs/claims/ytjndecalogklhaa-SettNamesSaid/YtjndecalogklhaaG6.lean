import Derived.Test.YtjndecalogklhaaGTy
import Derived.Test.YtjndecalogklhaaG11
import Derived.Test.YtjndecalogklhaaG13
import Derived.Test.YtjndecalogklhaaG15
import Derived.Test.YtjndecalogklhaaG17
import Derived.Test.YtjndecalogklhaaG21
import Derived.Test.YtjndecalogklhaaG22
import Derived.Test.YtjndecalogklhaaG23
import Derived.Test.YtjndecalogklhaaG24
import Derived.Test.YtjndecalogklhaaG25
import Derived.Test.YtjndecalogklhaaG26
import Derived.Test.YtjndecalogklhaaKeSettNames
namespace Go.Proofs.Ytjndecalogklhaa
open Go.RowKit
set_option linter.unusedVariables false

noncomputable def F_raddlelaw24_SettNames  : Option Bool :=
  Option.bind (F_sett_Turns (api_Grid.mk 0 0 ([] : (List Bool)))) fun r3 =>
  Option.bind (F_raddlelaw24_cloth 2 2 1) fun r12 =>
  Option.bind (F_sett_Setts r12 0) fun r19 =>
  Option.bind (F_sett_Setts r12 1001) fun r31 =>
  Option.bind (F_sett_Setts (api_Grid.mk 0 0 ([] : (List Bool))) 0) fun r38 =>
  Option.bind (F_raddlelaw24_part 0 1) fun r45 =>
  Option.bind (F_sett_Ends 1 r45) fun r48 =>
  Option.bind (F_raddlelaw24_part 1 1) fun r51 =>
  Option.bind (F_sett_Ends (-1) r51) fun r54 =>
  Option.bind (F_sett_Ends 1000000001 r51) fun r58 =>
  Option.bind (F_raddlelaw24_part 1000000000 1) fun r61 =>
  Option.bind (F_sett_Ends 1000000000 r61) fun r64 =>
  Option.bind (F_raddlelaw24_part 1 1000000000) fun r67 =>
  Option.bind (F_sett_Width 1000000000 r67) fun r70 =>
  Option.bind (F_sett_Width 1000001 r51) fun r74 =>
  Option.bind (F_sett_Width 1000000 r51) fun r78 =>
  Option.bind (F_sett_Width 0 r67) fun r82 =>
  Option.bind (F_raddlelaw24_part 11 1) fun r85 =>
  Option.bind (F_sett_Need 1 r85) fun r88 =>
  Option.bind (F_raddlelaw24_part 10 1) fun r91 =>
  Option.bind (F_sett_Need 1000000000 r91) fun r94 =>
  Option.bind (F_sett_Need (-1) r85) fun r98 =>
  Option.bind (F_sett_Cloth 1000000000 r91) fun r102 =>
  Option.bind (F_raddlelaw24_part (-1) 2) fun r105 =>
  Option.bind (F_sett_Cloth 1 r105) fun r108 =>
  Option.bind (F_raddlelaw24_cloth 1 1 1) fun r111 =>
  Option.bind (F_sett_Turns r111) fun r118 =>
  Option.bind (F_raddlelaw24_alive) fun r127 =>
  if r127 then
    if r3.2.2 == 8 then
      if r19.2.2 == 2 then
        if r31.2.2 == 2 then
          if r38.2.2 == 8 then
            if r48.2 == 8 then
              if r54.2 == 2 then
                if r58.2 == 2 then
                  if r64.2 == 0 then
                    if r64.1 == 1000000000000000 then
                      if r70.2 == 16 then
                        if r74.2 == 16 then
                          if r78.2 == 0 then
                            if r78.1 == 1000000000 then
                              if r82.2 == 0 then
                                if r82.1 == 0 then
                                  if r88.2 == 8 then
                                    if r94.2 == 0 then
                                      if r94.1 == 11000000000 then
                                        if r98.2 == 8 then
                                          if r102.2 == 0 then
                                            if r102.1 == 90909090 then
                                              if r108.2 == 8 then
                                                if r118.2.2 == 0 then
                                                  Option.bind (F_raddleref24_Same r118.1 ([0] : List Int)) fun r155 =>
                                                  if r155 then
                                                    Option.bind (F_raddleref24_Same r118.2.1 ([0] : List Int)) fun r160 =>
                                                    some r160
                                                  else
                                                    none
                                                else
                                                  none
                                              else
                                                none
                                            else
                                              none
                                          else
                                            none
                                        else
                                          none
                                      else
                                        none
                                    else
                                      none
                                  else
                                    none
                                else
                                  none
                              else
                                none
                            else
                              none
                          else
                            none
                        else
                          none
                      else
                        none
                    else
                      none
                  else
                    none
                else
                  none
              else
                none
            else
              none
          else
            none
        else
          none
      else
        none
    else
      none
  else
    none
set_option maxHeartbeats 4000000 in
set_option maxRecDepth 100000 in
theorem c_raddlelaw24_SettNames (E : Nat → Prop) (w0 : World)  (r : Bool) (h : F_raddlelaw24_SettNames  = some r) (S : St0 E [] w0 w0 [] []) :
    Calls Try.prog 6 #[] w0 (Ret (X := Unit) E [] w0 (fun _ => .bool r) (fun _ => []) (fun _ => [])) := by
  unfold F_raddlelaw24_SettNames at h
  refine sEnter (args := []) 242 Try.func6 rfl rfl (by simp) S (fun a S => ?_)
  refine sSeq (fun K1 hK1 => ?_)
  refine sRegion ?_
  refine sMove (.bool false) S (wN rfl) (.inr rfl) (by kernel_rfl) rfl (by decide) (fun a S => ?_)
  refine leafL (leafT (hK1 _ _ ?_))
  refine sSeq (fun K2 hK2 => ?_)
  refine sRegion ?_
  refine sBuild [] [.int .i64 0, .int .i64 0, .slice none 0 0] S (wN rfl) rfl (by kernel_rfl) (by kernel_rfl) rfl (by decide) (fun a S => ?_)
  obtain ⟨r3, hx4, h⟩ := bindSome h
  have hv_r3 : r3 = ([], ([], 8)) := Option.some.inj (hx4.symm.trans (by exact kc_raddlelaw24_SettNames_0))
  have S := S.learn (fRep (rL rB) (.slice none 0 0) ([] : (List Bool))) (rL_nil _ _ _)
  have S := S.learn (fRep r_api_Grid (.agg #[.int .i64 0, .int .i64 0, .slice none 0 0]) (api_Grid.mk 0 0 ([] : (List Bool)))) ⟨_, rfl, S.mem.know (i := 0) (e := fRep (rL rB) (.slice none 0 0) ([] : (List Bool))) (by kernel_rfl)⟩
  refine sCall (X := Value × Value) (f := 11) (vs := [.agg #[.int .i64 0, .int .i64 0, .slice none 0 0]]) (val := c_sett_Turns_val r3) (B' := fun _ => []) (D' := c_sett_Turns_D r3) [] [] [fRep r_api_Grid (.agg #[.int .i64 0, .int .i64 0, .slice none 0 0]) (api_Grid.mk 0 0 ([] : (List Bool)))] [] [0] S (wN rfl) rfl callee11 (by kernel_rfl) (by decide) (by kernel_rfl) (by kernel_rfl) (fun E1 w1 S1 => c_sett_Turns E1 w1 (api_Grid.mk 0 0 ([] : (List Bool))) (.agg #[.int .i64 0, .int .i64 0, .slice none 0 0]) r3 hx4 S1) rfl (by decide) (fun xx a w S => ?_)
  obtain ⟨u5, u6⟩ := xx
  obtain ⟨ad7, cp8, _, rfl, _⟩ := S.mem.know (i := 0) (e := fRep (rL (rI .i64)) (u5) r3.1) (by kernel_rfl)
  obtain ⟨ad9, cp10, _, rfl, _⟩ := S.mem.know (i := 1) (e := fRep (rL (rI .i64)) (u6) r3.2.1) (by kernel_rfl)
  refine sMove (.tuple #[.slice ad7 r3.1.length cp8, .slice ad9 r3.2.1.length cp10, .int .i64 r3.2.2]) S (wN rfl) (.inl rfl) (by kernel_rfl) rfl (by decide) (fun a S => ?_)
  refine sExtract (vs := [.slice ad7 r3.1.length cp8, .slice ad9 r3.2.1.length cp10, .int .i64 r3.2.2]) (.slice ad7 r3.1.length cp8) S (wN rfl) rfl (by kernel_rfl) rfl rfl (by decide) (fun a S => ?_)
  refine sExtract (vs := [.slice ad7 r3.1.length cp8, .slice ad9 r3.2.1.length cp10, .int .i64 r3.2.2]) (.slice ad9 r3.2.1.length cp10) S (wN rfl) rfl (by kernel_rfl) rfl rfl (by decide) (fun a S => ?_)
  refine sExtract (vs := [.slice ad7 r3.1.length cp8, .slice ad9 r3.2.1.length cp10, .int .i64 r3.2.2]) (.int .i64 r3.2.2) S (wN rfl) rfl (by kernel_rfl) rfl rfl (by decide) (fun a S => ?_)
  refine sMove (.slice ad7 r3.1.length cp8) S (wN rfl) (.inr rfl) (by kernel_rfl) rfl (by decide) (fun a S => ?_)
  refine sMove (.slice ad9 r3.2.1.length cp10) S (wN rfl) (.inr rfl) (by kernel_rfl) rfl (by decide) (fun a S => ?_)
  refine sMove (.int .i64 r3.2.2) S (wN rfl) (.inr rfl) (by kernel_rfl) rfl (by decide) (fun a S => ?_)
  refine leafL (leafT (hK2 _ _ ?_))
  refine sSeq (fun K11 hK11 => ?_)
  refine sRegion ?_
  obtain ⟨r12, hx13, h⟩ := bindSome h
  have hv_r12 : r12 = (api_Grid.mk 2 2 [true, false, false, true]) := Option.some.inj (hx13.symm.trans (by exact kc_raddlelaw24_SettNames_1))
  refine sCall (X := Value) (f := 23) (vs := [.int .i64 2, .int .i64 2, .int .i64 1]) (val := c_raddlelaw24_cloth_val r12) (B' := fun _ => []) (D' := c_raddlelaw24_cloth_D r12) [] [] [] [] [] S (wN rfl) rfl callee23 (by kernel_rfl) (by decide) (by kernel_rfl) (by kernel_rfl) (fun E1 w1 S1 => c_raddlelaw24_cloth E1 w1 2 2 1 r12 hx13 S1) rfl (by decide) (fun u14 a w S => ?_)
  obtain ⟨u15, rfl, hu16⟩ := S.mem.know (i := 0) (e := fRep r_api_Grid (u14) r12) (by kernel_rfl)
  have S := S.learn (fRep (rL rB) u15 r12.Bits) hu16
  obtain ⟨ad17, cp18, _, rfl, _⟩ := hu16
  obtain ⟨r19, hx20, h⟩ := bindSome h
  have hv_r19 : r19 = ((api_Ratio.mk 0 0), ((api_Ratio.mk 0 0), 2)) := Option.some.inj (hx20.symm.trans (by rw [hv_r12]; exact kc_raddlelaw24_SettNames_2))
  refine sCall (X := Value × Value) (f := 13) (vs := [.agg #[.int .i64 r12.W, .int .i64 r12.H, .slice ad17 r12.Bits.length cp18], .int .i64 0]) (val := c_sett_Setts_val r19) (B' := fun _ => []) (D' := c_sett_Setts_D r19) [] [] [fRep r_api_Grid (.agg #[.int .i64 r12.W, .int .i64 r12.H, .slice ad17 r12.Bits.length cp18]) r12] [] [1] S (wN rfl) rfl callee13 (by kernel_rfl) (by decide) (by kernel_rfl) (by kernel_rfl) (fun E1 w1 S1 => c_sett_Setts E1 w1 r12 (.agg #[.int .i64 r12.W, .int .i64 r12.H, .slice ad17 r12.Bits.length cp18]) 0 r19 hx20 S1) rfl (by decide) (fun xx a w S => ?_)
  obtain ⟨u21, u22⟩ := xx
  obtain rfl : u21 = .agg #[.int .i64 r19.1.Num, .int .i64 r19.1.Den] := S.mem.know (i := 0) (e := fRep r_api_Ratio (u21) r19.1) (by kernel_rfl)
  obtain rfl : u22 = .agg #[.int .i64 r19.2.1.Num, .int .i64 r19.2.1.Den] := S.mem.know (i := 1) (e := fRep r_api_Ratio (u22) r19.2.1) (by kernel_rfl)
  refine sMove (.tuple #[.agg #[.int .i64 r19.1.Num, .int .i64 r19.1.Den], .agg #[.int .i64 r19.2.1.Num, .int .i64 r19.2.1.Den], .int .i64 r19.2.2]) S (wN rfl) (.inl rfl) (by kernel_rfl) rfl (by decide) (fun a S => ?_)
  refine sExtract (vs := [.agg #[.int .i64 r19.1.Num, .int .i64 r19.1.Den], .agg #[.int .i64 r19.2.1.Num, .int .i64 r19.2.1.Den], .int .i64 r19.2.2]) (.agg #[.int .i64 r19.1.Num, .int .i64 r19.1.Den]) S (wN rfl) rfl (by kernel_rfl) rfl rfl (by decide) (fun a S => ?_)
  refine sExtract (vs := [.agg #[.int .i64 r19.1.Num, .int .i64 r19.1.Den], .agg #[.int .i64 r19.2.1.Num, .int .i64 r19.2.1.Den], .int .i64 r19.2.2]) (.agg #[.int .i64 r19.2.1.Num, .int .i64 r19.2.1.Den]) S (wN rfl) rfl (by kernel_rfl) rfl rfl (by decide) (fun a S => ?_)
  refine sExtract (vs := [.agg #[.int .i64 r19.1.Num, .int .i64 r19.1.Den], .agg #[.int .i64 r19.2.1.Num, .int .i64 r19.2.1.Den], .int .i64 r19.2.2]) (.int .i64 r19.2.2) S (wN rfl) rfl (by kernel_rfl) rfl rfl (by decide) (fun a S => ?_)
  refine sAlloc (.agg #[.int .i64 0, .int .i64 0]) S (wN rfl) rfl (by kernel_rfl) [.int .i64 0, .int .i64 0] rfl rfl (by decide) (fun a b23 w S => ?_)
  refine sAlloc (.agg #[.int .i64 0, .int .i64 0]) S (wN rfl) rfl (by kernel_rfl) [.int .i64 0, .int .i64 0] rfl rfl (by decide) (fun a b24 w S => ?_)
  refine sStore (p := b23) (off := 0) (T := 34) (vs := [.int .i64 0, .int .i64 0]) (v := .agg #[.int .i64 r19.1.Num, .int .i64 r19.1.Den]) 1 [.int .i64 r19.1.Num, .int .i64 r19.1.Den] S (wN rfl) rfl (by kernel_rfl) (by kernel_rfl) rfl (by kernel_rfl) (by kernel_rfl) rfl (by simp) rfl (fun a w S => ?_)
  refine sStore (p := b24) (off := 0) (T := 34) (vs := [.int .i64 0, .int .i64 0]) (v := .agg #[.int .i64 r19.2.1.Num, .int .i64 r19.2.1.Den]) 1 [.int .i64 r19.2.1.Num, .int .i64 r19.2.1.Den] S (wN rfl) rfl (by kernel_rfl) (by kernel_rfl) rfl (by kernel_rfl) (by kernel_rfl) rfl (by simp) rfl (fun a w S => ?_)
  refine sMove (.int .i64 r19.2.2) S (wN rfl) (.inr rfl) (by kernel_rfl) rfl (by decide) (fun a S => ?_)
  refine leafL (leafT (hK11 _ _ ?_))
  refine sSeq (fun K25 hK25 => ?_)
  refine sRegion ?_
  refine sCall (X := Value) (f := 23) (vs := [.int .i64 2, .int .i64 2, .int .i64 1]) (val := c_raddlelaw24_cloth_val r12) (B' := fun _ => []) (D' := c_raddlelaw24_cloth_D r12) [] [eBox b24 34 [.int .i64 r19.2.1.Num, .int .i64 r19.2.1.Den], eBox b23 34 [.int .i64 r19.1.Num, .int .i64 r19.1.Den]] [] [0, 1] [] S (wN rfl) rfl callee23 (by kernel_rfl) (by decide) (by kernel_rfl) (by kernel_rfl) (fun E1 w1 S1 => c_raddlelaw24_cloth E1 w1 2 2 1 r12 hx13 S1) rfl (by decide) (fun u26 a w S => ?_)
  obtain ⟨u27, rfl, hu28⟩ := S.mem.know (i := 0) (e := fRep r_api_Grid (u26) r12) (by kernel_rfl)
  have S := S.learn (fRep (rL rB) u27 r12.Bits) hu28
  obtain ⟨ad29, cp30, _, rfl, _⟩ := hu28
  obtain ⟨r31, hx32, h⟩ := bindSome h
  have hv_r31 : r31 = ((api_Ratio.mk 0 0), ((api_Ratio.mk 0 0), 2)) := Option.some.inj (hx32.symm.trans (by rw [hv_r12]; exact kc_raddlelaw24_SettNames_3))
  refine sCall (X := Value × Value) (f := 13) (vs := [.agg #[.int .i64 r12.W, .int .i64 r12.H, .slice ad29 r12.Bits.length cp30], .int .i64 1001]) (val := c_sett_Setts_val r31) (B' := fun _ => []) (D' := c_sett_Setts_D r31) [] [eBox b24 34 [.int .i64 r19.2.1.Num, .int .i64 r19.2.1.Den], eBox b23 34 [.int .i64 r19.1.Num, .int .i64 r19.1.Den]] [fRep r_api_Grid (.agg #[.int .i64 r12.W, .int .i64 r12.H, .slice ad29 r12.Bits.length cp30]) r12] [0, 1] [1] S (wN rfl) rfl callee13 (by kernel_rfl) (by decide) (by kernel_rfl) (by kernel_rfl) (fun E1 w1 S1 => c_sett_Setts E1 w1 r12 (.agg #[.int .i64 r12.W, .int .i64 r12.H, .slice ad29 r12.Bits.length cp30]) 1001 r31 hx32 S1) rfl (by decide) (fun xx a w S => ?_)
  obtain ⟨u33, u34⟩ := xx
  obtain rfl : u33 = .agg #[.int .i64 r31.1.Num, .int .i64 r31.1.Den] := S.mem.know (i := 0) (e := fRep r_api_Ratio (u33) r31.1) (by kernel_rfl)
  obtain rfl : u34 = .agg #[.int .i64 r31.2.1.Num, .int .i64 r31.2.1.Den] := S.mem.know (i := 1) (e := fRep r_api_Ratio (u34) r31.2.1) (by kernel_rfl)
  refine sMove (.tuple #[.agg #[.int .i64 r31.1.Num, .int .i64 r31.1.Den], .agg #[.int .i64 r31.2.1.Num, .int .i64 r31.2.1.Den], .int .i64 r31.2.2]) S (wN rfl) (.inl rfl) (by kernel_rfl) rfl (by decide) (fun a S => ?_)
  refine sExtract (vs := [.agg #[.int .i64 r31.1.Num, .int .i64 r31.1.Den], .agg #[.int .i64 r31.2.1.Num, .int .i64 r31.2.1.Den], .int .i64 r31.2.2]) (.agg #[.int .i64 r31.1.Num, .int .i64 r31.1.Den]) S (wN rfl) rfl (by kernel_rfl) rfl rfl (by decide) (fun a S => ?_)
  refine sExtract (vs := [.agg #[.int .i64 r31.1.Num, .int .i64 r31.1.Den], .agg #[.int .i64 r31.2.1.Num, .int .i64 r31.2.1.Den], .int .i64 r31.2.2]) (.agg #[.int .i64 r31.2.1.Num, .int .i64 r31.2.1.Den]) S (wN rfl) rfl (by kernel_rfl) rfl rfl (by decide) (fun a S => ?_)
  refine sExtract (vs := [.agg #[.int .i64 r31.1.Num, .int .i64 r31.1.Den], .agg #[.int .i64 r31.2.1.Num, .int .i64 r31.2.1.Den], .int .i64 r31.2.2]) (.int .i64 r31.2.2) S (wN rfl) rfl (by kernel_rfl) rfl rfl (by decide) (fun a S => ?_)
  refine sAlloc (.agg #[.int .i64 0, .int .i64 0]) S (wN rfl) rfl (by kernel_rfl) [.int .i64 0, .int .i64 0] rfl rfl (by decide) (fun a b35 w S => ?_)
  refine sAlloc (.agg #[.int .i64 0, .int .i64 0]) S (wN rfl) rfl (by kernel_rfl) [.int .i64 0, .int .i64 0] rfl rfl (by decide) (fun a b36 w S => ?_)
  refine sStore (p := b35) (off := 0) (T := 34) (vs := [.int .i64 0, .int .i64 0]) (v := .agg #[.int .i64 r31.1.Num, .int .i64 r31.1.Den]) 1 [.int .i64 r31.1.Num, .int .i64 r31.1.Den] S (wN rfl) rfl (by kernel_rfl) (by kernel_rfl) rfl (by kernel_rfl) (by kernel_rfl) rfl (by simp) rfl (fun a w S => ?_)
  refine sStore (p := b36) (off := 0) (T := 34) (vs := [.int .i64 0, .int .i64 0]) (v := .agg #[.int .i64 r31.2.1.Num, .int .i64 r31.2.1.Den]) 1 [.int .i64 r31.2.1.Num, .int .i64 r31.2.1.Den] S (wN rfl) rfl (by kernel_rfl) (by kernel_rfl) rfl (by kernel_rfl) (by kernel_rfl) rfl (by simp) rfl (fun a w S => ?_)
  refine sMove (.int .i64 r31.2.2) S (wN rfl) (.inr rfl) (by kernel_rfl) rfl (by decide) (fun a S => ?_)
  refine leafL (leafT (hK25 _ _ ?_))
  refine sSeq (fun K37 hK37 => ?_)
  refine sRegion ?_
  refine sBuild [] [.int .i64 0, .int .i64 0, .slice none 0 0] S (wN rfl) rfl (by kernel_rfl) (by kernel_rfl) rfl (by decide) (fun a S => ?_)
  obtain ⟨r38, hx39, h⟩ := bindSome h
  have hv_r38 : r38 = ((api_Ratio.mk 0 0), ((api_Ratio.mk 0 0), 8)) := Option.some.inj (hx39.symm.trans (by exact kc_raddlelaw24_SettNames_4))
  refine sCall (X := Value × Value) (f := 13) (vs := [.agg #[.int .i64 0, .int .i64 0, .slice none 0 0], .int .i64 0]) (val := c_sett_Setts_val r38) (B' := fun _ => []) (D' := c_sett_Setts_D r38) [] [eBox b36 34 [.int .i64 r31.2.1.Num, .int .i64 r31.2.1.Den], eBox b35 34 [.int .i64 r31.1.Num, .int .i64 r31.1.Den], eBox b24 34 [.int .i64 r19.2.1.Num, .int .i64 r19.2.1.Den], eBox b23 34 [.int .i64 r19.1.Num, .int .i64 r19.1.Den]] [fRep r_api_Grid (.agg #[.int .i64 0, .int .i64 0, .slice none 0 0]) (api_Grid.mk 0 0 ([] : (List Bool)))] [0, 1, 2, 3] [10] S (wN rfl) rfl callee13 (by kernel_rfl) (by decide) (by kernel_rfl) (by kernel_rfl) (fun E1 w1 S1 => c_sett_Setts E1 w1 (api_Grid.mk 0 0 ([] : (List Bool))) (.agg #[.int .i64 0, .int .i64 0, .slice none 0 0]) 0 r38 hx39 S1) rfl (by decide) (fun xx a w S => ?_)
  obtain ⟨u40, u41⟩ := xx
  obtain rfl : u40 = .agg #[.int .i64 r38.1.Num, .int .i64 r38.1.Den] := S.mem.know (i := 0) (e := fRep r_api_Ratio (u40) r38.1) (by kernel_rfl)
  obtain rfl : u41 = .agg #[.int .i64 r38.2.1.Num, .int .i64 r38.2.1.Den] := S.mem.know (i := 1) (e := fRep r_api_Ratio (u41) r38.2.1) (by kernel_rfl)
  refine sMove (.tuple #[.agg #[.int .i64 r38.1.Num, .int .i64 r38.1.Den], .agg #[.int .i64 r38.2.1.Num, .int .i64 r38.2.1.Den], .int .i64 r38.2.2]) S (wN rfl) (.inl rfl) (by kernel_rfl) rfl (by decide) (fun a S => ?_)
  refine sExtract (vs := [.agg #[.int .i64 r38.1.Num, .int .i64 r38.1.Den], .agg #[.int .i64 r38.2.1.Num, .int .i64 r38.2.1.Den], .int .i64 r38.2.2]) (.agg #[.int .i64 r38.1.Num, .int .i64 r38.1.Den]) S (wN rfl) rfl (by kernel_rfl) rfl rfl (by decide) (fun a S => ?_)
  refine sExtract (vs := [.agg #[.int .i64 r38.1.Num, .int .i64 r38.1.Den], .agg #[.int .i64 r38.2.1.Num, .int .i64 r38.2.1.Den], .int .i64 r38.2.2]) (.agg #[.int .i64 r38.2.1.Num, .int .i64 r38.2.1.Den]) S (wN rfl) rfl (by kernel_rfl) rfl rfl (by decide) (fun a S => ?_)
  refine sExtract (vs := [.agg #[.int .i64 r38.1.Num, .int .i64 r38.1.Den], .agg #[.int .i64 r38.2.1.Num, .int .i64 r38.2.1.Den], .int .i64 r38.2.2]) (.int .i64 r38.2.2) S (wN rfl) rfl (by kernel_rfl) rfl rfl (by decide) (fun a S => ?_)
  refine sAlloc (.agg #[.int .i64 0, .int .i64 0]) S (wN rfl) rfl (by kernel_rfl) [.int .i64 0, .int .i64 0] rfl rfl (by decide) (fun a b42 w S => ?_)
  refine sAlloc (.agg #[.int .i64 0, .int .i64 0]) S (wN rfl) rfl (by kernel_rfl) [.int .i64 0, .int .i64 0] rfl rfl (by decide) (fun a b43 w S => ?_)
  refine sStore (p := b42) (off := 0) (T := 34) (vs := [.int .i64 0, .int .i64 0]) (v := .agg #[.int .i64 r38.1.Num, .int .i64 r38.1.Den]) 1 [.int .i64 r38.1.Num, .int .i64 r38.1.Den] S (wN rfl) rfl (by kernel_rfl) (by kernel_rfl) rfl (by kernel_rfl) (by kernel_rfl) rfl (by simp) rfl (fun a w S => ?_)
  refine sStore (p := b43) (off := 0) (T := 34) (vs := [.int .i64 0, .int .i64 0]) (v := .agg #[.int .i64 r38.2.1.Num, .int .i64 r38.2.1.Den]) 1 [.int .i64 r38.2.1.Num, .int .i64 r38.2.1.Den] S (wN rfl) rfl (by kernel_rfl) (by kernel_rfl) rfl (by kernel_rfl) (by kernel_rfl) rfl (by simp) rfl (fun a w S => ?_)
  refine sMove (.int .i64 r38.2.2) S (wN rfl) (.inr rfl) (by kernel_rfl) rfl (by decide) (fun a S => ?_)
  refine leafL (leafT (hK37 _ _ ?_))
  refine sSeq (fun K44 hK44 => ?_)
  refine sRegion ?_
  obtain ⟨r45, hx46, h⟩ := bindSome h
  have hv_r45 : r45 = (api_Ratio.mk 0 1) := Option.some.inj (hx46.symm.trans (by exact kc_raddlelaw24_SettNames_5))
  refine sCall (X := Value) (f := 24) (vs := [.int .i64 0, .int .i64 1]) (val := c_raddlelaw24_part_val r45) (B' := fun _ => []) (D' := c_raddlelaw24_part_D r45) [] [eBox b43 34 [.int .i64 r38.2.1.Num, .int .i64 r38.2.1.Den], eBox b42 34 [.int .i64 r38.1.Num, .int .i64 r38.1.Den], eBox b36 34 [.int .i64 r31.2.1.Num, .int .i64 r31.2.1.Den], eBox b35 34 [.int .i64 r31.1.Num, .int .i64 r31.1.Den], eBox b24 34 [.int .i64 r19.2.1.Num, .int .i64 r19.2.1.Den], eBox b23 34 [.int .i64 r19.1.Num, .int .i64 r19.1.Den]] [] [0, 1, 2, 3, 4, 5] [] S (wN rfl) rfl callee24 (by kernel_rfl) (by decide) (by kernel_rfl) (by kernel_rfl) (fun E1 w1 S1 => c_raddlelaw24_part E1 w1 0 1 r45 hx46 S1) rfl (by decide) (fun u47 a w S => ?_)
  obtain rfl : u47 = .agg #[.int .i64 r45.Num, .int .i64 r45.Den] := S.mem.know (i := 0) (e := fRep r_api_Ratio (u47) r45) (by kernel_rfl)
  obtain ⟨r48, hx49, h⟩ := bindSome h
  have hv_r48 : r48 = (0, 8) := Option.some.inj (hx49.symm.trans (by rw [hv_r45]; exact kc_raddlelaw24_SettNames_6))
  have S1 := S.mem
  refine sCallQ (X := Unit) (f := 22) (vs := [.int .i64 1, .agg #[.int .i64 r45.Num, .int .i64 r45.Den]]) (val := fun _ => .tuple #[.int .i64 r48.1, .int .i64 r48.2]) S (wN rfl) rfl callee22 (by kernel_rfl) (S1.quiet [0] (by kernel_rfl)) (fun E1 w1 S1 => c_sett_Ends E1 w1 1 r45 (.agg #[.int .i64 r45.Num, .int .i64 r45.Den]) r48 hx49 S1) rfl (by decide) (fun _ a w S => ?_)
  refine sMove (.tuple #[.int .i64 r48.1, .int .i64 r48.2]) S (wN rfl) (.inl rfl) (by kernel_rfl) rfl (by decide) (fun a S => ?_)
  refine sExtract (vs := [.int .i64 r48.1, .int .i64 r48.2]) (.int .i64 r48.1) S (wN rfl) rfl (by kernel_rfl) rfl rfl (by decide) (fun a S => ?_)
  refine sExtract (vs := [.int .i64 r48.1, .int .i64 r48.2]) (.int .i64 r48.2) S (wN rfl) rfl (by kernel_rfl) rfl rfl (by decide) (fun a S => ?_)
  refine sMove (.int .i64 r48.1) S (wN rfl) (.inr rfl) (by kernel_rfl) rfl (by decide) (fun a S => ?_)
  refine sMove (.int .i64 r48.2) S (wN rfl) (.inr rfl) (by kernel_rfl) rfl (by decide) (fun a S => ?_)
  refine leafL (leafT (hK44 _ _ ?_))
  refine sSeq (fun K50 hK50 => ?_)
  refine sRegion ?_
  obtain ⟨r51, hx52, h⟩ := bindSome h
  have hv_r51 : r51 = (api_Ratio.mk 1 1) := Option.some.inj (hx52.symm.trans (by exact kc_raddlelaw24_SettNames_7))
  refine sCall (X := Value) (f := 24) (vs := [.int .i64 1, .int .i64 1]) (val := c_raddlelaw24_part_val r51) (B' := fun _ => []) (D' := c_raddlelaw24_part_D r51) [] [eBox b43 34 [.int .i64 r38.2.1.Num, .int .i64 r38.2.1.Den], eBox b42 34 [.int .i64 r38.1.Num, .int .i64 r38.1.Den], eBox b36 34 [.int .i64 r31.2.1.Num, .int .i64 r31.2.1.Den], eBox b35 34 [.int .i64 r31.1.Num, .int .i64 r31.1.Den], eBox b24 34 [.int .i64 r19.2.1.Num, .int .i64 r19.2.1.Den], eBox b23 34 [.int .i64 r19.1.Num, .int .i64 r19.1.Den]] [] [0, 1, 2, 3, 4, 5] [] S (wN rfl) rfl callee24 (by kernel_rfl) (by decide) (by kernel_rfl) (by kernel_rfl) (fun E1 w1 S1 => c_raddlelaw24_part E1 w1 1 1 r51 hx52 S1) rfl (by decide) (fun u53 a w S => ?_)
  obtain rfl : u53 = .agg #[.int .i64 r51.Num, .int .i64 r51.Den] := S.mem.know (i := 0) (e := fRep r_api_Ratio (u53) r51) (by kernel_rfl)
  obtain ⟨r54, hx55, h⟩ := bindSome h
  have hv_r54 : r54 = (0, 2) := Option.some.inj (hx55.symm.trans (by rw [hv_r51]; exact kc_raddlelaw24_SettNames_8))
  have S1 := S.mem
  refine sCallQ (X := Unit) (f := 22) (vs := [.int .i64 (-1), .agg #[.int .i64 r51.Num, .int .i64 r51.Den]]) (val := fun _ => .tuple #[.int .i64 r54.1, .int .i64 r54.2]) S (wN rfl) rfl callee22 (by kernel_rfl) (S1.quiet [0] (by kernel_rfl)) (fun E1 w1 S1 => c_sett_Ends E1 w1 (-1) r51 (.agg #[.int .i64 r51.Num, .int .i64 r51.Den]) r54 hx55 S1) rfl (by decide) (fun _ a w S => ?_)
  refine sMove (.tuple #[.int .i64 r54.1, .int .i64 r54.2]) S (wN rfl) (.inl rfl) (by kernel_rfl) rfl (by decide) (fun a S => ?_)
  refine sExtract (vs := [.int .i64 r54.1, .int .i64 r54.2]) (.int .i64 r54.1) S (wN rfl) rfl (by kernel_rfl) rfl rfl (by decide) (fun a S => ?_)
  refine sExtract (vs := [.int .i64 r54.1, .int .i64 r54.2]) (.int .i64 r54.2) S (wN rfl) rfl (by kernel_rfl) rfl rfl (by decide) (fun a S => ?_)
  refine sMove (.int .i64 r54.1) S (wN rfl) (.inr rfl) (by kernel_rfl) rfl (by decide) (fun a S => ?_)
  refine sMove (.int .i64 r54.2) S (wN rfl) (.inr rfl) (by kernel_rfl) rfl (by decide) (fun a S => ?_)
  refine leafL (leafT (hK50 _ _ ?_))
  refine sSeq (fun K56 hK56 => ?_)
  refine sRegion ?_
  refine sCall (X := Value) (f := 24) (vs := [.int .i64 1, .int .i64 1]) (val := c_raddlelaw24_part_val r51) (B' := fun _ => []) (D' := c_raddlelaw24_part_D r51) [] [eBox b43 34 [.int .i64 r38.2.1.Num, .int .i64 r38.2.1.Den], eBox b42 34 [.int .i64 r38.1.Num, .int .i64 r38.1.Den], eBox b36 34 [.int .i64 r31.2.1.Num, .int .i64 r31.2.1.Den], eBox b35 34 [.int .i64 r31.1.Num, .int .i64 r31.1.Den], eBox b24 34 [.int .i64 r19.2.1.Num, .int .i64 r19.2.1.Den], eBox b23 34 [.int .i64 r19.1.Num, .int .i64 r19.1.Den]] [] [0, 1, 2, 3, 4, 5] [] S (wN rfl) rfl callee24 (by kernel_rfl) (by decide) (by kernel_rfl) (by kernel_rfl) (fun E1 w1 S1 => c_raddlelaw24_part E1 w1 1 1 r51 hx52 S1) rfl (by decide) (fun u57 a w S => ?_)
  obtain rfl : u57 = .agg #[.int .i64 r51.Num, .int .i64 r51.Den] := S.mem.know (i := 0) (e := fRep r_api_Ratio (u57) r51) (by kernel_rfl)
  obtain ⟨r58, hx59, h⟩ := bindSome h
  have hv_r58 : r58 = (0, 2) := Option.some.inj (hx59.symm.trans (by rw [hv_r51]; exact kc_raddlelaw24_SettNames_9))
  have S1 := S.mem
  refine sCallQ (X := Unit) (f := 22) (vs := [.int .i64 1000000001, .agg #[.int .i64 r51.Num, .int .i64 r51.Den]]) (val := fun _ => .tuple #[.int .i64 r58.1, .int .i64 r58.2]) S (wN rfl) rfl callee22 (by kernel_rfl) (S1.quiet [0] (by kernel_rfl)) (fun E1 w1 S1 => c_sett_Ends E1 w1 1000000001 r51 (.agg #[.int .i64 r51.Num, .int .i64 r51.Den]) r58 hx59 S1) rfl (by decide) (fun _ a w S => ?_)
  refine sMove (.tuple #[.int .i64 r58.1, .int .i64 r58.2]) S (wN rfl) (.inl rfl) (by kernel_rfl) rfl (by decide) (fun a S => ?_)
  refine sExtract (vs := [.int .i64 r58.1, .int .i64 r58.2]) (.int .i64 r58.1) S (wN rfl) rfl (by kernel_rfl) rfl rfl (by decide) (fun a S => ?_)
  refine sExtract (vs := [.int .i64 r58.1, .int .i64 r58.2]) (.int .i64 r58.2) S (wN rfl) rfl (by kernel_rfl) rfl rfl (by decide) (fun a S => ?_)
  refine sMove (.int .i64 r58.1) S (wN rfl) (.inr rfl) (by kernel_rfl) rfl (by decide) (fun a S => ?_)
  refine sMove (.int .i64 r58.2) S (wN rfl) (.inr rfl) (by kernel_rfl) rfl (by decide) (fun a S => ?_)
  refine leafL (leafT (hK56 _ _ ?_))
  refine sSeq (fun K60 hK60 => ?_)
  refine sRegion ?_
  obtain ⟨r61, hx62, h⟩ := bindSome h
  have hv_r61 : r61 = (api_Ratio.mk 1000000000 1) := Option.some.inj (hx62.symm.trans (by exact kc_raddlelaw24_SettNames_10))
  refine sCall (X := Value) (f := 24) (vs := [.int .i64 1000000000, .int .i64 1]) (val := c_raddlelaw24_part_val r61) (B' := fun _ => []) (D' := c_raddlelaw24_part_D r61) [] [eBox b43 34 [.int .i64 r38.2.1.Num, .int .i64 r38.2.1.Den], eBox b42 34 [.int .i64 r38.1.Num, .int .i64 r38.1.Den], eBox b36 34 [.int .i64 r31.2.1.Num, .int .i64 r31.2.1.Den], eBox b35 34 [.int .i64 r31.1.Num, .int .i64 r31.1.Den], eBox b24 34 [.int .i64 r19.2.1.Num, .int .i64 r19.2.1.Den], eBox b23 34 [.int .i64 r19.1.Num, .int .i64 r19.1.Den]] [] [0, 1, 2, 3, 4, 5] [] S (wN rfl) rfl callee24 (by kernel_rfl) (by decide) (by kernel_rfl) (by kernel_rfl) (fun E1 w1 S1 => c_raddlelaw24_part E1 w1 1000000000 1 r61 hx62 S1) rfl (by decide) (fun u63 a w S => ?_)
  obtain rfl : u63 = .agg #[.int .i64 r61.Num, .int .i64 r61.Den] := S.mem.know (i := 0) (e := fRep r_api_Ratio (u63) r61) (by kernel_rfl)
  obtain ⟨r64, hx65, h⟩ := bindSome h
  have hv_r64 : r64 = (1000000000000000, 0) := Option.some.inj (hx65.symm.trans (by rw [hv_r61]; exact kc_raddlelaw24_SettNames_11))
  have S1 := S.mem
  refine sCallQ (X := Unit) (f := 22) (vs := [.int .i64 1000000000, .agg #[.int .i64 r61.Num, .int .i64 r61.Den]]) (val := fun _ => .tuple #[.int .i64 r64.1, .int .i64 r64.2]) S (wN rfl) rfl callee22 (by kernel_rfl) (S1.quiet [0] (by kernel_rfl)) (fun E1 w1 S1 => c_sett_Ends E1 w1 1000000000 r61 (.agg #[.int .i64 r61.Num, .int .i64 r61.Den]) r64 hx65 S1) rfl (by decide) (fun _ a w S => ?_)
  refine sMove (.tuple #[.int .i64 r64.1, .int .i64 r64.2]) S (wN rfl) (.inl rfl) (by kernel_rfl) rfl (by decide) (fun a S => ?_)
  refine sExtract (vs := [.int .i64 r64.1, .int .i64 r64.2]) (.int .i64 r64.1) S (wN rfl) rfl (by kernel_rfl) rfl rfl (by decide) (fun a S => ?_)
  refine sExtract (vs := [.int .i64 r64.1, .int .i64 r64.2]) (.int .i64 r64.2) S (wN rfl) rfl (by kernel_rfl) rfl rfl (by decide) (fun a S => ?_)
  refine sMove (.int .i64 r64.1) S (wN rfl) (.inr rfl) (by kernel_rfl) rfl (by decide) (fun a S => ?_)
  refine sMove (.int .i64 r64.2) S (wN rfl) (.inr rfl) (by kernel_rfl) rfl (by decide) (fun a S => ?_)
  refine leafL (leafT (hK60 _ _ ?_))
  refine sSeq (fun K66 hK66 => ?_)
  refine sRegion ?_
  obtain ⟨r67, hx68, h⟩ := bindSome h
  have hv_r67 : r67 = (api_Ratio.mk 1 1000000000) := Option.some.inj (hx68.symm.trans (by exact kc_raddlelaw24_SettNames_12))
  refine sCall (X := Value) (f := 24) (vs := [.int .i64 1, .int .i64 1000000000]) (val := c_raddlelaw24_part_val r67) (B' := fun _ => []) (D' := c_raddlelaw24_part_D r67) [] [eBox b43 34 [.int .i64 r38.2.1.Num, .int .i64 r38.2.1.Den], eBox b42 34 [.int .i64 r38.1.Num, .int .i64 r38.1.Den], eBox b36 34 [.int .i64 r31.2.1.Num, .int .i64 r31.2.1.Den], eBox b35 34 [.int .i64 r31.1.Num, .int .i64 r31.1.Den], eBox b24 34 [.int .i64 r19.2.1.Num, .int .i64 r19.2.1.Den], eBox b23 34 [.int .i64 r19.1.Num, .int .i64 r19.1.Den]] [] [0, 1, 2, 3, 4, 5] [] S (wN rfl) rfl callee24 (by kernel_rfl) (by decide) (by kernel_rfl) (by kernel_rfl) (fun E1 w1 S1 => c_raddlelaw24_part E1 w1 1 1000000000 r67 hx68 S1) rfl (by decide) (fun u69 a w S => ?_)
  obtain rfl : u69 = .agg #[.int .i64 r67.Num, .int .i64 r67.Den] := S.mem.know (i := 0) (e := fRep r_api_Ratio (u69) r67) (by kernel_rfl)
  obtain ⟨r70, hx71, h⟩ := bindSome h
  have hv_r70 : r70 = (0, 16) := Option.some.inj (hx71.symm.trans (by rw [hv_r67]; exact kc_raddlelaw24_SettNames_13))
  have S1 := S.mem
  refine sCallQ (X := Unit) (f := 21) (vs := [.int .i64 1000000000, .agg #[.int .i64 r67.Num, .int .i64 r67.Den]]) (val := fun _ => .tuple #[.int .i64 r70.1, .int .i64 r70.2]) S (wN rfl) rfl callee21 (by kernel_rfl) (S1.quiet [0] (by kernel_rfl)) (fun E1 w1 S1 => c_sett_Width E1 w1 1000000000 r67 (.agg #[.int .i64 r67.Num, .int .i64 r67.Den]) r70 hx71 S1) rfl (by decide) (fun _ a w S => ?_)
  refine sMove (.tuple #[.int .i64 r70.1, .int .i64 r70.2]) S (wN rfl) (.inl rfl) (by kernel_rfl) rfl (by decide) (fun a S => ?_)
  refine sExtract (vs := [.int .i64 r70.1, .int .i64 r70.2]) (.int .i64 r70.1) S (wN rfl) rfl (by kernel_rfl) rfl rfl (by decide) (fun a S => ?_)
  refine sExtract (vs := [.int .i64 r70.1, .int .i64 r70.2]) (.int .i64 r70.2) S (wN rfl) rfl (by kernel_rfl) rfl rfl (by decide) (fun a S => ?_)
  refine sMove (.int .i64 r70.1) S (wN rfl) (.inr rfl) (by kernel_rfl) rfl (by decide) (fun a S => ?_)
  refine sMove (.int .i64 r70.2) S (wN rfl) (.inr rfl) (by kernel_rfl) rfl (by decide) (fun a S => ?_)
  refine leafL (leafT (hK66 _ _ ?_))
  refine sSeq (fun K72 hK72 => ?_)
  refine sRegion ?_
  refine sCall (X := Value) (f := 24) (vs := [.int .i64 1, .int .i64 1]) (val := c_raddlelaw24_part_val r51) (B' := fun _ => []) (D' := c_raddlelaw24_part_D r51) [] [eBox b43 34 [.int .i64 r38.2.1.Num, .int .i64 r38.2.1.Den], eBox b42 34 [.int .i64 r38.1.Num, .int .i64 r38.1.Den], eBox b36 34 [.int .i64 r31.2.1.Num, .int .i64 r31.2.1.Den], eBox b35 34 [.int .i64 r31.1.Num, .int .i64 r31.1.Den], eBox b24 34 [.int .i64 r19.2.1.Num, .int .i64 r19.2.1.Den], eBox b23 34 [.int .i64 r19.1.Num, .int .i64 r19.1.Den]] [] [0, 1, 2, 3, 4, 5] [] S (wN rfl) rfl callee24 (by kernel_rfl) (by decide) (by kernel_rfl) (by kernel_rfl) (fun E1 w1 S1 => c_raddlelaw24_part E1 w1 1 1 r51 hx52 S1) rfl (by decide) (fun u73 a w S => ?_)
  obtain rfl : u73 = .agg #[.int .i64 r51.Num, .int .i64 r51.Den] := S.mem.know (i := 0) (e := fRep r_api_Ratio (u73) r51) (by kernel_rfl)
  obtain ⟨r74, hx75, h⟩ := bindSome h
  have hv_r74 : r74 = (0, 16) := Option.some.inj (hx75.symm.trans (by rw [hv_r51]; exact kc_raddlelaw24_SettNames_14))
  have S1 := S.mem
  refine sCallQ (X := Unit) (f := 21) (vs := [.int .i64 1000001, .agg #[.int .i64 r51.Num, .int .i64 r51.Den]]) (val := fun _ => .tuple #[.int .i64 r74.1, .int .i64 r74.2]) S (wN rfl) rfl callee21 (by kernel_rfl) (S1.quiet [0] (by kernel_rfl)) (fun E1 w1 S1 => c_sett_Width E1 w1 1000001 r51 (.agg #[.int .i64 r51.Num, .int .i64 r51.Den]) r74 hx75 S1) rfl (by decide) (fun _ a w S => ?_)
  refine sMove (.tuple #[.int .i64 r74.1, .int .i64 r74.2]) S (wN rfl) (.inl rfl) (by kernel_rfl) rfl (by decide) (fun a S => ?_)
  refine sExtract (vs := [.int .i64 r74.1, .int .i64 r74.2]) (.int .i64 r74.1) S (wN rfl) rfl (by kernel_rfl) rfl rfl (by decide) (fun a S => ?_)
  refine sExtract (vs := [.int .i64 r74.1, .int .i64 r74.2]) (.int .i64 r74.2) S (wN rfl) rfl (by kernel_rfl) rfl rfl (by decide) (fun a S => ?_)
  refine sMove (.int .i64 r74.1) S (wN rfl) (.inr rfl) (by kernel_rfl) rfl (by decide) (fun a S => ?_)
  refine sMove (.int .i64 r74.2) S (wN rfl) (.inr rfl) (by kernel_rfl) rfl (by decide) (fun a S => ?_)
  refine leafL (leafT (hK72 _ _ ?_))
  refine sSeq (fun K76 hK76 => ?_)
  refine sRegion ?_
  refine sCall (X := Value) (f := 24) (vs := [.int .i64 1, .int .i64 1]) (val := c_raddlelaw24_part_val r51) (B' := fun _ => []) (D' := c_raddlelaw24_part_D r51) [] [eBox b43 34 [.int .i64 r38.2.1.Num, .int .i64 r38.2.1.Den], eBox b42 34 [.int .i64 r38.1.Num, .int .i64 r38.1.Den], eBox b36 34 [.int .i64 r31.2.1.Num, .int .i64 r31.2.1.Den], eBox b35 34 [.int .i64 r31.1.Num, .int .i64 r31.1.Den], eBox b24 34 [.int .i64 r19.2.1.Num, .int .i64 r19.2.1.Den], eBox b23 34 [.int .i64 r19.1.Num, .int .i64 r19.1.Den]] [] [0, 1, 2, 3, 4, 5] [] S (wN rfl) rfl callee24 (by kernel_rfl) (by decide) (by kernel_rfl) (by kernel_rfl) (fun E1 w1 S1 => c_raddlelaw24_part E1 w1 1 1 r51 hx52 S1) rfl (by decide) (fun u77 a w S => ?_)
  obtain rfl : u77 = .agg #[.int .i64 r51.Num, .int .i64 r51.Den] := S.mem.know (i := 0) (e := fRep r_api_Ratio (u77) r51) (by kernel_rfl)
  obtain ⟨r78, hx79, h⟩ := bindSome h
  have hv_r78 : r78 = (1000000000, 0) := Option.some.inj (hx79.symm.trans (by rw [hv_r51]; exact kc_raddlelaw24_SettNames_15))
  have S1 := S.mem
  refine sCallQ (X := Unit) (f := 21) (vs := [.int .i64 1000000, .agg #[.int .i64 r51.Num, .int .i64 r51.Den]]) (val := fun _ => .tuple #[.int .i64 r78.1, .int .i64 r78.2]) S (wN rfl) rfl callee21 (by kernel_rfl) (S1.quiet [0] (by kernel_rfl)) (fun E1 w1 S1 => c_sett_Width E1 w1 1000000 r51 (.agg #[.int .i64 r51.Num, .int .i64 r51.Den]) r78 hx79 S1) rfl (by decide) (fun _ a w S => ?_)
  refine sMove (.tuple #[.int .i64 r78.1, .int .i64 r78.2]) S (wN rfl) (.inl rfl) (by kernel_rfl) rfl (by decide) (fun a S => ?_)
  refine sExtract (vs := [.int .i64 r78.1, .int .i64 r78.2]) (.int .i64 r78.1) S (wN rfl) rfl (by kernel_rfl) rfl rfl (by decide) (fun a S => ?_)
  refine sExtract (vs := [.int .i64 r78.1, .int .i64 r78.2]) (.int .i64 r78.2) S (wN rfl) rfl (by kernel_rfl) rfl rfl (by decide) (fun a S => ?_)
  refine sMove (.int .i64 r78.1) S (wN rfl) (.inr rfl) (by kernel_rfl) rfl (by decide) (fun a S => ?_)
  refine sMove (.int .i64 r78.2) S (wN rfl) (.inr rfl) (by kernel_rfl) rfl (by decide) (fun a S => ?_)
  refine leafL (leafT (hK76 _ _ ?_))
  refine sSeq (fun K80 hK80 => ?_)
  refine sRegion ?_
  refine sCall (X := Value) (f := 24) (vs := [.int .i64 1, .int .i64 1000000000]) (val := c_raddlelaw24_part_val r67) (B' := fun _ => []) (D' := c_raddlelaw24_part_D r67) [] [eBox b43 34 [.int .i64 r38.2.1.Num, .int .i64 r38.2.1.Den], eBox b42 34 [.int .i64 r38.1.Num, .int .i64 r38.1.Den], eBox b36 34 [.int .i64 r31.2.1.Num, .int .i64 r31.2.1.Den], eBox b35 34 [.int .i64 r31.1.Num, .int .i64 r31.1.Den], eBox b24 34 [.int .i64 r19.2.1.Num, .int .i64 r19.2.1.Den], eBox b23 34 [.int .i64 r19.1.Num, .int .i64 r19.1.Den]] [] [0, 1, 2, 3, 4, 5] [] S (wN rfl) rfl callee24 (by kernel_rfl) (by decide) (by kernel_rfl) (by kernel_rfl) (fun E1 w1 S1 => c_raddlelaw24_part E1 w1 1 1000000000 r67 hx68 S1) rfl (by decide) (fun u81 a w S => ?_)
  obtain rfl : u81 = .agg #[.int .i64 r67.Num, .int .i64 r67.Den] := S.mem.know (i := 0) (e := fRep r_api_Ratio (u81) r67) (by kernel_rfl)
  obtain ⟨r82, hx83, h⟩ := bindSome h
  have hv_r82 : r82 = (0, 0) := Option.some.inj (hx83.symm.trans (by rw [hv_r67]; exact kc_raddlelaw24_SettNames_16))
  have S1 := S.mem
  refine sCallQ (X := Unit) (f := 21) (vs := [.int .i64 0, .agg #[.int .i64 r67.Num, .int .i64 r67.Den]]) (val := fun _ => .tuple #[.int .i64 r82.1, .int .i64 r82.2]) S (wN rfl) rfl callee21 (by kernel_rfl) (S1.quiet [0] (by kernel_rfl)) (fun E1 w1 S1 => c_sett_Width E1 w1 0 r67 (.agg #[.int .i64 r67.Num, .int .i64 r67.Den]) r82 hx83 S1) rfl (by decide) (fun _ a w S => ?_)
  refine sMove (.tuple #[.int .i64 r82.1, .int .i64 r82.2]) S (wN rfl) (.inl rfl) (by kernel_rfl) rfl (by decide) (fun a S => ?_)
  refine sExtract (vs := [.int .i64 r82.1, .int .i64 r82.2]) (.int .i64 r82.1) S (wN rfl) rfl (by kernel_rfl) rfl rfl (by decide) (fun a S => ?_)
  refine sExtract (vs := [.int .i64 r82.1, .int .i64 r82.2]) (.int .i64 r82.2) S (wN rfl) rfl (by kernel_rfl) rfl rfl (by decide) (fun a S => ?_)
  refine sMove (.int .i64 r82.1) S (wN rfl) (.inr rfl) (by kernel_rfl) rfl (by decide) (fun a S => ?_)
  refine sMove (.int .i64 r82.2) S (wN rfl) (.inr rfl) (by kernel_rfl) rfl (by decide) (fun a S => ?_)
  refine leafL (leafT (hK80 _ _ ?_))
  refine sSeq (fun K84 hK84 => ?_)
  refine sRegion ?_
  obtain ⟨r85, hx86, h⟩ := bindSome h
  have hv_r85 : r85 = (api_Ratio.mk 11 1) := Option.some.inj (hx86.symm.trans (by exact kc_raddlelaw24_SettNames_17))
  refine sCall (X := Value) (f := 24) (vs := [.int .i64 11, .int .i64 1]) (val := c_raddlelaw24_part_val r85) (B' := fun _ => []) (D' := c_raddlelaw24_part_D r85) [] [eBox b43 34 [.int .i64 r38.2.1.Num, .int .i64 r38.2.1.Den], eBox b42 34 [.int .i64 r38.1.Num, .int .i64 r38.1.Den], eBox b36 34 [.int .i64 r31.2.1.Num, .int .i64 r31.2.1.Den], eBox b35 34 [.int .i64 r31.1.Num, .int .i64 r31.1.Den], eBox b24 34 [.int .i64 r19.2.1.Num, .int .i64 r19.2.1.Den], eBox b23 34 [.int .i64 r19.1.Num, .int .i64 r19.1.Den]] [] [0, 1, 2, 3, 4, 5] [] S (wN rfl) rfl callee24 (by kernel_rfl) (by decide) (by kernel_rfl) (by kernel_rfl) (fun E1 w1 S1 => c_raddlelaw24_part E1 w1 11 1 r85 hx86 S1) rfl (by decide) (fun u87 a w S => ?_)
  obtain rfl : u87 = .agg #[.int .i64 r85.Num, .int .i64 r85.Den] := S.mem.know (i := 0) (e := fRep r_api_Ratio (u87) r85) (by kernel_rfl)
  obtain ⟨r88, hx89, h⟩ := bindSome h
  have hv_r88 : r88 = (0, 8) := Option.some.inj (hx89.symm.trans (by rw [hv_r85]; exact kc_raddlelaw24_SettNames_18))
  have S1 := S.mem
  refine sCallQ (X := Unit) (f := 25) (vs := [.int .i64 1, .agg #[.int .i64 r85.Num, .int .i64 r85.Den]]) (val := fun _ => .tuple #[.int .i64 r88.1, .int .i64 r88.2]) S (wN rfl) rfl callee25 (by kernel_rfl) (S1.quiet [0] (by kernel_rfl)) (fun E1 w1 S1 => c_sett_Need E1 w1 1 r85 (.agg #[.int .i64 r85.Num, .int .i64 r85.Den]) r88 hx89 S1) rfl (by decide) (fun _ a w S => ?_)
  refine sMove (.tuple #[.int .i64 r88.1, .int .i64 r88.2]) S (wN rfl) (.inl rfl) (by kernel_rfl) rfl (by decide) (fun a S => ?_)
  refine sExtract (vs := [.int .i64 r88.1, .int .i64 r88.2]) (.int .i64 r88.1) S (wN rfl) rfl (by kernel_rfl) rfl rfl (by decide) (fun a S => ?_)
  refine sExtract (vs := [.int .i64 r88.1, .int .i64 r88.2]) (.int .i64 r88.2) S (wN rfl) rfl (by kernel_rfl) rfl rfl (by decide) (fun a S => ?_)
  refine sMove (.int .i64 r88.1) S (wN rfl) (.inr rfl) (by kernel_rfl) rfl (by decide) (fun a S => ?_)
  refine sMove (.int .i64 r88.2) S (wN rfl) (.inr rfl) (by kernel_rfl) rfl (by decide) (fun a S => ?_)
  refine leafL (leafT (hK84 _ _ ?_))
  refine sSeq (fun K90 hK90 => ?_)
  refine sRegion ?_
  obtain ⟨r91, hx92, h⟩ := bindSome h
  have hv_r91 : r91 = (api_Ratio.mk 10 1) := Option.some.inj (hx92.symm.trans (by exact kc_raddlelaw24_SettNames_19))
  refine sCall (X := Value) (f := 24) (vs := [.int .i64 10, .int .i64 1]) (val := c_raddlelaw24_part_val r91) (B' := fun _ => []) (D' := c_raddlelaw24_part_D r91) [] [eBox b43 34 [.int .i64 r38.2.1.Num, .int .i64 r38.2.1.Den], eBox b42 34 [.int .i64 r38.1.Num, .int .i64 r38.1.Den], eBox b36 34 [.int .i64 r31.2.1.Num, .int .i64 r31.2.1.Den], eBox b35 34 [.int .i64 r31.1.Num, .int .i64 r31.1.Den], eBox b24 34 [.int .i64 r19.2.1.Num, .int .i64 r19.2.1.Den], eBox b23 34 [.int .i64 r19.1.Num, .int .i64 r19.1.Den]] [] [0, 1, 2, 3, 4, 5] [] S (wN rfl) rfl callee24 (by kernel_rfl) (by decide) (by kernel_rfl) (by kernel_rfl) (fun E1 w1 S1 => c_raddlelaw24_part E1 w1 10 1 r91 hx92 S1) rfl (by decide) (fun u93 a w S => ?_)
  obtain rfl : u93 = .agg #[.int .i64 r91.Num, .int .i64 r91.Den] := S.mem.know (i := 0) (e := fRep r_api_Ratio (u93) r91) (by kernel_rfl)
  obtain ⟨r94, hx95, h⟩ := bindSome h
  have hv_r94 : r94 = (11000000000, 0) := Option.some.inj (hx95.symm.trans (by rw [hv_r91]; exact kc_raddlelaw24_SettNames_20))
  have S1 := S.mem
  refine sCallQ (X := Unit) (f := 25) (vs := [.int .i64 1000000000, .agg #[.int .i64 r91.Num, .int .i64 r91.Den]]) (val := fun _ => .tuple #[.int .i64 r94.1, .int .i64 r94.2]) S (wN rfl) rfl callee25 (by kernel_rfl) (S1.quiet [0] (by kernel_rfl)) (fun E1 w1 S1 => c_sett_Need E1 w1 1000000000 r91 (.agg #[.int .i64 r91.Num, .int .i64 r91.Den]) r94 hx95 S1) rfl (by decide) (fun _ a w S => ?_)
  refine sMove (.tuple #[.int .i64 r94.1, .int .i64 r94.2]) S (wN rfl) (.inl rfl) (by kernel_rfl) rfl (by decide) (fun a S => ?_)
  refine sExtract (vs := [.int .i64 r94.1, .int .i64 r94.2]) (.int .i64 r94.1) S (wN rfl) rfl (by kernel_rfl) rfl rfl (by decide) (fun a S => ?_)
  refine sExtract (vs := [.int .i64 r94.1, .int .i64 r94.2]) (.int .i64 r94.2) S (wN rfl) rfl (by kernel_rfl) rfl rfl (by decide) (fun a S => ?_)
  refine sMove (.int .i64 r94.1) S (wN rfl) (.inr rfl) (by kernel_rfl) rfl (by decide) (fun a S => ?_)
  refine sMove (.int .i64 r94.2) S (wN rfl) (.inr rfl) (by kernel_rfl) rfl (by decide) (fun a S => ?_)
  refine leafL (leafT (hK90 _ _ ?_))
  refine sSeq (fun K96 hK96 => ?_)
  refine sRegion ?_
  refine sCall (X := Value) (f := 24) (vs := [.int .i64 11, .int .i64 1]) (val := c_raddlelaw24_part_val r85) (B' := fun _ => []) (D' := c_raddlelaw24_part_D r85) [] [eBox b43 34 [.int .i64 r38.2.1.Num, .int .i64 r38.2.1.Den], eBox b42 34 [.int .i64 r38.1.Num, .int .i64 r38.1.Den], eBox b36 34 [.int .i64 r31.2.1.Num, .int .i64 r31.2.1.Den], eBox b35 34 [.int .i64 r31.1.Num, .int .i64 r31.1.Den], eBox b24 34 [.int .i64 r19.2.1.Num, .int .i64 r19.2.1.Den], eBox b23 34 [.int .i64 r19.1.Num, .int .i64 r19.1.Den]] [] [0, 1, 2, 3, 4, 5] [] S (wN rfl) rfl callee24 (by kernel_rfl) (by decide) (by kernel_rfl) (by kernel_rfl) (fun E1 w1 S1 => c_raddlelaw24_part E1 w1 11 1 r85 hx86 S1) rfl (by decide) (fun u97 a w S => ?_)
  obtain rfl : u97 = .agg #[.int .i64 r85.Num, .int .i64 r85.Den] := S.mem.know (i := 0) (e := fRep r_api_Ratio (u97) r85) (by kernel_rfl)
  obtain ⟨r98, hx99, h⟩ := bindSome h
  have hv_r98 : r98 = (0, 8) := Option.some.inj (hx99.symm.trans (by rw [hv_r85]; exact kc_raddlelaw24_SettNames_21))
  have S1 := S.mem
  refine sCallQ (X := Unit) (f := 25) (vs := [.int .i64 (-1), .agg #[.int .i64 r85.Num, .int .i64 r85.Den]]) (val := fun _ => .tuple #[.int .i64 r98.1, .int .i64 r98.2]) S (wN rfl) rfl callee25 (by kernel_rfl) (S1.quiet [0] (by kernel_rfl)) (fun E1 w1 S1 => c_sett_Need E1 w1 (-1) r85 (.agg #[.int .i64 r85.Num, .int .i64 r85.Den]) r98 hx99 S1) rfl (by decide) (fun _ a w S => ?_)
  refine sMove (.tuple #[.int .i64 r98.1, .int .i64 r98.2]) S (wN rfl) (.inl rfl) (by kernel_rfl) rfl (by decide) (fun a S => ?_)
  refine sExtract (vs := [.int .i64 r98.1, .int .i64 r98.2]) (.int .i64 r98.1) S (wN rfl) rfl (by kernel_rfl) rfl rfl (by decide) (fun a S => ?_)
  refine sExtract (vs := [.int .i64 r98.1, .int .i64 r98.2]) (.int .i64 r98.2) S (wN rfl) rfl (by kernel_rfl) rfl rfl (by decide) (fun a S => ?_)
  refine sMove (.int .i64 r98.1) S (wN rfl) (.inr rfl) (by kernel_rfl) rfl (by decide) (fun a S => ?_)
  refine sMove (.int .i64 r98.2) S (wN rfl) (.inr rfl) (by kernel_rfl) rfl (by decide) (fun a S => ?_)
  refine leafL (leafT (hK96 _ _ ?_))
  refine sSeq (fun K100 hK100 => ?_)
  refine sRegion ?_
  refine sCall (X := Value) (f := 24) (vs := [.int .i64 10, .int .i64 1]) (val := c_raddlelaw24_part_val r91) (B' := fun _ => []) (D' := c_raddlelaw24_part_D r91) [] [eBox b43 34 [.int .i64 r38.2.1.Num, .int .i64 r38.2.1.Den], eBox b42 34 [.int .i64 r38.1.Num, .int .i64 r38.1.Den], eBox b36 34 [.int .i64 r31.2.1.Num, .int .i64 r31.2.1.Den], eBox b35 34 [.int .i64 r31.1.Num, .int .i64 r31.1.Den], eBox b24 34 [.int .i64 r19.2.1.Num, .int .i64 r19.2.1.Den], eBox b23 34 [.int .i64 r19.1.Num, .int .i64 r19.1.Den]] [] [0, 1, 2, 3, 4, 5] [] S (wN rfl) rfl callee24 (by kernel_rfl) (by decide) (by kernel_rfl) (by kernel_rfl) (fun E1 w1 S1 => c_raddlelaw24_part E1 w1 10 1 r91 hx92 S1) rfl (by decide) (fun u101 a w S => ?_)
  obtain rfl : u101 = .agg #[.int .i64 r91.Num, .int .i64 r91.Den] := S.mem.know (i := 0) (e := fRep r_api_Ratio (u101) r91) (by kernel_rfl)
  obtain ⟨r102, hx103, h⟩ := bindSome h
  have hv_r102 : r102 = (90909090, 0) := Option.some.inj (hx103.symm.trans (by rw [hv_r91]; exact kc_raddlelaw24_SettNames_22))
  have S1 := S.mem
  refine sCallQ (X := Unit) (f := 26) (vs := [.int .i64 1000000000, .agg #[.int .i64 r91.Num, .int .i64 r91.Den]]) (val := fun _ => .tuple #[.int .i64 r102.1, .int .i64 r102.2]) S (wN rfl) rfl callee26 (by kernel_rfl) (S1.quiet [0] (by kernel_rfl)) (fun E1 w1 S1 => c_sett_Cloth E1 w1 1000000000 r91 (.agg #[.int .i64 r91.Num, .int .i64 r91.Den]) r102 hx103 S1) rfl (by decide) (fun _ a w S => ?_)
  refine sMove (.tuple #[.int .i64 r102.1, .int .i64 r102.2]) S (wN rfl) (.inl rfl) (by kernel_rfl) rfl (by decide) (fun a S => ?_)
  refine sExtract (vs := [.int .i64 r102.1, .int .i64 r102.2]) (.int .i64 r102.1) S (wN rfl) rfl (by kernel_rfl) rfl rfl (by decide) (fun a S => ?_)
  refine sExtract (vs := [.int .i64 r102.1, .int .i64 r102.2]) (.int .i64 r102.2) S (wN rfl) rfl (by kernel_rfl) rfl rfl (by decide) (fun a S => ?_)
  refine sMove (.int .i64 r102.1) S (wN rfl) (.inr rfl) (by kernel_rfl) rfl (by decide) (fun a S => ?_)
  refine sMove (.int .i64 r102.2) S (wN rfl) (.inr rfl) (by kernel_rfl) rfl (by decide) (fun a S => ?_)
  refine leafL (leafT (hK100 _ _ ?_))
  refine sSeq (fun K104 hK104 => ?_)
  refine sRegion ?_
  obtain ⟨r105, hx106, h⟩ := bindSome h
  have hv_r105 : r105 = (api_Ratio.mk (-1) 2) := Option.some.inj (hx106.symm.trans (by exact kc_raddlelaw24_SettNames_23))
  refine sCall (X := Value) (f := 24) (vs := [.int .i64 (-1), .int .i64 2]) (val := c_raddlelaw24_part_val r105) (B' := fun _ => []) (D' := c_raddlelaw24_part_D r105) [] [eBox b43 34 [.int .i64 r38.2.1.Num, .int .i64 r38.2.1.Den], eBox b42 34 [.int .i64 r38.1.Num, .int .i64 r38.1.Den], eBox b36 34 [.int .i64 r31.2.1.Num, .int .i64 r31.2.1.Den], eBox b35 34 [.int .i64 r31.1.Num, .int .i64 r31.1.Den], eBox b24 34 [.int .i64 r19.2.1.Num, .int .i64 r19.2.1.Den], eBox b23 34 [.int .i64 r19.1.Num, .int .i64 r19.1.Den]] [] [0, 1, 2, 3, 4, 5] [] S (wN rfl) rfl callee24 (by kernel_rfl) (by decide) (by kernel_rfl) (by kernel_rfl) (fun E1 w1 S1 => c_raddlelaw24_part E1 w1 (-1) 2 r105 hx106 S1) rfl (by decide) (fun u107 a w S => ?_)
  obtain rfl : u107 = .agg #[.int .i64 r105.Num, .int .i64 r105.Den] := S.mem.know (i := 0) (e := fRep r_api_Ratio (u107) r105) (by kernel_rfl)
  obtain ⟨r108, hx109, h⟩ := bindSome h
  have hv_r108 : r108 = (0, 8) := Option.some.inj (hx109.symm.trans (by rw [hv_r105]; exact kc_raddlelaw24_SettNames_24))
  have S1 := S.mem
  refine sCallQ (X := Unit) (f := 26) (vs := [.int .i64 1, .agg #[.int .i64 r105.Num, .int .i64 r105.Den]]) (val := fun _ => .tuple #[.int .i64 r108.1, .int .i64 r108.2]) S (wN rfl) rfl callee26 (by kernel_rfl) (S1.quiet [0] (by kernel_rfl)) (fun E1 w1 S1 => c_sett_Cloth E1 w1 1 r105 (.agg #[.int .i64 r105.Num, .int .i64 r105.Den]) r108 hx109 S1) rfl (by decide) (fun _ a w S => ?_)
  refine sMove (.tuple #[.int .i64 r108.1, .int .i64 r108.2]) S (wN rfl) (.inl rfl) (by kernel_rfl) rfl (by decide) (fun a S => ?_)
  refine sExtract (vs := [.int .i64 r108.1, .int .i64 r108.2]) (.int .i64 r108.1) S (wN rfl) rfl (by kernel_rfl) rfl rfl (by decide) (fun a S => ?_)
  refine sExtract (vs := [.int .i64 r108.1, .int .i64 r108.2]) (.int .i64 r108.2) S (wN rfl) rfl (by kernel_rfl) rfl rfl (by decide) (fun a S => ?_)
  refine sMove (.int .i64 r108.1) S (wN rfl) (.inr rfl) (by kernel_rfl) rfl (by decide) (fun a S => ?_)
  refine sMove (.int .i64 r108.2) S (wN rfl) (.inr rfl) (by kernel_rfl) rfl (by decide) (fun a S => ?_)
  refine leafL (leafT (hK104 _ _ ?_))
  refine sSeq (fun K110 hK110 => ?_)
  refine sRegion ?_
  obtain ⟨r111, hx112, h⟩ := bindSome h
  have hv_r111 : r111 = (api_Grid.mk 1 1 [true]) := Option.some.inj (hx112.symm.trans (by exact kc_raddlelaw24_SettNames_25))
  refine sCall (X := Value) (f := 23) (vs := [.int .i64 1, .int .i64 1, .int .i64 1]) (val := c_raddlelaw24_cloth_val r111) (B' := fun _ => []) (D' := c_raddlelaw24_cloth_D r111) [] [eBox b43 34 [.int .i64 r38.2.1.Num, .int .i64 r38.2.1.Den], eBox b42 34 [.int .i64 r38.1.Num, .int .i64 r38.1.Den], eBox b36 34 [.int .i64 r31.2.1.Num, .int .i64 r31.2.1.Den], eBox b35 34 [.int .i64 r31.1.Num, .int .i64 r31.1.Den], eBox b24 34 [.int .i64 r19.2.1.Num, .int .i64 r19.2.1.Den], eBox b23 34 [.int .i64 r19.1.Num, .int .i64 r19.1.Den]] [] [0, 1, 2, 3, 4, 5] [] S (wN rfl) rfl callee23 (by kernel_rfl) (by decide) (by kernel_rfl) (by kernel_rfl) (fun E1 w1 S1 => c_raddlelaw24_cloth E1 w1 1 1 1 r111 hx112 S1) rfl (by decide) (fun u113 a w S => ?_)
  obtain ⟨u114, rfl, hu115⟩ := S.mem.know (i := 0) (e := fRep r_api_Grid (u113) r111) (by kernel_rfl)
  have S := S.learn (fRep (rL rB) u114 r111.Bits) hu115
  obtain ⟨ad116, cp117, _, rfl, _⟩ := hu115
  obtain ⟨r118, hx119, h⟩ := bindSome h
  have hv_r118 : r118 = ([0], ([0], 0)) := Option.some.inj (hx119.symm.trans (by rw [hv_r111]; exact kc_raddlelaw24_SettNames_26))
  refine sCall (X := Value × Value) (f := 11) (vs := [.agg #[.int .i64 r111.W, .int .i64 r111.H, .slice ad116 r111.Bits.length cp117]]) (val := c_sett_Turns_val r118) (B' := fun _ => []) (D' := c_sett_Turns_D r118) [] [eBox b43 34 [.int .i64 r38.2.1.Num, .int .i64 r38.2.1.Den], eBox b42 34 [.int .i64 r38.1.Num, .int .i64 r38.1.Den], eBox b36 34 [.int .i64 r31.2.1.Num, .int .i64 r31.2.1.Den], eBox b35 34 [.int .i64 r31.1.Num, .int .i64 r31.1.Den], eBox b24 34 [.int .i64 r19.2.1.Num, .int .i64 r19.2.1.Den], eBox b23 34 [.int .i64 r19.1.Num, .int .i64 r19.1.Den]] [fRep r_api_Grid (.agg #[.int .i64 r111.W, .int .i64 r111.H, .slice ad116 r111.Bits.length cp117]) r111] [0, 1, 2, 3, 4, 5] [1] S (wN rfl) rfl callee11 (by kernel_rfl) (by decide) (by kernel_rfl) (by kernel_rfl) (fun E1 w1 S1 => c_sett_Turns E1 w1 r111 (.agg #[.int .i64 r111.W, .int .i64 r111.H, .slice ad116 r111.Bits.length cp117]) r118 hx119 S1) rfl (by decide) (fun xx a w S => ?_)
  obtain ⟨u120, u121⟩ := xx
  obtain ⟨ad122, cp123, _, rfl, _⟩ := S.mem.know (i := 0) (e := fRep (rL (rI .i64)) (u120) r118.1) (by kernel_rfl)
  obtain ⟨ad124, cp125, _, rfl, _⟩ := S.mem.know (i := 1) (e := fRep (rL (rI .i64)) (u121) r118.2.1) (by kernel_rfl)
  refine sMove (.tuple #[.slice ad122 r118.1.length cp123, .slice ad124 r118.2.1.length cp125, .int .i64 r118.2.2]) S (wN rfl) (.inl rfl) (by kernel_rfl) rfl (by decide) (fun a S => ?_)
  refine sExtract (vs := [.slice ad122 r118.1.length cp123, .slice ad124 r118.2.1.length cp125, .int .i64 r118.2.2]) (.slice ad122 r118.1.length cp123) S (wN rfl) rfl (by kernel_rfl) rfl rfl (by decide) (fun a S => ?_)
  refine sExtract (vs := [.slice ad122 r118.1.length cp123, .slice ad124 r118.2.1.length cp125, .int .i64 r118.2.2]) (.slice ad124 r118.2.1.length cp125) S (wN rfl) rfl (by kernel_rfl) rfl rfl (by decide) (fun a S => ?_)
  refine sExtract (vs := [.slice ad122 r118.1.length cp123, .slice ad124 r118.2.1.length cp125, .int .i64 r118.2.2]) (.int .i64 r118.2.2) S (wN rfl) rfl (by kernel_rfl) rfl rfl (by decide) (fun a S => ?_)
  refine sMove (.slice ad122 r118.1.length cp123) S (wN rfl) (.inr rfl) (by kernel_rfl) rfl (by decide) (fun a S => ?_)
  refine sMove (.slice ad124 r118.2.1.length cp125) S (wN rfl) (.inr rfl) (by kernel_rfl) rfl (by decide) (fun a S => ?_)
  refine sMove (.int .i64 r118.2.2) S (wN rfl) (.inr rfl) (by kernel_rfl) rfl (by decide) (fun a S => ?_)
  refine leafL (leafT (hK110 _ _ ?_))
  refine sSeq (fun K126 hK126 => ?_)
  refine sRegion ?_
  refine sMove (.bool true) S (wN rfl) (.inl rfl) (by kernel_rfl) rfl (by decide) (fun a S => ?_)
  obtain ⟨r127, hx128, h⟩ := bindSome h
  have hv_r127 : r127 = true := Option.some.inj (hx128.symm.trans (by exact kc_raddlelaw24_SettNames_27))
  have S1 := S.mem
  refine sCallQ (X := Unit) (f := 17) (vs := []) (val := fun _ => .bool r127) S (wG (c := true) 0 true 137 rfl rfl (by kernel_rfl) rfl) rfl callee17 (by kernel_rfl) (S1.quiet [] (by kernel_rfl)) (fun E1 w1 S1 => c_raddlelaw24_alive E1 w1  r127 hx128 S1) rfl (by decide) (fun _ a w S => ?_)
  refine sPickT (b := true) (.bool r127) S (wN rfl) rfl (by kernel_rfl) rfl (by kernel_rfl) rfl (by decide) (fun a S => ?_)
  refine sMove (.bool r127) S (wN rfl) (.inl rfl) (by kernel_rfl) rfl (by decide) (fun a S => ?_)
  rcases iteSome h with ⟨hc129, h⟩ | ⟨hc129, h⟩
  · refine sMove (.int .i64 r3.2.2) S (wG (c := r127) 3 true 140 rfl rfl (by kernel_rfl) hc129) (.inl rfl) (by kernel_rfl) rfl (by decide) (fun a S => ?_)
    refine sBin (.bool (r3.2.2 == 8)) S (wG (c := r127) 3 true 140 rfl rfl (by kernel_rfl) hc129) rfl (by kernel_rfl) (by kernel_rfl) (bEq _ _ _ _ .i64 r3.2.2 8) rfl (by decide) (fun a S => ?_)
    refine sPickT (b := r127) (.bool (r3.2.2 == 8)) S (wN rfl) rfl (by kernel_rfl) hc129 (by kernel_rfl) rfl (by decide) (fun a S => ?_)
    refine sMove (.bool (r3.2.2 == 8)) S (wN rfl) (.inl rfl) (by kernel_rfl) rfl (by decide) (fun a S => ?_)
    rcases iteSome h with ⟨hc130, h⟩ | ⟨hc130, h⟩
    · refine sMove (.int .i64 r19.2.2) S (wG (c := r3.2.2 == 8) 7 true 144 rfl rfl (by kernel_rfl) hc130) (.inl rfl) (by kernel_rfl) rfl (by decide) (fun a S => ?_)
      refine sBin (.bool (r19.2.2 == 2)) S (wG (c := r3.2.2 == 8) 7 true 144 rfl rfl (by kernel_rfl) hc130) rfl (by kernel_rfl) (by kernel_rfl) (bEq _ _ _ _ .i64 r19.2.2 2) rfl (by decide) (fun a S => ?_)
      refine sPickT (b := r3.2.2 == 8) (.bool (r19.2.2 == 2)) S (wN rfl) rfl (by kernel_rfl) hc130 (by kernel_rfl) rfl (by decide) (fun a S => ?_)
      refine sMove (.bool (r19.2.2 == 2)) S (wN rfl) (.inl rfl) (by kernel_rfl) rfl (by decide) (fun a S => ?_)
      rcases iteSome h with ⟨hc131, h⟩ | ⟨hc131, h⟩
      · refine sMove (.int .i64 r31.2.2) S (wG (c := r19.2.2 == 2) 11 true 148 rfl rfl (by kernel_rfl) hc131) (.inl rfl) (by kernel_rfl) rfl (by decide) (fun a S => ?_)
        refine sBin (.bool (r31.2.2 == 2)) S (wG (c := r19.2.2 == 2) 11 true 148 rfl rfl (by kernel_rfl) hc131) rfl (by kernel_rfl) (by kernel_rfl) (bEq _ _ _ _ .i64 r31.2.2 2) rfl (by decide) (fun a S => ?_)
        refine sPickT (b := r19.2.2 == 2) (.bool (r31.2.2 == 2)) S (wN rfl) rfl (by kernel_rfl) hc131 (by kernel_rfl) rfl (by decide) (fun a S => ?_)
        refine sMove (.bool (r31.2.2 == 2)) S (wN rfl) (.inl rfl) (by kernel_rfl) rfl (by decide) (fun a S => ?_)
        rcases iteSome h with ⟨hc132, h⟩ | ⟨hc132, h⟩
        · refine sMove (.int .i64 r38.2.2) S (wG (c := r31.2.2 == 2) 15 true 152 rfl rfl (by kernel_rfl) hc132) (.inl rfl) (by kernel_rfl) rfl (by decide) (fun a S => ?_)
          refine sBin (.bool (r38.2.2 == 8)) S (wG (c := r31.2.2 == 2) 15 true 152 rfl rfl (by kernel_rfl) hc132) rfl (by kernel_rfl) (by kernel_rfl) (bEq _ _ _ _ .i64 r38.2.2 8) rfl (by decide) (fun a S => ?_)
          refine sPickT (b := r31.2.2 == 2) (.bool (r38.2.2 == 8)) S (wN rfl) rfl (by kernel_rfl) hc132 (by kernel_rfl) rfl (by decide) (fun a S => ?_)
          refine sMove (.bool (r38.2.2 == 8)) S (wN rfl) (.inl rfl) (by kernel_rfl) rfl (by decide) (fun a S => ?_)
          rcases iteSome h with ⟨hc133, h⟩ | ⟨hc133, h⟩
          · refine sMove (.int .i64 r48.2) S (wG (c := r38.2.2 == 8) 19 true 156 rfl rfl (by kernel_rfl) hc133) (.inl rfl) (by kernel_rfl) rfl (by decide) (fun a S => ?_)
            refine sBin (.bool (r48.2 == 8)) S (wG (c := r38.2.2 == 8) 19 true 156 rfl rfl (by kernel_rfl) hc133) rfl (by kernel_rfl) (by kernel_rfl) (bEq _ _ _ _ .i64 r48.2 8) rfl (by decide) (fun a S => ?_)
            refine sPickT (b := r38.2.2 == 8) (.bool (r48.2 == 8)) S (wN rfl) rfl (by kernel_rfl) hc133 (by kernel_rfl) rfl (by decide) (fun a S => ?_)
            refine sMove (.bool (r48.2 == 8)) S (wN rfl) (.inl rfl) (by kernel_rfl) rfl (by decide) (fun a S => ?_)
            rcases iteSome h with ⟨hc134, h⟩ | ⟨hc134, h⟩
            · refine sMove (.int .i64 r54.2) S (wG (c := r48.2 == 8) 23 true 160 rfl rfl (by kernel_rfl) hc134) (.inl rfl) (by kernel_rfl) rfl (by decide) (fun a S => ?_)
              refine sBin (.bool (r54.2 == 2)) S (wG (c := r48.2 == 8) 23 true 160 rfl rfl (by kernel_rfl) hc134) rfl (by kernel_rfl) (by kernel_rfl) (bEq _ _ _ _ .i64 r54.2 2) rfl (by decide) (fun a S => ?_)
              refine sPickT (b := r48.2 == 8) (.bool (r54.2 == 2)) S (wN rfl) rfl (by kernel_rfl) hc134 (by kernel_rfl) rfl (by decide) (fun a S => ?_)
              refine sMove (.bool (r54.2 == 2)) S (wN rfl) (.inl rfl) (by kernel_rfl) rfl (by decide) (fun a S => ?_)
              rcases iteSome h with ⟨hc135, h⟩ | ⟨hc135, h⟩
              · refine sMove (.int .i64 r58.2) S (wG (c := r54.2 == 2) 27 true 164 rfl rfl (by kernel_rfl) hc135) (.inl rfl) (by kernel_rfl) rfl (by decide) (fun a S => ?_)
                refine sBin (.bool (r58.2 == 2)) S (wG (c := r54.2 == 2) 27 true 164 rfl rfl (by kernel_rfl) hc135) rfl (by kernel_rfl) (by kernel_rfl) (bEq _ _ _ _ .i64 r58.2 2) rfl (by decide) (fun a S => ?_)
                refine sPickT (b := r54.2 == 2) (.bool (r58.2 == 2)) S (wN rfl) rfl (by kernel_rfl) hc135 (by kernel_rfl) rfl (by decide) (fun a S => ?_)
                refine sMove (.bool (r58.2 == 2)) S (wN rfl) (.inl rfl) (by kernel_rfl) rfl (by decide) (fun a S => ?_)
                rcases iteSome h with ⟨hc136, h⟩ | ⟨hc136, h⟩
                · refine sMove (.int .i64 r64.2) S (wG (c := r58.2 == 2) 31 true 168 rfl rfl (by kernel_rfl) hc136) (.inl rfl) (by kernel_rfl) rfl (by decide) (fun a S => ?_)
                  refine sBin (.bool (r64.2 == 0)) S (wG (c := r58.2 == 2) 31 true 168 rfl rfl (by kernel_rfl) hc136) rfl (by kernel_rfl) (by kernel_rfl) (bEq _ _ _ _ .i64 r64.2 0) rfl (by decide) (fun a S => ?_)
                  refine sPickT (b := r58.2 == 2) (.bool (r64.2 == 0)) S (wN rfl) rfl (by kernel_rfl) hc136 (by kernel_rfl) rfl (by decide) (fun a S => ?_)
                  refine sMove (.bool (r64.2 == 0)) S (wN rfl) (.inl rfl) (by kernel_rfl) rfl (by decide) (fun a S => ?_)
                  rcases iteSome h with ⟨hc137, h⟩ | ⟨hc137, h⟩
                  · refine sMove (.int .i64 r64.1) S (wG (c := r64.2 == 0) 35 true 172 rfl rfl (by kernel_rfl) hc137) (.inl rfl) (by kernel_rfl) rfl (by decide) (fun a S => ?_)
                    refine sBin (.bool (r64.1 == 1000000000000000)) S (wG (c := r64.2 == 0) 35 true 172 rfl rfl (by kernel_rfl) hc137) rfl (by kernel_rfl) (by kernel_rfl) (bEq _ _ _ _ .i64 r64.1 1000000000000000) rfl (by decide) (fun a S => ?_)
                    refine sPickT (b := r64.2 == 0) (.bool (r64.1 == 1000000000000000)) S (wN rfl) rfl (by kernel_rfl) hc137 (by kernel_rfl) rfl (by decide) (fun a S => ?_)
                    refine sMove (.bool (r64.1 == 1000000000000000)) S (wN rfl) (.inl rfl) (by kernel_rfl) rfl (by decide) (fun a S => ?_)
                    rcases iteSome h with ⟨hc138, h⟩ | ⟨hc138, h⟩
                    · refine sMove (.int .i64 r70.2) S (wG (c := r64.1 == 1000000000000000) 39 true 176 rfl rfl (by kernel_rfl) hc138) (.inl rfl) (by kernel_rfl) rfl (by decide) (fun a S => ?_)
                      refine sBin (.bool (r70.2 == 16)) S (wG (c := r64.1 == 1000000000000000) 39 true 176 rfl rfl (by kernel_rfl) hc138) rfl (by kernel_rfl) (by kernel_rfl) (bEq _ _ _ _ .i64 r70.2 16) rfl (by decide) (fun a S => ?_)
                      refine sPickT (b := r64.1 == 1000000000000000) (.bool (r70.2 == 16)) S (wN rfl) rfl (by kernel_rfl) hc138 (by kernel_rfl) rfl (by decide) (fun a S => ?_)
                      refine sMove (.bool (r70.2 == 16)) S (wN rfl) (.inl rfl) (by kernel_rfl) rfl (by decide) (fun a S => ?_)
                      rcases iteSome h with ⟨hc139, h⟩ | ⟨hc139, h⟩
                      · refine sMove (.int .i64 r74.2) S (wG (c := r70.2 == 16) 43 true 180 rfl rfl (by kernel_rfl) hc139) (.inl rfl) (by kernel_rfl) rfl (by decide) (fun a S => ?_)
                        refine sBin (.bool (r74.2 == 16)) S (wG (c := r70.2 == 16) 43 true 180 rfl rfl (by kernel_rfl) hc139) rfl (by kernel_rfl) (by kernel_rfl) (bEq _ _ _ _ .i64 r74.2 16) rfl (by decide) (fun a S => ?_)
                        refine sPickT (b := r70.2 == 16) (.bool (r74.2 == 16)) S (wN rfl) rfl (by kernel_rfl) hc139 (by kernel_rfl) rfl (by decide) (fun a S => ?_)
                        refine sMove (.bool (r74.2 == 16)) S (wN rfl) (.inl rfl) (by kernel_rfl) rfl (by decide) (fun a S => ?_)
                        rcases iteSome h with ⟨hc140, h⟩ | ⟨hc140, h⟩
                        · refine sMove (.int .i64 r78.2) S (wG (c := r74.2 == 16) 47 true 184 rfl rfl (by kernel_rfl) hc140) (.inl rfl) (by kernel_rfl) rfl (by decide) (fun a S => ?_)
                          refine sBin (.bool (r78.2 == 0)) S (wG (c := r74.2 == 16) 47 true 184 rfl rfl (by kernel_rfl) hc140) rfl (by kernel_rfl) (by kernel_rfl) (bEq _ _ _ _ .i64 r78.2 0) rfl (by decide) (fun a S => ?_)
                          refine sPickT (b := r74.2 == 16) (.bool (r78.2 == 0)) S (wN rfl) rfl (by kernel_rfl) hc140 (by kernel_rfl) rfl (by decide) (fun a S => ?_)
                          refine sMove (.bool (r78.2 == 0)) S (wN rfl) (.inl rfl) (by kernel_rfl) rfl (by decide) (fun a S => ?_)
                          rcases iteSome h with ⟨hc141, h⟩ | ⟨hc141, h⟩
                          · refine sMove (.int .i64 r78.1) S (wG (c := r78.2 == 0) 51 true 188 rfl rfl (by kernel_rfl) hc141) (.inl rfl) (by kernel_rfl) rfl (by decide) (fun a S => ?_)
                            refine sBin (.bool (r78.1 == 1000000000)) S (wG (c := r78.2 == 0) 51 true 188 rfl rfl (by kernel_rfl) hc141) rfl (by kernel_rfl) (by kernel_rfl) (bEq _ _ _ _ .i64 r78.1 1000000000) rfl (by decide) (fun a S => ?_)
                            refine sPickT (b := r78.2 == 0) (.bool (r78.1 == 1000000000)) S (wN rfl) rfl (by kernel_rfl) hc141 (by kernel_rfl) rfl (by decide) (fun a S => ?_)
                            refine sMove (.bool (r78.1 == 1000000000)) S (wN rfl) (.inl rfl) (by kernel_rfl) rfl (by decide) (fun a S => ?_)
                            rcases iteSome h with ⟨hc142, h⟩ | ⟨hc142, h⟩
                            · refine sMove (.int .i64 r82.2) S (wG (c := r78.1 == 1000000000) 55 true 192 rfl rfl (by kernel_rfl) hc142) (.inl rfl) (by kernel_rfl) rfl (by decide) (fun a S => ?_)
                              refine sBin (.bool (r82.2 == 0)) S (wG (c := r78.1 == 1000000000) 55 true 192 rfl rfl (by kernel_rfl) hc142) rfl (by kernel_rfl) (by kernel_rfl) (bEq _ _ _ _ .i64 r82.2 0) rfl (by decide) (fun a S => ?_)
                              refine sPickT (b := r78.1 == 1000000000) (.bool (r82.2 == 0)) S (wN rfl) rfl (by kernel_rfl) hc142 (by kernel_rfl) rfl (by decide) (fun a S => ?_)
                              refine sMove (.bool (r82.2 == 0)) S (wN rfl) (.inl rfl) (by kernel_rfl) rfl (by decide) (fun a S => ?_)
                              rcases iteSome h with ⟨hc143, h⟩ | ⟨hc143, h⟩
                              · refine sMove (.int .i64 r82.1) S (wG (c := r82.2 == 0) 59 true 196 rfl rfl (by kernel_rfl) hc143) (.inl rfl) (by kernel_rfl) rfl (by decide) (fun a S => ?_)
                                refine sBin (.bool (r82.1 == 0)) S (wG (c := r82.2 == 0) 59 true 196 rfl rfl (by kernel_rfl) hc143) rfl (by kernel_rfl) (by kernel_rfl) (bEq _ _ _ _ .i64 r82.1 0) rfl (by decide) (fun a S => ?_)
                                refine sPickT (b := r82.2 == 0) (.bool (r82.1 == 0)) S (wN rfl) rfl (by kernel_rfl) hc143 (by kernel_rfl) rfl (by decide) (fun a S => ?_)
                                refine sMove (.bool (r82.1 == 0)) S (wN rfl) (.inl rfl) (by kernel_rfl) rfl (by decide) (fun a S => ?_)
                                rcases iteSome h with ⟨hc144, h⟩ | ⟨hc144, h⟩
                                · refine sMove (.int .i64 r88.2) S (wG (c := r82.1 == 0) 63 true 200 rfl rfl (by kernel_rfl) hc144) (.inl rfl) (by kernel_rfl) rfl (by decide) (fun a S => ?_)
                                  refine sBin (.bool (r88.2 == 8)) S (wG (c := r82.1 == 0) 63 true 200 rfl rfl (by kernel_rfl) hc144) rfl (by kernel_rfl) (by kernel_rfl) (bEq _ _ _ _ .i64 r88.2 8) rfl (by decide) (fun a S => ?_)
                                  refine sPickT (b := r82.1 == 0) (.bool (r88.2 == 8)) S (wN rfl) rfl (by kernel_rfl) hc144 (by kernel_rfl) rfl (by decide) (fun a S => ?_)
                                  refine sMove (.bool (r88.2 == 8)) S (wN rfl) (.inl rfl) (by kernel_rfl) rfl (by decide) (fun a S => ?_)
                                  rcases iteSome h with ⟨hc145, h⟩ | ⟨hc145, h⟩
                                  · refine sMove (.int .i64 r94.2) S (wG (c := r88.2 == 8) 67 true 204 rfl rfl (by kernel_rfl) hc145) (.inl rfl) (by kernel_rfl) rfl (by decide) (fun a S => ?_)
                                    refine sBin (.bool (r94.2 == 0)) S (wG (c := r88.2 == 8) 67 true 204 rfl rfl (by kernel_rfl) hc145) rfl (by kernel_rfl) (by kernel_rfl) (bEq _ _ _ _ .i64 r94.2 0) rfl (by decide) (fun a S => ?_)
                                    refine sPickT (b := r88.2 == 8) (.bool (r94.2 == 0)) S (wN rfl) rfl (by kernel_rfl) hc145 (by kernel_rfl) rfl (by decide) (fun a S => ?_)
                                    refine sMove (.bool (r94.2 == 0)) S (wN rfl) (.inl rfl) (by kernel_rfl) rfl (by decide) (fun a S => ?_)
                                    rcases iteSome h with ⟨hc146, h⟩ | ⟨hc146, h⟩
                                    · refine sMove (.int .i64 r94.1) S (wG (c := r94.2 == 0) 71 true 208 rfl rfl (by kernel_rfl) hc146) (.inl rfl) (by kernel_rfl) rfl (by decide) (fun a S => ?_)
                                      refine sBin (.bool (r94.1 == 11000000000)) S (wG (c := r94.2 == 0) 71 true 208 rfl rfl (by kernel_rfl) hc146) rfl (by kernel_rfl) (by kernel_rfl) (bEq _ _ _ _ .i64 r94.1 11000000000) rfl (by decide) (fun a S => ?_)
                                      refine sPickT (b := r94.2 == 0) (.bool (r94.1 == 11000000000)) S (wN rfl) rfl (by kernel_rfl) hc146 (by kernel_rfl) rfl (by decide) (fun a S => ?_)
                                      refine sMove (.bool (r94.1 == 11000000000)) S (wN rfl) (.inl rfl) (by kernel_rfl) rfl (by decide) (fun a S => ?_)
                                      rcases iteSome h with ⟨hc147, h⟩ | ⟨hc147, h⟩
                                      · refine sMove (.int .i64 r98.2) S (wG (c := r94.1 == 11000000000) 75 true 212 rfl rfl (by kernel_rfl) hc147) (.inl rfl) (by kernel_rfl) rfl (by decide) (fun a S => ?_)
                                        refine sBin (.bool (r98.2 == 8)) S (wG (c := r94.1 == 11000000000) 75 true 212 rfl rfl (by kernel_rfl) hc147) rfl (by kernel_rfl) (by kernel_rfl) (bEq _ _ _ _ .i64 r98.2 8) rfl (by decide) (fun a S => ?_)
                                        refine sPickT (b := r94.1 == 11000000000) (.bool (r98.2 == 8)) S (wN rfl) rfl (by kernel_rfl) hc147 (by kernel_rfl) rfl (by decide) (fun a S => ?_)
                                        refine sMove (.bool (r98.2 == 8)) S (wN rfl) (.inl rfl) (by kernel_rfl) rfl (by decide) (fun a S => ?_)
                                        rcases iteSome h with ⟨hc148, h⟩ | ⟨hc148, h⟩
                                        · refine sMove (.int .i64 r102.2) S (wG (c := r98.2 == 8) 79 true 216 rfl rfl (by kernel_rfl) hc148) (.inl rfl) (by kernel_rfl) rfl (by decide) (fun a S => ?_)
                                          refine sBin (.bool (r102.2 == 0)) S (wG (c := r98.2 == 8) 79 true 216 rfl rfl (by kernel_rfl) hc148) rfl (by kernel_rfl) (by kernel_rfl) (bEq _ _ _ _ .i64 r102.2 0) rfl (by decide) (fun a S => ?_)
                                          refine sPickT (b := r98.2 == 8) (.bool (r102.2 == 0)) S (wN rfl) rfl (by kernel_rfl) hc148 (by kernel_rfl) rfl (by decide) (fun a S => ?_)
                                          refine sMove (.bool (r102.2 == 0)) S (wN rfl) (.inl rfl) (by kernel_rfl) rfl (by decide) (fun a S => ?_)
                                          rcases iteSome h with ⟨hc149, h⟩ | ⟨hc149, h⟩
                                          · refine sMove (.int .i64 r102.1) S (wG (c := r102.2 == 0) 83 true 220 rfl rfl (by kernel_rfl) hc149) (.inl rfl) (by kernel_rfl) rfl (by decide) (fun a S => ?_)
                                            refine sBin (.bool (r102.1 == 90909090)) S (wG (c := r102.2 == 0) 83 true 220 rfl rfl (by kernel_rfl) hc149) rfl (by kernel_rfl) (by kernel_rfl) (bEq _ _ _ _ .i64 r102.1 90909090) rfl (by decide) (fun a S => ?_)
                                            refine sPickT (b := r102.2 == 0) (.bool (r102.1 == 90909090)) S (wN rfl) rfl (by kernel_rfl) hc149 (by kernel_rfl) rfl (by decide) (fun a S => ?_)
                                            refine sMove (.bool (r102.1 == 90909090)) S (wN rfl) (.inl rfl) (by kernel_rfl) rfl (by decide) (fun a S => ?_)
                                            rcases iteSome h with ⟨hc150, h⟩ | ⟨hc150, h⟩
                                            · refine sMove (.int .i64 r108.2) S (wG (c := r102.1 == 90909090) 87 true 224 rfl rfl (by kernel_rfl) hc150) (.inl rfl) (by kernel_rfl) rfl (by decide) (fun a S => ?_)
                                              refine sBin (.bool (r108.2 == 8)) S (wG (c := r102.1 == 90909090) 87 true 224 rfl rfl (by kernel_rfl) hc150) rfl (by kernel_rfl) (by kernel_rfl) (bEq _ _ _ _ .i64 r108.2 8) rfl (by decide) (fun a S => ?_)
                                              refine sPickT (b := r102.1 == 90909090) (.bool (r108.2 == 8)) S (wN rfl) rfl (by kernel_rfl) hc150 (by kernel_rfl) rfl (by decide) (fun a S => ?_)
                                              refine sMove (.bool (r108.2 == 8)) S (wN rfl) (.inl rfl) (by kernel_rfl) rfl (by decide) (fun a S => ?_)
                                              rcases iteSome h with ⟨hc151, h⟩ | ⟨hc151, h⟩
                                              · refine sMove (.int .i64 r118.2.2) S (wG (c := r108.2 == 8) 91 true 228 rfl rfl (by kernel_rfl) hc151) (.inl rfl) (by kernel_rfl) rfl (by decide) (fun a S => ?_)
                                                refine sBin (.bool (r118.2.2 == 0)) S (wG (c := r108.2 == 8) 91 true 228 rfl rfl (by kernel_rfl) hc151) rfl (by kernel_rfl) (by kernel_rfl) (bEq _ _ _ _ .i64 r118.2.2 0) rfl (by decide) (fun a S => ?_)
                                                refine sPickT (b := r108.2 == 8) (.bool (r118.2.2 == 0)) S (wN rfl) rfl (by kernel_rfl) hc151 (by kernel_rfl) rfl (by decide) (fun a S => ?_)
                                                refine sMove (.bool (r118.2.2 == 0)) S (wN rfl) (.inl rfl) (by kernel_rfl) rfl (by decide) (fun a S => ?_)
                                                rcases iteSome h with ⟨hc152, h⟩ | ⟨hc152, h⟩
                                                · refine sMove (.slice ad122 r118.1.length cp123) S (wG (c := r118.2.2 == 0) 95 true 232 rfl rfl (by kernel_rfl) hc152) (.inl rfl) (by kernel_rfl) rfl (by decide) (fun a S => ?_)
                                                  refine sLit (r := (rI .i64)) (T := 3) (xs := ([0] : List Int)) [(0, .int .i64 0)] 1 [.int .i64 0] [.int .i64 0] (.int .i64 0) 8 S (wG (c := r118.2.2 == 0) 95 true 232 rfl rfl (by kernel_rfl) hc152) rfl (by kernel_rfl) Try.underlying27 (by kernel_rfl) (by decide) (by decide) (by kernel_rfl) rfl (fun E1 w1 hE => All.cons rfl (All.nil _ _ _)) rfl rfl (by decide) (fun a w ad153 cp154 S => ?_)
                                                  obtain ⟨r155, hx156, h⟩ := bindSome h
                                                  have hv_r155 : r155 = true := Option.some.inj (hx156.symm.trans (by rw [hv_r118]; exact kc_raddlelaw24_SettNames_28))
                                                  have S1 := S.mem
                                                  have S1 := S1.shutR (r := (rI .i64)) (T := 3) (v := .slice ad153 ([0] : List Int).length cp154) (xs := ([0] : List Int)) 0 (by kernel_rfl)
                                                  refine sCallQ (X := Unit) (f := 15) (vs := [.slice ad122 r118.1.length cp123, .slice ad153 ([0] : List Int).length cp154]) (val := fun _ => .bool r155) S (wG (c := r118.2.2 == 0) 95 true 232 rfl rfl (by kernel_rfl) hc152) rfl callee15 (by kernel_rfl) (S1.quiet [1, 0] (by kernel_rfl)) (fun E1 w1 S1 => c_raddleref24_Same E1 w1 r118.1 (.slice ad122 r118.1.length cp123) ([0] : List Int) (.slice ad153 ([0] : List Int).length cp154) r155 hx156 S1) rfl (by decide) (fun _ a w S => ?_)
                                                  refine sPickT (b := r118.2.2 == 0) (.bool r155) S (wN rfl) rfl (by kernel_rfl) hc152 (by kernel_rfl) rfl (by decide) (fun a S => ?_)
                                                  refine sMove (.bool r155) S (wN rfl) (.inl rfl) (by kernel_rfl) rfl (by decide) (fun a S => ?_)
                                                  rcases iteSome h with ⟨hc157, h⟩ | ⟨hc157, h⟩
                                                  · refine sMove (.slice ad124 r118.2.1.length cp125) S (wG (c := r155) 100 true 237 rfl rfl (by kernel_rfl) hc157) (.inl rfl) (by kernel_rfl) rfl (by decide) (fun a S => ?_)
                                                    refine sLit (r := (rI .i64)) (T := 3) (xs := ([0] : List Int)) [(0, .int .i64 0)] 1 [.int .i64 0] [.int .i64 0] (.int .i64 0) 8 S (wG (c := r155) 100 true 237 rfl rfl (by kernel_rfl) hc157) rfl (by kernel_rfl) Try.underlying27 (by kernel_rfl) (by decide) (by decide) (by kernel_rfl) rfl (fun E1 w1 hE => All.cons rfl (All.nil _ _ _)) rfl rfl (by decide) (fun a w ad158 cp159 S => ?_)
                                                    obtain ⟨r160, hx161, h⟩ := bindSome h
                                                    have hv_r160 : r160 = true := Option.some.inj (hx161.symm.trans (by rw [hv_r118]; exact kc_raddlelaw24_SettNames_29))
                                                    have S1 := S.mem
                                                    have S1 := S1.shutR (r := (rI .i64)) (T := 3) (v := .slice ad158 ([0] : List Int).length cp159) (xs := ([0] : List Int)) 0 (by kernel_rfl)
                                                    refine sCallQ (X := Unit) (f := 15) (vs := [.slice ad124 r118.2.1.length cp125, .slice ad158 ([0] : List Int).length cp159]) (val := fun _ => .bool r160) S (wG (c := r155) 100 true 237 rfl rfl (by kernel_rfl) hc157) rfl callee15 (by kernel_rfl) (S1.quiet [2, 0] (by kernel_rfl)) (fun E1 w1 S1 => c_raddleref24_Same E1 w1 r118.2.1 (.slice ad124 r118.2.1.length cp125) ([0] : List Int) (.slice ad158 ([0] : List Int).length cp159) r160 hx161 S1) rfl (by decide) (fun _ a w S => ?_)
                                                    refine sPickT (b := r155) (.bool r160) S (wN rfl) rfl (by kernel_rfl) hc157 (by kernel_rfl) rfl (by decide) (fun a S => ?_)
                                                    refine sMove (.bool r160) S (wN rfl) (.inr rfl) (by kernel_rfl) rfl (by decide) (fun a S => ?_)
                                                    refine leafL (leafT (hK126 _ _ ?_))
                                                    obtain rfl := Option.some.inj h
                                                    exact wp_ret (sRet (.bool r160) S (rsl1 rfl (rvT (t := 0) (v := .bool r160) S (by kernel_rfl))) ⟨(), rfl, S.mem.sel [] [] (by decide) (by kernel_rfl) (by kernel_rfl)⟩)
                                                  · exact absurd hc157 (by rw [hv_r155]; decide)
                                                · exact absurd hc152 (by rw [hv_r118]; decide)
                                              · exact absurd hc151 (by rw [hv_r108]; decide)
                                            · exact absurd hc150 (by rw [hv_r102]; decide)
                                          · exact absurd hc149 (by rw [hv_r102]; decide)
                                        · exact absurd hc148 (by rw [hv_r98]; decide)
                                      · exact absurd hc147 (by rw [hv_r94]; decide)
                                    · exact absurd hc146 (by rw [hv_r94]; decide)
                                  · exact absurd hc145 (by rw [hv_r88]; decide)
                                · exact absurd hc144 (by rw [hv_r82]; decide)
                              · exact absurd hc143 (by rw [hv_r82]; decide)
                            · exact absurd hc142 (by rw [hv_r78]; decide)
                          · exact absurd hc141 (by rw [hv_r78]; decide)
                        · exact absurd hc140 (by rw [hv_r74]; decide)
                      · exact absurd hc139 (by rw [hv_r70]; decide)
                    · exact absurd hc138 (by rw [hv_r64]; decide)
                  · exact absurd hc137 (by rw [hv_r64]; decide)
                · exact absurd hc136 (by rw [hv_r58]; decide)
              · exact absurd hc135 (by rw [hv_r54]; decide)
            · exact absurd hc134 (by rw [hv_r48]; decide)
          · exact absurd hc133 (by rw [hv_r38]; decide)
        · exact absurd hc132 (by rw [hv_r31]; decide)
      · exact absurd hc131 (by rw [hv_r19]; decide)
    · exact absurd hc130 (by rw [hv_r3]; decide)
  · exact absurd hc129 (by rw [hv_r127]; decide)

end Go.Proofs.Ytjndecalogklhaa
