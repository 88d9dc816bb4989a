/- Several texts in one: G17 KvAlive PlA PlB G60 G45 G41s1 -/
import Derived.WalkKit
import Derived.Maps.AppendAt
import Derived.Deep.AppendLies
import Derived.KernelRfl
import Derived.Laws.OwnMore
import Derived.Great.BuildSlice
import Derived.Orders
import Derived.Laws.StructEq
import Derived.ChangeKeysEq
import Derived.Test.YtjndecalogklhaaProg
import Derived.ProofKit
import Derived.OpenShut
import Derived.ChangeOld
import Derived.Deep.Slices
import Derived.Lib.SmallJoins
import Derived.JoinedOf
import Derived.JoinedAt
import Derived.Below
import Derived.Test.YtjndecalogklhaaRows
import Derived.Test.YtjndecalogklhaaMSettSame3
namespace Go.Proofs.Ytjndecalogklhaa
open Go.RowKit
set_option linter.unusedVariables false

def anc_raddlelaw24_alive_0 : List (List Nat) := [[], [0], [0, 1], [0, 1], [0, 1, 2, 3], [0, 1, 2, 3, 4], [0, 1, 2, 3, 4, 5], [0, 1, 2, 3, 4, 5, 6], [0, 1, 2, 3, 4, 5, 6], [0, 1, 2, 3, 4, 5, 6, 7, 8], [0, 1, 2, 3, 4, 5, 6, 7, 8, 9], [0, 1, 2, 3, 4, 5, 6, 7, 8, 9, 10], [0, 1, 2, 3, 4, 5, 6, 7, 8, 9, 10, 11], [0, 1, 2, 3, 4, 5, 6, 7, 8, 9, 10, 11], [0, 1, 2, 3, 4, 5, 6, 7, 8, 9, 10, 11, 12, 13], [0, 1, 2, 3, 4, 5, 6, 7, 8, 9, 10, 11, 12, 13, 14], [0, 1, 2, 3, 4, 5, 6, 7, 8, 9, 10, 11, 12, 13, 14, 15], [0, 1, 2, 3, 4, 5, 6, 7, 8, 9, 10, 11, 12, 13, 14, 15, 16], [0, 1, 2, 3, 4, 5, 6, 7, 8, 9, 10, 11, 12, 13, 14, 15, 16], [0, 1, 2, 3, 4, 5, 6, 7, 8, 9, 10, 11, 12, 13, 14, 15, 16, 17, 18], [0, 1, 2, 3, 4, 5, 6, 7, 8, 9, 10, 11, 12, 13, 14, 15, 16, 17, 18, 19], [0, 1, 2, 3, 4, 5, 6, 7, 8, 9, 10, 11, 12, 13, 14, 15, 16, 17, 18, 19, 20], [0, 1, 2, 3, 4, 5, 6, 7, 8, 9, 10, 11, 12, 13, 14, 15, 16, 17, 18, 19, 20, 21], [0, 1, 2, 3, 4, 5, 6, 7, 8, 9, 10, 11, 12, 13, 14, 15, 16, 17, 18, 19, 20, 21], [0, 1, 2, 3, 4, 5, 6, 7, 8, 9, 10, 11, 12, 13, 14, 15, 16, 17, 18, 19, 20, 21, 22, 23], [0, 1, 2, 3, 4, 5, 6, 7, 8, 9, 10, 11, 12, 13, 14, 15, 16, 17, 18, 19, 20, 21, 22, 23, 24], [0, 1, 2, 3, 4, 5, 6, 7, 8, 9, 10, 11, 12, 13, 14, 15, 16, 17, 18, 19, 20, 21, 22, 23, 24, 25], [0, 1, 2, 3, 4, 5, 6, 7, 8, 9, 10, 11, 12, 13, 14, 15, 16, 17, 18, 19, 20, 21, 22, 23, 24, 25, 26], [0, 1, 2, 3, 4, 5, 6, 7, 8, 9, 10, 11, 12, 13, 14, 15, 16, 17, 18, 19, 20, 21, 22, 23, 24, 25, 26], [0, 1, 2, 3, 4, 5, 6, 7, 8, 9, 10, 11, 12, 13, 14, 15, 16, 17, 18, 19, 20, 21, 22, 23, 24, 25, 26, 27, 28], [0, 1, 2, 3, 4, 5, 6, 7, 8, 9, 10, 11, 12, 13, 14, 15, 16, 17, 18, 19, 20, 21, 22, 23, 24, 25, 26, 27, 28, 29], [0, 1, 2, 3, 4, 5, 6, 7, 8, 9, 10, 11, 12, 13, 14, 15, 16, 17, 18, 19, 20, 21, 22, 23, 24, 25, 26, 27, 28, 29, 30], [0, 1, 2, 3, 4, 5, 6, 7, 8, 9, 10, 11, 12, 13, 14, 15, 16, 17, 18, 19, 20, 21, 22, 23, 24, 25, 26, 27, 28, 29, 30, 31], [0, 1, 2, 3, 4, 5, 6, 7, 8, 9, 10, 11, 12, 13, 14, 15, 16, 17, 18, 19, 20, 21, 22, 23, 24, 25, 26, 27, 28, 29, 30, 31], [0, 1, 2, 3, 4, 5, 6, 7, 8, 9, 10, 11, 12, 13, 14, 15, 16, 17, 18, 19, 20, 21, 22, 23, 24, 25, 26, 27, 28, 29, 30, 31, 32, 33], [0, 1, 2, 3, 4, 5, 6, 7, 8, 9, 10, 11, 12, 13, 14, 15, 16, 17, 18, 19, 20, 21, 22, 23, 24, 25, 26, 27, 28, 29, 30, 31, 32, 33, 34], [0, 1, 2, 3, 4, 5, 6, 7, 8, 9, 10, 11, 12, 13, 14, 15, 16, 17, 18, 19, 20, 21, 22, 23, 24, 25, 26, 27, 28, 29, 30, 31, 32, 33, 34, 35], [0, 1, 2, 3, 4, 5, 6, 7, 8, 9, 10, 11, 12, 13, 14, 15, 16, 17, 18, 19, 20, 21, 22, 23, 24, 25, 26, 27, 28, 29, 30, 31, 32, 33, 34, 35, 36], [0, 1, 2, 3, 4, 5, 6, 7, 8, 9, 10, 11, 12, 13, 14, 15, 16, 17, 18, 19, 20, 21, 22, 23, 24, 25, 26, 27, 28, 29, 30, 31, 32, 33, 34, 35, 36], [0, 1, 2, 3, 4, 5, 6, 7, 8, 9, 10, 11, 12, 13, 14, 15, 16, 17, 18, 19, 20, 21, 22, 23, 24, 25, 26, 27, 28, 29, 30, 31, 32, 33, 34, 35, 36, 37, 38], [0, 1, 2, 3, 4, 5, 6, 7, 8, 9, 10, 11, 12, 13, 14, 15, 16, 17, 18, 19, 20, 21, 22, 23, 24, 25, 26, 27, 28, 29, 30, 31, 32, 33, 34, 35, 36, 37, 38, 39], [0, 1, 2, 3, 4, 5, 6, 7, 8, 9, 10, 11, 12, 13, 14, 15, 16, 17, 18, 19, 20, 21, 22, 23, 24, 25, 26, 27, 28, 29, 30, 31, 32, 33, 34, 35, 36, 37, 38, 39, 40], [0, 1, 2, 3, 4, 5, 6, 7, 8, 9, 10, 11, 12, 13, 14, 15, 16, 17, 18, 19, 20, 21, 22, 23, 24, 25, 26, 27, 28, 29, 30, 31, 32, 33, 34, 35, 36, 37, 38, 39, 40, 41], [0, 1, 2, 3, 4, 5, 6, 7, 8, 9, 10, 11, 12, 13, 14, 15, 16, 17, 18, 19, 20, 21, 22, 23, 24, 25, 26, 27, 28, 29, 30, 31, 32, 33, 34, 35, 36, 37, 38, 39, 40, 41, 42], [0, 1, 2, 3, 4, 5, 6, 7, 8, 9, 10, 11, 12, 13, 14, 15, 16, 17, 18, 19, 20, 21, 22, 23, 24, 25, 26, 27, 28, 29, 30, 31, 32, 33, 34, 35, 36, 37, 38, 39, 40, 41, 42, 43], [0, 1, 2, 3, 4, 5, 6, 7, 8, 9, 10, 11, 12, 13, 14, 15, 16, 17, 18, 19, 20, 21, 22, 23, 24, 25, 26, 27, 28, 29, 30, 31, 32, 33, 34, 35, 36, 37, 38, 39, 40, 41, 42, 43, 44], [0, 1, 2, 3, 4, 5, 6, 7, 8, 9, 10, 11, 12, 13, 14, 15, 16, 17, 18, 19, 20, 21, 22, 23, 24, 25, 26, 27, 28, 29, 30, 31, 32, 33, 34, 35, 36, 37, 38, 39, 40, 41, 42, 43, 44, 45], [0, 1, 2, 3, 4, 5, 6, 7, 8, 9, 10, 11, 12, 13, 14, 15, 16, 17, 18, 19, 20, 21, 22, 23, 24, 25, 26, 27, 28, 29, 30, 31, 32, 33, 34, 35, 36, 37, 38, 39, 40, 41, 42, 43, 44, 45, 46], [0, 1, 2, 3, 4, 5, 6, 7, 8, 9, 10, 11, 12, 13, 14, 15, 16, 17, 18, 19, 20, 21, 22, 23, 24, 25, 26, 27, 28, 29, 30, 31, 32, 33, 34, 35, 36, 37, 38, 39, 40, 41, 42, 43, 44, 45, 46, 47], [0, 1, 2, 3, 4, 5, 6, 7, 8, 9, 10, 11, 12, 13, 14, 15, 16, 17, 18, 19, 20, 21, 22, 23, 24, 25, 26, 27, 28, 29, 30, 31, 32, 33, 34, 35, 36, 37, 38, 39, 40, 41, 42, 43, 44, 45, 46, 47, 48], [0, 1, 2, 3, 4, 5, 6, 7, 8, 9, 10, 11, 12, 13, 14, 15, 16, 17, 18, 19, 20, 21, 22, 23, 24, 25, 26, 27, 28, 29, 30, 31, 32, 33, 34, 35, 36, 37, 38, 39, 40, 41, 42, 43, 44, 45, 46, 47, 48, 49], [0, 1, 2, 3, 4, 5, 6, 7, 8, 9, 10, 11, 12, 13, 14, 15, 16, 17, 18, 19, 20, 21, 22, 23, 24, 25, 26, 27, 28, 29, 30, 31, 32, 33, 34, 35, 36, 37, 38, 39, 40, 41, 42, 43, 44, 45, 46, 47, 48, 49, 50], [0, 1, 2, 3, 4, 5, 6, 7, 8, 9, 10, 11, 12, 13, 14, 15, 16, 17, 18, 19, 20, 21, 22, 23, 24, 25, 26, 27, 28, 29, 30, 31, 32, 33, 34, 35, 36, 37, 38, 39, 40, 41, 42, 43, 44, 45, 46, 47, 48, 49, 50, 51], [0, 1, 2, 3, 4, 5, 6, 7, 8, 9, 10, 11, 12, 13, 14, 15, 16, 17, 18, 19, 20, 21, 22, 23, 24, 25, 26, 27, 28, 29, 30, 31, 32, 33, 34, 35, 36, 37, 38, 39, 40, 41, 42, 43, 44, 45, 46, 47, 48, 49, 50, 51, 52]]
noncomputable def F_raddlelaw24_alive  : Option Bool :=
  Option.bind (F_raddlelaw24_cloth 2 2 1) fun r3 =>
  Option.bind (F_sett_Turns r3) fun r10 =>
  Option.bind (F_sett_Setts r3 200) fun r24 =>
  Option.bind (F_raddlelaw24_cloth 4 4 2) fun r31 =>
  Option.bind (F_sett_Setts r31 200) fun r38 =>
  Option.bind (F_raddlelaw24_cloth 3 2 3) fun r45 =>
  Option.bind (F_sett_Setts r45 200) fun r52 =>
  Option.bind (F_raddlelaw24_part 100 1) fun r59 =>
  Option.bind (F_sett_Ends 1005 r59) fun r62 =>
  Option.bind (F_sett_Width 100 r59) fun r66 =>
  Option.bind (F_raddlelaw24_part 1 10) fun r69 =>
  Option.bind (F_sett_Need 1000 r69) fun r72 =>
  if r10.2.2 == 0 then
    if r24.2.2 == 0 then
      if r38.2.2 == 0 then
        if r52.2.2 == 0 then
          if r62.2 == 0 then
            if r66.2 == 0 then
              Option.bind (α := Bool) (
                if r72.2 == 0 then
                  Option.bind (F_raddleref24_Same r10.1 ([2, 2] : List Int)) fun r87 =>
                  if r87 then
                    Option.bind (F_raddleref24_Same r10.2.1 ([2, 2] : List Int)) fun r92 =>
                    if r92 then
                      if ((r24.1.Num == r59.Num) && ((r24.1.Den == r59.Den) && true)) then
                        if ((r24.2.1.Num == r59.Num) && ((r24.2.1.Den == r59.Den) && true)) then
                          Option.bind (F_raddlelaw24_part 400 3) fun r99 =>
                          if ((r38.1.Num == r99.Num) && ((r38.1.Den == r99.Den) && true)) then
                            if ((r38.2.1.Num == r99.Num) && ((r38.2.1.Den == r99.Den) && true)) then
                              Option.bind (F_raddlelaw24_part 200 1) fun r105 =>
                              if ((r52.1.Num == r105.Num) && ((r52.1.Den == r105.Den) && true)) then
                                if ((r52.2.1.Num == r105.Num) && ((r52.2.1.Den == r105.Den) && true)) then
                                  if r62.1 == 100 then
                                    if r66.1 == 1000 then
                                      some (r72.1 == 1100)
                                    else
                                      none
                                  else
                                    none
                                else
                                  none
                              else
                                none
                            else
                              none
                          else
                            none
                        else
                          none
                      else
                        none
                    else
                      none
                  else
                    none
                else
                  some false) fun o81 =>
              some o81
            else
              none
          else
            none
        else
          none
      else
        none
    else
      none
  else
    none
set_option maxHeartbeats 4000000 in
set_option maxRecDepth 100000 in
theorem c_raddlelaw24_alive (E : Nat → Prop) (w0 : World)  (r : Bool) (h : F_raddlelaw24_alive  = some r) (S : St0 E [] w0 w0 [] []) :
    Calls Try.prog 17 #[] w0 (Ret (X := Unit) E [] w0 (fun _ => .bool r) (fun _ => []) (fun _ => [])) := by
  unfold F_raddlelaw24_alive at h
  refine sEnter (args := []) 138 Try.func17 rfl rfl (by simp) S (fun a S => ?_)
  refine sSeq (fun K1 hK1 => ?_)
  refine sRegion ?_
  refine sMove (.bool false) S (wN rfl) (.inr rfl) (by kernel_rfl) rfl (by decide) (fun a S => ?_)
  refine leafL (leafT (hK1 _ _ ?_))
  refine sSeq (fun K2 hK2 => ?_)
  refine sRegion ?_
  obtain ⟨r3, hx4, h⟩ := bindSome h
  have hv_r3 : r3 = (api_Grid.mk 2 2 [true, false, false, true]) := Option.some.inj (hx4.symm.trans (by exact kc_raddlelaw24_alive_0))
  refine sCall (X := Value) (f := 23) (vs := [.int .i64 2, .int .i64 2, .int .i64 1]) (val := c_raddlelaw24_cloth_val r3) (B' := fun _ => []) (D' := c_raddlelaw24_cloth_D r3) [] [] [] [] [] S (wN rfl) rfl callee23 (by kernel_rfl) (by decide) (by kernel_rfl) (by kernel_rfl) (fun E1 w1 S1 => c_raddlelaw24_cloth E1 w1 2 2 1 r3 hx4 S1) rfl (by decide) (fun u5 a w S => ?_)
  obtain ⟨u6, rfl, hu7⟩ := S.mem.know (i := 0) (e := fRep r_api_Grid (u5) r3) (by kernel_rfl)
  have S := S.learn (fRep (rL rB) u6 r3.Bits) hu7
  obtain ⟨ad8, cp9, _, rfl, _⟩ := hu7
  obtain ⟨r10, hx11, h⟩ := bindSome h
  have hv_r10 : r10 = ([2, 2], ([2, 2], 0)) := Option.some.inj (hx11.symm.trans (by rw [hv_r3]; exact kc_raddlelaw24_alive_1))
  refine sCall (X := Value × Value) (f := 11) (vs := [.agg #[.int .i64 r3.W, .int .i64 r3.H, .slice ad8 r3.Bits.length cp9]]) (val := c_sett_Turns_val r10) (B' := fun _ => []) (D' := c_sett_Turns_D r10) [] [] [fRep r_api_Grid (.agg #[.int .i64 r3.W, .int .i64 r3.H, .slice ad8 r3.Bits.length cp9]) r3] [] [1] S (wN rfl) rfl callee11 (by kernel_rfl) (by decide) (by kernel_rfl) (by kernel_rfl) (fun E1 w1 S1 => c_sett_Turns E1 w1 r3 (.agg #[.int .i64 r3.W, .int .i64 r3.H, .slice ad8 r3.Bits.length cp9]) r10 hx11 S1) rfl (by decide) (fun xx a w S => ?_)
  obtain ⟨u12, u13⟩ := xx
  obtain ⟨ad14, cp15, _, rfl, _⟩ := S.mem.know (i := 0) (e := fRep (rL (rI .i64)) (u12) r10.1) (by kernel_rfl)
  obtain ⟨ad16, cp17, _, rfl, _⟩ := S.mem.know (i := 1) (e := fRep (rL (rI .i64)) (u13) r10.2.1) (by kernel_rfl)
  refine sMove (.tuple #[.slice ad14 r10.1.length cp15, .slice ad16 r10.2.1.length cp17, .int .i64 r10.2.2]) S (wN rfl) (.inl rfl) (by kernel_rfl) rfl (by decide) (fun a S => ?_)
  refine sExtract (vs := [.slice ad14 r10.1.length cp15, .slice ad16 r10.2.1.length cp17, .int .i64 r10.2.2]) (.slice ad14 r10.1.length cp15) S (wN rfl) rfl (by kernel_rfl) rfl rfl (by decide) (fun a S => ?_)
  refine sExtract (vs := [.slice ad14 r10.1.length cp15, .slice ad16 r10.2.1.length cp17, .int .i64 r10.2.2]) (.slice ad16 r10.2.1.length cp17) S (wN rfl) rfl (by kernel_rfl) rfl rfl (by decide) (fun a S => ?_)
  refine sExtract (vs := [.slice ad14 r10.1.length cp15, .slice ad16 r10.2.1.length cp17, .int .i64 r10.2.2]) (.int .i64 r10.2.2) S (wN rfl) rfl (by kernel_rfl) rfl rfl (by decide) (fun a S => ?_)
  refine sMove (.slice ad14 r10.1.length cp15) S (wN rfl) (.inr rfl) (by kernel_rfl) rfl (by decide) (fun a S => ?_)
  refine sMove (.slice ad16 r10.2.1.length cp17) S (wN rfl) (.inr rfl) (by kernel_rfl) rfl (by decide) (fun a S => ?_)
  refine sMove (.int .i64 r10.2.2) S (wN rfl) (.inr rfl) (by kernel_rfl) rfl (by decide) (fun a S => ?_)
  refine leafL (leafT (hK2 _ _ ?_))
  refine sSeq (fun K18 hK18 => ?_)
  refine sRegion ?_
  refine sCall (X := Value) (f := 23) (vs := [.int .i64 2, .int .i64 2, .int .i64 1]) (val := c_raddlelaw24_cloth_val r3) (B' := fun _ => []) (D' := c_raddlelaw24_cloth_D r3) [] [] [] [] [] S (wN rfl) rfl callee23 (by kernel_rfl) (by decide) (by kernel_rfl) (by kernel_rfl) (fun E1 w1 S1 => c_raddlelaw24_cloth E1 w1 2 2 1 r3 hx4 S1) rfl (by decide) (fun u19 a w S => ?_)
  obtain ⟨u20, rfl, hu21⟩ := S.mem.know (i := 0) (e := fRep r_api_Grid (u19) r3) (by kernel_rfl)
  have S := S.learn (fRep (rL rB) u20 r3.Bits) hu21
  obtain ⟨ad22, cp23, _, rfl, _⟩ := hu21
  obtain ⟨r24, hx25, h⟩ := bindSome h
  have hv_r24 : r24 = ((api_Ratio.mk 100 1), ((api_Ratio.mk 100 1), 0)) := Option.some.inj (hx25.symm.trans (by rw [hv_r3]; exact kc_raddlelaw24_alive_2))
  refine sCall (X := Value × Value) (f := 13) (vs := [.agg #[.int .i64 r3.W, .int .i64 r3.H, .slice ad22 r3.Bits.length cp23], .int .i64 200]) (val := c_sett_Setts_val r24) (B' := fun _ => []) (D' := c_sett_Setts_D r24) [] [] [fRep r_api_Grid (.agg #[.int .i64 r3.W, .int .i64 r3.H, .slice ad22 r3.Bits.length cp23]) r3] [] [1] S (wN rfl) rfl callee13 (by kernel_rfl) (by decide) (by kernel_rfl) (by kernel_rfl) (fun E1 w1 S1 => c_sett_Setts E1 w1 r3 (.agg #[.int .i64 r3.W, .int .i64 r3.H, .slice ad22 r3.Bits.length cp23]) 200 r24 hx25 S1) rfl (by decide) (fun xx a w S => ?_)
  obtain ⟨u26, u27⟩ := xx
  obtain rfl : u26 = .agg #[.int .i64 r24.1.Num, .int .i64 r24.1.Den] := S.mem.know (i := 0) (e := fRep r_api_Ratio (u26) r24.1) (by kernel_rfl)
  obtain rfl : u27 = .agg #[.int .i64 r24.2.1.Num, .int .i64 r24.2.1.Den] := S.mem.know (i := 1) (e := fRep r_api_Ratio (u27) r24.2.1) (by kernel_rfl)
  refine sMove (.tuple #[.agg #[.int .i64 r24.1.Num, .int .i64 r24.1.Den], .agg #[.int .i64 r24.2.1.Num, .int .i64 r24.2.1.Den], .int .i64 r24.2.2]) S (wN rfl) (.inl rfl) (by kernel_rfl) rfl (by decide) (fun a S => ?_)
  refine sExtract (vs := [.agg #[.int .i64 r24.1.Num, .int .i64 r24.1.Den], .agg #[.int .i64 r24.2.1.Num, .int .i64 r24.2.1.Den], .int .i64 r24.2.2]) (.agg #[.int .i64 r24.1.Num, .int .i64 r24.1.Den]) S (wN rfl) rfl (by kernel_rfl) rfl rfl (by decide) (fun a S => ?_)
  refine sExtract (vs := [.agg #[.int .i64 r24.1.Num, .int .i64 r24.1.Den], .agg #[.int .i64 r24.2.1.Num, .int .i64 r24.2.1.Den], .int .i64 r24.2.2]) (.agg #[.int .i64 r24.2.1.Num, .int .i64 r24.2.1.Den]) S (wN rfl) rfl (by kernel_rfl) rfl rfl (by decide) (fun a S => ?_)
  refine sExtract (vs := [.agg #[.int .i64 r24.1.Num, .int .i64 r24.1.Den], .agg #[.int .i64 r24.2.1.Num, .int .i64 r24.2.1.Den], .int .i64 r24.2.2]) (.int .i64 r24.2.2) S (wN rfl) rfl (by kernel_rfl) rfl rfl (by decide) (fun a S => ?_)
  refine sAlloc (.agg #[.int .i64 0, .int .i64 0]) S (wN rfl) rfl (by kernel_rfl) [.int .i64 0, .int .i64 0] rfl rfl (by decide) (fun a b28 w S => ?_)
  refine sAlloc (.agg #[.int .i64 0, .int .i64 0]) S (wN rfl) rfl (by kernel_rfl) [.int .i64 0, .int .i64 0] rfl rfl (by decide) (fun a b29 w S => ?_)
  refine sStore (p := b28) (off := 0) (T := 34) (vs := [.int .i64 0, .int .i64 0]) (v := .agg #[.int .i64 r24.1.Num, .int .i64 r24.1.Den]) 1 [.int .i64 r24.1.Num, .int .i64 r24.1.Den] S (wN rfl) rfl (by kernel_rfl) (by kernel_rfl) rfl (by kernel_rfl) (by kernel_rfl) rfl (by simp) rfl (fun a w S => ?_)
  refine sStore (p := b29) (off := 0) (T := 34) (vs := [.int .i64 0, .int .i64 0]) (v := .agg #[.int .i64 r24.2.1.Num, .int .i64 r24.2.1.Den]) 1 [.int .i64 r24.2.1.Num, .int .i64 r24.2.1.Den] S (wN rfl) rfl (by kernel_rfl) (by kernel_rfl) rfl (by kernel_rfl) (by kernel_rfl) rfl (by simp) rfl (fun a w S => ?_)
  refine sMove (.int .i64 r24.2.2) S (wN rfl) (.inr rfl) (by kernel_rfl) rfl (by decide) (fun a S => ?_)
  refine leafL (leafT (hK18 _ _ ?_))
  refine sSeq (fun K30 hK30 => ?_)
  refine sRegion ?_
  obtain ⟨r31, hx32, h⟩ := bindSome h
  have hv_r31 : r31 = (api_Grid.mk 4 4 [true, true, false, false, false, true, true, false, false, false, true, true, true, false, false, true]) := Option.some.inj (hx32.symm.trans (by exact kc_raddlelaw24_alive_3))
  refine sCall (X := Value) (f := 23) (vs := [.int .i64 4, .int .i64 4, .int .i64 2]) (val := c_raddlelaw24_cloth_val r31) (B' := fun _ => []) (D' := c_raddlelaw24_cloth_D r31) [] [eBox b29 34 [.int .i64 r24.2.1.Num, .int .i64 r24.2.1.Den], eBox b28 34 [.int .i64 r24.1.Num, .int .i64 r24.1.Den]] [] [0, 1] [] S (wN rfl) rfl callee23 (by kernel_rfl) (by decide) (by kernel_rfl) (by kernel_rfl) (fun E1 w1 S1 => c_raddlelaw24_cloth E1 w1 4 4 2 r31 hx32 S1) rfl (by decide) (fun u33 a w S => ?_)
  obtain ⟨u34, rfl, hu35⟩ := S.mem.know (i := 0) (e := fRep r_api_Grid (u33) r31) (by kernel_rfl)
  have S := S.learn (fRep (rL rB) u34 r31.Bits) hu35
  obtain ⟨ad36, cp37, _, rfl, _⟩ := hu35
  obtain ⟨r38, hx39, h⟩ := bindSome h
  have hv_r38 : r38 = ((api_Ratio.mk 400 3), ((api_Ratio.mk 400 3), 0)) := Option.some.inj (hx39.symm.trans (by rw [hv_r31]; exact kc_raddlelaw24_alive_4))
  refine sCall (X := Value × Value) (f := 13) (vs := [.agg #[.int .i64 r31.W, .int .i64 r31.H, .slice ad36 r31.Bits.length cp37], .int .i64 200]) (val := c_sett_Setts_val r38) (B' := fun _ => []) (D' := c_sett_Setts_D r38) [] [eBox b29 34 [.int .i64 r24.2.1.Num, .int .i64 r24.2.1.Den], eBox b28 34 [.int .i64 r24.1.Num, .int .i64 r24.1.Den]] [fRep r_api_Grid (.agg #[.int .i64 r31.W, .int .i64 r31.H, .slice ad36 r31.Bits.length cp37]) r31] [0, 1] [1] S (wN rfl) rfl callee13 (by kernel_rfl) (by decide) (by kernel_rfl) (by kernel_rfl) (fun E1 w1 S1 => c_sett_Setts E1 w1 r31 (.agg #[.int .i64 r31.W, .int .i64 r31.H, .slice ad36 r31.Bits.length cp37]) 200 r38 hx39 S1) rfl (by decide) (fun xx a w S => ?_)
  obtain ⟨u40, u41⟩ := xx
  obtain rfl : u40 = .agg #[.int .i64 r38.1.Num, .int .i64 r38.1.Den] := S.mem.know (i := 0) (e := fRep r_api_Ratio (u40) r38.1) (by kernel_rfl)
  obtain rfl : u41 = .agg #[.int .i64 r38.2.1.Num, .int .i64 r38.2.1.Den] := S.mem.know (i := 1) (e := fRep r_api_Ratio (u41) r38.2.1) (by kernel_rfl)
  refine sMove (.tuple #[.agg #[.int .i64 r38.1.Num, .int .i64 r38.1.Den], .agg #[.int .i64 r38.2.1.Num, .int .i64 r38.2.1.Den], .int .i64 r38.2.2]) S (wN rfl) (.inl rfl) (by kernel_rfl) rfl (by decide) (fun a S => ?_)
  refine sExtract (vs := [.agg #[.int .i64 r38.1.Num, .int .i64 r38.1.Den], .agg #[.int .i64 r38.2.1.Num, .int .i64 r38.2.1.Den], .int .i64 r38.2.2]) (.agg #[.int .i64 r38.1.Num, .int .i64 r38.1.Den]) S (wN rfl) rfl (by kernel_rfl) rfl rfl (by decide) (fun a S => ?_)
  refine sExtract (vs := [.agg #[.int .i64 r38.1.Num, .int .i64 r38.1.Den], .agg #[.int .i64 r38.2.1.Num, .int .i64 r38.2.1.Den], .int .i64 r38.2.2]) (.agg #[.int .i64 r38.2.1.Num, .int .i64 r38.2.1.Den]) S (wN rfl) rfl (by kernel_rfl) rfl rfl (by decide) (fun a S => ?_)
  refine sExtract (vs := [.agg #[.int .i64 r38.1.Num, .int .i64 r38.1.Den], .agg #[.int .i64 r38.2.1.Num, .int .i64 r38.2.1.Den], .int .i64 r38.2.2]) (.int .i64 r38.2.2) S (wN rfl) rfl (by kernel_rfl) rfl rfl (by decide) (fun a S => ?_)
  refine sAlloc (.agg #[.int .i64 0, .int .i64 0]) S (wN rfl) rfl (by kernel_rfl) [.int .i64 0, .int .i64 0] rfl rfl (by decide) (fun a b42 w S => ?_)
  refine sAlloc (.agg #[.int .i64 0, .int .i64 0]) S (wN rfl) rfl (by kernel_rfl) [.int .i64 0, .int .i64 0] rfl rfl (by decide) (fun a b43 w S => ?_)
  refine sStore (p := b42) (off := 0) (T := 34) (vs := [.int .i64 0, .int .i64 0]) (v := .agg #[.int .i64 r38.1.Num, .int .i64 r38.1.Den]) 1 [.int .i64 r38.1.Num, .int .i64 r38.1.Den] S (wN rfl) rfl (by kernel_rfl) (by kernel_rfl) rfl (by kernel_rfl) (by kernel_rfl) rfl (by simp) rfl (fun a w S => ?_)
  refine sStore (p := b43) (off := 0) (T := 34) (vs := [.int .i64 0, .int .i64 0]) (v := .agg #[.int .i64 r38.2.1.Num, .int .i64 r38.2.1.Den]) 1 [.int .i64 r38.2.1.Num, .int .i64 r38.2.1.Den] S (wN rfl) rfl (by kernel_rfl) (by kernel_rfl) rfl (by kernel_rfl) (by kernel_rfl) rfl (by simp) rfl (fun a w S => ?_)
  refine sMove (.int .i64 r38.2.2) S (wN rfl) (.inr rfl) (by kernel_rfl) rfl (by decide) (fun a S => ?_)
  refine leafL (leafT (hK30 _ _ ?_))
  refine sSeq (fun K44 hK44 => ?_)
  refine sRegion ?_
  obtain ⟨r45, hx46, h⟩ := bindSome h
  have hv_r45 : r45 = (api_Grid.mk 3 2 [true, true, true, true, true, true]) := Option.some.inj (hx46.symm.trans (by exact kc_raddlelaw24_alive_5))
  refine sCall (X := Value) (f := 23) (vs := [.int .i64 3, .int .i64 2, .int .i64 3]) (val := c_raddlelaw24_cloth_val r45) (B' := fun _ => []) (D' := c_raddlelaw24_cloth_D r45) [] [eBox b43 34 [.int .i64 r38.2.1.Num, .int .i64 r38.2.1.Den], eBox b42 34 [.int .i64 r38.1.Num, .int .i64 r38.1.Den], eBox b29 34 [.int .i64 r24.2.1.Num, .int .i64 r24.2.1.Den], eBox b28 34 [.int .i64 r24.1.Num, .int .i64 r24.1.Den]] [] [0, 1, 2, 3] [] S (wN rfl) rfl callee23 (by kernel_rfl) (by decide) (by kernel_rfl) (by kernel_rfl) (fun E1 w1 S1 => c_raddlelaw24_cloth E1 w1 3 2 3 r45 hx46 S1) rfl (by decide) (fun u47 a w S => ?_)
  obtain ⟨u48, rfl, hu49⟩ := S.mem.know (i := 0) (e := fRep r_api_Grid (u47) r45) (by kernel_rfl)
  have S := S.learn (fRep (rL rB) u48 r45.Bits) hu49
  obtain ⟨ad50, cp51, _, rfl, _⟩ := hu49
  obtain ⟨r52, hx53, h⟩ := bindSome h
  have hv_r52 : r52 = ((api_Ratio.mk 200 1), ((api_Ratio.mk 200 1), 0)) := Option.some.inj (hx53.symm.trans (by rw [hv_r45]; exact kc_raddlelaw24_alive_6))
  refine sCall (X := Value × Value) (f := 13) (vs := [.agg #[.int .i64 r45.W, .int .i64 r45.H, .slice ad50 r45.Bits.length cp51], .int .i64 200]) (val := c_sett_Setts_val r52) (B' := fun _ => []) (D' := c_sett_Setts_D r52) [] [eBox b43 34 [.int .i64 r38.2.1.Num, .int .i64 r38.2.1.Den], eBox b42 34 [.int .i64 r38.1.Num, .int .i64 r38.1.Den], eBox b29 34 [.int .i64 r24.2.1.Num, .int .i64 r24.2.1.Den], eBox b28 34 [.int .i64 r24.1.Num, .int .i64 r24.1.Den]] [fRep r_api_Grid (.agg #[.int .i64 r45.W, .int .i64 r45.H, .slice ad50 r45.Bits.length cp51]) r45] [0, 1, 2, 3] [1] S (wN rfl) rfl callee13 (by kernel_rfl) (by decide) (by kernel_rfl) (by kernel_rfl) (fun E1 w1 S1 => c_sett_Setts E1 w1 r45 (.agg #[.int .i64 r45.W, .int .i64 r45.H, .slice ad50 r45.Bits.length cp51]) 200 r52 hx53 S1) rfl (by decide) (fun xx a w S => ?_)
  obtain ⟨u54, u55⟩ := xx
  obtain rfl : u54 = .agg #[.int .i64 r52.1.Num, .int .i64 r52.1.Den] := S.mem.know (i := 0) (e := fRep r_api_Ratio (u54) r52.1) (by kernel_rfl)
  obtain rfl : u55 = .agg #[.int .i64 r52.2.1.Num, .int .i64 r52.2.1.Den] := S.mem.know (i := 1) (e := fRep r_api_Ratio (u55) r52.2.1) (by kernel_rfl)
  refine sMove (.tuple #[.agg #[.int .i64 r52.1.Num, .int .i64 r52.1.Den], .agg #[.int .i64 r52.2.1.Num, .int .i64 r52.2.1.Den], .int .i64 r52.2.2]) S (wN rfl) (.inl rfl) (by kernel_rfl) rfl (by decide) (fun a S => ?_)
  refine sExtract (vs := [.agg #[.int .i64 r52.1.Num, .int .i64 r52.1.Den], .agg #[.int .i64 r52.2.1.Num, .int .i64 r52.2.1.Den], .int .i64 r52.2.2]) (.agg #[.int .i64 r52.1.Num, .int .i64 r52.1.Den]) S (wN rfl) rfl (by kernel_rfl) rfl rfl (by decide) (fun a S => ?_)
  refine sExtract (vs := [.agg #[.int .i64 r52.1.Num, .int .i64 r52.1.Den], .agg #[.int .i64 r52.2.1.Num, .int .i64 r52.2.1.Den], .int .i64 r52.2.2]) (.agg #[.int .i64 r52.2.1.Num, .int .i64 r52.2.1.Den]) S (wN rfl) rfl (by kernel_rfl) rfl rfl (by decide) (fun a S => ?_)
  refine sExtract (vs := [.agg #[.int .i64 r52.1.Num, .int .i64 r52.1.Den], .agg #[.int .i64 r52.2.1.Num, .int .i64 r52.2.1.Den], .int .i64 r52.2.2]) (.int .i64 r52.2.2) S (wN rfl) rfl (by kernel_rfl) rfl rfl (by decide) (fun a S => ?_)
  refine sAlloc (.agg #[.int .i64 0, .int .i64 0]) S (wN rfl) rfl (by kernel_rfl) [.int .i64 0, .int .i64 0] rfl rfl (by decide) (fun a b56 w S => ?_)
  refine sAlloc (.agg #[.int .i64 0, .int .i64 0]) S (wN rfl) rfl (by kernel_rfl) [.int .i64 0, .int .i64 0] rfl rfl (by decide) (fun a b57 w S => ?_)
  refine sStore (p := b56) (off := 0) (T := 34) (vs := [.int .i64 0, .int .i64 0]) (v := .agg #[.int .i64 r52.1.Num, .int .i64 r52.1.Den]) 1 [.int .i64 r52.1.Num, .int .i64 r52.1.Den] S (wN rfl) rfl (by kernel_rfl) (by kernel_rfl) rfl (by kernel_rfl) (by kernel_rfl) rfl (by simp) rfl (fun a w S => ?_)
  refine sStore (p := b57) (off := 0) (T := 34) (vs := [.int .i64 0, .int .i64 0]) (v := .agg #[.int .i64 r52.2.1.Num, .int .i64 r52.2.1.Den]) 1 [.int .i64 r52.2.1.Num, .int .i64 r52.2.1.Den] S (wN rfl) rfl (by kernel_rfl) (by kernel_rfl) rfl (by kernel_rfl) (by kernel_rfl) rfl (by simp) rfl (fun a w S => ?_)
  refine sMove (.int .i64 r52.2.2) S (wN rfl) (.inr rfl) (by kernel_rfl) rfl (by decide) (fun a S => ?_)
  refine leafL (leafT (hK44 _ _ ?_))
  refine sSeq (fun K58 hK58 => ?_)
  refine sRegion ?_
  obtain ⟨r59, hx60, h⟩ := bindSome h
  have hv_r59 : r59 = (api_Ratio.mk 100 1) := Option.some.inj (hx60.symm.trans (by exact kc_raddlelaw24_alive_7))
  refine sCall (X := Value) (f := 24) (vs := [.int .i64 100, .int .i64 1]) (val := c_raddlelaw24_part_val r59) (B' := fun _ => []) (D' := c_raddlelaw24_part_D r59) [] [eBox b57 34 [.int .i64 r52.2.1.Num, .int .i64 r52.2.1.Den], eBox b56 34 [.int .i64 r52.1.Num, .int .i64 r52.1.Den], eBox b43 34 [.int .i64 r38.2.1.Num, .int .i64 r38.2.1.Den], eBox b42 34 [.int .i64 r38.1.Num, .int .i64 r38.1.Den], eBox b29 34 [.int .i64 r24.2.1.Num, .int .i64 r24.2.1.Den], eBox b28 34 [.int .i64 r24.1.Num, .int .i64 r24.1.Den]] [] [0, 1, 2, 3, 4, 5] [] S (wN rfl) rfl callee24 (by kernel_rfl) (by decide) (by kernel_rfl) (by kernel_rfl) (fun E1 w1 S1 => c_raddlelaw24_part E1 w1 100 1 r59 hx60 S1) rfl (by decide) (fun u61 a w S => ?_)
  obtain rfl : u61 = .agg #[.int .i64 r59.Num, .int .i64 r59.Den] := S.mem.know (i := 0) (e := fRep r_api_Ratio (u61) r59) (by kernel_rfl)
  obtain ⟨r62, hx63, h⟩ := bindSome h
  have hv_r62 : r62 = (100, 0) := Option.some.inj (hx63.symm.trans (by rw [hv_r59]; exact kc_raddlelaw24_alive_8))
  have S1 := S.mem
  refine sCallQ (X := Unit) (f := 22) (vs := [.int .i64 1005, .agg #[.int .i64 r59.Num, .int .i64 r59.Den]]) (val := fun _ => .tuple #[.int .i64 r62.1, .int .i64 r62.2]) S (wN rfl) rfl callee22 (by kernel_rfl) (S1.quiet [0] (by kernel_rfl)) (fun E1 w1 S1 => c_sett_Ends E1 w1 1005 r59 (.agg #[.int .i64 r59.Num, .int .i64 r59.Den]) r62 hx63 S1) rfl (by decide) (fun _ a w S => ?_)
  refine sMove (.tuple #[.int .i64 r62.1, .int .i64 r62.2]) S (wN rfl) (.inl rfl) (by kernel_rfl) rfl (by decide) (fun a S => ?_)
  refine sExtract (vs := [.int .i64 r62.1, .int .i64 r62.2]) (.int .i64 r62.1) S (wN rfl) rfl (by kernel_rfl) rfl rfl (by decide) (fun a S => ?_)
  refine sExtract (vs := [.int .i64 r62.1, .int .i64 r62.2]) (.int .i64 r62.2) S (wN rfl) rfl (by kernel_rfl) rfl rfl (by decide) (fun a S => ?_)
  refine sMove (.int .i64 r62.1) S (wN rfl) (.inr rfl) (by kernel_rfl) rfl (by decide) (fun a S => ?_)
  refine sMove (.int .i64 r62.2) S (wN rfl) (.inr rfl) (by kernel_rfl) rfl (by decide) (fun a S => ?_)
  refine leafL (leafT (hK58 _ _ ?_))
  refine sSeq (fun K64 hK64 => ?_)
  refine sRegion ?_
  refine sCall (X := Value) (f := 24) (vs := [.int .i64 100, .int .i64 1]) (val := c_raddlelaw24_part_val r59) (B' := fun _ => []) (D' := c_raddlelaw24_part_D r59) [] [eBox b57 34 [.int .i64 r52.2.1.Num, .int .i64 r52.2.1.Den], eBox b56 34 [.int .i64 r52.1.Num, .int .i64 r52.1.Den], eBox b43 34 [.int .i64 r38.2.1.Num, .int .i64 r38.2.1.Den], eBox b42 34 [.int .i64 r38.1.Num, .int .i64 r38.1.Den], eBox b29 34 [.int .i64 r24.2.1.Num, .int .i64 r24.2.1.Den], eBox b28 34 [.int .i64 r24.1.Num, .int .i64 r24.1.Den]] [] [0, 1, 2, 3, 4, 5] [] S (wN rfl) rfl callee24 (by kernel_rfl) (by decide) (by kernel_rfl) (by kernel_rfl) (fun E1 w1 S1 => c_raddlelaw24_part E1 w1 100 1 r59 hx60 S1) rfl (by decide) (fun u65 a w S => ?_)
  obtain rfl : u65 = .agg #[.int .i64 r59.Num, .int .i64 r59.Den] := S.mem.know (i := 0) (e := fRep r_api_Ratio (u65) r59) (by kernel_rfl)
  obtain ⟨r66, hx67, h⟩ := bindSome h
  have hv_r66 : r66 = (1000, 0) := Option.some.inj (hx67.symm.trans (by rw [hv_r59]; exact kc_raddlelaw24_alive_9))
  have S1 := S.mem
  refine sCallQ (X := Unit) (f := 21) (vs := [.int .i64 100, .agg #[.int .i64 r59.Num, .int .i64 r59.Den]]) (val := fun _ => .tuple #[.int .i64 r66.1, .int .i64 r66.2]) S (wN rfl) rfl callee21 (by kernel_rfl) (S1.quiet [0] (by kernel_rfl)) (fun E1 w1 S1 => c_sett_Width E1 w1 100 r59 (.agg #[.int .i64 r59.Num, .int .i64 r59.Den]) r66 hx67 S1) rfl (by decide) (fun _ a w S => ?_)
  refine sMove (.tuple #[.int .i64 r66.1, .int .i64 r66.2]) S (wN rfl) (.inl rfl) (by kernel_rfl) rfl (by decide) (fun a S => ?_)
  refine sExtract (vs := [.int .i64 r66.1, .int .i64 r66.2]) (.int .i64 r66.1) S (wN rfl) rfl (by kernel_rfl) rfl rfl (by decide) (fun a S => ?_)
  refine sExtract (vs := [.int .i64 r66.1, .int .i64 r66.2]) (.int .i64 r66.2) S (wN rfl) rfl (by kernel_rfl) rfl rfl (by decide) (fun a S => ?_)
  refine sMove (.int .i64 r66.1) S (wN rfl) (.inr rfl) (by kernel_rfl) rfl (by decide) (fun a S => ?_)
  refine sMove (.int .i64 r66.2) S (wN rfl) (.inr rfl) (by kernel_rfl) rfl (by decide) (fun a S => ?_)
  refine leafL (leafT (hK64 _ _ ?_))
  refine sSeq (fun K68 hK68 => ?_)
  refine sRegion ?_
  obtain ⟨r69, hx70, h⟩ := bindSome h
  have hv_r69 : r69 = (api_Ratio.mk 1 10) := Option.some.inj (hx70.symm.trans (by exact kc_raddlelaw24_alive_10))
  refine sCall (X := Value) (f := 24) (vs := [.int .i64 1, .int .i64 10]) (val := c_raddlelaw24_part_val r69) (B' := fun _ => []) (D' := c_raddlelaw24_part_D r69) [] [eBox b57 34 [.int .i64 r52.2.1.Num, .int .i64 r52.2.1.Den], eBox b56 34 [.int .i64 r52.1.Num, .int .i64 r52.1.Den], eBox b43 34 [.int .i64 r38.2.1.Num, .int .i64 r38.2.1.Den], eBox b42 34 [.int .i64 r38.1.Num, .int .i64 r38.1.Den], eBox b29 34 [.int .i64 r24.2.1.Num, .int .i64 r24.2.1.Den], eBox b28 34 [.int .i64 r24.1.Num, .int .i64 r24.1.Den]] [] [0, 1, 2, 3, 4, 5] [] S (wN rfl) rfl callee24 (by kernel_rfl) (by decide) (by kernel_rfl) (by kernel_rfl) (fun E1 w1 S1 => c_raddlelaw24_part E1 w1 1 10 r69 hx70 S1) rfl (by decide) (fun u71 a w S => ?_)
  obtain rfl : u71 = .agg #[.int .i64 r69.Num, .int .i64 r69.Den] := S.mem.know (i := 0) (e := fRep r_api_Ratio (u71) r69) (by kernel_rfl)
  obtain ⟨r72, hx73, h⟩ := bindSome h
  have hv_r72 : r72 = (1100, 0) := Option.some.inj (hx73.symm.trans (by rw [hv_r69]; exact kc_raddlelaw24_alive_11))
  have S1 := S.mem
  refine sCallQ (X := Unit) (f := 25) (vs := [.int .i64 1000, .agg #[.int .i64 r69.Num, .int .i64 r69.Den]]) (val := fun _ => .tuple #[.int .i64 r72.1, .int .i64 r72.2]) S (wN rfl) rfl callee25 (by kernel_rfl) (S1.quiet [0] (by kernel_rfl)) (fun E1 w1 S1 => c_sett_Need E1 w1 1000 r69 (.agg #[.int .i64 r69.Num, .int .i64 r69.Den]) r72 hx73 S1) rfl (by decide) (fun _ a w S => ?_)
  refine sMove (.tuple #[.int .i64 r72.1, .int .i64 r72.2]) S (wN rfl) (.inl rfl) (by kernel_rfl) rfl (by decide) (fun a S => ?_)
  refine sExtract (vs := [.int .i64 r72.1, .int .i64 r72.2]) (.int .i64 r72.1) S (wN rfl) rfl (by kernel_rfl) rfl rfl (by decide) (fun a S => ?_)
  refine sExtract (vs := [.int .i64 r72.1, .int .i64 r72.2]) (.int .i64 r72.2) S (wN rfl) rfl (by kernel_rfl) rfl rfl (by decide) (fun a S => ?_)
  refine sMove (.int .i64 r72.1) S (wN rfl) (.inr rfl) (by kernel_rfl) rfl (by decide) (fun a S => ?_)
  refine sMove (.int .i64 r72.2) S (wN rfl) (.inr rfl) (by kernel_rfl) rfl (by decide) (fun a S => ?_)
  refine leafL (leafT (hK68 _ _ ?_))
  refine sSeq (fun K74 hK74 => ?_)
  refine sRegion ?_
  refine sMove (.int .i64 r10.2.2) S (wN rfl) (.inl rfl) (by kernel_rfl) rfl (by decide) (fun a S => ?_)
  refine sBin (.bool (r10.2.2 == 0)) S (wN rfl) rfl (by kernel_rfl) (by kernel_rfl) (bEq _ _ _ _ .i64 r10.2.2 0) rfl (by decide) (fun a S => ?_)
  refine sMove (.bool (r10.2.2 == 0)) S (wN rfl) (.inl rfl) (by kernel_rfl) rfl (by decide) (fun a S => ?_)
  rcases iteSome h with ⟨hc75, h⟩ | ⟨hc75, h⟩
  · refine sMove (.int .i64 r24.2.2) S (wG (c := r10.2.2 == 0) 2 true 61 rfl rfl (by kernel_rfl) hc75) (.inl rfl) (by kernel_rfl) rfl (by decide) (fun a S => ?_)
    refine sBin (.bool (r24.2.2 == 0)) S (wG (c := r10.2.2 == 0) 2 true 61 rfl rfl (by kernel_rfl) hc75) rfl (by kernel_rfl) (by kernel_rfl) (bEq _ _ _ _ .i64 r24.2.2 0) rfl (by decide) (fun a S => ?_)
    refine sPickT (b := r10.2.2 == 0) (.bool (r24.2.2 == 0)) S (wN rfl) rfl (by kernel_rfl) hc75 (by kernel_rfl) rfl (by decide) (fun a S => ?_)
    refine sMove (.bool (r24.2.2 == 0)) S (wN rfl) (.inl rfl) (by kernel_rfl) rfl (by decide) (fun a S => ?_)
    rcases iteSome h with ⟨hc76, h⟩ | ⟨hc76, h⟩
    · refine sMove (.int .i64 r38.2.2) S (wG (c := r24.2.2 == 0) 6 true 65 rfl rfl (by kernel_rfl) hc76) (.inl rfl) (by kernel_rfl) rfl (by decide) (fun a S => ?_)
      refine sBin (.bool (r38.2.2 == 0)) S (wG (c := r24.2.2 == 0) 6 true 65 rfl rfl (by kernel_rfl) hc76) rfl (by kernel_rfl) (by kernel_rfl) (bEq _ _ _ _ .i64 r38.2.2 0) rfl (by decide) (fun a S => ?_)
      refine sPickT (b := r24.2.2 == 0) (.bool (r38.2.2 == 0)) S (wN rfl) rfl (by kernel_rfl) hc76 (by kernel_rfl) rfl (by decide) (fun a S => ?_)
      refine sMove (.bool (r38.2.2 == 0)) S (wN rfl) (.inl rfl) (by kernel_rfl) rfl (by decide) (fun a S => ?_)
      rcases iteSome h with ⟨hc77, h⟩ | ⟨hc77, h⟩
      · refine sMove (.int .i64 r52.2.2) S (wG (c := r38.2.2 == 0) 10 true 69 rfl rfl (by kernel_rfl) hc77) (.inl rfl) (by kernel_rfl) rfl (by decide) (fun a S => ?_)
        refine sBin (.bool (r52.2.2 == 0)) S (wG (c := r38.2.2 == 0) 10 true 69 rfl rfl (by kernel_rfl) hc77) rfl (by kernel_rfl) (by kernel_rfl) (bEq _ _ _ _ .i64 r52.2.2 0) rfl (by decide) (fun a S => ?_)
        refine sPickT (b := r38.2.2 == 0) (.bool (r52.2.2 == 0)) S (wN rfl) rfl (by kernel_rfl) hc77 (by kernel_rfl) rfl (by decide) (fun a S => ?_)
        refine sMove (.bool (r52.2.2 == 0)) S (wN rfl) (.inl rfl) (by kernel_rfl) rfl (by decide) (fun a S => ?_)
        rcases iteSome h with ⟨hc78, h⟩ | ⟨hc78, h⟩
        · refine sMove (.int .i64 r62.2) S (wG (c := r52.2.2 == 0) 14 true 73 rfl rfl (by kernel_rfl) hc78) (.inl rfl) (by kernel_rfl) rfl (by decide) (fun a S => ?_)
          refine sBin (.bool (r62.2 == 0)) S (wG (c := r52.2.2 == 0) 14 true 73 rfl rfl (by kernel_rfl) hc78) rfl (by kernel_rfl) (by kernel_rfl) (bEq _ _ _ _ .i64 r62.2 0) rfl (by decide) (fun a S => ?_)
          refine sPickT (b := r52.2.2 == 0) (.bool (r62.2 == 0)) S (wN rfl) rfl (by kernel_rfl) hc78 (by kernel_rfl) rfl (by decide) (fun a S => ?_)
          refine sMove (.bool (r62.2 == 0)) S (wN rfl) (.inl rfl) (by kernel_rfl) rfl (by decide) (fun a S => ?_)
          rcases iteSome h with ⟨hc79, h⟩ | ⟨hc79, h⟩
          · refine sMove (.int .i64 r66.2) S (wG (c := r62.2 == 0) 18 true 77 rfl rfl (by kernel_rfl) hc79) (.inl rfl) (by kernel_rfl) rfl (by decide) (fun a S => ?_)
            refine sBin (.bool (r66.2 == 0)) S (wG (c := r62.2 == 0) 18 true 77 rfl rfl (by kernel_rfl) hc79) rfl (by kernel_rfl) (by kernel_rfl) (bEq _ _ _ _ .i64 r66.2 0) rfl (by decide) (fun a S => ?_)
            refine sPickT (b := r62.2 == 0) (.bool (r66.2 == 0)) S (wN rfl) rfl (by kernel_rfl) hc79 (by kernel_rfl) rfl (by decide) (fun a S => ?_)
            refine sMove (.bool (r66.2 == 0)) S (wN rfl) (.inl rfl) (by kernel_rfl) rfl (by decide) (fun a S => ?_)
            rcases iteSome h with ⟨hc80, h⟩ | ⟨hc80, h⟩
            · refine sMove (.int .i64 r72.2) S (wG (c := r66.2 == 0) 22 true 81 rfl rfl (by kernel_rfl) hc80) (.inl rfl) (by kernel_rfl) rfl (by decide) (fun a S => ?_)
              refine sBin (.bool (r72.2 == 0)) S (wG (c := r66.2 == 0) 22 true 81 rfl rfl (by kernel_rfl) hc80) rfl (by kernel_rfl) (by kernel_rfl) (bEq _ _ _ _ .i64 r72.2 0) rfl (by decide) (fun a S => ?_)
              refine sPickT (b := r66.2 == 0) (.bool (r72.2 == 0)) S (wN rfl) rfl (by kernel_rfl) hc80 (by kernel_rfl) rfl (by decide) (fun a S => ?_)
              refine sMove (.bool (r72.2 == 0)) S (wN rfl) (.inr rfl) (by kernel_rfl) rfl (by decide) (fun a S => ?_)
              refine leafL (leafT (hK74 _ _ ?_))
              obtain ⟨t82, h, g83⟩ := bindSome h
              refine sCut (fun a w => ∃ o81, o81 = t82 ∧ St E [] w0 138 a w [(0, .bool o81)] [] []) ?_ (fun a w hI => ?_)
              · rcases iteSome h with ⟨hc84, h⟩ | ⟨hc84, h⟩
                · obtain ⟨r87, hx88, h⟩ := bindSome h
                  have hv_r87 : r87 = true := Option.some.inj (hx88.symm.trans (by rw [hv_r10]; exact kc_raddlelaw24_alive_12))
                  rcases iteSome h with ⟨hc89, h⟩ | ⟨hc89, h⟩
                  · obtain ⟨r92, hx93, h⟩ := bindSome h
                    have hv_r92 : r92 = true := Option.some.inj (hx93.symm.trans (by rw [hv_r10]; exact kc_raddlelaw24_alive_13))
                    rcases iteSome h with ⟨hc94, h⟩ | ⟨hc94, h⟩
                    · rcases iteSome h with ⟨hc96, h⟩ | ⟨hc96, h⟩
                      · rcases iteSome h with ⟨hc98, h⟩ | ⟨hc98, h⟩
                        · obtain ⟨r99, hx100, h⟩ := bindSome h
                          have hv_r99 : r99 = (api_Ratio.mk 400 3) := Option.some.inj (hx100.symm.trans (by exact kc_raddlelaw24_alive_14))
                          rcases iteSome h with ⟨hc102, h⟩ | ⟨hc102, h⟩
                          · rcases iteSome h with ⟨hc104, h⟩ | ⟨hc104, h⟩
                            · obtain ⟨r105, hx106, h⟩ := bindSome h
                              have hv_r105 : r105 = (api_Ratio.mk 200 1) := Option.some.inj (hx106.symm.trans (by exact kc_raddlelaw24_alive_15))
                              rcases iteSome h with ⟨hc108, h⟩ | ⟨hc108, h⟩
                              · rcases iteSome h with ⟨hc110, h⟩ | ⟨hc110, h⟩
                                · rcases iteSome h with ⟨hc111, h⟩ | ⟨hc111, h⟩
                                  · rcases iteSome h with ⟨hc112, h⟩ | ⟨hc112, h⟩
                                    · refine sDraw (nf := [3, 8, 13, 18, 23, 28, 33, 38]) (W := [(0, 85, .bool (r72.2 == 0)), (1, 86, .bool (r72.2 == 0)), (2, 87, .slice ad14 r10.1.length cp15)]) (by kernel_rfl) S ?_
                                      refine node_by (A := anc_raddlelaw24_alive_0) (nf := [3, 8, 13, 18, 23, 28, 33, 38]) (Y := []) (W := [(0, 85, .bool (r72.2 == 0)), (1, 86, .bool (r72.2 == 0)), (2, 87, .slice ad14 r10.1.length cp15)]) 54 (by kernel_rfl) (by kernel_rfl) (by kernel_rfl) (by kernel_rfl) (by kernel_rfl) [0, 1, 2] (by kernel_rfl) (by decide) (by decide) (aF 0 53 (by decide) ?_ (aF 1 52 (by decide) ?_ (aF 2 51 (by decide) ?_ (aN 3 50 (by decide) ?_ (aE 4 49 3 (by decide) (aE 5 48 3 (by decide) (aE 6 47 3 (by decide) (aE 7 46 3 (by decide) (aB 8 45 3 (by decide) (aE 9 44 3 (by decide) (aE 10 43 3 (by decide) (aE 11 42 3 (by decide) (aE 12 41 3 (by decide) (aB 13 40 3 (by decide) (aE 14 39 3 (by decide) (aE 15 38 3 (by decide) (aE 16 37 3 (by decide) (aE 17 36 3 (by decide) (aB 18 35 3 (by decide) (aE 19 34 3 (by decide) (aE 20 33 3 (by decide) (aE 21 32 3 (by decide) (aE 22 31 3 (by decide) (aB 23 30 3 (by decide) (aE 24 29 3 (by decide) (aE 25 28 3 (by decide) (aE 26 27 3 (by decide) (aE 27 26 3 (by decide) (aB 28 25 3 (by decide) (aE 29 24 3 (by decide) (aE 30 23 3 (by decide) (aE 31 22 3 (by decide) (aE 32 21 3 (by decide) (aB 33 20 3 (by decide) (aE 34 19 3 (by decide) (aE 35 18 3 (by decide) (aE 36 17 3 (by decide) (aE 37 16 3 (by decide) (aB 38 15 3 (by decide) (aE 39 14 3 (by decide) (aE 40 13 3 (by decide) (aE 41 12 3 (by decide) (aE 42 11 3 (by decide) (aE 43 10 3 (by decide) (aE 44 9 3 (by decide) (aE 45 8 3 (by decide) (aE 46 7 3 (by decide) (aE 47 6 3 (by decide) (aE 48 5 3 (by decide) (aE 49 4 3 (by decide) (aE 50 3 3 (by decide) (aE 51 2 3 (by decide) (aE 52 1 3 (by decide) (aE 53 0 3 (by decide) (trivial))))))))))))))))))))))))))))))))))))))))))))))))))))))) [] (fun q hq => by cases hq) (fun hY => absurd (hY 3 (by decide)) (by decide))
                                      · refine fI 85 (.bool (r72.2 == 0)) [(19, .bool (r72.2 == 0))] 0 [none] rfl rfl (by kernel_rfl) rfl (by kernel_rfl) (by kernel_rfl) fun G a w S => ?_
                                        refine sMove (.bool (r72.2 == 0)) S (wN rfl) (.inl rfl) (by kernel_rfl) rfl (by decide) (fun a S => ?_)
                                        exact leafL ⟨rfl, S⟩
                                      · refine fI 86 (.bool (r72.2 == 0)) [(85, .bool (r72.2 == 0))] 1 [some 0] rfl rfl (by kernel_rfl) rfl (by kernel_rfl) (by kernel_rfl) fun G a w S => ?_
                                        refine sMove (.bool (r72.2 == 0)) S (wN rfl) (.inl rfl) (by kernel_rfl) rfl (by decide) (fun a S => ?_)
                                        exact leafL ⟨rfl, S⟩
                                      · refine fI 87 (.slice ad14 r10.1.length cp15) [(1, .slice ad14 r10.1.length cp15), (86, .bool (r72.2 == 0))] 2 [none, some 1] rfl rfl (by kernel_rfl) rfl (by kernel_rfl) (by kernel_rfl) fun G a w S => ?_
                                        refine sMove (.slice ad14 r10.1.length cp15) S (wG (c := r72.2 == 0) 1 true 86 rfl rfl (by kernel_rfl) hc84) (.inl rfl) (by kernel_rfl) rfl (by decide) (fun a S => ?_)
                                        exact leafL ⟨rfl, S⟩
                                      · refine ⟨_, [(86, .bool (r72.2 == 0))], rfl, (srcs_of [some 1] rfl (by kernel_rfl) (by kernel_rfl)), fun G a w S => ?_⟩
                                        refine sLit (r := (rI .i64)) (T := 3) (xs := ([2, 2] : List Int)) [(0, .int .i64 2), (1, .int .i64 2)] 2 [.int .i64 2, .int .i64 2] [.int .i64 2, .int .i64 2] (.int .i64 0) 8 S (wG (c := r72.2 == 0) 1 true 86 rfl rfl (by kernel_rfl) hc84) rfl (by kernel_rfl) Try.underlying27 (by kernel_rfl) (by decide) (by decide) (by kernel_rfl) rfl (fun E1 w1 hE => All.cons rfl (All.cons rfl (All.nil _ _ _))) rfl rfl (by decide) (fun a w ad113 cp114 S => ?_)
                                        refine leafL ⟨rfl, _, _, .inl ⟨88, (.slice ad113 ([2, 2] : List Int).length cp114), [(4, 89, .bool r87), (5, 90, .bool r87), (6, 91, .bool r87), (7, 92, .slice ad16 r10.2.1.length cp17)], rfl, S, hz_of (by kernel_rfl), ?_⟩⟩
                                        refine node_by (A := anc_raddlelaw24_alive_0) (nf := [3, 8, 13, 18, 23, 28, 33, 38]) (Y := [3]) 54 (by kernel_rfl) (by kernel_rfl) (by kernel_rfl) (by kernel_rfl) (by kernel_rfl) [4, 5, 6, 7, 3, 0, 1, 2] (by kernel_rfl) (by decide) (by decide) (aD 0 53 3 (by decide) (aD 1 52 3 (by decide) (aF 2 51 (by decide) ?_ (aY 3 50 (by decide) (aF 4 49 (by decide) ?_ (aF 5 48 (by decide) ?_ (aF 6 47 (by decide) ?_ (aF 7 46 (by decide) ?_ (aN 8 45 (by decide) ?_ (aE 9 44 8 (by decide) (aE 10 43 8 (by decide) (aE 11 42 8 (by decide) (aE 12 41 8 (by decide) (aB 13 40 8 (by decide) (aE 14 39 8 (by decide) (aE 15 38 8 (by decide) (aE 16 37 8 (by decide) (aE 17 36 8 (by decide) (aB 18 35 8 (by decide) (aE 19 34 8 (by decide) (aE 20 33 8 (by decide) (aE 21 32 8 (by decide) (aE 22 31 8 (by decide) (aB 23 30 8 (by decide) (aE 24 29 8 (by decide) (aE 25 28 8 (by decide) (aE 26 27 8 (by decide) (aE 27 26 8 (by decide) (aB 28 25 8 (by decide) (aE 29 24 8 (by decide) (aE 30 23 8 (by decide) (aE 31 22 8 (by decide) (aE 32 21 8 (by decide) (aB 33 20 8 (by decide) (aE 34 19 8 (by decide) (aE 35 18 8 (by decide) (aE 36 17 8 (by decide) (aE 37 16 8 (by decide) (aB 38 15 8 (by decide) (aE 39 14 8 (by decide) (aE 40 13 8 (by decide) (aE 41 12 8 (by decide) (aE 42 11 8 (by decide) (aE 43 10 8 (by decide) (aE 44 9 8 (by decide) (aE 45 8 8 (by decide) (aE 46 7 8 (by decide) (aE 47 6 8 (by decide) (aE 48 5 8 (by decide) (aE 49 4 8 (by decide) (aE 50 3 8 (by decide) (aE 51 2 8 (by decide) (aE 52 1 8 (by decide) (aE 53 0 8 (by decide) (trivial))))))))))))))))))))))))))))))))))))))))))))))))))))))) [] (fun q hq => by cases hq) (fun hY => absurd (hY 8 (by decide)) (by decide))
                                        · refine fI 87 (.slice ad14 r10.1.length cp15) [(1, .slice ad14 r10.1.length cp15), (86, .bool (r72.2 == 0))] 7 [none, some 6] rfl rfl (by kernel_rfl) rfl (by kernel_rfl) (by kernel_rfl) fun G a w S => ?_
                                          refine sMove (.slice ad14 r10.1.length cp15) S (wG (c := r72.2 == 0) 1 true 86 rfl rfl (by kernel_rfl) hc84) (.inl rfl) (by kernel_rfl) rfl (by decide) (fun a S => ?_)
                                          exact leafL ⟨rfl, S⟩
                                        · refine fI 89 (.bool r87) [(87, .slice ad14 r10.1.length cp15), (88, .slice ad113 ([2, 2] : List Int).length cp114), (86, .bool (r72.2 == 0))] 0 [some 7, some 4, some 6] rfl rfl (by kernel_rfl) rfl (by kernel_rfl) (by kernel_rfl) fun G a w S => ?_
                                          have S1 := S.mem
                                          have S1 := S1.shutR (r := (rI .i64)) (T := 3) (v := .slice ad113 ([2, 2] : List Int).length cp114) (xs := ([2, 2] : List Int)) 0 (by kernel_rfl)
                                          refine sCallQ (X := Unit) (f := 15) (vs := [.slice ad14 r10.1.length cp15, .slice ad113 ([2, 2] : List Int).length cp114]) (val := fun _ => .bool r87) S (wG (c := r72.2 == 0) 1 true 86 rfl rfl (by kernel_rfl) hc84) rfl callee15 (by kernel_rfl) (S1.quiet [16, 0] (by kernel_rfl)) (fun E1 w1 S1 => c_raddleref24_Same E1 w1 r10.1 (.slice ad14 r10.1.length cp15) ([2, 2] : List Int) (.slice ad113 ([2, 2] : List Int).length cp114) r87 hx88 S1) rfl (by decide) (fun _ a w S => ?_)
                                          exact leafL ⟨rfl, S⟩
                                        · refine fI 90 (.bool r87) [(86, .bool (r72.2 == 0)), (89, .bool r87)] 1 [some 6, some 0] rfl rfl (by kernel_rfl) rfl (by kernel_rfl) (by kernel_rfl) fun G a w S => ?_
                                          refine sPickT (b := r72.2 == 0) (.bool r87) S (wN rfl) rfl (by kernel_rfl) hc84 (by kernel_rfl) rfl (by decide) (fun a S => ?_)
                                          exact leafL ⟨rfl, S⟩
                                        · refine fI 91 (.bool r87) [(90, .bool r87)] 2 [some 1] rfl rfl (by kernel_rfl) rfl (by kernel_rfl) (by kernel_rfl) fun G a w S => ?_
                                          refine sMove (.bool r87) S (wN rfl) (.inl rfl) (by kernel_rfl) rfl (by decide) (fun a S => ?_)
                                          exact leafL ⟨rfl, S⟩
                                        · refine fI 92 (.slice ad16 r10.2.1.length cp17) [(2, .slice ad16 r10.2.1.length cp17), (91, .bool r87)] 3 [none, some 2] rfl rfl (by kernel_rfl) rfl (by kernel_rfl) (by kernel_rfl) fun G a w S => ?_
                                          refine sMove (.slice ad16 r10.2.1.length cp17) S (wG (c := r87) 6 true 91 rfl rfl (by kernel_rfl) hc89) (.inl rfl) (by kernel_rfl) rfl (by decide) (fun a S => ?_)
                                          exact leafL ⟨rfl, S⟩
                                        · refine ⟨_, [(91, .bool r87)], rfl, (srcs_of [some 2] rfl (by kernel_rfl) (by kernel_rfl)), fun G a w S => ?_⟩
                                          refine sLit (r := (rI .i64)) (T := 3) (xs := ([2, 2] : List Int)) [(0, .int .i64 2), (1, .int .i64 2)] 2 [.int .i64 2, .int .i64 2] [.int .i64 2, .int .i64 2] (.int .i64 0) 8 S (wG (c := r87) 6 true 91 rfl rfl (by kernel_rfl) hc89) rfl (by kernel_rfl) Try.underlying27 (by kernel_rfl) (by decide) (by decide) (by kernel_rfl) rfl (fun E1 w1 hE => All.cons rfl (All.cons rfl (All.nil _ _ _))) rfl rfl (by decide) (fun a w ad115 cp116 S => ?_)
                                          refine leafL ⟨rfl, _, _, .inl ⟨93, (.slice ad115 ([2, 2] : List Int).length cp116), [(9, 94, .bool r92), (10, 95, .bool r92), (11, 96, .bool r92), (12, 97, .agg #[.int .i64 r24.1.Num, .int .i64 r24.1.Den])], rfl, S, hz_of (by kernel_rfl), ?_⟩⟩
                                          refine node_by (A := anc_raddlelaw24_alive_0) (nf := [3, 8, 13, 18, 23, 28, 33, 38]) (Y := [8, 3]) 54 (by kernel_rfl) (by kernel_rfl) (by kernel_rfl) (by kernel_rfl) (by kernel_rfl) [9, 10, 11, 12, 8, 4, 5, 6, 7, 3, 0, 1, 2] (by kernel_rfl) (by decide) (by decide) (aD 0 53 8 (by decide) (aD 1 52 8 (by decide) (aD 2 51 8 (by decide) (aY 3 50 (by decide) (aD 4 49 8 (by decide) (aD 5 48 8 (by decide) (aD 6 47 8 (by decide) (aF 7 46 (by decide) ?_ (aY 8 45 (by decide) (aF 9 44 (by decide) ?_ (aF 10 43 (by decide) ?_ (aF 11 42 (by decide) ?_ (aF 12 41 (by decide) ?_ (aN 13 40 (by decide) ?_ (aE 14 39 13 (by decide) (aE 15 38 13 (by decide) (aE 16 37 13 (by decide) (aE 17 36 13 (by decide) (aB 18 35 13 (by decide) (aE 19 34 13 (by decide) (aE 20 33 13 (by decide) (aE 21 32 13 (by decide) (aE 22 31 13 (by decide) (aB 23 30 13 (by decide) (aE 24 29 13 (by decide) (aE 25 28 13 (by decide) (aE 26 27 13 (by decide) (aE 27 26 13 (by decide) (aB 28 25 13 (by decide) (aE 29 24 13 (by decide) (aE 30 23 13 (by decide) (aE 31 22 13 (by decide) (aE 32 21 13 (by decide) (aB 33 20 13 (by decide) (aE 34 19 13 (by decide) (aE 35 18 13 (by decide) (aE 36 17 13 (by decide) (aE 37 16 13 (by decide) (aB 38 15 13 (by decide) (aE 39 14 13 (by decide) (aE 40 13 13 (by decide) (aE 41 12 13 (by decide) (aE 42 11 13 (by decide) (aE 43 10 13 (by decide) (aE 44 9 13 (by decide) (aE 45 8 13 (by decide) (aE 46 7 13 (by decide) (aE 47 6 13 (by decide) (aE 48 5 13 (by decide) (aE 49 4 13 (by decide) (aE 50 3 13 (by decide) (aE 51 2 13 (by decide) (aE 52 1 13 (by decide) (aE 53 0 13 (by decide) (trivial))))))))))))))))))))))))))))))))))))))))))))))))))))))) [] (fun q hq => by cases hq) (fun hY => absurd (hY 13 (by decide)) (by decide))
                                          · refine fI 92 (.slice ad16 r10.2.1.length cp17) [(2, .slice ad16 r10.2.1.length cp17), (91, .bool r87)] 8 [none, some 7] rfl rfl (by kernel_rfl) rfl (by kernel_rfl) (by kernel_rfl) fun G a w S => ?_
                                            refine sMove (.slice ad16 r10.2.1.length cp17) S (wG (c := r87) 6 true 91 rfl rfl (by kernel_rfl) hc89) (.inl rfl) (by kernel_rfl) rfl (by decide) (fun a S => ?_)
                                            exact leafL ⟨rfl, S⟩
                                          · refine fI 94 (.bool r92) [(92, .slice ad16 r10.2.1.length cp17), (93, .slice ad115 ([2, 2] : List Int).length cp116), (91, .bool r87)] 0 [some 8, some 4, some 7] rfl rfl (by kernel_rfl) rfl (by kernel_rfl) (by kernel_rfl) fun G a w S => ?_
                                            have S1 := S.mem
                                            have S1 := S1.shutR (r := (rI .i64)) (T := 3) (v := .slice ad115 ([2, 2] : List Int).length cp116) (xs := ([2, 2] : List Int)) 0 (by kernel_rfl)
                                            refine sCallQ (X := Unit) (f := 15) (vs := [.slice ad16 r10.2.1.length cp17, .slice ad115 ([2, 2] : List Int).length cp116]) (val := fun _ => .bool r92) S (wG (c := r87) 6 true 91 rfl rfl (by kernel_rfl) hc89) rfl callee15 (by kernel_rfl) (S1.quiet [17, 0] (by kernel_rfl)) (fun E1 w1 S1 => c_raddleref24_Same E1 w1 r10.2.1 (.slice ad16 r10.2.1.length cp17) ([2, 2] : List Int) (.slice ad115 ([2, 2] : List Int).length cp116) r92 hx93 S1) rfl (by decide) (fun _ a w S => ?_)
                                            exact leafL ⟨rfl, S⟩
                                          · refine fI 95 (.bool r92) [(91, .bool r87), (94, .bool r92)] 1 [some 7, some 0] rfl rfl (by kernel_rfl) rfl (by kernel_rfl) (by kernel_rfl) fun G a w S => ?_
                                            refine sPickT (b := r87) (.bool r92) S (wN rfl) rfl (by kernel_rfl) hc89 (by kernel_rfl) rfl (by decide) (fun a S => ?_)
                                            exact leafL ⟨rfl, S⟩
                                          · refine fI 96 (.bool r92) [(95, .bool r92)] 2 [some 1] rfl rfl (by kernel_rfl) rfl (by kernel_rfl) (by kernel_rfl) fun G a w S => ?_
                                            refine sMove (.bool r92) S (wN rfl) (.inl rfl) (by kernel_rfl) rfl (by decide) (fun a S => ?_)
                                            exact leafL ⟨rfl, S⟩
                                          · refine fI 97 (.agg #[.int .i64 r24.1.Num, .int .i64 r24.1.Den]) [(4, .pointer (some ⟨b28, 0, none⟩)), (96, .bool r92)] 3 [none, some 2] rfl rfl (by kernel_rfl) rfl (by kernel_rfl) (by kernel_rfl) fun G a w S => ?_
                                            refine sLoadN (p := b28) (off := 0) (T := 34) (vs := [.int .i64 r24.1.Num, .int .i64 r24.1.Den]) 7 [.int .i64 r24.1.Num, .int .i64 r24.1.Den] S (wG (c := r92) 11 true 96 rfl rfl (by kernel_rfl) hc94) rfl (by kernel_rfl) (by kernel_rfl) (by kernel_rfl) (by kernel_rfl) rfl rfl (by decide) (fun a S => ?_)
                                            exact leafL ⟨rfl, S⟩
                                          · refine ⟨_, [(96, .bool r92)], rfl, (srcs_of [some 2] rfl (by kernel_rfl) (by kernel_rfl)), fun G a w S => ?_⟩
                                            refine sCall (X := Value) (f := 24) (vs := [.int .i64 100, .int .i64 1]) (val := c_raddlelaw24_part_val r59) (B' := fun _ => []) (D' := c_raddlelaw24_part_D r59) [] [eRow (rI .i64) 3 (.slice ad115 ([2, 2] : List Int).length cp116) ([2, 2] : List Int), eRow (rI .i64) 3 (.slice ad113 ([2, 2] : List Int).length cp114) ([2, 2] : List Int), eBox b57 34 [.int .i64 r52.2.1.Num, .int .i64 r52.2.1.Den], eBox b56 34 [.int .i64 r52.1.Num, .int .i64 r52.1.Den], eBox b43 34 [.int .i64 r38.2.1.Num, .int .i64 r38.2.1.Den], eBox b42 34 [.int .i64 r38.1.Num, .int .i64 r38.1.Den], eBox b29 34 [.int .i64 r24.2.1.Num, .int .i64 r24.2.1.Den], eBox b28 34 [.int .i64 r24.1.Num, .int .i64 r24.1.Den]] [] [0, 1, 2, 3, 4, 5, 6, 7] [] S (wG (c := r92) 11 true 96 rfl rfl (by kernel_rfl) hc94) rfl callee24 (by kernel_rfl) (by decide) (by kernel_rfl) (by kernel_rfl) (fun E1 w1 S1 => c_raddlelaw24_part E1 w1 100 1 r59 hx60 S1) rfl (by decide) (fun u117 a w S => ?_)
                                            obtain rfl : u117 = .agg #[.int .i64 r59.Num, .int .i64 r59.Den] := S.mem.know (i := 0) (e := fRep r_api_Ratio (u117) r59) (by kernel_rfl)
                                            refine leafL ⟨rfl, _, _, .inl ⟨98, (.agg #[.int .i64 r59.Num, .int .i64 r59.Den]), [(14, 99, .bool ((r24.1.Num == r59.Num) && ((r24.1.Den == r59.Den) && true))), (15, 100, .bool ((r24.1.Num == r59.Num) && ((r24.1.Den == r59.Den) && true))), (16, 101, .bool ((r24.1.Num == r59.Num) && ((r24.1.Den == r59.Den) && true))), (17, 102, .agg #[.int .i64 r24.2.1.Num, .int .i64 r24.2.1.Den])], rfl, S, hz_of (by kernel_rfl), ?_⟩⟩
                                            refine node_by (A := anc_raddlelaw24_alive_0) (nf := [3, 8, 13, 18, 23, 28, 33, 38]) (Y := [13, 8, 3]) 54 (by kernel_rfl) (by kernel_rfl) (by kernel_rfl) (by kernel_rfl) (by kernel_rfl) [14, 15, 16, 17, 13, 9, 10, 11, 12, 8, 4, 5, 6, 7, 3, 0, 1, 2] (by kernel_rfl) (by decide) (by decide) (aD 0 53 13 (by decide) (aD 1 52 13 (by decide) (aD 2 51 13 (by decide) (aY 3 50 (by decide) (aD 4 49 13 (by decide) (aD 5 48 13 (by decide) (aD 6 47 13 (by decide) (aD 7 46 13 (by decide) (aY 8 45 (by decide) (aD 9 44 13 (by decide) (aD 10 43 13 (by decide) (aD 11 42 13 (by decide) (aF 12 41 (by decide) ?_ (aY 13 40 (by decide) (aF 14 39 (by decide) ?_ (aF 15 38 (by decide) ?_ (aF 16 37 (by decide) ?_ (aF 17 36 (by decide) ?_ (aN 18 35 (by decide) ?_ (aE 19 34 18 (by decide) (aE 20 33 18 (by decide) (aE 21 32 18 (by decide) (aE 22 31 18 (by decide) (aB 23 30 18 (by decide) (aE 24 29 18 (by decide) (aE 25 28 18 (by decide) (aE 26 27 18 (by decide) (aE 27 26 18 (by decide) (aB 28 25 18 (by decide) (aE 29 24 18 (by decide) (aE 30 23 18 (by decide) (aE 31 22 18 (by decide) (aE 32 21 18 (by decide) (aB 33 20 18 (by decide) (aE 34 19 18 (by decide) (aE 35 18 18 (by decide) (aE 36 17 18 (by decide) (aE 37 16 18 (by decide) (aB 38 15 18 (by decide) (aE 39 14 18 (by decide) (aE 40 13 18 (by decide) (aE 41 12 18 (by decide) (aE 42 11 18 (by decide) (aE 43 10 18 (by decide) (aE 44 9 18 (by decide) (aE 45 8 18 (by decide) (aE 46 7 18 (by decide) (aE 47 6 18 (by decide) (aE 48 5 18 (by decide) (aE 49 4 18 (by decide) (aE 50 3 18 (by decide) (aE 51 2 18 (by decide) (aE 52 1 18 (by decide) (aE 53 0 18 (by decide) (trivial))))))))))))))))))))))))))))))))))))))))))))))))))))))) [] (fun q hq => by cases hq) (fun hY => absurd (hY 18 (by decide)) (by decide))
                                            · refine fI 97 (.agg #[.int .i64 r24.1.Num, .int .i64 r24.1.Den]) [(4, .pointer (some ⟨b28, 0, none⟩)), (96, .bool r92)] 8 [none, some 7] rfl rfl (by kernel_rfl) rfl (by kernel_rfl) (by kernel_rfl) fun G a w S => ?_
                                              refine sLoadN (p := b28) (off := 0) (T := 34) (vs := [.int .i64 r24.1.Num, .int .i64 r24.1.Den]) 7 [.int .i64 r24.1.Num, .int .i64 r24.1.Den] S (wG (c := r92) 11 true 96 rfl rfl (by kernel_rfl) hc94) rfl (by kernel_rfl) (by kernel_rfl) (by kernel_rfl) (by kernel_rfl) rfl rfl (by decide) (fun a S => ?_)
                                              exact leafL ⟨rfl, S⟩
                                            · refine fI 99 (.bool ((r24.1.Num == r59.Num) && ((r24.1.Den == r59.Den) && true))) [(97, .agg #[.int .i64 r24.1.Num, .int .i64 r24.1.Den]), (98, .agg #[.int .i64 r59.Num, .int .i64 r59.Den]), (96, .bool r92)] 0 [some 8, some 4, some 7] rfl rfl (by kernel_rfl) rfl (by kernel_rfl) (by kernel_rfl) fun G a w S => ?_
                                              refine sBin (.bool ((r24.1.Num == r59.Num) && ((r24.1.Den == r59.Den) && true))) S (wG (c := r92) 11 true 96 rfl rfl (by kernel_rfl) hc94) rfl (by kernel_rfl) (by kernel_rfl) (bEqV _ _ _ _ #[.int .i64 r24.1.Num, .int .i64 r24.1.Den] #[.int .i64 r59.Num, .int .i64 r59.Den] ((r24.1.Num == r59.Num) && ((r24.1.Den == r59.Den) && true)) (by kernel_rfl) (eqlV_of (by kernel_rfl))) rfl (by decide) (fun a S => ?_)
                                              exact leafL ⟨rfl, S⟩
                                            · refine fI 100 (.bool ((r24.1.Num == r59.Num) && ((r24.1.Den == r59.Den) && true))) [(96, .bool r92), (99, .bool ((r24.1.Num == r59.Num) && ((r24.1.Den == r59.Den) && true)))] 1 [some 7, some 0] rfl rfl (by kernel_rfl) rfl (by kernel_rfl) (by kernel_rfl) fun G a w S => ?_
                                              refine sPickT (b := r92) (.bool ((r24.1.Num == r59.Num) && ((r24.1.Den == r59.Den) && true))) S (wN rfl) rfl (by kernel_rfl) hc94 (by kernel_rfl) rfl (by decide) (fun a S => ?_)
                                              exact leafL ⟨rfl, S⟩
                                            · refine fI 101 (.bool ((r24.1.Num == r59.Num) && ((r24.1.Den == r59.Den) && true))) [(100, .bool ((r24.1.Num == r59.Num) && ((r24.1.Den == r59.Den) && true)))] 2 [some 1] rfl rfl (by kernel_rfl) rfl (by kernel_rfl) (by kernel_rfl) fun G a w S => ?_
                                              refine sMove (.bool ((r24.1.Num == r59.Num) && ((r24.1.Den == r59.Den) && true))) S (wN rfl) (.inl rfl) (by kernel_rfl) rfl (by decide) (fun a S => ?_)
                                              exact leafL ⟨rfl, S⟩
                                            · refine fI 102 (.agg #[.int .i64 r24.2.1.Num, .int .i64 r24.2.1.Den]) [(5, .pointer (some ⟨b29, 0, none⟩)), (101, .bool ((r24.1.Num == r59.Num) && ((r24.1.Den == r59.Den) && true)))] 3 [none, some 2] rfl rfl (by kernel_rfl) rfl (by kernel_rfl) (by kernel_rfl) fun G a w S => ?_
                                              refine sLoadN (p := b29) (off := 0) (T := 34) (vs := [.int .i64 r24.2.1.Num, .int .i64 r24.2.1.Den]) 6 [.int .i64 r24.2.1.Num, .int .i64 r24.2.1.Den] S (wG (c := ((r24.1.Num == r59.Num) && ((r24.1.Den == r59.Den) && true))) 16 true 101 rfl rfl (by kernel_rfl) hc96) rfl (by kernel_rfl) (by kernel_rfl) (by kernel_rfl) (by kernel_rfl) rfl rfl (by decide) (fun a S => ?_)
                                              exact leafL ⟨rfl, S⟩
                                            · refine ⟨_, [(101, .bool ((r24.1.Num == r59.Num) && ((r24.1.Den == r59.Den) && true)))], rfl, (srcs_of [some 2] rfl (by kernel_rfl) (by kernel_rfl)), fun G a w S => ?_⟩
                                              refine sCall (X := Value) (f := 24) (vs := [.int .i64 100, .int .i64 1]) (val := c_raddlelaw24_part_val r59) (B' := fun _ => []) (D' := c_raddlelaw24_part_D r59) [] [eRow (rI .i64) 3 (.slice ad115 ([2, 2] : List Int).length cp116) ([2, 2] : List Int), eRow (rI .i64) 3 (.slice ad113 ([2, 2] : List Int).length cp114) ([2, 2] : List Int), eBox b57 34 [.int .i64 r52.2.1.Num, .int .i64 r52.2.1.Den], eBox b56 34 [.int .i64 r52.1.Num, .int .i64 r52.1.Den], eBox b43 34 [.int .i64 r38.2.1.Num, .int .i64 r38.2.1.Den], eBox b42 34 [.int .i64 r38.1.Num, .int .i64 r38.1.Den], eBox b29 34 [.int .i64 r24.2.1.Num, .int .i64 r24.2.1.Den], eBox b28 34 [.int .i64 r24.1.Num, .int .i64 r24.1.Den]] [] [0, 1, 2, 3, 4, 5, 6, 7] [] S (wG (c := ((r24.1.Num == r59.Num) && ((r24.1.Den == r59.Den) && true))) 16 true 101 rfl rfl (by kernel_rfl) hc96) rfl callee24 (by kernel_rfl) (by decide) (by kernel_rfl) (by kernel_rfl) (fun E1 w1 S1 => c_raddlelaw24_part E1 w1 100 1 r59 hx60 S1) rfl (by decide) (fun u118 a w S => ?_)
                                              obtain rfl : u118 = .agg #[.int .i64 r59.Num, .int .i64 r59.Den] := S.mem.know (i := 0) (e := fRep r_api_Ratio (u118) r59) (by kernel_rfl)
                                              refine leafL ⟨rfl, _, _, .inl ⟨103, (.agg #[.int .i64 r59.Num, .int .i64 r59.Den]), [(19, 104, .bool ((r24.2.1.Num == r59.Num) && ((r24.2.1.Den == r59.Den) && true))), (20, 105, .bool ((r24.2.1.Num == r59.Num) && ((r24.2.1.Den == r59.Den) && true))), (21, 106, .bool ((r24.2.1.Num == r59.Num) && ((r24.2.1.Den == r59.Den) && true))), (22, 107, .agg #[.int .i64 r38.1.Num, .int .i64 r38.1.Den])], rfl, S, hz_of (by kernel_rfl), ?_⟩⟩
                                              refine node_by (A := anc_raddlelaw24_alive_0) (nf := [3, 8, 13, 18, 23, 28, 33, 38]) (Y := [18, 13, 8, 3]) 54 (by kernel_rfl) (by kernel_rfl) (by kernel_rfl) (by kernel_rfl) (by kernel_rfl) [19, 20, 21, 22, 18, 14, 15, 16, 17, 13, 9, 10, 11, 12, 8, 4, 5, 6, 7, 3, 0, 1, 2] (by kernel_rfl) (by decide) (by decide) (aD 0 53 18 (by decide) (aD 1 52 18 (by decide) (aD 2 51 18 (by decide) (aY 3 50 (by decide) (aD 4 49 18 (by decide) (aD 5 48 18 (by decide) (aD 6 47 18 (by decide) (aD 7 46 18 (by decide) (aY 8 45 (by decide) (aD 9 44 18 (by decide) (aD 10 43 18 (by decide) (aD 11 42 18 (by decide) (aD 12 41 18 (by decide) (aY 13 40 (by decide) (aD 14 39 18 (by decide) (aD 15 38 18 (by decide) (aD 16 37 18 (by decide) (aF 17 36 (by decide) ?_ (aY 18 35 (by decide) (aF 19 34 (by decide) ?_ (aF 20 33 (by decide) ?_ (aF 21 32 (by decide) ?_ (aF 22 31 (by decide) ?_ (aN 23 30 (by decide) ?_ (aE 24 29 23 (by decide) (aE 25 28 23 (by decide) (aE 26 27 23 (by decide) (aE 27 26 23 (by decide) (aB 28 25 23 (by decide) (aE 29 24 23 (by decide) (aE 30 23 23 (by decide) (aE 31 22 23 (by decide) (aE 32 21 23 (by decide) (aB 33 20 23 (by decide) (aE 34 19 23 (by decide) (aE 35 18 23 (by decide) (aE 36 17 23 (by decide) (aE 37 16 23 (by decide) (aB 38 15 23 (by decide) (aE 39 14 23 (by decide) (aE 40 13 23 (by decide) (aE 41 12 23 (by decide) (aE 42 11 23 (by decide) (aE 43 10 23 (by decide) (aE 44 9 23 (by decide) (aE 45 8 23 (by decide) (aE 46 7 23 (by decide) (aE 47 6 23 (by decide) (aE 48 5 23 (by decide) (aE 49 4 23 (by decide) (aE 50 3 23 (by decide) (aE 51 2 23 (by decide) (aE 52 1 23 (by decide) (aE 53 0 23 (by decide) (trivial))))))))))))))))))))))))))))))))))))))))))))))))))))))) [] (fun q hq => by cases hq) (fun hY => absurd (hY 23 (by decide)) (by decide))
                                              · refine fI 102 (.agg #[.int .i64 r24.2.1.Num, .int .i64 r24.2.1.Den]) [(5, .pointer (some ⟨b29, 0, none⟩)), (101, .bool ((r24.1.Num == r59.Num) && ((r24.1.Den == r59.Den) && true)))] 8 [none, some 7] rfl rfl (by kernel_rfl) rfl (by kernel_rfl) (by kernel_rfl) fun G a w S => ?_
                                                refine sLoadN (p := b29) (off := 0) (T := 34) (vs := [.int .i64 r24.2.1.Num, .int .i64 r24.2.1.Den]) 6 [.int .i64 r24.2.1.Num, .int .i64 r24.2.1.Den] S (wG (c := ((r24.1.Num == r59.Num) && ((r24.1.Den == r59.Den) && true))) 16 true 101 rfl rfl (by kernel_rfl) hc96) rfl (by kernel_rfl) (by kernel_rfl) (by kernel_rfl) (by kernel_rfl) rfl rfl (by decide) (fun a S => ?_)
                                                exact leafL ⟨rfl, S⟩
                                              · refine fI 104 (.bool ((r24.2.1.Num == r59.Num) && ((r24.2.1.Den == r59.Den) && true))) [(102, .agg #[.int .i64 r24.2.1.Num, .int .i64 r24.2.1.Den]), (103, .agg #[.int .i64 r59.Num, .int .i64 r59.Den]), (101, .bool ((r24.1.Num == r59.Num) && ((r24.1.Den == r59.Den) && true)))] 0 [some 8, some 4, some 7] rfl rfl (by kernel_rfl) rfl (by kernel_rfl) (by kernel_rfl) fun G a w S => ?_
                                                refine sBin (.bool ((r24.2.1.Num == r59.Num) && ((r24.2.1.Den == r59.Den) && true))) S (wG (c := ((r24.1.Num == r59.Num) && ((r24.1.Den == r59.Den) && true))) 16 true 101 rfl rfl (by kernel_rfl) hc96) rfl (by kernel_rfl) (by kernel_rfl) (bEqV _ _ _ _ #[.int .i64 r24.2.1.Num, .int .i64 r24.2.1.Den] #[.int .i64 r59.Num, .int .i64 r59.Den] ((r24.2.1.Num == r59.Num) && ((r24.2.1.Den == r59.Den) && true)) (by kernel_rfl) (eqlV_of (by kernel_rfl))) rfl (by decide) (fun a S => ?_)
                                                exact leafL ⟨rfl, S⟩
                                              · refine fI 105 (.bool ((r24.2.1.Num == r59.Num) && ((r24.2.1.Den == r59.Den) && true))) [(101, .bool ((r24.1.Num == r59.Num) && ((r24.1.Den == r59.Den) && true))), (104, .bool ((r24.2.1.Num == r59.Num) && ((r24.2.1.Den == r59.Den) && true)))] 1 [some 7, some 0] rfl rfl (by kernel_rfl) rfl (by kernel_rfl) (by kernel_rfl) fun G a w S => ?_
                                                refine sPickT (b := ((r24.1.Num == r59.Num) && ((r24.1.Den == r59.Den) && true))) (.bool ((r24.2.1.Num == r59.Num) && ((r24.2.1.Den == r59.Den) && true))) S (wN rfl) rfl (by kernel_rfl) hc96 (by kernel_rfl) rfl (by decide) (fun a S => ?_)
                                                exact leafL ⟨rfl, S⟩
                                              · refine fI 106 (.bool ((r24.2.1.Num == r59.Num) && ((r24.2.1.Den == r59.Den) && true))) [(105, .bool ((r24.2.1.Num == r59.Num) && ((r24.2.1.Den == r59.Den) && true)))] 2 [some 1] rfl rfl (by kernel_rfl) rfl (by kernel_rfl) (by kernel_rfl) fun G a w S => ?_
                                                refine sMove (.bool ((r24.2.1.Num == r59.Num) && ((r24.2.1.Den == r59.Den) && true))) S (wN rfl) (.inl rfl) (by kernel_rfl) rfl (by decide) (fun a S => ?_)
                                                exact leafL ⟨rfl, S⟩
                                              · refine fI 107 (.agg #[.int .i64 r38.1.Num, .int .i64 r38.1.Den]) [(7, .pointer (some ⟨b42, 0, none⟩)), (106, .bool ((r24.2.1.Num == r59.Num) && ((r24.2.1.Den == r59.Den) && true)))] 3 [none, some 2] rfl rfl (by kernel_rfl) rfl (by kernel_rfl) (by kernel_rfl) fun G a w S => ?_
                                                refine sLoadN (p := b42) (off := 0) (T := 34) (vs := [.int .i64 r38.1.Num, .int .i64 r38.1.Den]) 5 [.int .i64 r38.1.Num, .int .i64 r38.1.Den] S (wG (c := ((r24.2.1.Num == r59.Num) && ((r24.2.1.Den == r59.Den) && true))) 21 true 106 rfl rfl (by kernel_rfl) hc98) rfl (by kernel_rfl) (by kernel_rfl) (by kernel_rfl) (by kernel_rfl) rfl rfl (by decide) (fun a S => ?_)
                                                exact leafL ⟨rfl, S⟩
                                              · refine ⟨_, [(106, .bool ((r24.2.1.Num == r59.Num) && ((r24.2.1.Den == r59.Den) && true)))], rfl, (srcs_of [some 2] rfl (by kernel_rfl) (by kernel_rfl)), fun G a w S => ?_⟩
                                                refine sCall (X := Value) (f := 24) (vs := [.int .i64 400, .int .i64 3]) (val := c_raddlelaw24_part_val r99) (B' := fun _ => []) (D' := c_raddlelaw24_part_D r99) [] [eRow (rI .i64) 3 (.slice ad115 ([2, 2] : List Int).length cp116) ([2, 2] : List Int), eRow (rI .i64) 3 (.slice ad113 ([2, 2] : List Int).length cp114) ([2, 2] : List Int), eBox b57 34 [.int .i64 r52.2.1.Num, .int .i64 r52.2.1.Den], eBox b56 34 [.int .i64 r52.1.Num, .int .i64 r52.1.Den], eBox b43 34 [.int .i64 r38.2.1.Num, .int .i64 r38.2.1.Den], eBox b42 34 [.int .i64 r38.1.Num, .int .i64 r38.1.Den], eBox b29 34 [.int .i64 r24.2.1.Num, .int .i64 r24.2.1.Den], eBox b28 34 [.int .i64 r24.1.Num, .int .i64 r24.1.Den]] [] [0, 1, 2, 3, 4, 5, 6, 7] [] S (wG (c := ((r24.2.1.Num == r59.Num) && ((r24.2.1.Den == r59.Den) && true))) 21 true 106 rfl rfl (by kernel_rfl) hc98) rfl callee24 (by kernel_rfl) (by decide) (by kernel_rfl) (by kernel_rfl) (fun E1 w1 S1 => c_raddlelaw24_part E1 w1 400 3 r99 hx100 S1) rfl (by decide) (fun u119 a w S => ?_)
                                                obtain rfl : u119 = .agg #[.int .i64 r99.Num, .int .i64 r99.Den] := S.mem.know (i := 0) (e := fRep r_api_Ratio (u119) r99) (by kernel_rfl)
                                                refine leafL ⟨rfl, _, _, .inl ⟨108, (.agg #[.int .i64 r99.Num, .int .i64 r99.Den]), [(24, 109, .bool ((r38.1.Num == r99.Num) && ((r38.1.Den == r99.Den) && true))), (25, 110, .bool ((r38.1.Num == r99.Num) && ((r38.1.Den == r99.Den) && true))), (26, 111, .bool ((r38.1.Num == r99.Num) && ((r38.1.Den == r99.Den) && true))), (27, 112, .agg #[.int .i64 r38.2.1.Num, .int .i64 r38.2.1.Den])], rfl, S, hz_of (by kernel_rfl), ?_⟩⟩
                                                refine node_by (A := anc_raddlelaw24_alive_0) (nf := [3, 8, 13, 18, 23, 28, 33, 38]) (Y := [23, 18, 13, 8, 3]) 54 (by kernel_rfl) (by kernel_rfl) (by kernel_rfl) (by kernel_rfl) (by kernel_rfl) [24, 25, 26, 27, 23, 19, 20, 21, 22, 18, 14, 15, 16, 17, 13, 9, 10, 11, 12, 8, 4, 5, 6, 7, 3, 0, 1, 2] (by kernel_rfl) (by decide) (by decide) (aD 0 53 23 (by decide) (aD 1 52 23 (by decide) (aD 2 51 23 (by decide) (aY 3 50 (by decide) (aD 4 49 23 (by decide) (aD 5 48 23 (by decide) (aD 6 47 23 (by decide) (aD 7 46 23 (by decide) (aY 8 45 (by decide) (aD 9 44 23 (by decide) (aD 10 43 23 (by decide) (aD 11 42 23 (by decide) (aD 12 41 23 (by decide) (aY 13 40 (by decide) (aD 14 39 23 (by decide) (aD 15 38 23 (by decide) (aD 16 37 23 (by decide) (aD 17 36 23 (by decide) (aY 18 35 (by decide) (aD 19 34 23 (by decide) (aD 20 33 23 (by decide) (aD 21 32 23 (by decide) (aF 22 31 (by decide) ?_ (aY 23 30 (by decide) (aF 24 29 (by decide) ?_ (aF 25 28 (by decide) ?_ (aF 26 27 (by decide) ?_ (aF 27 26 (by decide) ?_ (aN 28 25 (by decide) ?_ (aE 29 24 28 (by decide) (aE 30 23 28 (by decide) (aE 31 22 28 (by decide) (aE 32 21 28 (by decide) (aB 33 20 28 (by decide) (aE 34 19 28 (by decide) (aE 35 18 28 (by decide) (aE 36 17 28 (by decide) (aE 37 16 28 (by decide) (aB 38 15 28 (by decide) (aE 39 14 28 (by decide) (aE 40 13 28 (by decide) (aE 41 12 28 (by decide) (aE 42 11 28 (by decide) (aE 43 10 28 (by decide) (aE 44 9 28 (by decide) (aE 45 8 28 (by decide) (aE 46 7 28 (by decide) (aE 47 6 28 (by decide) (aE 48 5 28 (by decide) (aE 49 4 28 (by decide) (aE 50 3 28 (by decide) (aE 51 2 28 (by decide) (aE 52 1 28 (by decide) (aE 53 0 28 (by decide) (trivial))))))))))))))))))))))))))))))))))))))))))))))))))))))) [] (fun q hq => by cases hq) (fun hY => absurd (hY 28 (by decide)) (by decide))
                                                · refine fI 107 (.agg #[.int .i64 r38.1.Num, .int .i64 r38.1.Den]) [(7, .pointer (some ⟨b42, 0, none⟩)), (106, .bool ((r24.2.1.Num == r59.Num) && ((r24.2.1.Den == r59.Den) && true)))] 8 [none, some 7] rfl rfl (by kernel_rfl) rfl (by kernel_rfl) (by kernel_rfl) fun G a w S => ?_
                                                  refine sLoadN (p := b42) (off := 0) (T := 34) (vs := [.int .i64 r38.1.Num, .int .i64 r38.1.Den]) 5 [.int .i64 r38.1.Num, .int .i64 r38.1.Den] S (wG (c := ((r24.2.1.Num == r59.Num) && ((r24.2.1.Den == r59.Den) && true))) 21 true 106 rfl rfl (by kernel_rfl) hc98) rfl (by kernel_rfl) (by kernel_rfl) (by kernel_rfl) (by kernel_rfl) rfl rfl (by decide) (fun a S => ?_)
                                                  exact leafL ⟨rfl, S⟩
                                                · refine fI 109 (.bool ((r38.1.Num == r99.Num) && ((r38.1.Den == r99.Den) && true))) [(107, .agg #[.int .i64 r38.1.Num, .int .i64 r38.1.Den]), (108, .agg #[.int .i64 r99.Num, .int .i64 r99.Den]), (106, .bool ((r24.2.1.Num == r59.Num) && ((r24.2.1.Den == r59.Den) && true)))] 0 [some 8, some 4, some 7] rfl rfl (by kernel_rfl) rfl (by kernel_rfl) (by kernel_rfl) fun G a w S => ?_
                                                  refine sBin (.bool ((r38.1.Num == r99.Num) && ((r38.1.Den == r99.Den) && true))) S (wG (c := ((r24.2.1.Num == r59.Num) && ((r24.2.1.Den == r59.Den) && true))) 21 true 106 rfl rfl (by kernel_rfl) hc98) rfl (by kernel_rfl) (by kernel_rfl) (bEqV _ _ _ _ #[.int .i64 r38.1.Num, .int .i64 r38.1.Den] #[.int .i64 r99.Num, .int .i64 r99.Den] ((r38.1.Num == r99.Num) && ((r38.1.Den == r99.Den) && true)) (by kernel_rfl) (eqlV_of (by kernel_rfl))) rfl (by decide) (fun a S => ?_)
                                                  exact leafL ⟨rfl, S⟩
                                                · refine fI 110 (.bool ((r38.1.Num == r99.Num) && ((r38.1.Den == r99.Den) && true))) [(106, .bool ((r24.2.1.Num == r59.Num) && ((r24.2.1.Den == r59.Den) && true))), (109, .bool ((r38.1.Num == r99.Num) && ((r38.1.Den == r99.Den) && true)))] 1 [some 7, some 0] rfl rfl (by kernel_rfl) rfl (by kernel_rfl) (by kernel_rfl) fun G a w S => ?_
                                                  refine sPickT (b := ((r24.2.1.Num == r59.Num) && ((r24.2.1.Den == r59.Den) && true))) (.bool ((r38.1.Num == r99.Num) && ((r38.1.Den == r99.Den) && true))) S (wN rfl) rfl (by kernel_rfl) hc98 (by kernel_rfl) rfl (by decide) (fun a S => ?_)
                                                  exact leafL ⟨rfl, S⟩
                                                · refine fI 111 (.bool ((r38.1.Num == r99.Num) && ((r38.1.Den == r99.Den) && true))) [(110, .bool ((r38.1.Num == r99.Num) && ((r38.1.Den == r99.Den) && true)))] 2 [some 1] rfl rfl (by kernel_rfl) rfl (by kernel_rfl) (by kernel_rfl) fun G a w S => ?_
                                                  refine sMove (.bool ((r38.1.Num == r99.Num) && ((r38.1.Den == r99.Den) && true))) S (wN rfl) (.inl rfl) (by kernel_rfl) rfl (by decide) (fun a S => ?_)
                                                  exact leafL ⟨rfl, S⟩
                                                · refine fI 112 (.agg #[.int .i64 r38.2.1.Num, .int .i64 r38.2.1.Den]) [(8, .pointer (some ⟨b43, 0, none⟩)), (111, .bool ((r38.1.Num == r99.Num) && ((r38.1.Den == r99.Den) && true)))] 3 [none, some 2] rfl rfl (by kernel_rfl) rfl (by kernel_rfl) (by kernel_rfl) fun G a w S => ?_
                                                  refine sLoadN (p := b43) (off := 0) (T := 34) (vs := [.int .i64 r38.2.1.Num, .int .i64 r38.2.1.Den]) 4 [.int .i64 r38.2.1.Num, .int .i64 r38.2.1.Den] S (wG (c := ((r38.1.Num == r99.Num) && ((r38.1.Den == r99.Den) && true))) 26 true 111 rfl rfl (by kernel_rfl) hc102) rfl (by kernel_rfl) (by kernel_rfl) (by kernel_rfl) (by kernel_rfl) rfl rfl (by decide) (fun a S => ?_)
                                                  exact leafL ⟨rfl, S⟩
                                                · refine ⟨_, [(111, .bool ((r38.1.Num == r99.Num) && ((r38.1.Den == r99.Den) && true)))], rfl, (srcs_of [some 2] rfl (by kernel_rfl) (by kernel_rfl)), fun G a w S => ?_⟩
                                                  refine sCall (X := Value) (f := 24) (vs := [.int .i64 400, .int .i64 3]) (val := c_raddlelaw24_part_val r99) (B' := fun _ => []) (D' := c_raddlelaw24_part_D r99) [] [eRow (rI .i64) 3 (.slice ad115 ([2, 2] : List Int).length cp116) ([2, 2] : List Int), eRow (rI .i64) 3 (.slice ad113 ([2, 2] : List Int).length cp114) ([2, 2] : List Int), eBox b57 34 [.int .i64 r52.2.1.Num, .int .i64 r52.2.1.Den], eBox b56 34 [.int .i64 r52.1.Num, .int .i64 r52.1.Den], eBox b43 34 [.int .i64 r38.2.1.Num, .int .i64 r38.2.1.Den], eBox b42 34 [.int .i64 r38.1.Num, .int .i64 r38.1.Den], eBox b29 34 [.int .i64 r24.2.1.Num, .int .i64 r24.2.1.Den], eBox b28 34 [.int .i64 r24.1.Num, .int .i64 r24.1.Den]] [] [0, 1, 2, 3, 4, 5, 6, 7] [] S (wG (c := ((r38.1.Num == r99.Num) && ((r38.1.Den == r99.Den) && true))) 26 true 111 rfl rfl (by kernel_rfl) hc102) rfl callee24 (by kernel_rfl) (by decide) (by kernel_rfl) (by kernel_rfl) (fun E1 w1 S1 => c_raddlelaw24_part E1 w1 400 3 r99 hx100 S1) rfl (by decide) (fun u120 a w S => ?_)
                                                  obtain rfl : u120 = .agg #[.int .i64 r99.Num, .int .i64 r99.Den] := S.mem.know (i := 0) (e := fRep r_api_Ratio (u120) r99) (by kernel_rfl)
                                                  refine leafL ⟨rfl, _, _, .inl ⟨113, (.agg #[.int .i64 r99.Num, .int .i64 r99.Den]), [(29, 114, .bool ((r38.2.1.Num == r99.Num) && ((r38.2.1.Den == r99.Den) && true))), (30, 115, .bool ((r38.2.1.Num == r99.Num) && ((r38.2.1.Den == r99.Den) && true))), (31, 116, .bool ((r38.2.1.Num == r99.Num) && ((r38.2.1.Den == r99.Den) && true))), (32, 117, .agg #[.int .i64 r52.1.Num, .int .i64 r52.1.Den])], rfl, S, hz_of (by kernel_rfl), ?_⟩⟩
                                                  refine node_by (A := anc_raddlelaw24_alive_0) (nf := [3, 8, 13, 18, 23, 28, 33, 38]) (Y := [28, 23, 18, 13, 8, 3]) 54 (by kernel_rfl) (by kernel_rfl) (by kernel_rfl) (by kernel_rfl) (by kernel_rfl) [29, 30, 31, 32, 28, 24, 25, 26, 27, 23, 19, 20, 21, 22, 18, 14, 15, 16, 17, 13, 9, 10, 11, 12, 8, 4, 5, 6, 7, 3, 0, 1, 2] (by kernel_rfl) (by decide) (by decide) (aD 0 53 28 (by decide) (aD 1 52 28 (by decide) (aD 2 51 28 (by decide) (aY 3 50 (by decide) (aD 4 49 28 (by decide) (aD 5 48 28 (by decide) (aD 6 47 28 (by decide) (aD 7 46 28 (by decide) (aY 8 45 (by decide) (aD 9 44 28 (by decide) (aD 10 43 28 (by decide) (aD 11 42 28 (by decide) (aD 12 41 28 (by decide) (aY 13 40 (by decide) (aD 14 39 28 (by decide) (aD 15 38 28 (by decide) (aD 16 37 28 (by decide) (aD 17 36 28 (by decide) (aY 18 35 (by decide) (aD 19 34 28 (by decide) (aD 20 33 28 (by decide) (aD 21 32 28 (by decide) (aD 22 31 28 (by decide) (aY 23 30 (by decide) (aD 24 29 28 (by decide) (aD 25 28 28 (by decide) (aD 26 27 28 (by decide) (aF 27 26 (by decide) ?_ (aY 28 25 (by decide) (aF 29 24 (by decide) ?_ (aF 30 23 (by decide) ?_ (aF 31 22 (by decide) ?_ (aF 32 21 (by decide) ?_ (aN 33 20 (by decide) ?_ (aE 34 19 33 (by decide) (aE 35 18 33 (by decide) (aE 36 17 33 (by decide) (aE 37 16 33 (by decide) (aB 38 15 33 (by decide) (aE 39 14 33 (by decide) (aE 40 13 33 (by decide) (aE 41 12 33 (by decide) (aE 42 11 33 (by decide) (aE 43 10 33 (by decide) (aE 44 9 33 (by decide) (aE 45 8 33 (by decide) (aE 46 7 33 (by decide) (aE 47 6 33 (by decide) (aE 48 5 33 (by decide) (aE 49 4 33 (by decide) (aE 50 3 33 (by decide) (aE 51 2 33 (by decide) (aE 52 1 33 (by decide) (aE 53 0 33 (by decide) (trivial))))))))))))))))))))))))))))))))))))))))))))))))))))))) [] (fun q hq => by cases hq) (fun hY => absurd (hY 33 (by decide)) (by decide))
                                                  · refine fI 112 (.agg #[.int .i64 r38.2.1.Num, .int .i64 r38.2.1.Den]) [(8, .pointer (some ⟨b43, 0, none⟩)), (111, .bool ((r38.1.Num == r99.Num) && ((r38.1.Den == r99.Den) && true)))] 8 [none, some 7] rfl rfl (by kernel_rfl) rfl (by kernel_rfl) (by kernel_rfl) fun G a w S => ?_
                                                    refine sLoadN (p := b43) (off := 0) (T := 34) (vs := [.int .i64 r38.2.1.Num, .int .i64 r38.2.1.Den]) 4 [.int .i64 r38.2.1.Num, .int .i64 r38.2.1.Den] S (wG (c := ((r38.1.Num == r99.Num) && ((r38.1.Den == r99.Den) && true))) 26 true 111 rfl rfl (by kernel_rfl) hc102) rfl (by kernel_rfl) (by kernel_rfl) (by kernel_rfl) (by kernel_rfl) rfl rfl (by decide) (fun a S => ?_)
                                                    exact leafL ⟨rfl, S⟩
                                                  · refine fI 114 (.bool ((r38.2.1.Num == r99.Num) && ((r38.2.1.Den == r99.Den) && true))) [(112, .agg #[.int .i64 r38.2.1.Num, .int .i64 r38.2.1.Den]), (113, .agg #[.int .i64 r99.Num, .int .i64 r99.Den]), (111, .bool ((r38.1.Num == r99.Num) && ((r38.1.Den == r99.Den) && true)))] 0 [some 8, some 4, some 7] rfl rfl (by kernel_rfl) rfl (by kernel_rfl) (by kernel_rfl) fun G a w S => ?_
                                                    refine sBin (.bool ((r38.2.1.Num == r99.Num) && ((r38.2.1.Den == r99.Den) && true))) S (wG (c := ((r38.1.Num == r99.Num) && ((r38.1.Den == r99.Den) && true))) 26 true 111 rfl rfl (by kernel_rfl) hc102) rfl (by kernel_rfl) (by kernel_rfl) (bEqV _ _ _ _ #[.int .i64 r38.2.1.Num, .int .i64 r38.2.1.Den] #[.int .i64 r99.Num, .int .i64 r99.Den] ((r38.2.1.Num == r99.Num) && ((r38.2.1.Den == r99.Den) && true)) (by kernel_rfl) (eqlV_of (by kernel_rfl))) rfl (by decide) (fun a S => ?_)
                                                    exact leafL ⟨rfl, S⟩
                                                  · refine fI 115 (.bool ((r38.2.1.Num == r99.Num) && ((r38.2.1.Den == r99.Den) && true))) [(111, .bool ((r38.1.Num == r99.Num) && ((r38.1.Den == r99.Den) && true))), (114, .bool ((r38.2.1.Num == r99.Num) && ((r38.2.1.Den == r99.Den) && true)))] 1 [some 7, some 0] rfl rfl (by kernel_rfl) rfl (by kernel_rfl) (by kernel_rfl) fun G a w S => ?_
                                                    refine sPickT (b := ((r38.1.Num == r99.Num) && ((r38.1.Den == r99.Den) && true))) (.bool ((r38.2.1.Num == r99.Num) && ((r38.2.1.Den == r99.Den) && true))) S (wN rfl) rfl (by kernel_rfl) hc102 (by kernel_rfl) rfl (by decide) (fun a S => ?_)
                                                    exact leafL ⟨rfl, S⟩
                                                  · refine fI 116 (.bool ((r38.2.1.Num == r99.Num) && ((r38.2.1.Den == r99.Den) && true))) [(115, .bool ((r38.2.1.Num == r99.Num) && ((r38.2.1.Den == r99.Den) && true)))] 2 [some 1] rfl rfl (by kernel_rfl) rfl (by kernel_rfl) (by kernel_rfl) fun G a w S => ?_
                                                    refine sMove (.bool ((r38.2.1.Num == r99.Num) && ((r38.2.1.Den == r99.Den) && true))) S (wN rfl) (.inl rfl) (by kernel_rfl) rfl (by decide) (fun a S => ?_)
                                                    exact leafL ⟨rfl, S⟩
                                                  · refine fI 117 (.agg #[.int .i64 r52.1.Num, .int .i64 r52.1.Den]) [(10, .pointer (some ⟨b56, 0, none⟩)), (116, .bool ((r38.2.1.Num == r99.Num) && ((r38.2.1.Den == r99.Den) && true)))] 3 [none, some 2] rfl rfl (by kernel_rfl) rfl (by kernel_rfl) (by kernel_rfl) fun G a w S => ?_
                                                    refine sLoadN (p := b56) (off := 0) (T := 34) (vs := [.int .i64 r52.1.Num, .int .i64 r52.1.Den]) 3 [.int .i64 r52.1.Num, .int .i64 r52.1.Den] S (wG (c := ((r38.2.1.Num == r99.Num) && ((r38.2.1.Den == r99.Den) && true))) 31 true 116 rfl rfl (by kernel_rfl) hc104) rfl (by kernel_rfl) (by kernel_rfl) (by kernel_rfl) (by kernel_rfl) rfl rfl (by decide) (fun a S => ?_)
                                                    exact leafL ⟨rfl, S⟩
                                                  · refine ⟨_, [(116, .bool ((r38.2.1.Num == r99.Num) && ((r38.2.1.Den == r99.Den) && true)))], rfl, (srcs_of [some 2] rfl (by kernel_rfl) (by kernel_rfl)), fun G a w S => ?_⟩
                                                    refine sCall (X := Value) (f := 24) (vs := [.int .i64 200, .int .i64 1]) (val := c_raddlelaw24_part_val r105) (B' := fun _ => []) (D' := c_raddlelaw24_part_D r105) [] [eRow (rI .i64) 3 (.slice ad115 ([2, 2] : List Int).length cp116) ([2, 2] : List Int), eRow (rI .i64) 3 (.slice ad113 ([2, 2] : List Int).length cp114) ([2, 2] : List Int), eBox b57 34 [.int .i64 r52.2.1.Num, .int .i64 r52.2.1.Den], eBox b56 34 [.int .i64 r52.1.Num, .int .i64 r52.1.Den], eBox b43 34 [.int .i64 r38.2.1.Num, .int .i64 r38.2.1.Den], eBox b42 34 [.int .i64 r38.1.Num, .int .i64 r38.1.Den], eBox b29 34 [.int .i64 r24.2.1.Num, .int .i64 r24.2.1.Den], eBox b28 34 [.int .i64 r24.1.Num, .int .i64 r24.1.Den]] [] [0, 1, 2, 3, 4, 5, 6, 7] [] S (wG (c := ((r38.2.1.Num == r99.Num) && ((r38.2.1.Den == r99.Den) && true))) 31 true 116 rfl rfl (by kernel_rfl) hc104) rfl callee24 (by kernel_rfl) (by decide) (by kernel_rfl) (by kernel_rfl) (fun E1 w1 S1 => c_raddlelaw24_part E1 w1 200 1 r105 hx106 S1) rfl (by decide) (fun u121 a w S => ?_)
                                                    obtain rfl : u121 = .agg #[.int .i64 r105.Num, .int .i64 r105.Den] := S.mem.know (i := 0) (e := fRep r_api_Ratio (u121) r105) (by kernel_rfl)
                                                    refine leafL ⟨rfl, _, _, .inl ⟨118, (.agg #[.int .i64 r105.Num, .int .i64 r105.Den]), [(34, 119, .bool ((r52.1.Num == r105.Num) && ((r52.1.Den == r105.Den) && true))), (35, 120, .bool ((r52.1.Num == r105.Num) && ((r52.1.Den == r105.Den) && true))), (36, 121, .bool ((r52.1.Num == r105.Num) && ((r52.1.Den == r105.Den) && true))), (37, 122, .agg #[.int .i64 r52.2.1.Num, .int .i64 r52.2.1.Den])], rfl, S, hz_of (by kernel_rfl), ?_⟩⟩
                                                    refine node_by (A := anc_raddlelaw24_alive_0) (nf := [3, 8, 13, 18, 23, 28, 33, 38]) (Y := [33, 28, 23, 18, 13, 8, 3]) 54 (by kernel_rfl) (by kernel_rfl) (by kernel_rfl) (by kernel_rfl) (by kernel_rfl) [34, 35, 36, 37, 33, 29, 30, 31, 32, 28, 24, 25, 26, 27, 23, 19, 20, 21, 22, 18, 14, 15, 16, 17, 13, 9, 10, 11, 12, 8, 4, 5, 6, 7, 3, 0, 1, 2] (by kernel_rfl) (by decide) (by decide) (aD 0 53 33 (by decide) (aD 1 52 33 (by decide) (aD 2 51 33 (by decide) (aY 3 50 (by decide) (aD 4 49 33 (by decide) (aD 5 48 33 (by decide) (aD 6 47 33 (by decide) (aD 7 46 33 (by decide) (aY 8 45 (by decide) (aD 9 44 33 (by decide) (aD 10 43 33 (by decide) (aD 11 42 33 (by decide) (aD 12 41 33 (by decide) (aY 13 40 (by decide) (aD 14 39 33 (by decide) (aD 15 38 33 (by decide) (aD 16 37 33 (by decide) (aD 17 36 33 (by decide) (aY 18 35 (by decide) (aD 19 34 33 (by decide) (aD 20 33 33 (by decide) (aD 21 32 33 (by decide) (aD 22 31 33 (by decide) (aY 23 30 (by decide) (aD 24 29 33 (by decide) (aD 25 28 33 (by decide) (aD 26 27 33 (by decide) (aD 27 26 33 (by decide) (aY 28 25 (by decide) (aD 29 24 33 (by decide) (aD 30 23 33 (by decide) (aD 31 22 33 (by decide) (aF 32 21 (by decide) ?_ (aY 33 20 (by decide) (aF 34 19 (by decide) ?_ (aF 35 18 (by decide) ?_ (aF 36 17 (by decide) ?_ (aF 37 16 (by decide) ?_ (aN 38 15 (by decide) ?_ (aE 39 14 38 (by decide) (aE 40 13 38 (by decide) (aE 41 12 38 (by decide) (aE 42 11 38 (by decide) (aE 43 10 38 (by decide) (aE 44 9 38 (by decide) (aE 45 8 38 (by decide) (aE 46 7 38 (by decide) (aE 47 6 38 (by decide) (aE 48 5 38 (by decide) (aE 49 4 38 (by decide) (aE 50 3 38 (by decide) (aE 51 2 38 (by decide) (aE 52 1 38 (by decide) (aE 53 0 38 (by decide) (trivial))))))))))))))))))))))))))))))))))))))))))))))))))))))) [] (fun q hq => by cases hq) (fun hY => absurd (hY 38 (by decide)) (by decide))
                                                    · refine fI 117 (.agg #[.int .i64 r52.1.Num, .int .i64 r52.1.Den]) [(10, .pointer (some ⟨b56, 0, none⟩)), (116, .bool ((r38.2.1.Num == r99.Num) && ((r38.2.1.Den == r99.Den) && true)))] 8 [none, some 7] rfl rfl (by kernel_rfl) rfl (by kernel_rfl) (by kernel_rfl) fun G a w S => ?_
                                                      refine sLoadN (p := b56) (off := 0) (T := 34) (vs := [.int .i64 r52.1.Num, .int .i64 r52.1.Den]) 3 [.int .i64 r52.1.Num, .int .i64 r52.1.Den] S (wG (c := ((r38.2.1.Num == r99.Num) && ((r38.2.1.Den == r99.Den) && true))) 31 true 116 rfl rfl (by kernel_rfl) hc104) rfl (by kernel_rfl) (by kernel_rfl) (by kernel_rfl) (by kernel_rfl) rfl rfl (by decide) (fun a S => ?_)
                                                      exact leafL ⟨rfl, S⟩
                                                    · refine fI 119 (.bool ((r52.1.Num == r105.Num) && ((r52.1.Den == r105.Den) && true))) [(117, .agg #[.int .i64 r52.1.Num, .int .i64 r52.1.Den]), (118, .agg #[.int .i64 r105.Num, .int .i64 r105.Den]), (116, .bool ((r38.2.1.Num == r99.Num) && ((r38.2.1.Den == r99.Den) && true)))] 0 [some 8, some 4, some 7] rfl rfl (by kernel_rfl) rfl (by kernel_rfl) (by kernel_rfl) fun G a w S => ?_
                                                      refine sBin (.bool ((r52.1.Num == r105.Num) && ((r52.1.Den == r105.Den) && true))) S (wG (c := ((r38.2.1.Num == r99.Num) && ((r38.2.1.Den == r99.Den) && true))) 31 true 116 rfl rfl (by kernel_rfl) hc104) rfl (by kernel_rfl) (by kernel_rfl) (bEqV _ _ _ _ #[.int .i64 r52.1.Num, .int .i64 r52.1.Den] #[.int .i64 r105.Num, .int .i64 r105.Den] ((r52.1.Num == r105.Num) && ((r52.1.Den == r105.Den) && true)) (by kernel_rfl) (eqlV_of (by kernel_rfl))) rfl (by decide) (fun a S => ?_)
                                                      exact leafL ⟨rfl, S⟩
                                                    · refine fI 120 (.bool ((r52.1.Num == r105.Num) && ((r52.1.Den == r105.Den) && true))) [(116, .bool ((r38.2.1.Num == r99.Num) && ((r38.2.1.Den == r99.Den) && true))), (119, .bool ((r52.1.Num == r105.Num) && ((r52.1.Den == r105.Den) && true)))] 1 [some 7, some 0] rfl rfl (by kernel_rfl) rfl (by kernel_rfl) (by kernel_rfl) fun G a w S => ?_
                                                      refine sPickT (b := ((r38.2.1.Num == r99.Num) && ((r38.2.1.Den == r99.Den) && true))) (.bool ((r52.1.Num == r105.Num) && ((r52.1.Den == r105.Den) && true))) S (wN rfl) rfl (by kernel_rfl) hc104 (by kernel_rfl) rfl (by decide) (fun a S => ?_)
                                                      exact leafL ⟨rfl, S⟩
                                                    · refine fI 121 (.bool ((r52.1.Num == r105.Num) && ((r52.1.Den == r105.Den) && true))) [(120, .bool ((r52.1.Num == r105.Num) && ((r52.1.Den == r105.Den) && true)))] 2 [some 1] rfl rfl (by kernel_rfl) rfl (by kernel_rfl) (by kernel_rfl) fun G a w S => ?_
                                                      refine sMove (.bool ((r52.1.Num == r105.Num) && ((r52.1.Den == r105.Den) && true))) S (wN rfl) (.inl rfl) (by kernel_rfl) rfl (by decide) (fun a S => ?_)
                                                      exact leafL ⟨rfl, S⟩
                                                    · refine fI 122 (.agg #[.int .i64 r52.2.1.Num, .int .i64 r52.2.1.Den]) [(11, .pointer (some ⟨b57, 0, none⟩)), (121, .bool ((r52.1.Num == r105.Num) && ((r52.1.Den == r105.Den) && true)))] 3 [none, some 2] rfl rfl (by kernel_rfl) rfl (by kernel_rfl) (by kernel_rfl) fun G a w S => ?_
                                                      refine sLoadN (p := b57) (off := 0) (T := 34) (vs := [.int .i64 r52.2.1.Num, .int .i64 r52.2.1.Den]) 2 [.int .i64 r52.2.1.Num, .int .i64 r52.2.1.Den] S (wG (c := ((r52.1.Num == r105.Num) && ((r52.1.Den == r105.Den) && true))) 36 true 121 rfl rfl (by kernel_rfl) hc108) rfl (by kernel_rfl) (by kernel_rfl) (by kernel_rfl) (by kernel_rfl) rfl rfl (by decide) (fun a S => ?_)
                                                      exact leafL ⟨rfl, S⟩
                                                    · refine ⟨_, [(121, .bool ((r52.1.Num == r105.Num) && ((r52.1.Den == r105.Den) && true)))], rfl, (srcs_of [some 2] rfl (by kernel_rfl) (by kernel_rfl)), fun G a w S => ?_⟩
                                                      refine sCall (X := Value) (f := 24) (vs := [.int .i64 200, .int .i64 1]) (val := c_raddlelaw24_part_val r105) (B' := fun _ => []) (D' := c_raddlelaw24_part_D r105) [] [eRow (rI .i64) 3 (.slice ad115 ([2, 2] : List Int).length cp116) ([2, 2] : List Int), eRow (rI .i64) 3 (.slice ad113 ([2, 2] : List Int).length cp114) ([2, 2] : List Int), eBox b57 34 [.int .i64 r52.2.1.Num, .int .i64 r52.2.1.Den], eBox b56 34 [.int .i64 r52.1.Num, .int .i64 r52.1.Den], eBox b43 34 [.int .i64 r38.2.1.Num, .int .i64 r38.2.1.Den], eBox b42 34 [.int .i64 r38.1.Num, .int .i64 r38.1.Den], eBox b29 34 [.int .i64 r24.2.1.Num, .int .i64 r24.2.1.Den], eBox b28 34 [.int .i64 r24.1.Num, .int .i64 r24.1.Den]] [] [0, 1, 2, 3, 4, 5, 6, 7] [] S (wG (c := ((r52.1.Num == r105.Num) && ((r52.1.Den == r105.Den) && true))) 36 true 121 rfl rfl (by kernel_rfl) hc108) rfl callee24 (by kernel_rfl) (by decide) (by kernel_rfl) (by kernel_rfl) (fun E1 w1 S1 => c_raddlelaw24_part E1 w1 200 1 r105 hx106 S1) rfl (by decide) (fun u122 a w S => ?_)
                                                      obtain rfl : u122 = .agg #[.int .i64 r105.Num, .int .i64 r105.Den] := S.mem.know (i := 0) (e := fRep r_api_Ratio (u122) r105) (by kernel_rfl)
                                                      refine leafL ⟨rfl, _, _, .inl ⟨123, (.agg #[.int .i64 r105.Num, .int .i64 r105.Den]), [(39, 124, .bool ((r52.2.1.Num == r105.Num) && ((r52.2.1.Den == r105.Den) && true))), (40, 125, .bool ((r52.2.1.Num == r105.Num) && ((r52.2.1.Den == r105.Den) && true))), (41, 126, .bool ((r52.2.1.Num == r105.Num) && ((r52.2.1.Den == r105.Den) && true))), (42, 127, .int .i64 r62.1), (43, 128, .bool (r62.1 == 100)), (44, 129, .bool (r62.1 == 100)), (45, 130, .bool (r62.1 == 100)), (46, 131, .int .i64 r66.1), (47, 132, .bool (r66.1 == 1000)), (48, 133, .bool (r66.1 == 1000)), (49, 134, .bool (r66.1 == 1000)), (50, 135, .int .i64 r72.1), (51, 136, .bool (r72.1 == 1100)), (52, 137, .bool (r72.1 == 1100)), (53, 0, .bool (r72.1 == 1100))], rfl, S, hz_of (by kernel_rfl), ?_⟩⟩
                                                      refine node_by (A := anc_raddlelaw24_alive_0) (nf := [3, 8, 13, 18, 23, 28, 33, 38]) (Y := [38, 33, 28, 23, 18, 13, 8, 3]) 54 (by kernel_rfl) (by kernel_rfl) (by kernel_rfl) (by kernel_rfl) (by kernel_rfl) [39, 40, 41, 42, 43, 44, 45, 46, 47, 48, 49, 50, 51, 52, 53, 38, 34, 35, 36, 37, 33, 29, 30, 31, 32, 28, 24, 25, 26, 27, 23, 19, 20, 21, 22, 18, 14, 15, 16, 17, 13, 9, 10, 11, 12, 8, 4, 5, 6, 7, 3, 0, 1, 2] (by kernel_rfl) (by decide) (by decide) (aD 0 53 38 (by decide) (aD 1 52 38 (by decide) (aD 2 51 38 (by decide) (aY 3 50 (by decide) (aD 4 49 38 (by decide) (aD 5 48 38 (by decide) (aD 6 47 38 (by decide) (aD 7 46 38 (by decide) (aY 8 45 (by decide) (aD 9 44 38 (by decide) (aD 10 43 38 (by decide) (aD 11 42 38 (by decide) (aD 12 41 38 (by decide) (aY 13 40 (by decide) (aD 14 39 38 (by decide) (aD 15 38 38 (by decide) (aD 16 37 38 (by decide) (aD 17 36 38 (by decide) (aY 18 35 (by decide) (aD 19 34 38 (by decide) (aD 20 33 38 (by decide) (aD 21 32 38 (by decide) (aD 22 31 38 (by decide) (aY 23 30 (by decide) (aD 24 29 38 (by decide) (aD 25 28 38 (by decide) (aD 26 27 38 (by decide) (aD 27 26 38 (by decide) (aY 28 25 (by decide) (aD 29 24 38 (by decide) (aD 30 23 38 (by decide) (aD 31 22 38 (by decide) (aD 32 21 38 (by decide) (aY 33 20 (by decide) (aD 34 19 38 (by decide) (aD 35 18 38 (by decide) (aD 36 17 38 (by decide) (aF 37 16 (by decide) ?_ (aY 38 15 (by decide) (aF 39 14 (by decide) ?_ (aF 40 13 (by decide) ?_ (aF 41 12 (by decide) ?_ (aF 42 11 (by decide) ?_ (aF 43 10 (by decide) ?_ (aF 44 9 (by decide) ?_ (aF 45 8 (by decide) ?_ (aF 46 7 (by decide) ?_ (aF 47 6 (by decide) ?_ (aF 48 5 (by decide) ?_ (aF 49 4 (by decide) ?_ (aF 50 3 (by decide) ?_ (aF 51 2 (by decide) ?_ (aF 52 1 (by decide) ?_ (aF 53 0 (by decide) ?_ (trivial))))))))))))))))))))))))))))))))))))))))))))))))))))))) [(0, .bool (r72.1 == 1100))] (fin_of [some 14] rfl (by kernel_rfl) (by kernel_rfl)) (fun _ a w S => ?_)
                                                      · refine fI 122 (.agg #[.int .i64 r52.2.1.Num, .int .i64 r52.2.1.Den]) [(11, .pointer (some ⟨b57, 0, none⟩)), (121, .bool ((r52.1.Num == r105.Num) && ((r52.1.Den == r105.Den) && true)))] 19 [none, some 18] rfl rfl (by kernel_rfl) rfl (by kernel_rfl) (by kernel_rfl) fun G a w S => ?_
                                                        refine sLoadN (p := b57) (off := 0) (T := 34) (vs := [.int .i64 r52.2.1.Num, .int .i64 r52.2.1.Den]) 2 [.int .i64 r52.2.1.Num, .int .i64 r52.2.1.Den] S (wG (c := ((r52.1.Num == r105.Num) && ((r52.1.Den == r105.Den) && true))) 36 true 121 rfl rfl (by kernel_rfl) hc108) rfl (by kernel_rfl) (by kernel_rfl) (by kernel_rfl) (by kernel_rfl) rfl rfl (by decide) (fun a S => ?_)
                                                        exact leafL ⟨rfl, S⟩
                                                      · refine fI 124 (.bool ((r52.2.1.Num == r105.Num) && ((r52.2.1.Den == r105.Den) && true))) [(122, .agg #[.int .i64 r52.2.1.Num, .int .i64 r52.2.1.Den]), (123, .agg #[.int .i64 r105.Num, .int .i64 r105.Den]), (121, .bool ((r52.1.Num == r105.Num) && ((r52.1.Den == r105.Den) && true)))] 0 [some 19, some 15, some 18] rfl rfl (by kernel_rfl) rfl (by kernel_rfl) (by kernel_rfl) fun G a w S => ?_
                                                        refine sBin (.bool ((r52.2.1.Num == r105.Num) && ((r52.2.1.Den == r105.Den) && true))) S (wG (c := ((r52.1.Num == r105.Num) && ((r52.1.Den == r105.Den) && true))) 36 true 121 rfl rfl (by kernel_rfl) hc108) rfl (by kernel_rfl) (by kernel_rfl) (bEqV _ _ _ _ #[.int .i64 r52.2.1.Num, .int .i64 r52.2.1.Den] #[.int .i64 r105.Num, .int .i64 r105.Den] ((r52.2.1.Num == r105.Num) && ((r52.2.1.Den == r105.Den) && true)) (by kernel_rfl) (eqlV_of (by kernel_rfl))) rfl (by decide) (fun a S => ?_)
                                                        exact leafL ⟨rfl, S⟩
                                                      · refine fI 125 (.bool ((r52.2.1.Num == r105.Num) && ((r52.2.1.Den == r105.Den) && true))) [(121, .bool ((r52.1.Num == r105.Num) && ((r52.1.Den == r105.Den) && true))), (124, .bool ((r52.2.1.Num == r105.Num) && ((r52.2.1.Den == r105.Den) && true)))] 1 [some 18, some 0] rfl rfl (by kernel_rfl) rfl (by kernel_rfl) (by kernel_rfl) fun G a w S => ?_
                                                        refine sPickT (b := ((r52.1.Num == r105.Num) && ((r52.1.Den == r105.Den) && true))) (.bool ((r52.2.1.Num == r105.Num) && ((r52.2.1.Den == r105.Den) && true))) S (wN rfl) rfl (by kernel_rfl) hc108 (by kernel_rfl) rfl (by decide) (fun a S => ?_)
                                                        exact leafL ⟨rfl, S⟩
                                                      · refine fI 126 (.bool ((r52.2.1.Num == r105.Num) && ((r52.2.1.Den == r105.Den) && true))) [(125, .bool ((r52.2.1.Num == r105.Num) && ((r52.2.1.Den == r105.Den) && true)))] 2 [some 1] rfl rfl (by kernel_rfl) rfl (by kernel_rfl) (by kernel_rfl) fun G a w S => ?_
                                                        refine sMove (.bool ((r52.2.1.Num == r105.Num) && ((r52.2.1.Den == r105.Den) && true))) S (wN rfl) (.inl rfl) (by kernel_rfl) rfl (by decide) (fun a S => ?_)
                                                        exact leafL ⟨rfl, S⟩
                                                      · refine fI 127 (.int .i64 r62.1) [(13, .int .i64 r62.1), (126, .bool ((r52.2.1.Num == r105.Num) && ((r52.2.1.Den == r105.Den) && true)))] 3 [none, some 2] rfl rfl (by kernel_rfl) rfl (by kernel_rfl) (by kernel_rfl) fun G a w S => ?_
                                                        refine sMove (.int .i64 r62.1) S (wG (c := ((r52.2.1.Num == r105.Num) && ((r52.2.1.Den == r105.Den) && true))) 41 true 126 rfl rfl (by kernel_rfl) hc110) (.inl rfl) (by kernel_rfl) rfl (by decide) (fun a S => ?_)
                                                        exact leafL ⟨rfl, S⟩
                                                      · refine fI 128 (.bool (r62.1 == 100)) [(127, .int .i64 r62.1), (126, .bool ((r52.2.1.Num == r105.Num) && ((r52.2.1.Den == r105.Den) && true)))] 4 [some 3, some 2] rfl rfl (by kernel_rfl) rfl (by kernel_rfl) (by kernel_rfl) fun G a w S => ?_
                                                        refine sBin (.bool (r62.1 == 100)) S (wG (c := ((r52.2.1.Num == r105.Num) && ((r52.2.1.Den == r105.Den) && true))) 41 true 126 rfl rfl (by kernel_rfl) hc110) rfl (by kernel_rfl) (by kernel_rfl) (bEq _ _ _ _ .i64 r62.1 100) rfl (by decide) (fun a S => ?_)
                                                        exact leafL ⟨rfl, S⟩
                                                      · refine fI 129 (.bool (r62.1 == 100)) [(126, .bool ((r52.2.1.Num == r105.Num) && ((r52.2.1.Den == r105.Den) && true))), (128, .bool (r62.1 == 100))] 5 [some 2, some 4] rfl rfl (by kernel_rfl) rfl (by kernel_rfl) (by kernel_rfl) fun G a w S => ?_
                                                        refine sPickT (b := ((r52.2.1.Num == r105.Num) && ((r52.2.1.Den == r105.Den) && true))) (.bool (r62.1 == 100)) S (wN rfl) rfl (by kernel_rfl) hc110 (by kernel_rfl) rfl (by decide) (fun a S => ?_)
                                                        exact leafL ⟨rfl, S⟩
                                                      · refine fI 130 (.bool (r62.1 == 100)) [(129, .bool (r62.1 == 100))] 6 [some 5] rfl rfl (by kernel_rfl) rfl (by kernel_rfl) (by kernel_rfl) fun G a w S => ?_
                                                        refine sMove (.bool (r62.1 == 100)) S (wN rfl) (.inl rfl) (by kernel_rfl) rfl (by decide) (fun a S => ?_)
                                                        exact leafL ⟨rfl, S⟩
                                                      · refine fI 131 (.int .i64 r66.1) [(15, .int .i64 r66.1), (130, .bool (r62.1 == 100))] 7 [none, some 6] rfl rfl (by kernel_rfl) rfl (by kernel_rfl) (by kernel_rfl) fun G a w S => ?_
                                                        refine sMove (.int .i64 r66.1) S (wG (c := r62.1 == 100) 45 true 130 rfl rfl (by kernel_rfl) hc111) (.inl rfl) (by kernel_rfl) rfl (by decide) (fun a S => ?_)
                                                        exact leafL ⟨rfl, S⟩
                                                      · refine fI 132 (.bool (r66.1 == 1000)) [(131, .int .i64 r66.1), (130, .bool (r62.1 == 100))] 8 [some 7, some 6] rfl rfl (by kernel_rfl) rfl (by kernel_rfl) (by kernel_rfl) fun G a w S => ?_
                                                        refine sBin (.bool (r66.1 == 1000)) S (wG (c := r62.1 == 100) 45 true 130 rfl rfl (by kernel_rfl) hc111) rfl (by kernel_rfl) (by kernel_rfl) (bEq _ _ _ _ .i64 r66.1 1000) rfl (by decide) (fun a S => ?_)
                                                        exact leafL ⟨rfl, S⟩
                                                      · refine fI 133 (.bool (r66.1 == 1000)) [(130, .bool (r62.1 == 100)), (132, .bool (r66.1 == 1000))] 9 [some 6, some 8] rfl rfl (by kernel_rfl) rfl (by kernel_rfl) (by kernel_rfl) fun G a w S => ?_
                                                        refine sPickT (b := r62.1 == 100) (.bool (r66.1 == 1000)) S (wN rfl) rfl (by kernel_rfl) hc111 (by kernel_rfl) rfl (by decide) (fun a S => ?_)
                                                        exact leafL ⟨rfl, S⟩
                                                      · refine fI 134 (.bool (r66.1 == 1000)) [(133, .bool (r66.1 == 1000))] 10 [some 9] rfl rfl (by kernel_rfl) rfl (by kernel_rfl) (by kernel_rfl) fun G a w S => ?_
                                                        refine sMove (.bool (r66.1 == 1000)) S (wN rfl) (.inl rfl) (by kernel_rfl) rfl (by decide) (fun a S => ?_)
                                                        exact leafL ⟨rfl, S⟩
                                                      · refine fI 135 (.int .i64 r72.1) [(17, .int .i64 r72.1), (134, .bool (r66.1 == 1000))] 11 [none, some 10] rfl rfl (by kernel_rfl) rfl (by kernel_rfl) (by kernel_rfl) fun G a w S => ?_
                                                        refine sMove (.int .i64 r72.1) S (wG (c := r66.1 == 1000) 49 true 134 rfl rfl (by kernel_rfl) hc112) (.inl rfl) (by kernel_rfl) rfl (by decide) (fun a S => ?_)
                                                        exact leafL ⟨rfl, S⟩
                                                      · refine fI 136 (.bool (r72.1 == 1100)) [(135, .int .i64 r72.1), (134, .bool (r66.1 == 1000))] 12 [some 11, some 10] rfl rfl (by kernel_rfl) rfl (by kernel_rfl) (by kernel_rfl) fun G a w S => ?_
                                                        refine sBin (.bool (r72.1 == 1100)) S (wG (c := r66.1 == 1000) 49 true 134 rfl rfl (by kernel_rfl) hc112) rfl (by kernel_rfl) (by kernel_rfl) (bEq _ _ _ _ .i64 r72.1 1100) rfl (by decide) (fun a S => ?_)
                                                        exact leafL ⟨rfl, S⟩
                                                      · refine fI 137 (.bool (r72.1 == 1100)) [(134, .bool (r66.1 == 1000)), (136, .bool (r72.1 == 1100))] 13 [some 10, some 12] rfl rfl (by kernel_rfl) rfl (by kernel_rfl) (by kernel_rfl) fun G a w S => ?_
                                                        refine sPickT (b := r66.1 == 1000) (.bool (r72.1 == 1100)) S (wN rfl) rfl (by kernel_rfl) hc112 (by kernel_rfl) rfl (by decide) (fun a S => ?_)
                                                        exact leafL ⟨rfl, S⟩
                                                      · refine fI 0 (.bool (r72.1 == 1100)) [(137, .bool (r72.1 == 1100))] 14 [some 13] rfl rfl (by kernel_rfl) rfl (by kernel_rfl) (by kernel_rfl) fun G a w S => ?_
                                                        refine sMove (.bool (r72.1 == 1100)) S (wN rfl) (.inr rfl) (by kernel_rfl) rfl (by decide) (fun a S => ?_)
                                                        exact leafL ⟨rfl, S⟩
                                                      · exact leafT (⟨r72.1 == 1100, Option.some.inj h, S.fix [] [] (by decide) (by kernel_rfl) (by kernel_rfl) (by kernel_rfl)⟩)
                                    · exact absurd hc112 (by rw [hv_r66]; decide)
                                  · exact absurd hc111 (by rw [hv_r62]; decide)
                                · exact absurd hc110 (by rw [hv_r52, hv_r105]; decide)
                              · exact absurd hc108 (by rw [hv_r52, hv_r105]; decide)
                            · exact absurd hc104 (by rw [hv_r38, hv_r99]; decide)
                          · exact absurd hc102 (by rw [hv_r38, hv_r99]; decide)
                        · exact absurd hc98 (by rw [hv_r24, hv_r59]; decide)
                      · exact absurd hc96 (by rw [hv_r24, hv_r59]; decide)
                    · exact absurd hc94 (by rw [hv_r92]; decide)
                  · exact absurd hc89 (by rw [hv_r87]; decide)
                · refine sDraw (nf := []) (W := [(0, 85, .bool (r72.2 == 0)), (1, 86, .bool (r72.2 == 0)), (2, 87, undef), (3, 88, undef), (4, 89, undef), (5, 90, .bool false), (6, 91, .bool false), (7, 92, undef), (8, 93, undef), (9, 94, undef), (10, 95, .bool false), (11, 96, .bool false), (12, 97, undef), (13, 98, undef), (14, 99, undef), (15, 100, .bool false), (16, 101, .bool false), (17, 102, undef), (18, 103, undef), (19, 104, undef), (20, 105, .bool false), (21, 106, .bool false), (22, 107, undef), (23, 108, undef), (24, 109, undef), (25, 110, .bool false), (26, 111, .bool false), (27, 112, undef), (28, 113, undef), (29, 114, undef), (30, 115, .bool false), (31, 116, .bool false), (32, 117, undef), (33, 118, undef), (34, 119, undef), (35, 120, .bool false), (36, 121, .bool false), (37, 122, undef), (38, 123, undef), (39, 124, undef), (40, 125, .bool false), (41, 126, .bool false), (42, 127, undef), (43, 128, undef), (44, 129, .bool false), (45, 130, .bool false), (46, 131, undef), (47, 132, undef), (48, 133, .bool false), (49, 134, .bool false), (50, 135, undef), (51, 136, undef), (52, 137, .bool false), (53, 0, .bool false)]) (by kernel_rfl) S ?_
                  refine node_by (A := anc_raddlelaw24_alive_0) (nf := []) (Y := []) (W := [(0, 85, .bool (r72.2 == 0)), (1, 86, .bool (r72.2 == 0)), (2, 87, undef), (3, 88, undef), (4, 89, undef), (5, 90, .bool false), (6, 91, .bool false), (7, 92, undef), (8, 93, undef), (9, 94, undef), (10, 95, .bool false), (11, 96, .bool false), (12, 97, undef), (13, 98, undef), (14, 99, undef), (15, 100, .bool false), (16, 101, .bool false), (17, 102, undef), (18, 103, undef), (19, 104, undef), (20, 105, .bool false), (21, 106, .bool false), (22, 107, undef), (23, 108, undef), (24, 109, undef), (25, 110, .bool false), (26, 111, .bool false), (27, 112, undef), (28, 113, undef), (29, 114, undef), (30, 115, .bool false), (31, 116, .bool false), (32, 117, undef), (33, 118, undef), (34, 119, undef), (35, 120, .bool false), (36, 121, .bool false), (37, 122, undef), (38, 123, undef), (39, 124, undef), (40, 125, .bool false), (41, 126, .bool false), (42, 127, undef), (43, 128, undef), (44, 129, .bool false), (45, 130, .bool false), (46, 131, undef), (47, 132, undef), (48, 133, .bool false), (49, 134, .bool false), (50, 135, undef), (51, 136, undef), (52, 137, .bool false), (53, 0, .bool false)]) 54 (by kernel_rfl) (by kernel_rfl) (by kernel_rfl) (by kernel_rfl) (by kernel_rfl) [0, 1, 2, 3, 4, 5, 6, 7, 8, 9, 10, 11, 12, 13, 14, 15, 16, 17, 18, 19, 20, 21, 22, 23, 24, 25, 26, 27, 28, 29, 30, 31, 32, 33, 34, 35, 36, 37, 38, 39, 40, 41, 42, 43, 44, 45, 46, 47, 48, 49, 50, 51, 52, 53] (by kernel_rfl) (by decide) (by decide) (aF 0 53 (by decide) ?_ (aF 1 52 (by decide) ?_ (aF 2 51 (by decide) ?_ (aF 3 50 (by decide) ?_ (aF 4 49 (by decide) ?_ (aF 5 48 (by decide) ?_ (aF 6 47 (by decide) ?_ (aF 7 46 (by decide) ?_ (aF 8 45 (by decide) ?_ (aF 9 44 (by decide) ?_ (aF 10 43 (by decide) ?_ (aF 11 42 (by decide) ?_ (aF 12 41 (by decide) ?_ (aF 13 40 (by decide) ?_ (aF 14 39 (by decide) ?_ (aF 15 38 (by decide) ?_ (aF 16 37 (by decide) ?_ (aF 17 36 (by decide) ?_ (aF 18 35 (by decide) ?_ (aF 19 34 (by decide) ?_ (aF 20 33 (by decide) ?_ (aF 21 32 (by decide) ?_ (aF 22 31 (by decide) ?_ (aF 23 30 (by decide) ?_ (aF 24 29 (by decide) ?_ (aF 25 28 (by decide) ?_ (aF 26 27 (by decide) ?_ (aF 27 26 (by decide) ?_ (aF 28 25 (by decide) ?_ (aF 29 24 (by decide) ?_ (aF 30 23 (by decide) ?_ (aF 31 22 (by decide) ?_ (aF 32 21 (by decide) ?_ (aF 33 20 (by decide) ?_ (aF 34 19 (by decide) ?_ (aF 35 18 (by decide) ?_ (aF 36 17 (by decide) ?_ (aF 37 16 (by decide) ?_ (aF 38 15 (by decide) ?_ (aF 39 14 (by decide) ?_ (aF 40 13 (by decide) ?_ (aF 41 12 (by decide) ?_ (aF 42 11 (by decide) ?_ (aF 43 10 (by decide) ?_ (aF 44 9 (by decide) ?_ (aF 45 8 (by decide) ?_ (aF 46 7 (by decide) ?_ (aF 47 6 (by decide) ?_ (aF 48 5 (by decide) ?_ (aF 49 4 (by decide) ?_ (aF 50 3 (by decide) ?_ (aF 51 2 (by decide) ?_ (aF 52 1 (by decide) ?_ (aF 53 0 (by decide) ?_ (trivial))))))))))))))))))))))))))))))))))))))))))))))))))))))) [(0, .bool false)] (fin_of [some 53] rfl (by kernel_rfl) (by kernel_rfl)) (fun _ a w S => ?_)
                  · refine fI 85 (.bool (r72.2 == 0)) [(19, .bool (r72.2 == 0))] 0 [none] rfl rfl (by kernel_rfl) rfl (by kernel_rfl) (by kernel_rfl) fun G a w S => ?_
                    refine sMove (.bool (r72.2 == 0)) S (wN rfl) (.inl rfl) (by kernel_rfl) rfl (by decide) (fun a S => ?_)
                    exact leafL ⟨rfl, S⟩
                  · refine fI 86 (.bool (r72.2 == 0)) [(85, .bool (r72.2 == 0))] 1 [some 0] rfl rfl (by kernel_rfl) rfl (by kernel_rfl) (by kernel_rfl) fun G a w S => ?_
                    refine sMove (.bool (r72.2 == 0)) S (wN rfl) (.inl rfl) (by kernel_rfl) rfl (by decide) (fun a S => ?_)
                    exact leafL ⟨rfl, S⟩
                  · refine fI 87 undef [(1, .slice ad14 r10.1.length cp15), (86, .bool (r72.2 == 0))] 2 [none, some 1] rfl rfl (by kernel_rfl) rfl (by kernel_rfl) (by kernel_rfl) fun G a w S => ?_
                    refine sSkip (c := r72.2 == 0) 1 true 86 87 S rfl rfl (by kernel_rfl) hc84 rfl (by decide) (fun a S => ?_)
                    exact leafL ⟨rfl, S⟩
                  · refine fI 88 undef [(86, .bool (r72.2 == 0))] 3 [some 1] rfl rfl (by kernel_rfl) rfl (by kernel_rfl) (by kernel_rfl) fun G a w S => ?_
                    refine sSkip (c := r72.2 == 0) 1 true 86 88 S rfl rfl (by kernel_rfl) hc84 rfl (by decide) (fun a S => ?_)
                    exact leafL ⟨rfl, S⟩
                  · refine fI 89 undef [(87, undef), (88, undef), (86, .bool (r72.2 == 0))] 4 [some 2, some 3, some 1] rfl rfl (by kernel_rfl) rfl (by kernel_rfl) (by kernel_rfl) fun G a w S => ?_
                    refine sSkip (c := r72.2 == 0) 1 true 86 89 S rfl rfl (by kernel_rfl) hc84 rfl (by decide) (fun a S => ?_)
                    exact leafL ⟨rfl, S⟩
                  · refine fI 90 (.bool false) [(86, .bool (r72.2 == 0)), (89, undef)] 5 [some 1, some 4] rfl rfl (by kernel_rfl) rfl (by kernel_rfl) (by kernel_rfl) fun G a w S => ?_
                    refine sPickF (b := r72.2 == 0) (.bool false) S (wN rfl) rfl (by kernel_rfl) hc84 (by kernel_rfl) rfl (by decide) (fun a S => ?_)
                    exact leafL ⟨rfl, S⟩
                  · refine fI 91 (.bool false) [(90, .bool false)] 6 [some 5] rfl rfl (by kernel_rfl) rfl (by kernel_rfl) (by kernel_rfl) fun G a w S => ?_
                    refine sMove (.bool false) S (wN rfl) (.inl rfl) (by kernel_rfl) rfl (by decide) (fun a S => ?_)
                    exact leafL ⟨rfl, S⟩
                  · refine fI 92 undef [(2, .slice ad16 r10.2.1.length cp17), (91, .bool false)] 7 [none, some 6] rfl rfl (by kernel_rfl) rfl (by kernel_rfl) (by kernel_rfl) fun G a w S => ?_
                    refine sSkip (c := false) 6 true 91 92 S rfl rfl (by kernel_rfl) rfl rfl (by decide) (fun a S => ?_)
                    exact leafL ⟨rfl, S⟩
                  · refine fI 93 undef [(91, .bool false)] 8 [some 6] rfl rfl (by kernel_rfl) rfl (by kernel_rfl) (by kernel_rfl) fun G a w S => ?_
                    refine sSkip (c := false) 6 true 91 93 S rfl rfl (by kernel_rfl) rfl rfl (by decide) (fun a S => ?_)
                    exact leafL ⟨rfl, S⟩
                  · refine fI 94 undef [(92, undef), (93, undef), (91, .bool false)] 9 [some 7, some 8, some 6] rfl rfl (by kernel_rfl) rfl (by kernel_rfl) (by kernel_rfl) fun G a w S => ?_
                    refine sSkip (c := false) 6 true 91 94 S rfl rfl (by kernel_rfl) rfl rfl (by decide) (fun a S => ?_)
                    exact leafL ⟨rfl, S⟩
                  · refine fI 95 (.bool false) [(91, .bool false), (94, undef)] 10 [some 6, some 9] rfl rfl (by kernel_rfl) rfl (by kernel_rfl) (by kernel_rfl) fun G a w S => ?_
                    refine sPickF (b := false) (.bool false) S (wN rfl) rfl (by kernel_rfl) rfl (by kernel_rfl) rfl (by decide) (fun a S => ?_)
                    exact leafL ⟨rfl, S⟩
                  · refine fI 96 (.bool false) [(95, .bool false)] 11 [some 10] rfl rfl (by kernel_rfl) rfl (by kernel_rfl) (by kernel_rfl) fun G a w S => ?_
                    refine sMove (.bool false) S (wN rfl) (.inl rfl) (by kernel_rfl) rfl (by decide) (fun a S => ?_)
                    exact leafL ⟨rfl, S⟩
                  · refine fI 97 undef [(4, .pointer (some ⟨b28, 0, none⟩)), (96, .bool false)] 12 [none, some 11] rfl rfl (by kernel_rfl) rfl (by kernel_rfl) (by kernel_rfl) fun G a w S => ?_
                    refine sSkip (c := false) 11 true 96 97 S rfl rfl (by kernel_rfl) rfl rfl (by decide) (fun a S => ?_)
                    exact leafL ⟨rfl, S⟩
                  · refine fI 98 undef [(96, .bool false)] 13 [some 11] rfl rfl (by kernel_rfl) rfl (by kernel_rfl) (by kernel_rfl) fun G a w S => ?_
                    refine sSkip (c := false) 11 true 96 98 S rfl rfl (by kernel_rfl) rfl rfl (by decide) (fun a S => ?_)
                    exact leafL ⟨rfl, S⟩
                  · refine fI 99 undef [(97, undef), (98, undef), (96, .bool false)] 14 [some 12, some 13, some 11] rfl rfl (by kernel_rfl) rfl (by kernel_rfl) (by kernel_rfl) fun G a w S => ?_
                    refine sSkip (c := false) 11 true 96 99 S rfl rfl (by kernel_rfl) rfl rfl (by decide) (fun a S => ?_)
                    exact leafL ⟨rfl, S⟩
                  · refine fI 100 (.bool false) [(96, .bool false), (99, undef)] 15 [some 11, some 14] rfl rfl (by kernel_rfl) rfl (by kernel_rfl) (by kernel_rfl) fun G a w S => ?_
                    refine sPickF (b := false) (.bool false) S (wN rfl) rfl (by kernel_rfl) rfl (by kernel_rfl) rfl (by decide) (fun a S => ?_)
                    exact leafL ⟨rfl, S⟩
                  · refine fI 101 (.bool false) [(100, .bool false)] 16 [some 15] rfl rfl (by kernel_rfl) rfl (by kernel_rfl) (by kernel_rfl) fun G a w S => ?_
                    refine sMove (.bool false) S (wN rfl) (.inl rfl) (by kernel_rfl) rfl (by decide) (fun a S => ?_)
                    exact leafL ⟨rfl, S⟩
                  · refine fI 102 undef [(5, .pointer (some ⟨b29, 0, none⟩)), (101, .bool false)] 17 [none, some 16] rfl rfl (by kernel_rfl) rfl (by kernel_rfl) (by kernel_rfl) fun G a w S => ?_
                    refine sSkip (c := false) 16 true 101 102 S rfl rfl (by kernel_rfl) rfl rfl (by decide) (fun a S => ?_)
                    exact leafL ⟨rfl, S⟩
                  · refine fI 103 undef [(101, .bool false)] 18 [some 16] rfl rfl (by kernel_rfl) rfl (by kernel_rfl) (by kernel_rfl) fun G a w S => ?_
                    refine sSkip (c := false) 16 true 101 103 S rfl rfl (by kernel_rfl) rfl rfl (by decide) (fun a S => ?_)
                    exact leafL ⟨rfl, S⟩
                  · refine fI 104 undef [(102, undef), (103, undef), (101, .bool false)] 19 [some 17, some 18, some 16] rfl rfl (by kernel_rfl) rfl (by kernel_rfl) (by kernel_rfl) fun G a w S => ?_
                    refine sSkip (c := false) 16 true 101 104 S rfl rfl (by kernel_rfl) rfl rfl (by decide) (fun a S => ?_)
                    exact leafL ⟨rfl, S⟩
                  · refine fI 105 (.bool false) [(101, .bool false), (104, undef)] 20 [some 16, some 19] rfl rfl (by kernel_rfl) rfl (by kernel_rfl) (by kernel_rfl) fun G a w S => ?_
                    refine sPickF (b := false) (.bool false) S (wN rfl) rfl (by kernel_rfl) rfl (by kernel_rfl) rfl (by decide) (fun a S => ?_)
                    exact leafL ⟨rfl, S⟩
                  · refine fI 106 (.bool false) [(105, .bool false)] 21 [some 20] rfl rfl (by kernel_rfl) rfl (by kernel_rfl) (by kernel_rfl) fun G a w S => ?_
                    refine sMove (.bool false) S (wN rfl) (.inl rfl) (by kernel_rfl) rfl (by decide) (fun a S => ?_)
                    exact leafL ⟨rfl, S⟩
                  · refine fI 107 undef [(7, .pointer (some ⟨b42, 0, none⟩)), (106, .bool false)] 22 [none, some 21] rfl rfl (by kernel_rfl) rfl (by kernel_rfl) (by kernel_rfl) fun G a w S => ?_
                    refine sSkip (c := false) 21 true 106 107 S rfl rfl (by kernel_rfl) rfl rfl (by decide) (fun a S => ?_)
                    exact leafL ⟨rfl, S⟩
                  · refine fI 108 undef [(106, .bool false)] 23 [some 21] rfl rfl (by kernel_rfl) rfl (by kernel_rfl) (by kernel_rfl) fun G a w S => ?_
                    refine sSkip (c := false) 21 true 106 108 S rfl rfl (by kernel_rfl) rfl rfl (by decide) (fun a S => ?_)
                    exact leafL ⟨rfl, S⟩
                  · refine fI 109 undef [(107, undef), (108, undef), (106, .bool false)] 24 [some 22, some 23, some 21] rfl rfl (by kernel_rfl) rfl (by kernel_rfl) (by kernel_rfl) fun G a w S => ?_
                    refine sSkip (c := false) 21 true 106 109 S rfl rfl (by kernel_rfl) rfl rfl (by decide) (fun a S => ?_)
                    exact leafL ⟨rfl, S⟩
                  · refine fI 110 (.bool false) [(106, .bool false), (109, undef)] 25 [some 21, some 24] rfl rfl (by kernel_rfl) rfl (by kernel_rfl) (by kernel_rfl) fun G a w S => ?_
                    refine sPickF (b := false) (.bool false) S (wN rfl) rfl (by kernel_rfl) rfl (by kernel_rfl) rfl (by decide) (fun a S => ?_)
                    exact leafL ⟨rfl, S⟩
                  · refine fI 111 (.bool false) [(110, .bool false)] 26 [some 25] rfl rfl (by kernel_rfl) rfl (by kernel_rfl) (by kernel_rfl) fun G a w S => ?_
                    refine sMove (.bool false) S (wN rfl) (.inl rfl) (by kernel_rfl) rfl (by decide) (fun a S => ?_)
                    exact leafL ⟨rfl, S⟩
                  · refine fI 112 undef [(8, .pointer (some ⟨b43, 0, none⟩)), (111, .bool false)] 27 [none, some 26] rfl rfl (by kernel_rfl) rfl (by kernel_rfl) (by kernel_rfl) fun G a w S => ?_
                    refine sSkip (c := false) 26 true 111 112 S rfl rfl (by kernel_rfl) rfl rfl (by decide) (fun a S => ?_)
                    exact leafL ⟨rfl, S⟩
                  · refine fI 113 undef [(111, .bool false)] 28 [some 26] rfl rfl (by kernel_rfl) rfl (by kernel_rfl) (by kernel_rfl) fun G a w S => ?_
                    refine sSkip (c := false) 26 true 111 113 S rfl rfl (by kernel_rfl) rfl rfl (by decide) (fun a S => ?_)
                    exact leafL ⟨rfl, S⟩
                  · refine fI 114 undef [(112, undef), (113, undef), (111, .bool false)] 29 [some 27, some 28, some 26] rfl rfl (by kernel_rfl) rfl (by kernel_rfl) (by kernel_rfl) fun G a w S => ?_
                    refine sSkip (c := false) 26 true 111 114 S rfl rfl (by kernel_rfl) rfl rfl (by decide) (fun a S => ?_)
                    exact leafL ⟨rfl, S⟩
                  · refine fI 115 (.bool false) [(111, .bool false), (114, undef)] 30 [some 26, some 29] rfl rfl (by kernel_rfl) rfl (by kernel_rfl) (by kernel_rfl) fun G a w S => ?_
                    refine sPickF (b := false) (.bool false) S (wN rfl) rfl (by kernel_rfl) rfl (by kernel_rfl) rfl (by decide) (fun a S => ?_)
                    exact leafL ⟨rfl, S⟩
                  · refine fI 116 (.bool false) [(115, .bool false)] 31 [some 30] rfl rfl (by kernel_rfl) rfl (by kernel_rfl) (by kernel_rfl) fun G a w S => ?_
                    refine sMove (.bool false) S (wN rfl) (.inl rfl) (by kernel_rfl) rfl (by decide) (fun a S => ?_)
                    exact leafL ⟨rfl, S⟩
                  · refine fI 117 undef [(10, .pointer (some ⟨b56, 0, none⟩)), (116, .bool false)] 32 [none, some 31] rfl rfl (by kernel_rfl) rfl (by kernel_rfl) (by kernel_rfl) fun G a w S => ?_
                    refine sSkip (c := false) 31 true 116 117 S rfl rfl (by kernel_rfl) rfl rfl (by decide) (fun a S => ?_)
                    exact leafL ⟨rfl, S⟩
                  · refine fI 118 undef [(116, .bool false)] 33 [some 31] rfl rfl (by kernel_rfl) rfl (by kernel_rfl) (by kernel_rfl) fun G a w S => ?_
                    refine sSkip (c := false) 31 true 116 118 S rfl rfl (by kernel_rfl) rfl rfl (by decide) (fun a S => ?_)
                    exact leafL ⟨rfl, S⟩
                  · refine fI 119 undef [(117, undef), (118, undef), (116, .bool false)] 34 [some 32, some 33, some 31] rfl rfl (by kernel_rfl) rfl (by kernel_rfl) (by kernel_rfl) fun G a w S => ?_
                    refine sSkip (c := false) 31 true 116 119 S rfl rfl (by kernel_rfl) rfl rfl (by decide) (fun a S => ?_)
                    exact leafL ⟨rfl, S⟩
                  · refine fI 120 (.bool false) [(116, .bool false), (119, undef)] 35 [some 31, some 34] rfl rfl (by kernel_rfl) rfl (by kernel_rfl) (by kernel_rfl) fun G a w S => ?_
                    refine sPickF (b := false) (.bool false) S (wN rfl) rfl (by kernel_rfl) rfl (by kernel_rfl) rfl (by decide) (fun a S => ?_)
                    exact leafL ⟨rfl, S⟩
                  · refine fI 121 (.bool false) [(120, .bool false)] 36 [some 35] rfl rfl (by kernel_rfl) rfl (by kernel_rfl) (by kernel_rfl) fun G a w S => ?_
                    refine sMove (.bool false) S (wN rfl) (.inl rfl) (by kernel_rfl) rfl (by decide) (fun a S => ?_)
                    exact leafL ⟨rfl, S⟩
                  · refine fI 122 undef [(11, .pointer (some ⟨b57, 0, none⟩)), (121, .bool false)] 37 [none, some 36] rfl rfl (by kernel_rfl) rfl (by kernel_rfl) (by kernel_rfl) fun G a w S => ?_
                    refine sSkip (c := false) 36 true 121 122 S rfl rfl (by kernel_rfl) rfl rfl (by decide) (fun a S => ?_)
                    exact leafL ⟨rfl, S⟩
                  · refine fI 123 undef [(121, .bool false)] 38 [some 36] rfl rfl (by kernel_rfl) rfl (by kernel_rfl) (by kernel_rfl) fun G a w S => ?_
                    refine sSkip (c := false) 36 true 121 123 S rfl rfl (by kernel_rfl) rfl rfl (by decide) (fun a S => ?_)
                    exact leafL ⟨rfl, S⟩
                  · refine fI 124 undef [(122, undef), (123, undef), (121, .bool false)] 39 [some 37, some 38, some 36] rfl rfl (by kernel_rfl) rfl (by kernel_rfl) (by kernel_rfl) fun G a w S => ?_
                    refine sSkip (c := false) 36 true 121 124 S rfl rfl (by kernel_rfl) rfl rfl (by decide) (fun a S => ?_)
                    exact leafL ⟨rfl, S⟩
                  · refine fI 125 (.bool false) [(121, .bool false), (124, undef)] 40 [some 36, some 39] rfl rfl (by kernel_rfl) rfl (by kernel_rfl) (by kernel_rfl) fun G a w S => ?_
                    refine sPickF (b := false) (.bool false) S (wN rfl) rfl (by kernel_rfl) rfl (by kernel_rfl) rfl (by decide) (fun a S => ?_)
                    exact leafL ⟨rfl, S⟩
                  · refine fI 126 (.bool false) [(125, .bool false)] 41 [some 40] rfl rfl (by kernel_rfl) rfl (by kernel_rfl) (by kernel_rfl) fun G a w S => ?_
                    refine sMove (.bool false) S (wN rfl) (.inl rfl) (by kernel_rfl) rfl (by decide) (fun a S => ?_)
                    exact leafL ⟨rfl, S⟩
                  · refine fI 127 undef [(13, .int .i64 r62.1), (126, .bool false)] 42 [none, some 41] rfl rfl (by kernel_rfl) rfl (by kernel_rfl) (by kernel_rfl) fun G a w S => ?_
                    refine sSkip (c := false) 41 true 126 127 S rfl rfl (by kernel_rfl) rfl rfl (by decide) (fun a S => ?_)
                    exact leafL ⟨rfl, S⟩
                  · refine fI 128 undef [(127, undef), (126, .bool false)] 43 [some 42, some 41] rfl rfl (by kernel_rfl) rfl (by kernel_rfl) (by kernel_rfl) fun G a w S => ?_
                    refine sSkip (c := false) 41 true 126 128 S rfl rfl (by kernel_rfl) rfl rfl (by decide) (fun a S => ?_)
                    exact leafL ⟨rfl, S⟩
                  · refine fI 129 (.bool false) [(126, .bool false), (128, undef)] 44 [some 41, some 43] rfl rfl (by kernel_rfl) rfl (by kernel_rfl) (by kernel_rfl) fun G a w S => ?_
                    refine sPickF (b := false) (.bool false) S (wN rfl) rfl (by kernel_rfl) rfl (by kernel_rfl) rfl (by decide) (fun a S => ?_)
                    exact leafL ⟨rfl, S⟩
                  · refine fI 130 (.bool false) [(129, .bool false)] 45 [some 44] rfl rfl (by kernel_rfl) rfl (by kernel_rfl) (by kernel_rfl) fun G a w S => ?_
                    refine sMove (.bool false) S (wN rfl) (.inl rfl) (by kernel_rfl) rfl (by decide) (fun a S => ?_)
                    exact leafL ⟨rfl, S⟩
                  · refine fI 131 undef [(15, .int .i64 r66.1), (130, .bool false)] 46 [none, some 45] rfl rfl (by kernel_rfl) rfl (by kernel_rfl) (by kernel_rfl) fun G a w S => ?_
                    refine sSkip (c := false) 45 true 130 131 S rfl rfl (by kernel_rfl) rfl rfl (by decide) (fun a S => ?_)
                    exact leafL ⟨rfl, S⟩
                  · refine fI 132 undef [(131, undef), (130, .bool false)] 47 [some 46, some 45] rfl rfl (by kernel_rfl) rfl (by kernel_rfl) (by kernel_rfl) fun G a w S => ?_
                    refine sSkip (c := false) 45 true 130 132 S rfl rfl (by kernel_rfl) rfl rfl (by decide) (fun a S => ?_)
                    exact leafL ⟨rfl, S⟩
                  · refine fI 133 (.bool false) [(130, .bool false), (132, undef)] 48 [some 45, some 47] rfl rfl (by kernel_rfl) rfl (by kernel_rfl) (by kernel_rfl) fun G a w S => ?_
                    refine sPickF (b := false) (.bool false) S (wN rfl) rfl (by kernel_rfl) rfl (by kernel_rfl) rfl (by decide) (fun a S => ?_)
                    exact leafL ⟨rfl, S⟩
                  · refine fI 134 (.bool false) [(133, .bool false)] 49 [some 48] rfl rfl (by kernel_rfl) rfl (by kernel_rfl) (by kernel_rfl) fun G a w S => ?_
                    refine sMove (.bool false) S (wN rfl) (.inl rfl) (by kernel_rfl) rfl (by decide) (fun a S => ?_)
                    exact leafL ⟨rfl, S⟩
                  · refine fI 135 undef [(17, .int .i64 r72.1), (134, .bool false)] 50 [none, some 49] rfl rfl (by kernel_rfl) rfl (by kernel_rfl) (by kernel_rfl) fun G a w S => ?_
                    refine sSkip (c := false) 49 true 134 135 S rfl rfl (by kernel_rfl) rfl rfl (by decide) (fun a S => ?_)
                    exact leafL ⟨rfl, S⟩
                  · refine fI 136 undef [(135, undef), (134, .bool false)] 51 [some 50, some 49] rfl rfl (by kernel_rfl) rfl (by kernel_rfl) (by kernel_rfl) fun G a w S => ?_
                    refine sSkip (c := false) 49 true 134 136 S rfl rfl (by kernel_rfl) rfl rfl (by decide) (fun a S => ?_)
                    exact leafL ⟨rfl, S⟩
                  · refine fI 137 (.bool false) [(134, .bool false), (136, undef)] 52 [some 49, some 51] rfl rfl (by kernel_rfl) rfl (by kernel_rfl) (by kernel_rfl) fun G a w S => ?_
                    refine sPickF (b := false) (.bool false) S (wN rfl) rfl (by kernel_rfl) rfl (by kernel_rfl) rfl (by decide) (fun a S => ?_)
                    exact leafL ⟨rfl, S⟩
                  · refine fI 0 (.bool false) [(137, .bool false)] 53 [some 52] rfl rfl (by kernel_rfl) rfl (by kernel_rfl) (by kernel_rfl) fun G a w S => ?_
                    refine sMove (.bool false) S (wN rfl) (.inr rfl) (by kernel_rfl) rfl (by decide) (fun a S => ?_)
                    exact leafL ⟨rfl, S⟩
                  · exact leafT (⟨false, Option.some.inj h, S.fix [] [] (by decide) (by kernel_rfl) (by kernel_rfl) (by kernel_rfl)⟩)
              · obtain ⟨o81, rfl, S⟩ := hI
                have h := g83
                clear g83
                try dsimp only at h
                obtain rfl := Option.some.inj h
                exact wp_ret (sRet (.bool o81) S (rsl1 rfl (rvT (t := 0) (v := .bool o81) S (by kernel_rfl))) ⟨(), rfl, S.mem.sel [] [] (by decide) (by kernel_rfl) (by kernel_rfl)⟩)
            · exact absurd hc80 (by rw [hv_r66]; decide)
          · exact absurd hc79 (by rw [hv_r62]; decide)
        · exact absurd hc78 (by rw [hv_r52]; decide)
      · exact absurd hc77 (by rw [hv_r38]; decide)
    · exact absurd hc76 (by rw [hv_r24]; decide)
  · exact absurd hc75 (by rw [hv_r10]; decide)

end Go.Proofs.Ytjndecalogklhaa
namespace Go.Proofs.Ytjndecalogklhaa
open Go.RowKit
set_option linter.unusedVariables false

def K_raddlelaw24_alive  : Option Bool :=
  Option.bind (K_raddlelaw24_cloth 2 2 1) fun r3 =>
  Option.bind (K_sett_Turns r3) fun r10 =>
  Option.bind (K_sett_Setts r3 200) fun r24 =>
  Option.bind (K_raddlelaw24_cloth 4 4 2) fun r31 =>
  Option.bind (K_sett_Setts r31 200) fun r38 =>
  Option.bind (K_raddlelaw24_cloth 3 2 3) fun r45 =>
  Option.bind (K_sett_Setts r45 200) fun r52 =>
  Option.bind (K_raddlelaw24_part 100 1) fun r59 =>
  Option.bind (K_sett_Ends 1005 r59) fun r62 =>
  Option.bind (K_sett_Width 100 r59) fun r66 =>
  Option.bind (K_raddlelaw24_part 1 10) fun r69 =>
  Option.bind (K_sett_Need 1000 r69) fun r72 =>
  if r10.2.2 == 0 then
    if r24.2.2 == 0 then
      if r38.2.2 == 0 then
        if r52.2.2 == 0 then
          if r62.2 == 0 then
            if r66.2 == 0 then
              Option.bind (α := Bool) (
                if r72.2 == 0 then
                  Option.bind (K_raddleref24_Same r10.1 ([2, 2] : List Int)) fun r87 =>
                  if r87 then
                    Option.bind (K_raddleref24_Same r10.2.1 ([2, 2] : List Int)) fun r92 =>
                    if r92 then
                      if ((r24.1.Num == r59.Num) && ((r24.1.Den == r59.Den) && true)) then
                        if ((r24.2.1.Num == r59.Num) && ((r24.2.1.Den == r59.Den) && true)) then
                          Option.bind (K_raddlelaw24_part 400 3) fun r99 =>
                          if ((r38.1.Num == r99.Num) && ((r38.1.Den == r99.Den) && true)) then
                            if ((r38.2.1.Num == r99.Num) && ((r38.2.1.Den == r99.Den) && true)) then
                              Option.bind (K_raddlelaw24_part 200 1) fun r105 =>
                              if ((r52.1.Num == r105.Num) && ((r52.1.Den == r105.Den) && true)) then
                                if ((r52.2.1.Num == r105.Num) && ((r52.2.1.Den == r105.Den) && true)) then
                                  if r62.1 == 100 then
                                    if r66.1 == 1000 then
                                      some (r72.1 == 1100)
                                    else
                                      none
                                  else
                                    none
                                else
                                  none
                              else
                                none
                            else
                              none
                          else
                            none
                        else
                          none
                      else
                        none
                    else
                      none
                  else
                    none
                else
                  some false) fun o81 =>
              some o81
            else
              none
          else
            none
        else
          none
      else
        none
    else
      none
  else
    none
theorem m_F_raddlelaw24_alive  : Le (K_raddlelaw24_alive ) (F_raddlelaw24_alive ) := by
  unfold K_raddlelaw24_alive F_raddlelaw24_alive
  with_reducible repeat' (first | exact m_F_raddlelaw24_cloth _ _ _ | exact m_F_sett_Turns _ | exact m_F_sett_Setts _ _ | exact m_F_raddlelaw24_part _ _ | exact m_F_sett_Ends _ _ | exact m_F_sett_Width _ _ | exact m_F_sett_Need _ _ | exact m_F_raddleref24_Same _ _ | exact Le.rfl _ | refine Le.loop _ ?_ | refine Le.bind ?_ ?_ | refine Le.ite ?_ ?_ | refine Le.sum ?_ ?_ | refine Le.prod ?_ | intro _ | dsimp only)
set_option maxRecDepth 1000000 in
theorem k_raddlelaw24_alive : F_raddlelaw24_alive = some true := m_F_raddlelaw24_alive _ (by kernel_rfl)
end Go.Proofs.Ytjndecalogklhaa
namespace Go.Proofs.Ytjndecalogklhaa
open Go.RowKit
set_option linter.unusedVariables false

theorem w64_of {x : Int} (h0 : -9223372036854775808 ≤ x) (h1 : x ≤ 9223372036854775807) : w64 x = x := w64_id ⟨h0, h1⟩
theorem w64_succ {k : Nat} (h : k < 9223372036854775807) : w64 ((k : Int) + 1) = ((k + 1 : Nat) : Int) := by
  rw [w64_of (by omega) (by omega)]; omega
theorem idxO_nat {α : Type} {xs : List α} {k : Nat} (h : k < xs.length) : idxO xs (k : Int) = some xs[k] := by
  simp [idxO, h]
theorem idxO_of {α : Type} {xs : List α} {i : Int} {k : Nat} (hi : i = (k : Int)) (h : k < xs.length) : idxO xs i = some xs[k] := by subst hi; exact idxO_nat h
theorem setO_nat {α : Type} {xs : List α} {k : Nat} {y : α} (h : k < xs.length) : setO xs (k : Int) y = some (xs.set k y) := by
  simp [setO, h]
theorem appO_of {α : Type} {xs ys : List α} (h : xs.length + ys.length ≤ 68719476736) : appO xs ys = some (xs ++ ys) := by
  simp [appO, lim, h]
theorem capO_of {n : Int} {k : Nat} (h : n = (k : Int)) (hk : k ≤ 68719476736) : capO n = some () := by
  subst h; simp [capO, lim, hk]
theorem makeO_of {α : Type} {n : Int} {z : α} {k : Nat} (h : n = (k : Int)) (hk : k ≤ 68719476736) : makeO n z = some (List.replicate k z) := by
  subst h; simp [makeO, lim, hk]
theorem sliceO_of {α : Type} {xs : List α} {lo hi : Int} {l k : Nat} (h1 : lo = l) (h2 : hi = k) (h3 : l ≤ k) (h4 : k ≤ xs.length) : sliceO xs lo hi = some ((xs.take k).drop l) := by
  subst h1 h2; simp [sliceO, h3, h4]
/-- a loop over an index, with a state beside it -/
theorem loop_st {σ τ : Type} {B : σ × Int → Option ((σ × Int) ⊕ τ)} (n : Nat) (I : Nat → σ → Prop) (Pt : τ → Prop) {s0 : σ} (h0 : I 0 s0)
    (step : ∀ k s, k < n → I k s → (∃ s', B (s, (k : Int)) = some (.inl (s', ((k + 1 : Nat) : Int))) ∧ I (k + 1) s') ∨ (∃ t, B (s, (k : Int)) = some (.inr t) ∧ Pt t))
    (last : ∀ s, I n s → ∃ t, B (s, (n : Int)) = some (.inr t) ∧ Pt t) : ∃ t, whileO B (s0, 0) = some t ∧ Pt t := by
  refine whileO_inv (fun s => ∃ k : Nat, k ≤ n ∧ s.2 = (k : Int) ∧ I k s.1) (fun s => ((n : Int) - s.2).toNat) Pt ⟨0, Nat.zero_le _, rfl, h0⟩ ?_
  rintro ⟨s, i⟩ ⟨k, hk, rfl, hI⟩
  by_cases hlt : k < n
  · rcases step k s hlt hI with ⟨s', h1, h2⟩ | h
    · exact .inl ⟨_, h1, ⟨k + 1, hlt, rfl, h2⟩, by simp; omega⟩
    · exact .inr h
  · obtain rfl : k = n := by omega
    exact .inr (last s hI)
/-- a loop over an index alone -/
theorem loop_ix {τ : Type} {B : Int → Option (Int ⊕ τ)} (n : Nat) (I : Nat → Prop) (Pt : τ → Prop) (h0 : I 0)
    (step : ∀ k, k < n → I k → (B (k : Int) = some (.inl ((k + 1 : Nat) : Int)) ∧ I (k + 1)) ∨ (∃ t, B (k : Int) = some (.inr t) ∧ Pt t))
    (last : I n → ∃ t, B (n : Int) = some (.inr t) ∧ Pt t) : ∃ t, whileO B 0 = some t ∧ Pt t := by
  refine whileO_inv (fun s => ∃ k : Nat, k ≤ n ∧ s = (k : Int) ∧ I k) (fun s => ((n : Int) - s).toNat) Pt ⟨0, Nat.zero_le _, rfl, h0⟩ ?_
  rintro i ⟨k, hk, rfl, hI⟩
  by_cases hlt : k < n
  · rcases step k hlt hI with ⟨h1, h2⟩ | h
    · exact .inl ⟨_, h1, ⟨k + 1, hlt, rfl, h2⟩, by simp; omega⟩
    · exact .inr h
  · obtain rfl : k = n := by omega
    exact .inr (last hI)

end Go.Proofs.Ytjndecalogklhaa
namespace Go.Proofs.Ytjndecalogklhaa
open Go.RowKit
set_option linter.unusedVariables false

theorem loop_fr {σ τ : Type} {B : σ × Int → Option ((σ × Int) ⊕ τ)} (a n : Nat) (ha : a ≤ n) (I : Nat → σ → Prop) (Pt : τ → Prop) {s0 : σ} (h0 : I a s0)
    (step : ∀ k s, a ≤ k → k < n → I k s → (∃ s', B (s, (k : Int)) = some (.inl (s', ((k + 1 : Nat) : Int))) ∧ I (k + 1) s') ∨ (∃ t, B (s, (k : Int)) = some (.inr t) ∧ Pt t))
    (last : ∀ s, I n s → ∃ t, B (s, (n : Int)) = some (.inr t) ∧ Pt t) : ∃ t, whileO B (s0, (a : Int)) = some t ∧ Pt t := by
  refine whileO_inv (fun s => ∃ k : Nat, a ≤ k ∧ k ≤ n ∧ s.2 = (k : Int) ∧ I k s.1) (fun s => ((n : Int) - s.2).toNat) Pt ⟨a, Nat.le_refl _, ha, rfl, h0⟩ ?_
  rintro ⟨s, i⟩ ⟨k, hak, hk, rfl, hI⟩
  by_cases hlt : k < n
  · rcases step k s hak hlt hI with ⟨s', h1, h2⟩ | h
    · exact .inl ⟨_, h1, ⟨k + 1, by omega, hlt, rfl, h2⟩, by simp; omega⟩
    · exact .inr h
  · obtain rfl : k = n := by omega
    exact .inr (last s hI)
/-- a loop that leaves at the first index where f answers -/
theorem loop_find {τ : Type} {B : Int → Option (Int ⊕ τ)} (n : Nat) (f : Nat → Option τ) (good : τ)
    (h : ∀ k, k < n → B (k : Int) = some (match f k with | none => .inl ((k + 1 : Nat) : Int) | some t => .inr t)) (hn : B (n : Int) = some (.inr good)) :
    whileO B 0 = some (((List.range n).findSome? f).getD good) := by
  have key : ∃ t, whileO B 0 = some t ∧ t = ((List.range n).findSome? f).getD good := by
    refine loop_ix n (fun k => (List.range k).findSome? f = none) _ rfl ?_ ?_
    · intro k hk hI
      cases hf : f k with
      | none =>
        refine .inl ⟨by rw [h k hk, hf], ?_⟩
        rw [List.range_succ, List.findSome?_append, hI]
        simp [hf]
      | some t =>
        refine .inr ⟨t, by rw [h k hk, hf], ?_⟩
        have e : List.range n = List.range (k + 1) ++ (List.range (n - (k + 1))).map (k + 1 + ·) := by
          rw [← List.range_add]; congr 1; omega
        rw [e, List.findSome?_append, List.range_succ, List.findSome?_append, hI]
        simp [hf]
    · intro hI
      exact ⟨good, hn, by rw [hI]; rfl⟩
  obtain ⟨t, h1, rfl⟩ := key
  exact h1
/-- a loop that tests all, and says bad at the first that fails -/
theorem loop_all {τ : Type} {B : Int → Option (Int ⊕ τ)} (n : Nat) (p : Nat → Bool) (good bad : τ)
    (h : ∀ k, k < n → B (k : Int) = some (if p k = true then .inl ((k + 1 : Nat) : Int) else .inr bad)) (hn : B (n : Int) = some (.inr good)) :
    whileO B 0 = some (if (List.range n).all p = true then good else bad) := by
  have key : ∃ t, whileO B 0 = some t ∧ t = if (List.range n).all p = true then good else bad := by
    refine loop_ix n (fun k => ∀ j, j < k → p j = true) _ (fun j h => absurd h (Nat.not_lt_zero j)) ?_ ?_
    · intro k hk hI
      cases hf : p k with
      | true =>
        refine .inl ⟨by rw [h k hk, if_pos hf], fun j hj => ?_⟩
        by_cases e : j = k
        · rw [e]; exact hf
        · exact hI j (by omega)
      | false =>
        refine .inr ⟨bad, by rw [h k hk, hf]; simp, ?_⟩
        rw [if_neg]
        intro hc
        rw [List.all_eq_true] at hc
        have := hc k (List.mem_range.2 hk)
        rw [hf] at this; cases this
    · intro hI
      refine ⟨good, hn, ?_⟩
      rw [if_pos]
      rw [List.all_eq_true]
      exact fun j hj => hI j (List.mem_range.1 hj)
  obtain ⟨t, h1, rfl⟩ := key
  exact h1
/-- a loop that folds -/
theorem loop_fold {σ τ : Type} {B : σ × Int → Option ((σ × Int) ⊕ τ)} (n : Nat) (f : σ → Nat → σ) (s0 : σ) {t : τ}
    (h : ∀ k s, k < n → s = (List.range k).foldl f s0 → B (s, (k : Int)) = some (.inl (f s k, ((k + 1 : Nat) : Int))))
    (hn : B ((List.range n).foldl f s0, (n : Int)) = some (.inr t)) : whileO B (s0, 0) = some t := by
  have key : ∃ u, whileO B (s0, 0) = some u ∧ u = t := by
    refine loop_st n (fun k s => s = (List.range k).foldl f s0) _ rfl ?_ ?_
    · rintro k s hk hI
      refine .inl ⟨_, h k s hk hI, ?_⟩
      rw [List.range_succ, List.foldl_append, ← hI]; rfl
    · rintro s rfl
      exact ⟨t, hn, rfl⟩
  obtain ⟨u, h1, rfl⟩ := key
  exact h1
/-- a loop that gathers -/
theorem loop_map {α τ : Type} {B : List α × Int → Option ((List α × Int) ⊕ τ)} (n : Nat) (f : Nat → α) {t : τ}
    (h : ∀ k s, k < n → s = (List.range k).map f → B (s, (k : Int)) = some (.inl (s ++ [f k], ((k + 1 : Nat) : Int))))
    (hn : B ((List.range n).map f, (n : Int)) = some (.inr t)) : whileO B ([], 0) = some t := by
  have key : ∃ u, whileO B ([], 0) = some u ∧ u = t := by
    refine loop_st n (fun k s => s = (List.range k).map f) _ rfl ?_ ?_
    · rintro k s hk hI
      refine .inl ⟨_, h k s hk hI, ?_⟩
      rw [List.range_succ, List.map_append, ← hI]; rfl
    · rintro s rfl
      exact ⟨t, hn, rfl⟩
  obtain ⟨u, h1, rfl⟩ := key
  exact h1
theorem all_cong {n : Nat} {p q : Nat → Bool} (h : ∀ k, k < n → p k = q k) : (List.range n).all p = (List.range n).all q := by
  have : ∀ m, m ≤ n → (List.range m).all p = (List.range m).all q := by
    intro m
    induction m with
    | zero => intro _; rfl
    | succ m ih => intro hm; rw [List.range_succ, List.all_append, List.all_append, ih (by omega)]; simp [h m (by omega)]
  exact this n (Nat.le_refl _)
theorem map_cong {α : Type} {n : Nat} {f g : Nat → α} (h : ∀ k, k < n → f k = g k) : (List.range n).map f = (List.range n).map g :=
  List.map_congr_left fun k hk => h k (List.mem_range.1 hk)
/-- an element, wherever the index lies -/
theorem idxO_get {α : Type} {xs : List α} {i : Int} (h0 : 0 ≤ i) (h1 : i < (xs.length : Int)) : idxO xs i = some (xs[i.toNat]'(by omega)) := by
  have : i.toNat < xs.length := by omega
  simp [idxO, h0, this]
theorem dT {p : Prop} [Decidable p] (h : p) : decide p = true := decide_eq_true h
theorem dF {p : Prop} [Decidable p] (h : ¬ p) : decide p = false := decide_eq_false h
theorem bT {a b : Int} (h : a = b) : (a == b) = true := by simp [h]
theorem bF {a b : Int} (h : ¬ a = b) : (a == b) = false := by simp [h]
theorem nT {a b : Int} (h : ¬ a = b) : (a != b) = true := by simp [h]
theorem nF {a b : Int} (h : a = b) : (a != b) = false := by simp [h]
/-- a loop whose index comes first in its state -/
theorem loop_ts {σ τ : Type} {B : Int × σ → Option ((Int × σ) ⊕ τ)} (n : Nat) (I : Nat → σ → Prop) (Pt : τ → Prop) {s0 : σ} (h0 : I 0 s0)
    (step : ∀ k s, k < n → I k s → (∃ s', B ((k : Int), s) = some (.inl (((k + 1 : Nat) : Int), s')) ∧ I (k + 1) s') ∨ (∃ t, B ((k : Int), s) = some (.inr t) ∧ Pt t))
    (last : ∀ s, I n s → ∃ t, B ((n : Int), s) = some (.inr t) ∧ Pt t) : ∃ t, whileO B (0, s0) = some t ∧ Pt t := by
  refine whileO_inv (fun s => ∃ k : Nat, k ≤ n ∧ s.1 = (k : Int) ∧ I k s.2) (fun s => ((n : Int) - s.1).toNat) Pt ⟨0, Nat.zero_le _, rfl, h0⟩ ?_
  rintro ⟨i, s⟩ ⟨k, hk, rfl, hI⟩
  by_cases hlt : k < n
  · rcases step k s hlt hI with ⟨s', h1, h2⟩ | h
    · exact .inl ⟨_, h1, ⟨k + 1, hlt, rfl, h2⟩, by simp; omega⟩
    · exact .inr h
  · obtain rfl : k = n := by omega
    exact .inr (last s hI)
/-- a row filled from its start on -/
def Fill {α : Type} (n : Nat) (f : Nat → α) (k : Nat) (s : List α) : Prop := s.length = n ∧ ∀ j, j < k → s[j]? = some (f j)
theorem Fill.zero {α : Type} (n : Nat) (f : Nat → α) (z : α) : Fill n f 0 (List.replicate n z) := ⟨by simp, fun j hj => absurd hj (Nat.not_lt_zero j)⟩
theorem Fill.set {α : Type} {n : Nat} {f : Nat → α} {k : Nat} {s : List α} (h : Fill n f k s) (hk : k < n) : Fill n f (k + 1) (s.set k (f k)) := by
  refine ⟨by simp [h.1], fun j hj => ?_⟩
  by_cases e : j = k
  · subst e; simp [h.1, hk]
  · rw [List.getElem?_set_ne (fun h => e h.symm)]; exact h.2 j (by omega)
theorem Fill.all {α : Type} {n : Nat} {f : Nat → α} {s : List α} (h : Fill n f n s) : s = (List.range n).map f := by
  apply List.ext_getElem?
  intro j
  by_cases hj : j < n
  · rw [h.2 j hj]; simp [hj]
  · rw [List.getElem?_eq_none (by rw [h.1]; omega), List.getElem?_eq_none (by simp; omega)]
theorem loop_set {α τ : Type} {B : List α × Int → Option ((List α × Int) ⊕ τ)} (n : Nat) (f : Nat → α) (z : α) {t : τ}
    (h : ∀ k s, k < n → s.length = n → B (s, (k : Int)) = some (.inl (s.set k (f k), ((k + 1 : Nat) : Int))))
    (hn : B ((List.range n).map f, (n : Int)) = some (.inr t)) : whileO B (List.replicate n z, 0) = some t := by
  have key : ∃ u, whileO B (List.replicate n z, 0) = some u ∧ u = t := by
    refine loop_st n (fun k s => Fill n f k s) _ (Fill.zero n f z) ?_ ?_
    · intro k s hk hI
      exact .inl ⟨_, h k s hk hI.1, hI.set hk⟩
    · intro s hs
      rw [hs.all]
      exact ⟨t, hn, rfl⟩
  obtain ⟨u, h1, rfl⟩ := key
  exact h1
theorem idxO_D {α : Type} {xs : List α} {k : Nat} (d : α) (h : k < xs.length) : idxO xs (k : Int) = some (xs.getD k d) := by
  rw [idxO_nat h]; simp [h]
theorem mul_bd {u v a b : Int} (u0 : 0 ≤ u) (u1 : u ≤ a) (v0 : 0 ≤ v) (v1 : v ≤ b) : 0 ≤ u * v ∧ u * v ≤ a * b :=
  ⟨Int.mul_nonneg u0 v0, Int.mul_le_mul u1 v1 v0 (by omega)⟩
theorem sliceO_all {α : Type} {xs : List α} {k : Nat} (h : k ≤ xs.length) : sliceO xs (k : Int) (xs.length : Int) = some (xs.drop k) := by
  rw [sliceO_of (l := k) (k := xs.length) rfl rfl h (Nat.le_refl _), List.take_length]
theorem getD_drop {α : Type} (xs : List α) (n k : Nat) (d : α) : (xs.drop n).getD k d = xs.getD (k + n) d := by
  simp [List.getD_eq_getElem?_getD, List.getElem?_drop, Nat.add_comm]

end Go.Proofs.Ytjndecalogklhaa
namespace Go.Proofs.Ytjndecalogklhaa
open Go.RowKit
set_option linter.unusedVariables false

noncomputable def raddleref23_common_l1  : (Int × Int) → Option ((Int × Int) ⊕ Int) := fun s0 => match s0 with
  | (s5, s6) =>
    if s6 != 0 then
      Option.bind (remI s5 s6) fun z14 =>
      some (.inl (s6, z14))
    else
      some (.inr s5)
noncomputable def F_raddleref23_common (p0 : Int) (p1 : Int) : Option Int :=
  Option.bind (α := Int) (
    Option.bind (whileO (raddleref23_common_l1) (p0, p1)) fun e10 =>
      some e10) fun o2 =>
  if decide (o2 < 0) then
    some (w64 (0 - o2))
  else
    some o2
set_option maxHeartbeats 4000000 in
set_option maxRecDepth 100000 in
theorem c_raddleref23_common (E : Nat → Prop) (w0 : World) (p0 : Int) (p1 : Int) (r : Int) (h : F_raddleref23_common p0 p1 = some r) (S : St0 E [] w0 w0 [] []) :
    Calls Try.prog 60 #[.int .i64 p0, .int .i64 p1] w0 (Ret (X := Unit) E [] w0 (fun _ => .int .i64 r) (fun _ => []) (fun _ => [])) := by
  unfold F_raddleref23_common at h
  refine sEnter (args := [.int .i64 p0, .int .i64 p1]) 16 Try.func60 rfl rfl (by simp) S (fun a S => ?_)
  refine sSeq (fun K1 hK1 => ?_)
  refine sRegion ?_
  refine sMove (.int .i64 0) S (wN rfl) (.inr rfl) (by kernel_rfl) rfl (by decide) (fun a S => ?_)
  refine leafL (leafT (hK1 _ _ ?_))
  obtain ⟨t3, h, g4⟩ := bindSome h
  refine sCut (fun a w => ∃ o2, o2 = t3 ∧ St E [] w0 16 a w [(0, .int .i64 o2)] [] []) ?_ (fun a w hI => ?_)
  · refine wp_block ?_
    obtain ⟨t9, hl, g8⟩ := bindSome h
    refine sLoop hl (fun s0 a w => match s0 with | (s5, s6) => St E [] w0 16 a w [(0, .int .i64 s5), (1, .int .i64 s6)] [] []) (S.fix [] [] (by decide) (by kernel_rfl) (by kernel_rfl) (by kernel_rfl)) ?_
    clear hl h
    intro s0 a w c0 hI h hu7
    obtain ⟨s5, s6⟩ := s0
    unfold raddleref23_common_l1 at h
    dsimp only at h hI
    have S := hI
    refine sSeq (fun K11 hK11 => ?_)
    refine sSeq (fun K12 hK12 => ?_)
    refine sRegion ?_
    refine sMove (.int .i64 s6) S (wN rfl) (.inl rfl) (by kernel_rfl) rfl (by decide) (fun a S => ?_)
    refine sBin (.bool (s6 != 0)) S (wN rfl) rfl (by kernel_rfl) (by kernel_rfl) (bNe _ _ _ _ .i64 s6 0) rfl (by decide) (fun a S => ?_)
    refine leafL (leafT (hK12 _ _ ?_))
    rcases iteSome h with ⟨hc13, h⟩ | ⟨hc13, h⟩
    · refine sCondT (b := s6 != 0) S (by kernel_rfl) hc13 ?_
      refine wp_skip (leafT (hK11 _ _ ?_))
      refine wp_block ?_
      obtain ⟨z14, hx15, h⟩ := bindSome h
      refine sDraw (nf := []) (W := [(0, 7, .int .i64 s6), (1, 8, .int .i64 s5), (2, 9, .int .i64 s6), (3, 10, .int .i64 z14), (4, 0, .int .i64 s6), (5, 1, .int .i64 z14)]) (by kernel_rfl) S ?_
      refine node_by (A := [[], [], [], [1, 2], [0, 1], [0, 1, 2, 3, 4]]) (nf := []) (Y := []) (W := [(0, 7, .int .i64 s6), (1, 8, .int .i64 s5), (2, 9, .int .i64 s6), (3, 10, .int .i64 z14), (4, 0, .int .i64 s6), (5, 1, .int .i64 z14)]) 6 (by kernel_rfl) (by kernel_rfl) (by kernel_rfl) (by kernel_rfl) (by kernel_rfl) [0, 1, 2, 3, 4, 5] (by kernel_rfl) (by decide) (by decide) (aF 0 5 (by decide) ?_ (aF 1 4 (by decide) ?_ (aF 2 3 (by decide) ?_ (aF 3 2 (by decide) ?_ (aF 4 1 (by decide) ?_ (aF 5 0 (by decide) ?_ (trivial))))))) [(0, .int .i64 s6), (1, .int .i64 z14)] (fin_of [some 4, some 5] rfl (by kernel_rfl) (by kernel_rfl)) (fun _ a w S => ?_)
      · refine fI 7 (.int .i64 s6) [(1, .int .i64 s6)] 0 [none] rfl rfl (by kernel_rfl) rfl (by kernel_rfl) (by kernel_rfl) fun G a w S => ?_
        refine sMove (.int .i64 s6) S (wN rfl) (.inl rfl) (by kernel_rfl) rfl (by decide) (fun a S => ?_)
        exact leafL ⟨rfl, S⟩
      · refine fI 8 (.int .i64 s5) [(0, .int .i64 s5)] 1 [none] rfl rfl (by kernel_rfl) rfl (by kernel_rfl) (by kernel_rfl) fun G a w S => ?_
        refine sMove (.int .i64 s5) S (wN rfl) (.inl rfl) (by kernel_rfl) rfl (by decide) (fun a S => ?_)
        exact leafL ⟨rfl, S⟩
      · refine fI 9 (.int .i64 s6) [(1, .int .i64 s6)] 2 [none] rfl rfl (by kernel_rfl) rfl (by kernel_rfl) (by kernel_rfl) fun G a w S => ?_
        refine sMove (.int .i64 s6) S (wN rfl) (.inl rfl) (by kernel_rfl) rfl (by decide) (fun a S => ?_)
        exact leafL ⟨rfl, S⟩
      · refine fI 10 (.int .i64 z14) [(8, .int .i64 s5), (9, .int .i64 s6)] 3 [some 1, some 2] rfl rfl (by kernel_rfl) rfl (by kernel_rfl) (by kernel_rfl) fun G a w S => ?_
        refine sBin (.int .i64 z14) S (wN rfl) rfl (by kernel_rfl) (by kernel_rfl) (bRem _ _ _ _ (x := s5) (y := s6) hx15) rfl (by decide) (fun a S => ?_)
        exact leafL ⟨rfl, S⟩
      · refine fI 0 (.int .i64 s6) [(7, .int .i64 s6)] 4 [some 0] rfl rfl (by kernel_rfl) rfl (by kernel_rfl) (by kernel_rfl) fun G a w S => ?_
        refine sMove (.int .i64 s6) S (wN rfl) (.inr rfl) (by kernel_rfl) rfl (by decide) (fun a S => ?_)
        exact leafL ⟨rfl, S⟩
      · refine fI 1 (.int .i64 z14) [(10, .int .i64 z14)] 5 [some 3] rfl rfl (by kernel_rfl) rfl (by kernel_rfl) (by kernel_rfl) fun G a w S => ?_
        refine sMove (.int .i64 z14) S (wN rfl) (.inr rfl) (by kernel_rfl) rfl (by decide) (fun a S => ?_)
        exact leafL ⟨rfl, S⟩
      · exact leafB (leafT (⟨(s6, z14), (Option.some.inj h).symm, (S.fix [] [] (by decide) (by kernel_rfl) (by kernel_rfl) (by kernel_rfl))⟩))
    · refine sCondF (b := s6 != 0) S (by kernel_rfl) hc13 ?_
      obtain rfl := Option.some.inj h
      obtain rfl := hu7 _ rfl
      have h := g8
      clear g8
      try dsimp only at h
      exact wp_exit (xThen (xThen (xHit (leafT (⟨s5, Option.some.inj h, S.fix [] [] (by decide) (by kernel_rfl) (by kernel_rfl) (by kernel_rfl)⟩)))))
  · obtain ⟨o2, rfl, S⟩ := hI
    have h := g4
    clear g4
    try dsimp only at h
    refine sSeq (fun K16 hK16 => ?_)
    refine sSeq (fun K17 hK17 => ?_)
    refine sRegion ?_
    refine sMove (.int .i64 o2) S (wN rfl) (.inl rfl) (by kernel_rfl) rfl (by decide) (fun a S => ?_)
    refine sBin (.bool (decide (o2 < 0))) S (wN rfl) rfl (by kernel_rfl) (by kernel_rfl) (bLt _ _ _ _ .i64 o2 0) rfl (by decide) (fun a S => ?_)
    refine leafL (leafT (hK17 _ _ ?_))
    rcases iteSome h with ⟨hc18, h⟩ | ⟨hc18, h⟩
    · refine sCondT (b := decide (o2 < 0)) S (by kernel_rfl) hc18 ?_
      refine sSeq (fun K19 hK19 => ?_)
      refine sRegion ?_
      refine sMove (.int .i64 o2) S (wN rfl) (.inl rfl) (by kernel_rfl) rfl (by decide) (fun a S => ?_)
      refine sNeg (b := o2) S (wN rfl) rfl (by kernel_rfl) rfl (by decide) (fun a S => ?_)
      refine sMove (.int .i64 (w64 (0 - o2))) S (wN rfl) (.inr rfl) (by kernel_rfl) rfl (by decide) (fun a S => ?_)
      refine leafL (leafT (hK19 _ _ ?_))
      obtain rfl := Option.some.inj h
      exact wp_ret (rThen (sRet (.int .i64 (w64 (0 - o2))) S (rsl1 rfl (rvT (t := 4) (v := .int .i64 (w64 (0 - o2))) S (by kernel_rfl))) ⟨(), rfl, S.mem.sel [] [] (by decide) (by kernel_rfl) (by kernel_rfl)⟩))
    · refine sCondF (b := decide (o2 < 0)) S (by kernel_rfl) hc18 ?_
      refine wp_skip (leafT (hK16 _ _ ?_))
      refine sSeq (fun K20 hK20 => ?_)
      refine sRegion ?_
      refine sMove (.int .i64 o2) S (wN rfl) (.inl rfl) (by kernel_rfl) rfl (by decide) (fun a S => ?_)
      refine sMove (.int .i64 o2) S (wN rfl) (.inr rfl) (by kernel_rfl) rfl (by decide) (fun a S => ?_)
      refine leafL (leafT (hK20 _ _ ?_))
      obtain rfl := Option.some.inj h
      exact wp_ret (sRet (.int .i64 o2) S (rsl1 rfl (rvT (t := 4) (v := .int .i64 o2) S (by kernel_rfl))) ⟨(), rfl, S.mem.sel [] [] (by decide) (by kernel_rfl) (by kernel_rfl)⟩)

end Go.Proofs.Ytjndecalogklhaa
namespace Go.Proofs.Ytjndecalogklhaa
open Go.RowKit
set_option linter.unusedVariables false

noncomputable def F_raddleref23_Check (p0 : api_Ratio) : Option Int :=
  Option.bind (α := Bool) (
    if decide (p0.Den < 1) then
      some true
    else
      if decide (1000000000 < p0.Den) then
        some true
      else
        if decide (p0.Num < (-1000000000)) then
          some true
        else
          if decide (1000000000 < p0.Num) then
            some true
          else
            Option.bind (F_raddleref23_common p0.Num p0.Den) fun r11 =>
            some (r11 != 1)) fun o4 =>
  if o4 then
    some 8
  else
    some 0
set_option maxHeartbeats 4000000 in
set_option maxRecDepth 100000 in
theorem c_raddleref23_Check (E : Nat → Prop) (w0 : World) (p0 : api_Ratio) (v0 : Value) (r : Int) (h : F_raddleref23_Check p0 = some r) (S : St0 E [] w0 w0 [] [fRep r_api_Ratio (v0) p0]) :
    Calls Try.prog 45 #[v0] w0 (Ret (X := Unit) E [] w0 (fun _ => .int .i64 r) (fun _ => []) (fun _ => [])) := by
  unfold F_raddleref23_Check at h
  obtain rfl : v0 = .agg #[.int .i64 p0.Num, .int .i64 p0.Den] := S.know (i := 0) (e := fRep r_api_Ratio (v0) p0) (by kernel_rfl)
  refine sEnter (args := [.agg #[.int .i64 p0.Num, .int .i64 p0.Den]]) 29 Try.func45 rfl rfl (by simp) S (fun a S => ?_)
  refine sSeq (fun K1 hK1 => ?_)
  refine sRegion ?_
  refine sBox (v := .agg #[.int .i64 p0.Num, .int .i64 p0.Den]) S (wN rfl) rfl (by kernel_rfl) [.int .i64 p0.Num, .int .i64 p0.Den] rfl rfl (by decide) (fun a b2 w S => ?_)
  refine sMove (.int .i64 0) S (wN rfl) (.inr rfl) (by kernel_rfl) rfl (by decide) (fun a S => ?_)
  refine leafL (leafT (hK1 _ _ ?_))
  refine sSeq (fun K3 hK3 => ?_)
  obtain ⟨t5, h, g6⟩ := bindSome h
  refine sCut (fun a w => ∃ o4, o4 = t5 ∧ St E [] w0 29 a w [(28, .bool o4)] [] []) ?_ (fun a w hI => ?_)
  · refine sRegion ?_
    refine sField (b := b2) (off := 0) 1 1 S (wN rfl) rfl (by kernel_rfl) (by kernel_rfl) rfl rfl (by decide) (fun a S => ?_)
    refine sLoad1 (p := b2) (off := 1) (T := 34) (vs := [.int .i64 p0.Num, .int .i64 p0.Den]) 0 (.int .i64 p0.Den) S (wN rfl) rfl (by kernel_rfl) (by kernel_rfl) (by kernel_rfl) rfl rfl (by decide) (fun a S => ?_)
    refine sBin (.bool (decide (p0.Den < 1))) S (wN rfl) rfl (by kernel_rfl) (by kernel_rfl) (bLt _ _ _ _ .i64 p0.Den 1) rfl (by decide) (fun a S => ?_)
    refine sMove (.bool (decide (p0.Den < 1))) S (wN rfl) (.inl rfl) (by kernel_rfl) rfl (by decide) (fun a S => ?_)
    rcases iteSome h with ⟨hc7, h⟩ | ⟨hc7, h⟩
    · refine sSkip (c := decide (p0.Den < 1)) 3 false 6 7 S rfl rfl (by kernel_rfl) hc7 rfl (by decide) (fun a S => ?_)
      refine sSkip (c := decide (p0.Den < 1)) 3 false 6 8 S rfl rfl (by kernel_rfl) hc7 rfl (by decide) (fun a S => ?_)
      refine sSkip (c := decide (p0.Den < 1)) 3 false 6 9 S rfl rfl (by kernel_rfl) hc7 rfl (by decide) (fun a S => ?_)
      refine sPickT (b := decide (p0.Den < 1)) (.bool true) S (wN rfl) rfl (by kernel_rfl) hc7 (by kernel_rfl) rfl (by decide) (fun a S => ?_)
      refine sMove (.bool true) S (wN rfl) (.inl rfl) (by kernel_rfl) rfl (by decide) (fun a S => ?_)
      refine sSkip (c := true) 8 false 11 12 S rfl rfl (by kernel_rfl) rfl rfl (by decide) (fun a S => ?_)
      refine sSkip (c := true) 8 false 11 13 S rfl rfl (by kernel_rfl) rfl rfl (by decide) (fun a S => ?_)
      refine sSkip (c := true) 8 false 11 14 S rfl rfl (by kernel_rfl) rfl rfl (by decide) (fun a S => ?_)
      refine sPickT (b := true) (.bool true) S (wN rfl) rfl (by kernel_rfl) rfl (by kernel_rfl) rfl (by decide) (fun a S => ?_)
      refine sMove (.bool true) S (wN rfl) (.inl rfl) (by kernel_rfl) rfl (by decide) (fun a S => ?_)
      refine sSkip (c := true) 13 false 16 17 S rfl rfl (by kernel_rfl) rfl rfl (by decide) (fun a S => ?_)
      refine sSkip (c := true) 13 false 16 18 S rfl rfl (by kernel_rfl) rfl rfl (by decide) (fun a S => ?_)
      refine sSkip (c := true) 13 false 16 19 S rfl rfl (by kernel_rfl) rfl rfl (by decide) (fun a S => ?_)
      refine sPickT (b := true) (.bool true) S (wN rfl) rfl (by kernel_rfl) rfl (by kernel_rfl) rfl (by decide) (fun a S => ?_)
      refine sMove (.bool true) S (wN rfl) (.inl rfl) (by kernel_rfl) rfl (by decide) (fun a S => ?_)
      refine sSkip (c := true) 18 false 21 22 S rfl rfl (by kernel_rfl) rfl rfl (by decide) (fun a S => ?_)
      refine sSkip (c := true) 18 false 21 23 S rfl rfl (by kernel_rfl) rfl rfl (by decide) (fun a S => ?_)
      refine sSkip (c := true) 18 false 21 24 S rfl rfl (by kernel_rfl) rfl rfl (by decide) (fun a S => ?_)
      refine sSkip (c := true) 18 false 21 25 S rfl rfl (by kernel_rfl) rfl rfl (by decide) (fun a S => ?_)
      refine sSkip (c := true) 18 false 21 26 S rfl rfl (by kernel_rfl) rfl rfl (by decide) (fun a S => ?_)
      refine sSkip (c := true) 18 false 21 27 S rfl rfl (by kernel_rfl) rfl rfl (by decide) (fun a S => ?_)
      refine sPickT (b := true) (.bool true) S (wN rfl) rfl (by kernel_rfl) rfl (by kernel_rfl) rfl (by decide) (fun a S => ?_)
      exact leafL (leafT (⟨true, Option.some.inj h, S.fix [] [] (by decide) (by kernel_rfl) (by kernel_rfl) (by kernel_rfl)⟩))
    · refine sField (b := b2) (off := 0) 1 1 S (wG (c := decide (p0.Den < 1)) 3 false 6 rfl rfl (by kernel_rfl) hc7) rfl (by kernel_rfl) (by kernel_rfl) rfl rfl (by decide) (fun a S => ?_)
      refine sLoad1 (p := b2) (off := 1) (T := 34) (vs := [.int .i64 p0.Num, .int .i64 p0.Den]) 0 (.int .i64 p0.Den) S (wG (c := decide (p0.Den < 1)) 3 false 6 rfl rfl (by kernel_rfl) hc7) rfl (by kernel_rfl) (by kernel_rfl) (by kernel_rfl) rfl rfl (by decide) (fun a S => ?_)
      refine sBin (.bool (decide (1000000000 < p0.Den))) S (wG (c := decide (p0.Den < 1)) 3 false 6 rfl rfl (by kernel_rfl) hc7) rfl (by kernel_rfl) (by kernel_rfl) (bGt _ _ _ _ .i64 p0.Den 1000000000) rfl (by decide) (fun a S => ?_)
      refine sPickF (b := decide (p0.Den < 1)) (.bool (decide (1000000000 < p0.Den))) S (wN rfl) rfl (by kernel_rfl) hc7 (by kernel_rfl) rfl (by decide) (fun a S => ?_)
      refine sMove (.bool (decide (1000000000 < p0.Den))) S (wN rfl) (.inl rfl) (by kernel_rfl) rfl (by decide) (fun a S => ?_)
      rcases iteSome h with ⟨hc8, h⟩ | ⟨hc8, h⟩
      · refine sSkip (c := decide (1000000000 < p0.Den)) 8 false 11 12 S rfl rfl (by kernel_rfl) hc8 rfl (by decide) (fun a S => ?_)
        refine sSkip (c := decide (1000000000 < p0.Den)) 8 false 11 13 S rfl rfl (by kernel_rfl) hc8 rfl (by decide) (fun a S => ?_)
        refine sSkip (c := decide (1000000000 < p0.Den)) 8 false 11 14 S rfl rfl (by kernel_rfl) hc8 rfl (by decide) (fun a S => ?_)
        refine sPickT (b := decide (1000000000 < p0.Den)) (.bool true) S (wN rfl) rfl (by kernel_rfl) hc8 (by kernel_rfl) rfl (by decide) (fun a S => ?_)
        refine sMove (.bool true) S (wN rfl) (.inl rfl) (by kernel_rfl) rfl (by decide) (fun a S => ?_)
        refine sSkip (c := true) 13 false 16 17 S rfl rfl (by kernel_rfl) rfl rfl (by decide) (fun a S => ?_)
        refine sSkip (c := true) 13 false 16 18 S rfl rfl (by kernel_rfl) rfl rfl (by decide) (fun a S => ?_)
        refine sSkip (c := true) 13 false 16 19 S rfl rfl (by kernel_rfl) rfl rfl (by decide) (fun a S => ?_)
        refine sPickT (b := true) (.bool true) S (wN rfl) rfl (by kernel_rfl) rfl (by kernel_rfl) rfl (by decide) (fun a S => ?_)
        refine sMove (.bool true) S (wN rfl) (.inl rfl) (by kernel_rfl) rfl (by decide) (fun a S => ?_)
        refine sSkip (c := true) 18 false 21 22 S rfl rfl (by kernel_rfl) rfl rfl (by decide) (fun a S => ?_)
        refine sSkip (c := true) 18 false 21 23 S rfl rfl (by kernel_rfl) rfl rfl (by decide) (fun a S => ?_)
        refine sSkip (c := true) 18 false 21 24 S rfl rfl (by kernel_rfl) rfl rfl (by decide) (fun a S => ?_)
        refine sSkip (c := true) 18 false 21 25 S rfl rfl (by kernel_rfl) rfl rfl (by decide) (fun a S => ?_)
        refine sSkip (c := true) 18 false 21 26 S rfl rfl (by kernel_rfl) rfl rfl (by decide) (fun a S => ?_)
        refine sSkip (c := true) 18 false 21 27 S rfl rfl (by kernel_rfl) rfl rfl (by decide) (fun a S => ?_)
        refine sPickT (b := true) (.bool true) S (wN rfl) rfl (by kernel_rfl) rfl (by kernel_rfl) rfl (by decide) (fun a S => ?_)
        exact leafL (leafT (⟨true, Option.some.inj h, S.fix [] [] (by decide) (by kernel_rfl) (by kernel_rfl) (by kernel_rfl)⟩))
      · refine sField (b := b2) (off := 0) 0 0 S (wG (c := decide (1000000000 < p0.Den)) 8 false 11 rfl rfl (by kernel_rfl) hc8) rfl (by kernel_rfl) (by kernel_rfl) rfl rfl (by decide) (fun a S => ?_)
        refine sLoad1 (p := b2) (off := 0) (T := 34) (vs := [.int .i64 p0.Num, .int .i64 p0.Den]) 0 (.int .i64 p0.Num) S (wG (c := decide (1000000000 < p0.Den)) 8 false 11 rfl rfl (by kernel_rfl) hc8) rfl (by kernel_rfl) (by kernel_rfl) (by kernel_rfl) rfl rfl (by decide) (fun a S => ?_)
        refine sBin (.bool (decide (p0.Num < (-1000000000)))) S (wG (c := decide (1000000000 < p0.Den)) 8 false 11 rfl rfl (by kernel_rfl) hc8) rfl (by kernel_rfl) (by kernel_rfl) (bLt _ _ _ _ .i64 p0.Num (-1000000000)) rfl (by decide) (fun a S => ?_)
        refine sPickF (b := decide (1000000000 < p0.Den)) (.bool (decide (p0.Num < (-1000000000)))) S (wN rfl) rfl (by kernel_rfl) hc8 (by kernel_rfl) rfl (by decide) (fun a S => ?_)
        refine sMove (.bool (decide (p0.Num < (-1000000000)))) S (wN rfl) (.inl rfl) (by kernel_rfl) rfl (by decide) (fun a S => ?_)
        rcases iteSome h with ⟨hc9, h⟩ | ⟨hc9, h⟩
        · refine sSkip (c := decide (p0.Num < (-1000000000))) 13 false 16 17 S rfl rfl (by kernel_rfl) hc9 rfl (by decide) (fun a S => ?_)
          refine sSkip (c := decide (p0.Num < (-1000000000))) 13 false 16 18 S rfl rfl (by kernel_rfl) hc9 rfl (by decide) (fun a S => ?_)
          refine sSkip (c := decide (p0.Num < (-1000000000))) 13 false 16 19 S rfl rfl (by kernel_rfl) hc9 rfl (by decide) (fun a S => ?_)
          refine sPickT (b := decide (p0.Num < (-1000000000))) (.bool true) S (wN rfl) rfl (by kernel_rfl) hc9 (by kernel_rfl) rfl (by decide) (fun a S => ?_)
          refine sMove (.bool true) S (wN rfl) (.inl rfl) (by kernel_rfl) rfl (by decide) (fun a S => ?_)
          refine sSkip (c := true) 18 false 21 22 S rfl rfl (by kernel_rfl) rfl rfl (by decide) (fun a S => ?_)
          refine sSkip (c := true) 18 false 21 23 S rfl rfl (by kernel_rfl) rfl rfl (by decide) (fun a S => ?_)
          refine sSkip (c := true) 18 false 21 24 S rfl rfl (by kernel_rfl) rfl rfl (by decide) (fun a S => ?_)
          refine sSkip (c := true) 18 false 21 25 S rfl rfl (by kernel_rfl) rfl rfl (by decide) (fun a S => ?_)
          refine sSkip (c := true) 18 false 21 26 S rfl rfl (by kernel_rfl) rfl rfl (by decide) (fun a S => ?_)
          refine sSkip (c := true) 18 false 21 27 S rfl rfl (by kernel_rfl) rfl rfl (by decide) (fun a S => ?_)
          refine sPickT (b := true) (.bool true) S (wN rfl) rfl (by kernel_rfl) rfl (by kernel_rfl) rfl (by decide) (fun a S => ?_)
          exact leafL (leafT (⟨true, Option.some.inj h, S.fix [] [] (by decide) (by kernel_rfl) (by kernel_rfl) (by kernel_rfl)⟩))
        · refine sField (b := b2) (off := 0) 0 0 S (wG (c := decide (p0.Num < (-1000000000))) 13 false 16 rfl rfl (by kernel_rfl) hc9) rfl (by kernel_rfl) (by kernel_rfl) rfl rfl (by decide) (fun a S => ?_)
          refine sLoad1 (p := b2) (off := 0) (T := 34) (vs := [.int .i64 p0.Num, .int .i64 p0.Den]) 0 (.int .i64 p0.Num) S (wG (c := decide (p0.Num < (-1000000000))) 13 false 16 rfl rfl (by kernel_rfl) hc9) rfl (by kernel_rfl) (by kernel_rfl) (by kernel_rfl) rfl rfl (by decide) (fun a S => ?_)
          refine sBin (.bool (decide (1000000000 < p0.Num))) S (wG (c := decide (p0.Num < (-1000000000))) 13 false 16 rfl rfl (by kernel_rfl) hc9) rfl (by kernel_rfl) (by kernel_rfl) (bGt _ _ _ _ .i64 p0.Num 1000000000) rfl (by decide) (fun a S => ?_)
          refine sPickF (b := decide (p0.Num < (-1000000000))) (.bool (decide (1000000000 < p0.Num))) S (wN rfl) rfl (by kernel_rfl) hc9 (by kernel_rfl) rfl (by decide) (fun a S => ?_)
          refine sMove (.bool (decide (1000000000 < p0.Num))) S (wN rfl) (.inl rfl) (by kernel_rfl) rfl (by decide) (fun a S => ?_)
          rcases iteSome h with ⟨hc10, h⟩ | ⟨hc10, h⟩
          · refine sSkip (c := decide (1000000000 < p0.Num)) 18 false 21 22 S rfl rfl (by kernel_rfl) hc10 rfl (by decide) (fun a S => ?_)
            refine sSkip (c := decide (1000000000 < p0.Num)) 18 false 21 23 S rfl rfl (by kernel_rfl) hc10 rfl (by decide) (fun a S => ?_)
            refine sSkip (c := decide (1000000000 < p0.Num)) 18 false 21 24 S rfl rfl (by kernel_rfl) hc10 rfl (by decide) (fun a S => ?_)
            refine sSkip (c := decide (1000000000 < p0.Num)) 18 false 21 25 S rfl rfl (by kernel_rfl) hc10 rfl (by decide) (fun a S => ?_)
            refine sSkip (c := decide (1000000000 < p0.Num)) 18 false 21 26 S rfl rfl (by kernel_rfl) hc10 rfl (by decide) (fun a S => ?_)
            refine sSkip (c := decide (1000000000 < p0.Num)) 18 false 21 27 S rfl rfl (by kernel_rfl) hc10 rfl (by decide) (fun a S => ?_)
            refine sPickT (b := decide (1000000000 < p0.Num)) (.bool true) S (wN rfl) rfl (by kernel_rfl) hc10 (by kernel_rfl) rfl (by decide) (fun a S => ?_)
            exact leafL (leafT (⟨true, Option.some.inj h, S.fix [] [] (by decide) (by kernel_rfl) (by kernel_rfl) (by kernel_rfl)⟩))
          · refine sField (b := b2) (off := 0) 0 0 S (wG (c := decide (1000000000 < p0.Num)) 18 false 21 rfl rfl (by kernel_rfl) hc10) rfl (by kernel_rfl) (by kernel_rfl) rfl rfl (by decide) (fun a S => ?_)
            refine sLoad1 (p := b2) (off := 0) (T := 34) (vs := [.int .i64 p0.Num, .int .i64 p0.Den]) 0 (.int .i64 p0.Num) S (wG (c := decide (1000000000 < p0.Num)) 18 false 21 rfl rfl (by kernel_rfl) hc10) rfl (by kernel_rfl) (by kernel_rfl) (by kernel_rfl) rfl rfl (by decide) (fun a S => ?_)
            refine sField (b := b2) (off := 0) 1 1 S (wG (c := decide (1000000000 < p0.Num)) 18 false 21 rfl rfl (by kernel_rfl) hc10) rfl (by kernel_rfl) (by kernel_rfl) rfl rfl (by decide) (fun a S => ?_)
            refine sLoad1 (p := b2) (off := 1) (T := 34) (vs := [.int .i64 p0.Num, .int .i64 p0.Den]) 0 (.int .i64 p0.Den) S (wG (c := decide (1000000000 < p0.Num)) 18 false 21 rfl rfl (by kernel_rfl) hc10) rfl (by kernel_rfl) (by kernel_rfl) (by kernel_rfl) rfl rfl (by decide) (fun a S => ?_)
            obtain ⟨r11, hx12, h⟩ := bindSome h
            have S1 := S.mem
            refine sCallQ (X := Unit) (f := 60) (vs := [.int .i64 p0.Num, .int .i64 p0.Den]) (val := fun _ => .int .i64 r11) S (wG (c := decide (1000000000 < p0.Num)) 18 false 21 rfl rfl (by kernel_rfl) hc10) rfl callee60 (by kernel_rfl) (S1.quiet [] (by kernel_rfl)) (fun E1 w1 S1 => c_raddleref23_common E1 w1 p0.Num p0.Den r11 hx12 S1) rfl (by decide) (fun _ a w S => ?_)
            refine sBin (.bool (r11 != 1)) S (wG (c := decide (1000000000 < p0.Num)) 18 false 21 rfl rfl (by kernel_rfl) hc10) rfl (by kernel_rfl) (by kernel_rfl) (bNe _ _ _ _ .i64 r11 1) rfl (by decide) (fun a S => ?_)
            refine sPickF (b := decide (1000000000 < p0.Num)) (.bool (r11 != 1)) S (wN rfl) rfl (by kernel_rfl) hc10 (by kernel_rfl) rfl (by decide) (fun a S => ?_)
            exact leafL (leafT (⟨r11 != 1, Option.some.inj h, S.fix [] [] (by decide) (by kernel_rfl) (by kernel_rfl) (by kernel_rfl)⟩))
  · obtain ⟨o4, rfl, S⟩ := hI
    have h := g6
    clear g6
    try dsimp only at h
    rcases iteSome h with ⟨hc13, h⟩ | ⟨hc13, h⟩
    · refine sCondT (b := o4) S (by kernel_rfl) hc13 ?_
      refine sSeq (fun K14 hK14 => ?_)
      refine sRegion ?_
      refine sMove (.int .i64 8) S (wN rfl) (.inr rfl) (by kernel_rfl) rfl (by decide) (fun a S => ?_)
      refine leafL (leafT (hK14 _ _ ?_))
      obtain rfl := Option.some.inj h
      exact wp_ret (rThen (sRet (.int .i64 8) S (rsl1 rfl (rvT (t := 2) (v := .int .i64 8) S (by kernel_rfl))) ⟨(), rfl, S.mem.sel [] [] (by decide) (by kernel_rfl) (by kernel_rfl)⟩))
    · refine sCondF (b := o4) S (by kernel_rfl) hc13 ?_
      refine wp_skip (leafT (hK3 _ _ ?_))
      refine sSeq (fun K15 hK15 => ?_)
      refine sRegion ?_
      refine sMove (.int .i64 0) S (wN rfl) (.inr rfl) (by kernel_rfl) rfl (by decide) (fun a S => ?_)
      refine leafL (leafT (hK15 _ _ ?_))
      obtain rfl := Option.some.inj h
      exact wp_ret (sRet (.int .i64 0) S (rsl1 rfl (rvT (t := 2) (v := .int .i64 0) S (by kernel_rfl))) ⟨(), rfl, S.mem.sel [] [] (by decide) (by kernel_rfl) (by kernel_rfl)⟩)

end Go.Proofs.Ytjndecalogklhaa
namespace Go.Proofs.Ytjndecalogklhaa
open Go.RowKit
set_option linter.unusedVariables false

def anc_raddleref23_Make_s1_0 : List (List Nat) := [[], [], [0, 1], [], [], [3, 4], [0, 1, 2, 3, 4, 5], [], [0, 1, 2, 3, 4, 5, 6, 7]]
noncomputable def F_raddleref23_Make_s1 (p0 : Int) (p1 : Int) : Option (api_Ratio × Int) :=
  if p1 == 0 then
    some ((api_Ratio.mk 0 0), 18)
  else
    Option.bind (α := Bool) (
      if p0 == (-9223372036854775808) then
        some (p1 == (-9223372036854775808))
      else
        some false) fun o8 =>
    if o8 then
      some ((api_Ratio.mk 1 1), 0)
    else
      Option.bind (α := Bool) (
        if p0 == (-9223372036854775808) then
          some true
        else
          some (p1 == (-9223372036854775808))) fun o15 =>
      if o15 then
        Option.bind (α := Bool) (
          Option.bind (remI p0 2) fun z24 =>
          if z24 == 0 then
            Option.bind (remI p1 2) fun z27 =>
            some (z27 == 0)
          else
            some false) fun o21 =>
        if o21 then
          Option.bind (quoI p0 2) fun z31 =>
          Option.bind (quoI p1 2) fun z33 =>
          none
        else
          some ((api_Ratio.mk 0 0), 16)
      else
        Option.bind (α := (Int × Int)) (
          if decide (p1 < 0) then
            some (w64 (0 - p0), w64 (0 - p1))
          else
            some (p0, p1)) fun (o36, o37) =>
        Option.bind (F_raddleref23_common o36 o37) fun r43 =>
        Option.bind (quoI o36 r43) fun z46 =>
        Option.bind (quoI o37 r43) fun z48 =>
        Option.bind (F_raddleref23_Check (api_Ratio.mk z46 z48)) fun r54 =>
        if r54 != 0 then
          some ((api_Ratio.mk 0 0), 16)
        else
          some ((api_Ratio.mk z46 z48), 0)
def c_raddleref23_Make_s1_val (r : (api_Ratio × Int)) (x : Value) : Value := .tuple #[x, .int .i64 r.2]
def c_raddleref23_Make_s1_D (r : (api_Ratio × Int)) (x : Value) : List Fact := [fRep r_api_Ratio x r.1]
set_option maxHeartbeats 4000000 in
set_option maxRecDepth 100000 in
theorem c_raddleref23_Make_s1 (E : Nat → Prop) (w0 : World) (p0 : Int) (p1 : Int) (r : (api_Ratio × Int)) (h : F_raddleref23_Make_s1 p0 p1 = some r) (S : St0 E [] w0 w0 [] []) :
    Calls Try.prog 41 #[.int .i64 p0, .int .i64 p1] w0 (Ret (X := Value) E [] w0 (c_raddleref23_Make_s1_val r) (fun _ => []) (c_raddleref23_Make_s1_D r)) := by
  unfold F_raddleref23_Make_s1 at h
  refine sEnter (args := [.int .i64 p0, .int .i64 p1]) 61 Try.func41 rfl rfl (by simp) S (fun a S => ?_)
  refine sSeq (fun K1 hK1 => ?_)
  refine sRegion ?_
  refine sAlloc (.agg #[.int .i64 0, .int .i64 0]) S (wN rfl) rfl (by kernel_rfl) [.int .i64 0, .int .i64 0] rfl rfl (by decide) (fun a b2 w S => ?_)
  refine sMove (.int .i64 0) S (wN rfl) (.inr rfl) (by kernel_rfl) rfl (by decide) (fun a S => ?_)
  refine leafL (leafT (hK1 _ _ ?_))
  refine sSeq (fun K3 hK3 => ?_)
  refine sSeq (fun K4 hK4 => ?_)
  refine sRegion ?_
  refine sMove (.int .i64 p1) S (wN rfl) (.inl rfl) (by kernel_rfl) rfl (by decide) (fun a S => ?_)
  refine sBin (.bool (p1 == 0)) S (wN rfl) rfl (by kernel_rfl) (by kernel_rfl) (bEq _ _ _ _ .i64 p1 0) rfl (by decide) (fun a S => ?_)
  refine leafL (leafT (hK4 _ _ ?_))
  rcases iteSome h with ⟨hc5, h⟩ | ⟨hc5, h⟩
  · refine sCondT (b := p1 == 0) S (by kernel_rfl) hc5 ?_
    refine sSeq (fun K6 hK6 => ?_)
    refine sRegion ?_
    refine sBuild [] [.int .i64 0, .int .i64 0] S (wN rfl) rfl (by kernel_rfl) (by kernel_rfl) rfl (by decide) (fun a S => ?_)
    refine sStore (p := b2) (off := 0) (T := 34) (vs := [.int .i64 0, .int .i64 0]) (v := .agg #[.int .i64 0, .int .i64 0]) 0 [.int .i64 0, .int .i64 0] S (wN rfl) rfl (by kernel_rfl) (by kernel_rfl) rfl (by kernel_rfl) (by kernel_rfl) rfl (by simp) rfl (fun a w S => ?_)
    refine sMove (.int .i64 18) S (wN rfl) (.inr rfl) (by kernel_rfl) rfl (by decide) (fun a S => ?_)
    refine leafL (leafT (hK6 _ _ ?_))
    obtain rfl := Option.some.inj h
    have S := S.learn (fRep r_api_Ratio (.agg #[.int .i64 0, .int .i64 0]) (api_Ratio.mk 0 0)) rfl
    exact wp_ret (rThen (sRet (.tuple #[.agg #[.int .i64 0, .int .i64 0], .int .i64 18]) S (rsl2 rfl (rvN (c := 4) (t := 34) (T := 34) (p := b2) 0 [.int .i64 0, .int .i64 0] S (by kernel_rfl) (by kernel_rfl) (by kernel_rfl) (by kernel_rfl)) (rvT (t := 5) (v := .int .i64 18) S (by kernel_rfl))) ⟨(.agg #[.int .i64 0, .int .i64 0]), rfl, S.mem.sel [] [0] (by decide) (by kernel_rfl) (by kernel_rfl)⟩))
  · refine sCondF (b := p1 == 0) S (by kernel_rfl) hc5 ?_
    refine wp_skip (leafT (hK3 _ _ ?_))
    refine sSeq (fun K7 hK7 => ?_)
    obtain ⟨t9, h, g10⟩ := bindSome h
    refine sCut (fun a w => ∃ o8, o8 = t9 ∧ St E [] w0 61 a w [(0, .int .i64 p0), (1, .int .i64 p1), (4, .pointer (some ⟨b2, 0, none⟩)), (16, .bool o8)] [eBox b2 34 [.int .i64 0, .int .i64 0]] []) ?_ (fun a w hI => ?_)
    · refine sRegion ?_
      refine sMove (.int .i64 p0) S (wN rfl) (.inl rfl) (by kernel_rfl) rfl (by decide) (fun a S => ?_)
      refine sBin (.bool (p0 == (-9223372036854775808))) S (wN rfl) rfl (by kernel_rfl) (by kernel_rfl) (bEq _ _ _ _ .i64 p0 (-9223372036854775808)) rfl (by decide) (fun a S => ?_)
      refine sMove (.bool (p0 == (-9223372036854775808))) S (wN rfl) (.inl rfl) (by kernel_rfl) rfl (by decide) (fun a S => ?_)
      rcases iteSome h with ⟨hc11, h⟩ | ⟨hc11, h⟩
      · refine sMove (.int .i64 p1) S (wG (c := p0 == (-9223372036854775808)) 2 true 13 rfl rfl (by kernel_rfl) hc11) (.inl rfl) (by kernel_rfl) rfl (by decide) (fun a S => ?_)
        refine sBin (.bool (p1 == (-9223372036854775808))) S (wG (c := p0 == (-9223372036854775808)) 2 true 13 rfl rfl (by kernel_rfl) hc11) rfl (by kernel_rfl) (by kernel_rfl) (bEq _ _ _ _ .i64 p1 (-9223372036854775808)) rfl (by decide) (fun a S => ?_)
        refine sPickT (b := p0 == (-9223372036854775808)) (.bool (p1 == (-9223372036854775808))) S (wN rfl) rfl (by kernel_rfl) hc11 (by kernel_rfl) rfl (by decide) (fun a S => ?_)
        exact leafL (leafT (⟨p1 == (-9223372036854775808), Option.some.inj h, S.fix [0] [] (by decide) (by kernel_rfl) (by kernel_rfl) (by kernel_rfl)⟩))
      · refine sSkip (c := p0 == (-9223372036854775808)) 2 true 13 14 S rfl rfl (by kernel_rfl) hc11 rfl (by decide) (fun a S => ?_)
        refine sSkip (c := p0 == (-9223372036854775808)) 2 true 13 15 S rfl rfl (by kernel_rfl) hc11 rfl (by decide) (fun a S => ?_)
        refine sPickF (b := p0 == (-9223372036854775808)) (.bool false) S (wN rfl) rfl (by kernel_rfl) hc11 (by kernel_rfl) rfl (by decide) (fun a S => ?_)
        exact leafL (leafT (⟨false, Option.some.inj h, S.fix [0] [] (by decide) (by kernel_rfl) (by kernel_rfl) (by kernel_rfl)⟩))
    · obtain ⟨o8, rfl, S⟩ := hI
      have h := g10
      clear g10
      try dsimp only at h
      rcases iteSome h with ⟨hc12, h⟩ | ⟨hc12, h⟩
      · refine sCondT (b := o8) S (by kernel_rfl) hc12 ?_
        refine sSeq (fun K13 hK13 => ?_)
        refine sRegion ?_
        refine sBuild [(0, .int .i64 1), (1, .int .i64 1)] [.int .i64 1, .int .i64 1] S (wN rfl) rfl (by kernel_rfl) (by kernel_rfl) rfl (by decide) (fun a S => ?_)
        refine sStore (p := b2) (off := 0) (T := 34) (vs := [.int .i64 0, .int .i64 0]) (v := .agg #[.int .i64 1, .int .i64 1]) 0 [.int .i64 1, .int .i64 1] S (wN rfl) rfl (by kernel_rfl) (by kernel_rfl) rfl (by kernel_rfl) (by kernel_rfl) rfl (by simp) rfl (fun a w S => ?_)
        refine sMove (.int .i64 0) S (wN rfl) (.inr rfl) (by kernel_rfl) rfl (by decide) (fun a S => ?_)
        refine leafL (leafT (hK13 _ _ ?_))
        obtain rfl := Option.some.inj h
        have S := S.learn (fRep r_api_Ratio (.agg #[.int .i64 1, .int .i64 1]) (api_Ratio.mk 1 1)) rfl
        exact wp_ret (rThen (sRet (.tuple #[.agg #[.int .i64 1, .int .i64 1], .int .i64 0]) S (rsl2 rfl (rvN (c := 4) (t := 34) (T := 34) (p := b2) 0 [.int .i64 1, .int .i64 1] S (by kernel_rfl) (by kernel_rfl) (by kernel_rfl) (by kernel_rfl)) (rvT (t := 5) (v := .int .i64 0) S (by kernel_rfl))) ⟨(.agg #[.int .i64 1, .int .i64 1]), rfl, S.mem.sel [] [0] (by decide) (by kernel_rfl) (by kernel_rfl)⟩))
      · refine sCondF (b := o8) S (by kernel_rfl) hc12 ?_
        refine wp_skip (leafT (hK7 _ _ ?_))
        refine sSeq (fun K14 hK14 => ?_)
        obtain ⟨t16, h, g17⟩ := bindSome h
        refine sCut (fun a w => ∃ o15, o15 = t16 ∧ St E [] w0 61 a w [(0, .int .i64 p0), (1, .int .i64 p1), (4, .pointer (some ⟨b2, 0, none⟩)), (23, .bool o15)] [eBox b2 34 [.int .i64 0, .int .i64 0]] []) ?_ (fun a w hI => ?_)
        · refine sRegion ?_
          refine sMove (.int .i64 p0) S (wN rfl) (.inl rfl) (by kernel_rfl) rfl (by decide) (fun a S => ?_)
          refine sBin (.bool (p0 == (-9223372036854775808))) S (wN rfl) rfl (by kernel_rfl) (by kernel_rfl) (bEq _ _ _ _ .i64 p0 (-9223372036854775808)) rfl (by decide) (fun a S => ?_)
          refine sMove (.bool (p0 == (-9223372036854775808))) S (wN rfl) (.inl rfl) (by kernel_rfl) rfl (by decide) (fun a S => ?_)
          rcases iteSome h with ⟨hc18, h⟩ | ⟨hc18, h⟩
          · refine sSkip (c := p0 == (-9223372036854775808)) 2 false 20 21 S rfl rfl (by kernel_rfl) hc18 rfl (by decide) (fun a S => ?_)
            refine sSkip (c := p0 == (-9223372036854775808)) 2 false 20 22 S rfl rfl (by kernel_rfl) hc18 rfl (by decide) (fun a S => ?_)
            refine sPickT (b := p0 == (-9223372036854775808)) (.bool true) S (wN rfl) rfl (by kernel_rfl) hc18 (by kernel_rfl) rfl (by decide) (fun a S => ?_)
            exact leafL (leafT (⟨true, Option.some.inj h, S.fix [0] [] (by decide) (by kernel_rfl) (by kernel_rfl) (by kernel_rfl)⟩))
          · refine sMove (.int .i64 p1) S (wG (c := p0 == (-9223372036854775808)) 2 false 20 rfl rfl (by kernel_rfl) hc18) (.inl rfl) (by kernel_rfl) rfl (by decide) (fun a S => ?_)
            refine sBin (.bool (p1 == (-9223372036854775808))) S (wG (c := p0 == (-9223372036854775808)) 2 false 20 rfl rfl (by kernel_rfl) hc18) rfl (by kernel_rfl) (by kernel_rfl) (bEq _ _ _ _ .i64 p1 (-9223372036854775808)) rfl (by decide) (fun a S => ?_)
            refine sPickF (b := p0 == (-9223372036854775808)) (.bool (p1 == (-9223372036854775808))) S (wN rfl) rfl (by kernel_rfl) hc18 (by kernel_rfl) rfl (by decide) (fun a S => ?_)
            exact leafL (leafT (⟨p1 == (-9223372036854775808), Option.some.inj h, S.fix [0] [] (by decide) (by kernel_rfl) (by kernel_rfl) (by kernel_rfl)⟩))
        · obtain ⟨o15, rfl, S⟩ := hI
          have h := g17
          clear g17
          try dsimp only at h
          rcases iteSome h with ⟨hc19, h⟩ | ⟨hc19, h⟩
          · refine sCondT (b := o15) S (by kernel_rfl) hc19 ?_
            refine sSeq (fun K20 hK20 => ?_)
            obtain ⟨t22, h, g23⟩ := bindSome h
            refine sCut (fun a w => ∃ o21, o21 = t22 ∧ St E [] w0 61 a w [(0, .int .i64 p0), (1, .int .i64 p1), (4, .pointer (some ⟨b2, 0, none⟩)), (31, .bool o21)] [eBox b2 34 [.int .i64 0, .int .i64 0]] []) ?_ (fun a w hI => ?_)
            · refine sRegion ?_
              refine sMove (.int .i64 p0) S (wN rfl) (.inl rfl) (by kernel_rfl) rfl (by decide) (fun a S => ?_)
              obtain ⟨z24, hx25, h⟩ := bindSome h
              refine sBin (.int .i64 z24) S (wN rfl) rfl (by kernel_rfl) (by kernel_rfl) (bRem _ _ _ _ (x := p0) (y := 2) hx25) rfl (by decide) (fun a S => ?_)
              refine sBin (.bool (z24 == 0)) S (wN rfl) rfl (by kernel_rfl) (by kernel_rfl) (bEq _ _ _ _ .i64 z24 0) rfl (by decide) (fun a S => ?_)
              refine sMove (.bool (z24 == 0)) S (wN rfl) (.inl rfl) (by kernel_rfl) rfl (by decide) (fun a S => ?_)
              rcases iteSome h with ⟨hc26, h⟩ | ⟨hc26, h⟩
              · refine sMove (.int .i64 p1) S (wG (c := z24 == 0) 3 true 27 rfl rfl (by kernel_rfl) hc26) (.inl rfl) (by kernel_rfl) rfl (by decide) (fun a S => ?_)
                obtain ⟨z27, hx28, h⟩ := bindSome h
                refine sBin (.int .i64 z27) S (wG (c := z24 == 0) 3 true 27 rfl rfl (by kernel_rfl) hc26) rfl (by kernel_rfl) (by kernel_rfl) (bRem _ _ _ _ (x := p1) (y := 2) hx28) rfl (by decide) (fun a S => ?_)
                refine sBin (.bool (z27 == 0)) S (wG (c := z24 == 0) 3 true 27 rfl rfl (by kernel_rfl) hc26) rfl (by kernel_rfl) (by kernel_rfl) (bEq _ _ _ _ .i64 z27 0) rfl (by decide) (fun a S => ?_)
                refine sPickT (b := z24 == 0) (.bool (z27 == 0)) S (wN rfl) rfl (by kernel_rfl) hc26 (by kernel_rfl) rfl (by decide) (fun a S => ?_)
                exact leafL (leafT (⟨z27 == 0, Option.some.inj h, S.fix [0] [] (by decide) (by kernel_rfl) (by kernel_rfl) (by kernel_rfl)⟩))
              · refine sSkip (c := z24 == 0) 3 true 27 28 S rfl rfl (by kernel_rfl) hc26 rfl (by decide) (fun a S => ?_)
                refine sSkip (c := z24 == 0) 3 true 27 29 S rfl rfl (by kernel_rfl) hc26 rfl (by decide) (fun a S => ?_)
                refine sSkip (c := z24 == 0) 3 true 27 30 S rfl rfl (by kernel_rfl) hc26 rfl (by decide) (fun a S => ?_)
                refine sPickF (b := z24 == 0) (.bool false) S (wN rfl) rfl (by kernel_rfl) hc26 (by kernel_rfl) rfl (by decide) (fun a S => ?_)
                exact leafL (leafT (⟨false, Option.some.inj h, S.fix [0] [] (by decide) (by kernel_rfl) (by kernel_rfl) (by kernel_rfl)⟩))
            · obtain ⟨o21, rfl, S⟩ := hI
              have h := g23
              clear g23
              try dsimp only at h
              rcases iteSome h with ⟨hc29, h⟩ | ⟨hc29, h⟩
              · refine sCondT (b := o21) S (by kernel_rfl) hc29 ?_
                refine sSeq (fun K30 hK30 => ?_)
                refine sRegion ?_
                refine sMove (.int .i64 p0) S (wN rfl) (.inl rfl) (by kernel_rfl) rfl (by decide) (fun a S => ?_)
                obtain ⟨z31, hx32, h⟩ := bindSome h
                refine sBin (.int .i64 z31) S (wN rfl) rfl (by kernel_rfl) (by kernel_rfl) (bQuo _ _ _ _ (x := p0) (y := 2) hx32) rfl (by decide) (fun a S => ?_)
                refine sMove (.int .i64 p1) S (wN rfl) (.inl rfl) (by kernel_rfl) rfl (by decide) (fun a S => ?_)
                obtain ⟨z33, hx34, h⟩ := bindSome h
                refine sBin (.int .i64 z33) S (wN rfl) rfl (by kernel_rfl) (by kernel_rfl) (bQuo _ _ _ _ (x := p1) (y := 2) hx34) rfl (by decide) (fun a S => ?_)
                cases h
              · refine sCondF (b := o21) S (by kernel_rfl) hc29 ?_
                refine wp_skip (leafT (hK20 _ _ ?_))
                refine sSeq (fun K35 hK35 => ?_)
                refine sRegion ?_
                refine sBuild [] [.int .i64 0, .int .i64 0] S (wN rfl) rfl (by kernel_rfl) (by kernel_rfl) rfl (by decide) (fun a S => ?_)
                refine sStore (p := b2) (off := 0) (T := 34) (vs := [.int .i64 0, .int .i64 0]) (v := .agg #[.int .i64 0, .int .i64 0]) 0 [.int .i64 0, .int .i64 0] S (wN rfl) rfl (by kernel_rfl) (by kernel_rfl) rfl (by kernel_rfl) (by kernel_rfl) rfl (by simp) rfl (fun a w S => ?_)
                refine sMove (.int .i64 16) S (wN rfl) (.inr rfl) (by kernel_rfl) rfl (by decide) (fun a S => ?_)
                refine leafL (leafT (hK35 _ _ ?_))
                obtain rfl := Option.some.inj h
                have S := S.learn (fRep r_api_Ratio (.agg #[.int .i64 0, .int .i64 0]) (api_Ratio.mk 0 0)) rfl
                exact wp_ret (rThen (sRet (.tuple #[.agg #[.int .i64 0, .int .i64 0], .int .i64 16]) S (rsl2 rfl (rvN (c := 4) (t := 34) (T := 34) (p := b2) 0 [.int .i64 0, .int .i64 0] S (by kernel_rfl) (by kernel_rfl) (by kernel_rfl) (by kernel_rfl)) (rvT (t := 5) (v := .int .i64 16) S (by kernel_rfl))) ⟨(.agg #[.int .i64 0, .int .i64 0]), rfl, S.mem.sel [] [0] (by decide) (by kernel_rfl) (by kernel_rfl)⟩))
          · refine sCondF (b := o15) S (by kernel_rfl) hc19 ?_
            refine wp_skip (leafT (hK14 _ _ ?_))
            obtain ⟨t38, h, g39⟩ := bindSome h
            refine sCut (fun a w => ∃ o36, ∃ o37, (o36, o37) = t38 ∧ St E [] w0 61 a w [(0, .int .i64 o36), (1, .int .i64 o37), (4, .pointer (some ⟨b2, 0, none⟩))] [eBox b2 34 [.int .i64 0, .int .i64 0]] []) ?_ (fun a w hI => ?_)
            · refine sSeq (fun K40 hK40 => ?_)
              refine sRegion ?_
              refine sMove (.int .i64 p1) S (wN rfl) (.inl rfl) (by kernel_rfl) rfl (by decide) (fun a S => ?_)
              refine sBin (.bool (decide (p1 < 0))) S (wN rfl) rfl (by kernel_rfl) (by kernel_rfl) (bLt _ _ _ _ .i64 p1 0) rfl (by decide) (fun a S => ?_)
              refine leafL (leafT (hK40 _ _ ?_))
              rcases iteSome h with ⟨hc41, h⟩ | ⟨hc41, h⟩
              · refine sCondT (b := decide (p1 < 0)) S (by kernel_rfl) hc41 ?_
                refine sRegion ?_
                refine sMove (.int .i64 p0) S (wN rfl) (.inl rfl) (by kernel_rfl) rfl (by decide) (fun a S => ?_)
                refine sNeg (b := p0) S (wN rfl) rfl (by kernel_rfl) rfl (by decide) (fun a S => ?_)
                refine sMove (.int .i64 p1) S (wN rfl) (.inl rfl) (by kernel_rfl) rfl (by decide) (fun a S => ?_)
                refine sNeg (b := p1) S (wN rfl) rfl (by kernel_rfl) rfl (by decide) (fun a S => ?_)
                refine sMove (.int .i64 (w64 (0 - p0))) S (wN rfl) (.inr rfl) (by kernel_rfl) rfl (by decide) (fun a S => ?_)
                refine sMove (.int .i64 (w64 (0 - p1))) S (wN rfl) (.inr rfl) (by kernel_rfl) rfl (by decide) (fun a S => ?_)
                exact leafL (leafT (⟨w64 (0 - p0), w64 (0 - p1), Option.some.inj h, S.fix [0] [] (by decide) (by kernel_rfl) (by kernel_rfl) (by kernel_rfl)⟩))
              · refine sCondF (b := decide (p1 < 0)) S (by kernel_rfl) hc41 ?_
                exact wp_skip (leafT (⟨p0, p1, Option.some.inj h, S.fix [0] [] (by decide) (by kernel_rfl) (by kernel_rfl) (by kernel_rfl)⟩))
            · obtain ⟨o36, o37, rfl, S⟩ := hI
              have h := g39
              clear g39
              try dsimp only at h
              refine sSeq (fun K42 hK42 => ?_)
              refine sRegion ?_
              refine sMove (.int .i64 o36) S (wN rfl) (.inl rfl) (by kernel_rfl) rfl (by decide) (fun a S => ?_)
              refine sMove (.int .i64 o37) S (wN rfl) (.inl rfl) (by kernel_rfl) rfl (by decide) (fun a S => ?_)
              obtain ⟨r43, hx44, h⟩ := bindSome h
              have S1 := S.mem
              refine sCallQ (X := Unit) (f := 60) (vs := [.int .i64 o36, .int .i64 o37]) (val := fun _ => .int .i64 r43) S (wN rfl) rfl callee60 (by kernel_rfl) (S1.quiet [] (by kernel_rfl)) (fun E1 w1 S1 => c_raddleref23_common E1 w1 o36 o37 r43 hx44 S1) rfl (by decide) (fun _ a w S => ?_)
              refine sMove (.int .i64 r43) S (wN rfl) (.inr rfl) (by kernel_rfl) rfl (by decide) (fun a S => ?_)
              refine leafL (leafT (hK42 _ _ ?_))
              refine sSeq (fun K45 hK45 => ?_)
              obtain ⟨z46, hx47, h⟩ := bindSome h
              obtain ⟨z48, hx49, h⟩ := bindSome h
              refine sDraw (nf := [7, 8]) (W := [(0, 49, .int .i64 o36), (1, 50, .int .i64 r43), (2, 51, .int .i64 z46), (3, 52, .int .i64 o37), (4, 53, .int .i64 r43), (5, 54, .int .i64 z48), (6, 55, .agg #[.int .i64 z46, .int .i64 z48])]) (by kernel_rfl) S ?_
              refine node_by (A := anc_raddleref23_Make_s1_0) (nf := [7, 8]) (Y := []) (W := [(0, 49, .int .i64 o36), (1, 50, .int .i64 r43), (2, 51, .int .i64 z46), (3, 52, .int .i64 o37), (4, 53, .int .i64 r43), (5, 54, .int .i64 z48), (6, 55, .agg #[.int .i64 z46, .int .i64 z48])]) 9 (by kernel_rfl) (by kernel_rfl) (by kernel_rfl) (by kernel_rfl) (by kernel_rfl) [0, 1, 2, 3, 4, 5, 6] (by kernel_rfl) (by decide) (by decide) (aF 0 8 (by decide) ?_ (aF 1 7 (by decide) ?_ (aF 2 6 (by decide) ?_ (aF 3 5 (by decide) ?_ (aF 4 4 (by decide) ?_ (aF 5 3 (by decide) ?_ (aF 6 2 (by decide) ?_ (aN 7 1 (by decide) ?_ (aB 8 0 7 (by decide) (trivial)))))))))) [] (fun q hq => by cases hq) (fun hY => absurd (hY 7 (by decide)) (by decide))
              · refine fI 49 (.int .i64 o36) [(0, .int .i64 o36)] 0 [none] rfl rfl (by kernel_rfl) rfl (by kernel_rfl) (by kernel_rfl) fun G a w S => ?_
                refine sMove (.int .i64 o36) S (wN rfl) (.inl rfl) (by kernel_rfl) rfl (by decide) (fun a S => ?_)
                exact leafL ⟨rfl, S⟩
              · refine fI 50 (.int .i64 r43) [(6, .int .i64 r43)] 1 [none] rfl rfl (by kernel_rfl) rfl (by kernel_rfl) (by kernel_rfl) fun G a w S => ?_
                refine sMove (.int .i64 r43) S (wN rfl) (.inl rfl) (by kernel_rfl) rfl (by decide) (fun a S => ?_)
                exact leafL ⟨rfl, S⟩
              · refine fI 51 (.int .i64 z46) [(49, .int .i64 o36), (50, .int .i64 r43)] 2 [some 0, some 1] rfl rfl (by kernel_rfl) rfl (by kernel_rfl) (by kernel_rfl) fun G a w S => ?_
                refine sBin (.int .i64 z46) S (wN rfl) rfl (by kernel_rfl) (by kernel_rfl) (bQuo _ _ _ _ (x := o36) (y := r43) hx47) rfl (by decide) (fun a S => ?_)
                exact leafL ⟨rfl, S⟩
              · refine fI 52 (.int .i64 o37) [(1, .int .i64 o37)] 3 [none] rfl rfl (by kernel_rfl) rfl (by kernel_rfl) (by kernel_rfl) fun G a w S => ?_
                refine sMove (.int .i64 o37) S (wN rfl) (.inl rfl) (by kernel_rfl) rfl (by decide) (fun a S => ?_)
                exact leafL ⟨rfl, S⟩
              · refine fI 53 (.int .i64 r43) [(6, .int .i64 r43)] 4 [none] rfl rfl (by kernel_rfl) rfl (by kernel_rfl) (by kernel_rfl) fun G a w S => ?_
                refine sMove (.int .i64 r43) S (wN rfl) (.inl rfl) (by kernel_rfl) rfl (by decide) (fun a S => ?_)
                exact leafL ⟨rfl, S⟩
              · refine fI 54 (.int .i64 z48) [(52, .int .i64 o37), (53, .int .i64 r43)] 5 [some 3, some 4] rfl rfl (by kernel_rfl) rfl (by kernel_rfl) (by kernel_rfl) fun G a w S => ?_
                refine sBin (.int .i64 z48) S (wN rfl) rfl (by kernel_rfl) (by kernel_rfl) (bQuo _ _ _ _ (x := o37) (y := r43) hx49) rfl (by decide) (fun a S => ?_)
                exact leafL ⟨rfl, S⟩
              · refine fI 55 (.agg #[.int .i64 z46, .int .i64 z48]) [(51, .int .i64 z46), (54, .int .i64 z48)] 6 [some 2, some 5] rfl rfl (by kernel_rfl) rfl (by kernel_rfl) (by kernel_rfl) fun G a w S => ?_
                refine sBuild [(0, .int .i64 z46), (1, .int .i64 z48)] [.int .i64 z46, .int .i64 z48] S (wN rfl) rfl (by kernel_rfl) (by kernel_rfl) rfl (by decide) (fun a S => ?_)
                exact leafL ⟨rfl, S⟩
              · refine ⟨_, [], rfl, (srcs_of [] rfl (by kernel_rfl) (by kernel_rfl)), fun G a w S => ?_⟩
                refine sAlloc (.agg #[.int .i64 0, .int .i64 0]) S (wN rfl) rfl (by kernel_rfl) [.int .i64 0, .int .i64 0] rfl rfl (by decide) (fun a b51 w S => ?_)
                refine leafL ⟨rfl, _, _, .inl ⟨7, (.pointer (some ⟨b51, 0, none⟩)), [], rfl, S, hz_of (by kernel_rfl), ?_⟩⟩
                refine node_by (A := anc_raddleref23_Make_s1_0) (nf := [7, 8]) (Y := [7]) 9 (by kernel_rfl) (by kernel_rfl) (by kernel_rfl) (by kernel_rfl) (by kernel_rfl) [7, 0, 1, 2, 3, 4, 5, 6] (by kernel_rfl) (by decide) (by decide) (aF 0 8 (by decide) ?_ (aF 1 7 (by decide) ?_ (aF 2 6 (by decide) ?_ (aF 3 5 (by decide) ?_ (aF 4 4 (by decide) ?_ (aF 5 3 (by decide) ?_ (aF 6 2 (by decide) ?_ (aY 7 1 (by decide) (aN 8 0 (by decide) ?_ (trivial)))))))))) [] (fun q hq => by cases hq) (fun hY => absurd (hY 8 (by decide)) (by decide))
                · refine fI 49 (.int .i64 o36) [(0, .int .i64 o36)] 1 [none] rfl rfl (by kernel_rfl) rfl (by kernel_rfl) (by kernel_rfl) fun G a w S => ?_
                  refine sMove (.int .i64 o36) S (wN rfl) (.inl rfl) (by kernel_rfl) rfl (by decide) (fun a S => ?_)
                  exact leafL ⟨rfl, S⟩
                · refine fI 50 (.int .i64 r43) [(6, .int .i64 r43)] 2 [none] rfl rfl (by kernel_rfl) rfl (by kernel_rfl) (by kernel_rfl) fun G a w S => ?_
                  refine sMove (.int .i64 r43) S (wN rfl) (.inl rfl) (by kernel_rfl) rfl (by decide) (fun a S => ?_)
                  exact leafL ⟨rfl, S⟩
                · refine fI 51 (.int .i64 z46) [(49, .int .i64 o36), (50, .int .i64 r43)] 3 [some 1, some 2] rfl rfl (by kernel_rfl) rfl (by kernel_rfl) (by kernel_rfl) fun G a w S => ?_
                  refine sBin (.int .i64 z46) S (wN rfl) rfl (by kernel_rfl) (by kernel_rfl) (bQuo _ _ _ _ (x := o36) (y := r43) hx47) rfl (by decide) (fun a S => ?_)
                  exact leafL ⟨rfl, S⟩
                · refine fI 52 (.int .i64 o37) [(1, .int .i64 o37)] 4 [none] rfl rfl (by kernel_rfl) rfl (by kernel_rfl) (by kernel_rfl) fun G a w S => ?_
                  refine sMove (.int .i64 o37) S (wN rfl) (.inl rfl) (by kernel_rfl) rfl (by decide) (fun a S => ?_)
                  exact leafL ⟨rfl, S⟩
                · refine fI 53 (.int .i64 r43) [(6, .int .i64 r43)] 5 [none] rfl rfl (by kernel_rfl) rfl (by kernel_rfl) (by kernel_rfl) fun G a w S => ?_
                  refine sMove (.int .i64 r43) S (wN rfl) (.inl rfl) (by kernel_rfl) rfl (by decide) (fun a S => ?_)
                  exact leafL ⟨rfl, S⟩
                · refine fI 54 (.int .i64 z48) [(52, .int .i64 o37), (53, .int .i64 r43)] 6 [some 4, some 5] rfl rfl (by kernel_rfl) rfl (by kernel_rfl) (by kernel_rfl) fun G a w S => ?_
                  refine sBin (.int .i64 z48) S (wN rfl) rfl (by kernel_rfl) (by kernel_rfl) (bQuo _ _ _ _ (x := o37) (y := r43) hx49) rfl (by decide) (fun a S => ?_)
                  exact leafL ⟨rfl, S⟩
                · refine fI 55 (.agg #[.int .i64 z46, .int .i64 z48]) [(51, .int .i64 z46), (54, .int .i64 z48)] 7 [some 3, some 6] rfl rfl (by kernel_rfl) rfl (by kernel_rfl) (by kernel_rfl) fun G a w S => ?_
                  refine sBuild [(0, .int .i64 z46), (1, .int .i64 z48)] [.int .i64 z46, .int .i64 z48] S (wN rfl) rfl (by kernel_rfl) (by kernel_rfl) rfl (by decide) (fun a S => ?_)
                  exact leafL ⟨rfl, S⟩
                · refine ⟨_, [(7, .pointer (some ⟨b51, 0, none⟩)), (55, .agg #[.int .i64 z46, .int .i64 z48])], rfl, (srcs_of [some 0, some 7] rfl (by kernel_rfl) (by kernel_rfl)), fun G a w S => ?_⟩
                  refine sStore (p := b51) (off := 0) (T := 34) (vs := [.int .i64 0, .int .i64 0]) (v := .agg #[.int .i64 z46, .int .i64 z48]) 0 [.int .i64 z46, .int .i64 z48] S (wN rfl) rfl (by kernel_rfl) (by kernel_rfl) rfl (by kernel_rfl) (by kernel_rfl) rfl (by simp) rfl (fun a w S => ?_)
                  refine leafL ⟨rfl, _, _, .inr ⟨[], rfl, S, hz_of (by kernel_rfl), ?_⟩⟩
                  refine node_by (A := anc_raddleref23_Make_s1_0) (nf := [7, 8]) (Y := [8, 7]) 9 (by kernel_rfl) (by kernel_rfl) (by kernel_rfl) (by kernel_rfl) (by kernel_rfl) [7, 0, 1, 2, 3, 4, 5, 6] (by kernel_rfl) (by decide) (by decide) (aD 0 8 8 (by decide) (aD 1 7 8 (by decide) (aD 2 6 8 (by decide) (aD 3 5 8 (by decide) (aD 4 4 8 (by decide) (aD 5 3 8 (by decide) (aD 6 2 8 (by decide) (aY 7 1 (by decide) (aY 8 0 (by decide) (trivial)))))))))) [(4, .pointer (some ⟨b2, 0, none⟩)), (7, .pointer (some ⟨b51, 0, none⟩))] (fin_of [none, some 0] rfl (by kernel_rfl) (by kernel_rfl)) (fun _ a w S => ?_)
                  · refine leafT (hK45 _ _ ?_)
                    refine sSeq (fun K52 hK52 => ?_)
                    refine sSeq (fun K53 hK53 => ?_)
                    refine sRegion ?_
                    refine sLoadN (p := b51) (off := 0) (T := 34) (vs := [.int .i64 z46, .int .i64 z48]) 0 [.int .i64 z46, .int .i64 z48] S (wN rfl) rfl (by kernel_rfl) (by kernel_rfl) (by kernel_rfl) (by kernel_rfl) rfl rfl (by decide) (fun a S => ?_)
                    obtain ⟨r54, hx55, h⟩ := bindSome h
                    have S1 := S.mem
                    have S1 := S1.learn (fRep r_api_Ratio (.agg #[.int .i64 z46, .int .i64 z48]) (api_Ratio.mk z46 z48)) rfl
                    refine sCallQ (X := Unit) (f := 45) (vs := [.agg #[.int .i64 z46, .int .i64 z48]]) (val := fun _ => .int .i64 r54) S (wN rfl) rfl callee45 (by kernel_rfl) (S1.quiet [0] (by kernel_rfl)) (fun E1 w1 S1 => c_raddleref23_Check E1 w1 (api_Ratio.mk z46 z48) (.agg #[.int .i64 z46, .int .i64 z48]) r54 hx55 S1) rfl (by decide) (fun _ a w S => ?_)
                    refine sBin (.bool (r54 != 0)) S (wN rfl) rfl (by kernel_rfl) (by kernel_rfl) (bNe _ _ _ _ .i64 r54 0) rfl (by decide) (fun a S => ?_)
                    refine leafL (leafT (hK53 _ _ ?_))
                    rcases iteSome h with ⟨hc56, h⟩ | ⟨hc56, h⟩
                    · refine sCondT (b := r54 != 0) S (by kernel_rfl) hc56 ?_
                      refine sSeq (fun K57 hK57 => ?_)
                      refine sRegion ?_
                      refine sBuild [] [.int .i64 0, .int .i64 0] S (wN rfl) rfl (by kernel_rfl) (by kernel_rfl) rfl (by decide) (fun a S => ?_)
                      refine sStore (p := b2) (off := 0) (T := 34) (vs := [.int .i64 0, .int .i64 0]) (v := .agg #[.int .i64 0, .int .i64 0]) 1 [.int .i64 0, .int .i64 0] S (wN rfl) rfl (by kernel_rfl) (by kernel_rfl) rfl (by kernel_rfl) (by kernel_rfl) rfl (by simp) rfl (fun a w S => ?_)
                      refine sMove (.int .i64 16) S (wN rfl) (.inr rfl) (by kernel_rfl) rfl (by decide) (fun a S => ?_)
                      refine leafL (leafT (hK57 _ _ ?_))
                      obtain rfl := Option.some.inj h
                      have S := S.learn (fRep r_api_Ratio (.agg #[.int .i64 0, .int .i64 0]) (api_Ratio.mk 0 0)) rfl
                      exact wp_ret (rThen (sRet (.tuple #[.agg #[.int .i64 0, .int .i64 0], .int .i64 16]) S (rsl2 rfl (rvN (c := 4) (t := 34) (T := 34) (p := b2) 0 [.int .i64 0, .int .i64 0] S (by kernel_rfl) (by kernel_rfl) (by kernel_rfl) (by kernel_rfl)) (rvT (t := 5) (v := .int .i64 16) S (by kernel_rfl))) ⟨(.agg #[.int .i64 0, .int .i64 0]), rfl, S.mem.sel [] [0] (by decide) (by kernel_rfl) (by kernel_rfl)⟩))
                    · refine sCondF (b := r54 != 0) S (by kernel_rfl) hc56 ?_
                      refine wp_skip (leafT (hK52 _ _ ?_))
                      refine sSeq (fun K58 hK58 => ?_)
                      refine sRegion ?_
                      refine sLoadN (p := b51) (off := 0) (T := 34) (vs := [.int .i64 z46, .int .i64 z48]) 0 [.int .i64 z46, .int .i64 z48] S (wN rfl) rfl (by kernel_rfl) (by kernel_rfl) (by kernel_rfl) (by kernel_rfl) rfl rfl (by decide) (fun a S => ?_)
                      refine sStore (p := b2) (off := 0) (T := 34) (vs := [.int .i64 0, .int .i64 0]) (v := .agg #[.int .i64 z46, .int .i64 z48]) 1 [.int .i64 z46, .int .i64 z48] S (wN rfl) rfl (by kernel_rfl) (by kernel_rfl) rfl (by kernel_rfl) (by kernel_rfl) rfl (by simp) rfl (fun a w S => ?_)
                      refine sMove (.int .i64 0) S (wN rfl) (.inr rfl) (by kernel_rfl) rfl (by decide) (fun a S => ?_)
                      refine leafL (leafT (hK58 _ _ ?_))
                      obtain rfl := Option.some.inj h
                      have S := S.learn (fRep r_api_Ratio (.agg #[.int .i64 z46, .int .i64 z48]) (api_Ratio.mk z46 z48)) rfl
                      exact wp_ret (sRet (.tuple #[.agg #[.int .i64 z46, .int .i64 z48], .int .i64 0]) S (rsl2 rfl (rvN (c := 4) (t := 34) (T := 34) (p := b2) 0 [.int .i64 z46, .int .i64 z48] S (by kernel_rfl) (by kernel_rfl) (by kernel_rfl) (by kernel_rfl)) (rvT (t := 5) (v := .int .i64 0) S (by kernel_rfl))) ⟨(.agg #[.int .i64 z46, .int .i64 z48]), rfl, S.mem.sel [] [0] (by decide) (by kernel_rfl) (by kernel_rfl)⟩)

end Go.Proofs.Ytjndecalogklhaa
