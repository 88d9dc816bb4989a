/- Several texts in one: G10 KvBlockNames FrBlockNames -/
import Derived.WalkKit
import Derived.Maps.AppendAt
import Derived.Deep.AppendLies
import Derived.KernelRfl
import Derived.Laws.OwnMore
import Derived.Great.BuildSlice
import Derived.Orders
import Derived.Laws.StructEq
import Derived.ChangeKeysEq
import Derived.Defers
import Derived.Laws.BytesString
import Derived.RangeFuncNested
import Derived.RangeFuncBound
import Derived.RangeFuncCalls
import Derived.RangeFuncLeaves
import Derived.OrdersIn
import Derived.LoopNIn
import Derived.ArgAppend
import Derived.Test.YthfifeabomdlpaaProg
import Derived.ProofKit
import Derived.OpenShut
import Derived.ChangeOld
import Derived.Deep.Slices
import Derived.Lib.SmallJoins
import Derived.JoinedOf
import Derived.JoinedAt
import Derived.Below
import Derived.Test.YthfifeabomdlpaaRows
import Derived.Test.YthfifeabomdlpaaMBlockNames4
namespace Go.Proofs.Ythfifeabomdlpaa
open Go.RowKit
set_option linter.unusedVariables false

def anc_raddlelaw13_BlockNames_0 : List (List Nat) := [[], [0], [], [0, 1, 2], [0, 1, 2, 3], [0, 1, 2, 3, 4], [0, 1, 2, 3, 4], [], [0, 1, 2, 3, 4, 5, 7], [0, 1, 2, 3, 4, 5, 6, 7, 8]]
noncomputable def F_raddlelaw13_BlockNames  : Option Bool :=
  Option.bind (F_raddlelaw13_row [true, false]) fun r5 =>
  Option.bind (F_raddlelaw13_row [true]) fun r14 =>
  Option.bind (F_raddlelaw13_row [false]) fun r23 =>
  Option.bind (F_block_Fill r5 r14 r5) fun r34 =>
  Option.bind (F_raddleref01_Zero 33 1) fun r43 =>
  Option.bind (F_raddleref01_Zero 2 1) fun r50 =>
  Option.bind (F_block_Fill r43 r50 r50) fun r62 =>
  Option.bind (F_block_Fill (api_Grid.mk 0 0 ([] : (List Bool))) r14 r5) fun r71 =>
  Option.bind (F_block_Profile r5 r14 r14) fun r80 =>
  Option.bind (F_raddlelaw13_row [true, false, true]) fun r91 =>
  Option.bind (F_raddlelaw13_row [true, true]) fun r105 =>
  Option.bind (F_block_Profile r91 r50 r105) fun r112 =>
  Option.bind (F_block_Profile r5 r50 r105) fun r140 =>
  Option.bind (F_block_Units r5 0 1) fun r149 =>
  Option.bind (F_block_Units r5 2 2) fun r158 =>
  Option.bind (F_block_Join ([] : (List api_Grid)) ([0] : List Int) 1) fun r169 =>
  Option.bind (F_block_Join [r14, r5] ([0] : List Int) 1) fun r182 =>
  Option.bind (F_block_Join [r14] ([] : (List Int)) 1) fun r193 =>
  Option.bind (F_block_Join [r14] ([1] : List Int) 1) fun r206 =>
  Option.bind (makeO 65 (0 : Int)) fun m219 =>
  Option.bind (F_block_Join [r14] m219 65) fun r221 =>
  Option.bind (F_block_Join [r14] ([0] : List Int) 0) fun r244 =>
  Option.bind (F_block_Spell ([0] : List Int) ([] : (List (List Int)))) fun r255 =>
  Option.bind (F_block_Spell ([0] : List Int) [([] : List Int)]) fun r267 =>
  Option.bind (F_block_Spell ([1] : List Int) [([1] : List Int)]) fun r279 =>
  Option.bind (makeO 201 (0 : Int)) fun m287 =>
  Option.bind (F_block_Spell m287 [([1, 2] : List Int)]) fun r293 =>
  Option.bind (F_block_Blocks ([1] : List Int) [([1] : List Int), ([1] : List Int)]) fun r307 =>
  Option.bind (F_block_Blocks ([1, 2, 3] : List Int) [([1, 2] : List Int)]) fun r319 =>
  Option.bind (F_block_Blocks ([1, 3] : List Int) [([1, 2] : List Int)]) fun r331 =>
  Option.bind (F_block_Profile r5 r14 r23) fun r337 =>
  Option.bind (F_raddlelaw13_alive) fun r346 =>
  if r346 then
    if r34.2 == 26 then
      if r62.2 == 4 then
        if r71.2 == 8 then
          if r80.2 == 14 then
            if r112.2 == 26 then
              if r140.2 == 6 then
                if r149.2.2 == 26 then
                  if r158.2.2 == 26 then
                    if r169.2 == 6 then
                      if r182.2 == 26 then
                        if r193.2 == 26 then
                          if r206.2 == 8 then
                            if r221.2 == 4 then
                              if r244.2 == 26 then
                                if r255.2 == 2 then
                                  if r267.2 == 26 then
                                    if r279.2 == 8 then
                                      if r293.2 == 4 then
                                        if r307.2 == 14 then
                                          if r319.2 == 26 then
                                            if r331.2 == 6 then
                                              if r337.2 == 0 then
                                                Option.bind (F_raddleref01_Same r337.1 r5) fun r371 =>
                                                some r371
                                              else
                                                none
                                            else
                                              none
                                          else
                                            none
                                        else
                                          none
                                      else
                                        none
                                    else
                                      none
                                  else
                                    none
                                else
                                  none
                              else
                                none
                            else
                              none
                          else
                            none
                        else
                          none
                      else
                        none
                    else
                      none
                  else
                    none
                else
                  none
              else
                none
            else
              none
          else
            none
        else
          none
      else
        none
    else
      none
  else
    none
set_option maxHeartbeats 4000000 in
set_option maxRecDepth 100000 in
theorem c_raddlelaw13_BlockNames (E : Nat → Prop) (w0 : World)  (r : Bool) (h : F_raddlelaw13_BlockNames  = some r) (S : St0 E [] w0 w0 [] []) :
    Calls Try.prog 10 #[] w0 (Ret (X := Unit) E [] w0 (fun _ => .bool r) (fun _ => []) (fun _ => [])) := by
  unfold F_raddlelaw13_BlockNames at h
  refine sEnter (args := []) 305 Try.func10 rfl rfl (by simp) S (fun a S => ?_)
  refine sSeq (fun K1 hK1 => ?_)
  refine sRegion ?_
  refine sMove (.bool false) S (wN rfl) (.inr rfl) rfl rfl (lb rfl) fun a S => ?_
  refine leafL (leafT (hK1 _ _ ?_))
  refine sSeq (fun K2 hK2 => ?_)
  refine sRegion ?_
  refine sLit (r := rB) (T := 4) (xs := [true, false]) [(0, .bool true), (1, .bool false)] 2 [.bool true, .bool false] [.bool true, .bool false] (.bool false) 1 S (wN rfl) rfl rfl Try.underlying22 rfl (by decide) (by decide) (by kernel_rfl) rfl (fun E1 w1 hE => All.cons rfl (All.cons rfl (All.nil _ _ _))) rfl rfl (lb rfl) fun a w ad3 cp4 S => ?_
  obtain ⟨r5, hx6, h⟩ := bindSome h
  have hv_r5 : r5 = (api_Grid.mk 2 1 [true, false]) := Option.some.inj (hx6.symm.trans (by exact kc_raddlelaw13_BlockNames_0))
  have S := S.shutR (r := rB) (T := 4) (v := .slice ad3 [true, false].length cp4) (xs := [true, false]) 0 rfl
  refine sCall (X := Value) (f := 39) (vs := [.slice ad3 [true, false].length cp4]) (val := c_raddlelaw13_row_val r5) (B' := fun _ => []) (D' := c_raddlelaw13_row_D r5) [] [] [fRep (rL rB) (.slice ad3 [true, false].length cp4) [true, false]] [] [0] S (wN rfl) rfl callee39 rfl (by decide) rfl rfl (fun E1 w1 S1 => c_raddlelaw13_row E1 w1 [true, false] (.slice ad3 [true, false].length cp4) r5 hx6 S1) rfl (lb rfl) fun u7 a w S => ?_
  obtain ⟨u8, rfl, hu9⟩ := S.mem.know (i := 0) (e := fRep r_api_Grid (u7) r5) rfl
  have S := S.learn (fRep (rL rB) u8 r5.Bits) hu9
  obtain ⟨ad10, cp11, _, rfl, _⟩ := hu9
  refine sLit (r := rB) (T := 4) (xs := [true]) [(0, .bool true)] 1 [.bool true] [.bool true] (.bool false) 1 S (wN rfl) rfl rfl Try.underlying22 rfl (by decide) (by decide) (by kernel_rfl) rfl (fun E1 w1 hE => All.cons rfl (All.nil _ _ _)) rfl rfl (lb rfl) fun a w ad12 cp13 S => ?_
  obtain ⟨r14, hx15, h⟩ := bindSome h
  have hv_r14 : r14 = (api_Grid.mk 1 1 [true]) := Option.some.inj (hx15.symm.trans (by exact kc_raddlelaw13_BlockNames_1))
  have S := S.shutR (r := rB) (T := 4) (v := .slice ad12 [true].length cp13) (xs := [true]) 0 rfl
  refine sCall (X := Value) (f := 39) (vs := [.slice ad12 [true].length cp13]) (val := c_raddlelaw13_row_val r14) (B' := fun _ => []) (D' := c_raddlelaw13_row_D r14) [] [] [fRep (rL rB) (.slice ad12 [true].length cp13) [true]] [] [0] S (wN rfl) rfl callee39 rfl (by decide) rfl rfl (fun E1 w1 S1 => c_raddlelaw13_row E1 w1 [true] (.slice ad12 [true].length cp13) r14 hx15 S1) rfl (lb rfl) fun u16 a w S => ?_
  obtain ⟨u17, rfl, hu18⟩ := S.mem.know (i := 0) (e := fRep r_api_Grid (u16) r14) rfl
  have S := S.learn (fRep (rL rB) u17 r14.Bits) hu18
  obtain ⟨ad19, cp20, _, rfl, _⟩ := hu18
  refine sLit (r := rB) (T := 4) (xs := [false]) [(0, .bool false)] 1 [.bool false] [.bool false] (.bool false) 1 S (wN rfl) rfl rfl Try.underlying22 rfl (by decide) (by decide) (by kernel_rfl) rfl (fun E1 w1 hE => All.cons rfl (All.nil _ _ _)) rfl rfl (lb rfl) fun a w ad21 cp22 S => ?_
  obtain ⟨r23, hx24, h⟩ := bindSome h
  have hv_r23 : r23 = (api_Grid.mk 1 1 [false]) := Option.some.inj (hx24.symm.trans (by exact kc_raddlelaw13_BlockNames_2))
  have S := S.shutR (r := rB) (T := 4) (v := .slice ad21 [false].length cp22) (xs := [false]) 0 rfl
  refine sCall (X := Value) (f := 39) (vs := [.slice ad21 [false].length cp22]) (val := c_raddlelaw13_row_val r23) (B' := fun _ => []) (D' := c_raddlelaw13_row_D r23) [] [] [fRep (rL rB) (.slice ad21 [false].length cp22) [false]] [] [0] S (wN rfl) rfl callee39 rfl (by decide) rfl rfl (fun E1 w1 S1 => c_raddlelaw13_row E1 w1 [false] (.slice ad21 [false].length cp22) r23 hx24 S1) rfl (lb rfl) fun u25 a w S => ?_
  obtain ⟨u26, rfl, hu27⟩ := S.mem.know (i := 0) (e := fRep r_api_Grid (u25) r23) rfl
  have S := S.learn (fRep (rL rB) u26 r23.Bits) hu27
  obtain ⟨ad28, cp29, _, rfl, _⟩ := hu27
  refine sAlloc (.agg #[iv 0, iv 0, .slice none 0 0]) S (wN rfl) rfl rfl [iv 0, iv 0, .slice none 0 0] rfl rfl (lb rfl) fun a b30 w S => ?_
  refine sAlloc (.agg #[iv 0, iv 0, .slice none 0 0]) S (wN rfl) rfl rfl [iv 0, iv 0, .slice none 0 0] rfl rfl (lb rfl) fun a b31 w S => ?_
  refine sAlloc (.agg #[iv 0, iv 0, .slice none 0 0]) S (wN rfl) rfl rfl [iv 0, iv 0, .slice none 0 0] rfl rfl (lb rfl) fun a b32 w S => ?_
  refine sStore (p := b30) (off := 0) (T := 24) (vs := [iv 0, iv 0, .slice none 0 0]) (v := .agg #[iv r5.W, iv r5.H, .slice ad10 r5.Bits.length cp11]) 2 [iv r5.W, iv r5.H, .slice ad10 r5.Bits.length cp11] S (wN rfl) rfl rfl rfl rfl rfl rfl rfl (by simp) rfl fun a w S => ?_
  refine sStore (p := b31) (off := 0) (T := 24) (vs := [iv 0, iv 0, .slice none 0 0]) (v := .agg #[iv r14.W, iv r14.H, .slice ad19 r14.Bits.length cp20]) 2 [iv r14.W, iv r14.H, .slice ad19 r14.Bits.length cp20] S (wN rfl) rfl rfl rfl rfl rfl rfl rfl (by simp) rfl fun a w S => ?_
  refine sStore (p := b32) (off := 0) (T := 24) (vs := [iv 0, iv 0, .slice none 0 0]) (v := .agg #[iv r23.W, iv r23.H, .slice ad28 r23.Bits.length cp29]) 2 [iv r23.W, iv r23.H, .slice ad28 r23.Bits.length cp29] S (wN rfl) rfl rfl rfl rfl rfl rfl rfl (by simp) rfl fun a w S => ?_
  refine leafL (leafT (hK2 _ _ ?_))
  refine sSeq (fun K33 hK33 => ?_)
  refine sRegion ?_
  refine sLoadN (p := b30) (off := 0) (T := 24) (vs := [iv r5.W, iv r5.H, .slice ad10 r5.Bits.length cp11]) 2 [iv r5.W, iv r5.H, .slice ad10 r5.Bits.length cp11] S (wN rfl) rfl rfl rfl rfl rfl rfl rfl (lb rfl) fun a S => ?_
  refine sLoadN (p := b31) (off := 0) (T := 24) (vs := [iv r14.W, iv r14.H, .slice ad19 r14.Bits.length cp20]) 1 [iv r14.W, iv r14.H, .slice ad19 r14.Bits.length cp20] S (wN rfl) rfl rfl rfl rfl rfl rfl rfl (lb rfl) fun a S => ?_
  refine sLoadN (p := b30) (off := 0) (T := 24) (vs := [iv r5.W, iv r5.H, .slice ad10 r5.Bits.length cp11]) 2 [iv r5.W, iv r5.H, .slice ad10 r5.Bits.length cp11] S (wN rfl) rfl rfl rfl rfl rfl rfl rfl (lb rfl) fun a S => ?_
  obtain ⟨r34, hx35, h⟩ := bindSome h
  have hv_r34 : r34 = ((api_Grid.mk 0 0 []), 26) := Option.some.inj (hx35.symm.trans (by rw [hv_r5, hv_r14]; exact kc_raddlelaw13_BlockNames_3))
  refine sCall (X := Value) (f := 13) (vs := [.agg #[iv r5.W, iv r5.H, .slice ad10 r5.Bits.length cp11], .agg #[iv r14.W, iv r14.H, .slice ad19 r14.Bits.length cp20], .agg #[iv r5.W, iv r5.H, .slice ad10 r5.Bits.length cp11]]) (val := c_block_Fill_val r34) (B' := fun _ => []) (D' := c_block_Fill_D r34) [] [eBox b32 24 [iv r23.W, iv r23.H, .slice ad28 r23.Bits.length cp29], eBox b31 24 [iv r14.W, iv r14.H, .slice ad19 r14.Bits.length cp20], eBox b30 24 [iv r5.W, iv r5.H, .slice ad10 r5.Bits.length cp11]] [fRep r_api_Grid (.agg #[iv r5.W, iv r5.H, .slice ad10 r5.Bits.length cp11]) r5, fRep r_api_Grid (.agg #[iv r14.W, iv r14.H, .slice ad19 r14.Bits.length cp20]) r14, fRep r_api_Grid (.agg #[iv r5.W, iv r5.H, .slice ad10 r5.Bits.length cp11]) r5] [0, 1, 2] [7, 4, 7] S (wN rfl) rfl callee13 rfl (by decide) rfl rfl (fun E1 w1 S1 => c_block_Fill E1 w1 r5 (.agg #[iv r5.W, iv r5.H, .slice ad10 r5.Bits.length cp11]) r14 (.agg #[iv r14.W, iv r14.H, .slice ad19 r14.Bits.length cp20]) r5 (.agg #[iv r5.W, iv r5.H, .slice ad10 r5.Bits.length cp11]) r34 hx35 S1) rfl (lb rfl) fun u36 a w S => ?_
  obtain ⟨u37, rfl, hu38⟩ := S.mem.know (i := 0) (e := fRep r_api_Grid (u36) r34.1) rfl
  have S := S.learn (fRep (rL rB) u37 r34.1.Bits) hu38
  obtain ⟨ad39, cp40, _, rfl, _⟩ := hu38
  refine sMove (.tuple #[.agg #[iv r34.1.W, iv r34.1.H, .slice ad39 r34.1.Bits.length cp40], iv r34.2]) S (wN rfl) (.inl rfl) rfl rfl (lb rfl) fun a S => ?_
  refine sExtract (vs := [.agg #[iv r34.1.W, iv r34.1.H, .slice ad39 r34.1.Bits.length cp40], iv r34.2]) (.agg #[iv r34.1.W, iv r34.1.H, .slice ad39 r34.1.Bits.length cp40]) S (wN rfl) rfl rfl rfl rfl (lb rfl) fun a S => ?_
  refine sExtract (vs := [.agg #[iv r34.1.W, iv r34.1.H, .slice ad39 r34.1.Bits.length cp40], iv r34.2]) (iv r34.2) S (wN rfl) rfl rfl rfl rfl (lb rfl) fun a S => ?_
  refine sAlloc (.agg #[iv 0, iv 0, .slice none 0 0]) S (wN rfl) rfl rfl [iv 0, iv 0, .slice none 0 0] rfl rfl (lb rfl) fun a b41 w S => ?_
  refine sStore (p := b41) (off := 0) (T := 24) (vs := [iv 0, iv 0, .slice none 0 0]) (v := .agg #[iv r34.1.W, iv r34.1.H, .slice ad39 r34.1.Bits.length cp40]) 0 [iv r34.1.W, iv r34.1.H, .slice ad39 r34.1.Bits.length cp40] S (wN rfl) rfl rfl rfl rfl rfl rfl rfl (by simp) rfl fun a w S => ?_
  refine sMove (iv r34.2) S (wN rfl) (.inr rfl) rfl rfl (lb rfl) fun a S => ?_
  refine leafL (leafT (hK33 _ _ ?_))
  refine sSeq (fun K42 hK42 => ?_)
  refine sRegion ?_
  obtain ⟨r43, hx44, h⟩ := bindSome h
  have hv_r43 : r43 = (api_Grid.mk 33 1 [false, false, false, false, false, false, false, false, false, false, false, false, false, false, false, false, false, false, false, false, false, false, false, false, false, false, false, false, false, false, false, false, false]) := Option.some.inj (hx44.symm.trans (by exact kc_raddlelaw13_BlockNames_4))
  refine sCall (X := Value) (f := 40) (vs := [iv 33, iv 1]) (val := c_raddleref01_Zero_val r43) (B' := fun _ => []) (D' := c_raddleref01_Zero_D r43) [] [eBox b41 24 [iv r34.1.W, iv r34.1.H, .slice ad39 r34.1.Bits.length cp40], eBox b32 24 [iv r23.W, iv r23.H, .slice ad28 r23.Bits.length cp29], eBox b31 24 [iv r14.W, iv r14.H, .slice ad19 r14.Bits.length cp20], eBox b30 24 [iv r5.W, iv r5.H, .slice ad10 r5.Bits.length cp11]] [] [0, 1, 2, 3] [] S (wN rfl) rfl callee40 rfl (by decide) rfl rfl (fun E1 w1 S1 => c_raddleref01_Zero E1 w1 33 1 r43 hx44 S1) rfl (lb rfl) fun u45 a w S => ?_
  obtain ⟨u46, rfl, hu47⟩ := S.mem.know (i := 0) (e := fRep r_api_Grid (u45) r43) rfl
  have S := S.learn (fRep (rL rB) u46 r43.Bits) hu47
  obtain ⟨ad48, cp49, _, rfl, _⟩ := hu47
  obtain ⟨r50, hx51, h⟩ := bindSome h
  have hv_r50 : r50 = (api_Grid.mk 2 1 [false, false]) := Option.some.inj (hx51.symm.trans (by exact kc_raddlelaw13_BlockNames_5))
  refine sCall (X := Value) (f := 40) (vs := [iv 2, iv 1]) (val := c_raddleref01_Zero_val r50) (B' := fun _ => []) (D' := c_raddleref01_Zero_D r50) [] [eBox b41 24 [iv r34.1.W, iv r34.1.H, .slice ad39 r34.1.Bits.length cp40], eBox b32 24 [iv r23.W, iv r23.H, .slice ad28 r23.Bits.length cp29], eBox b31 24 [iv r14.W, iv r14.H, .slice ad19 r14.Bits.length cp20], eBox b30 24 [iv r5.W, iv r5.H, .slice ad10 r5.Bits.length cp11]] [] [0, 1, 2, 3] [] S (wN rfl) rfl callee40 rfl (by decide) rfl rfl (fun E1 w1 S1 => c_raddleref01_Zero E1 w1 2 1 r50 hx51 S1) rfl (lb rfl) fun u52 a w S => ?_
  obtain ⟨u53, rfl, hu54⟩ := S.mem.know (i := 0) (e := fRep r_api_Grid (u52) r50) rfl
  have S := S.learn (fRep (rL rB) u53 r50.Bits) hu54
  obtain ⟨ad55, cp56, _, rfl, _⟩ := hu54
  refine sCall (X := Value) (f := 40) (vs := [iv 2, iv 1]) (val := c_raddleref01_Zero_val r50) (B' := fun _ => []) (D' := c_raddleref01_Zero_D r50) [] [eBox b41 24 [iv r34.1.W, iv r34.1.H, .slice ad39 r34.1.Bits.length cp40], eBox b32 24 [iv r23.W, iv r23.H, .slice ad28 r23.Bits.length cp29], eBox b31 24 [iv r14.W, iv r14.H, .slice ad19 r14.Bits.length cp20], eBox b30 24 [iv r5.W, iv r5.H, .slice ad10 r5.Bits.length cp11]] [] [0, 1, 2, 3] [] S (wN rfl) rfl callee40 rfl (by decide) rfl rfl (fun E1 w1 S1 => c_raddleref01_Zero E1 w1 2 1 r50 hx51 S1) rfl (lb rfl) fun u57 a w S => ?_
  obtain ⟨u58, rfl, hu59⟩ := S.mem.know (i := 0) (e := fRep r_api_Grid (u57) r50) rfl
  have S := S.learn (fRep (rL rB) u58 r50.Bits) hu59
  obtain ⟨ad60, cp61, _, rfl, _⟩ := hu59
  obtain ⟨r62, hx63, h⟩ := bindSome h
  have hv_r62 : r62 = ((api_Grid.mk 0 0 []), 4) := Option.some.inj (hx63.symm.trans (by rw [hv_r43, hv_r50]; exact kc_raddlelaw13_BlockNames_6))
  refine sCall (X := Value) (f := 13) (vs := [.agg #[iv r43.W, iv r43.H, .slice ad48 r43.Bits.length cp49], .agg #[iv r50.W, iv r50.H, .slice ad55 r50.Bits.length cp56], .agg #[iv r50.W, iv r50.H, .slice ad60 r50.Bits.length cp61]]) (val := c_block_Fill_val r62) (B' := fun _ => []) (D' := c_block_Fill_D r62) [] [eBox b41 24 [iv r34.1.W, iv r34.1.H, .slice ad39 r34.1.Bits.length cp40], eBox b32 24 [iv r23.W, iv r23.H, .slice ad28 r23.Bits.length cp29], eBox b31 24 [iv r14.W, iv r14.H, .slice ad19 r14.Bits.length cp20], eBox b30 24 [iv r5.W, iv r5.H, .slice ad10 r5.Bits.length cp11]] [fRep r_api_Grid (.agg #[iv r43.W, iv r43.H, .slice ad48 r43.Bits.length cp49]) r43, fRep r_api_Grid (.agg #[iv r50.W, iv r50.H, .slice ad55 r50.Bits.length cp56]) r50, fRep r_api_Grid (.agg #[iv r50.W, iv r50.H, .slice ad60 r50.Bits.length cp61]) r50] [0, 1, 2, 3] [5, 3, 1] S (wN rfl) rfl callee13 rfl (by decide) rfl rfl (fun E1 w1 S1 => c_block_Fill E1 w1 r43 (.agg #[iv r43.W, iv r43.H, .slice ad48 r43.Bits.length cp49]) r50 (.agg #[iv r50.W, iv r50.H, .slice ad55 r50.Bits.length cp56]) r50 (.agg #[iv r50.W, iv r50.H, .slice ad60 r50.Bits.length cp61]) r62 hx63 S1) rfl (lb rfl) fun u64 a w S => ?_
  obtain ⟨u65, rfl, hu66⟩ := S.mem.know (i := 0) (e := fRep r_api_Grid (u64) r62.1) rfl
  have S := S.learn (fRep (rL rB) u65 r62.1.Bits) hu66
  obtain ⟨ad67, cp68, _, rfl, _⟩ := hu66
  refine sMove (.tuple #[.agg #[iv r62.1.W, iv r62.1.H, .slice ad67 r62.1.Bits.length cp68], iv r62.2]) S (wN rfl) (.inl rfl) rfl rfl (lb rfl) fun a S => ?_
  refine sExtract (vs := [.agg #[iv r62.1.W, iv r62.1.H, .slice ad67 r62.1.Bits.length cp68], iv r62.2]) (.agg #[iv r62.1.W, iv r62.1.H, .slice ad67 r62.1.Bits.length cp68]) S (wN rfl) rfl rfl rfl rfl (lb rfl) fun a S => ?_
  refine sExtract (vs := [.agg #[iv r62.1.W, iv r62.1.H, .slice ad67 r62.1.Bits.length cp68], iv r62.2]) (iv r62.2) S (wN rfl) rfl rfl rfl rfl (lb rfl) fun a S => ?_
  refine sAlloc (.agg #[iv 0, iv 0, .slice none 0 0]) S (wN rfl) rfl rfl [iv 0, iv 0, .slice none 0 0] rfl rfl (lb rfl) fun a b69 w S => ?_
  refine sStore (p := b69) (off := 0) (T := 24) (vs := [iv 0, iv 0, .slice none 0 0]) (v := .agg #[iv r62.1.W, iv r62.1.H, .slice ad67 r62.1.Bits.length cp68]) 0 [iv r62.1.W, iv r62.1.H, .slice ad67 r62.1.Bits.length cp68] S (wN rfl) rfl rfl rfl rfl rfl rfl rfl (by simp) rfl fun a w S => ?_
  refine sMove (iv r62.2) S (wN rfl) (.inr rfl) rfl rfl (lb rfl) fun a S => ?_
  refine leafL (leafT (hK42 _ _ ?_))
  refine sSeq (fun K70 hK70 => ?_)
  refine sRegion ?_
  refine sBuild [] [iv 0, iv 0, .slice none 0 0] S (wN rfl) rfl rfl rfl rfl (lb rfl) fun a S => ?_
  refine sLoadN (p := b31) (off := 0) (T := 24) (vs := [iv r14.W, iv r14.H, .slice ad19 r14.Bits.length cp20]) 3 [iv r14.W, iv r14.H, .slice ad19 r14.Bits.length cp20] S (wN rfl) rfl rfl rfl rfl rfl rfl rfl (lb rfl) fun a S => ?_
  refine sLoadN (p := b30) (off := 0) (T := 24) (vs := [iv r5.W, iv r5.H, .slice ad10 r5.Bits.length cp11]) 4 [iv r5.W, iv r5.H, .slice ad10 r5.Bits.length cp11] S (wN rfl) rfl rfl rfl rfl rfl rfl rfl (lb rfl) fun a S => ?_
  obtain ⟨r71, hx72, h⟩ := bindSome h
  have hv_r71 : r71 = ((api_Grid.mk 0 0 []), 8) := Option.some.inj (hx72.symm.trans (by rw [hv_r14, hv_r5]; exact kc_raddlelaw13_BlockNames_7))
  have S := S.learn (fRep (rL rB) (.slice none 0 0) ([] : (List Bool))) (rL_nil _ _ _)
  have S := S.learn (fRep r_api_Grid (.agg #[iv 0, iv 0, .slice none 0 0]) (api_Grid.mk 0 0 ([] : (List Bool)))) ⟨_, rfl, S.mem.know (i := 0) (e := fRep (rL rB) (.slice none 0 0) ([] : (List Bool))) rfl⟩
  refine sCall (X := Value) (f := 13) (vs := [.agg #[iv 0, iv 0, .slice none 0 0], .agg #[iv r14.W, iv r14.H, .slice ad19 r14.Bits.length cp20], .agg #[iv r5.W, iv r5.H, .slice ad10 r5.Bits.length cp11]]) (val := c_block_Fill_val r71) (B' := fun _ => []) (D' := c_block_Fill_D r71) [] [eBox b69 24 [iv r62.1.W, iv r62.1.H, .slice ad67 r62.1.Bits.length cp68], eBox b41 24 [iv r34.1.W, iv r34.1.H, .slice ad39 r34.1.Bits.length cp40], eBox b32 24 [iv r23.W, iv r23.H, .slice ad28 r23.Bits.length cp29], eBox b31 24 [iv r14.W, iv r14.H, .slice ad19 r14.Bits.length cp20], eBox b30 24 [iv r5.W, iv r5.H, .slice ad10 r5.Bits.length cp11]] [fRep r_api_Grid (.agg #[iv 0, iv 0, .slice none 0 0]) (api_Grid.mk 0 0 ([] : (List Bool))), fRep r_api_Grid (.agg #[iv r14.W, iv r14.H, .slice ad19 r14.Bits.length cp20]) r14, fRep r_api_Grid (.agg #[iv r5.W, iv r5.H, .slice ad10 r5.Bits.length cp11]) r5] [0, 1, 2, 3, 4] [0, 16, 19] S (wN rfl) rfl callee13 rfl (by decide) rfl rfl (fun E1 w1 S1 => c_block_Fill E1 w1 (api_Grid.mk 0 0 ([] : (List Bool))) (.agg #[iv 0, iv 0, .slice none 0 0]) r14 (.agg #[iv r14.W, iv r14.H, .slice ad19 r14.Bits.length cp20]) r5 (.agg #[iv r5.W, iv r5.H, .slice ad10 r5.Bits.length cp11]) r71 hx72 S1) rfl (lb rfl) fun u73 a w S => ?_
  obtain ⟨u74, rfl, hu75⟩ := S.mem.know (i := 0) (e := fRep r_api_Grid (u73) r71.1) rfl
  have S := S.learn (fRep (rL rB) u74 r71.1.Bits) hu75
  obtain ⟨ad76, cp77, _, rfl, _⟩ := hu75
  refine sMove (.tuple #[.agg #[iv r71.1.W, iv r71.1.H, .slice ad76 r71.1.Bits.length cp77], iv r71.2]) S (wN rfl) (.inl rfl) rfl rfl (lb rfl) fun a S => ?_
  refine sExtract (vs := [.agg #[iv r71.1.W, iv r71.1.H, .slice ad76 r71.1.Bits.length cp77], iv r71.2]) (.agg #[iv r71.1.W, iv r71.1.H, .slice ad76 r71.1.Bits.length cp77]) S (wN rfl) rfl rfl rfl rfl (lb rfl) fun a S => ?_
  refine sExtract (vs := [.agg #[iv r71.1.W, iv r71.1.H, .slice ad76 r71.1.Bits.length cp77], iv r71.2]) (iv r71.2) S (wN rfl) rfl rfl rfl rfl (lb rfl) fun a S => ?_
  refine sAlloc (.agg #[iv 0, iv 0, .slice none 0 0]) S (wN rfl) rfl rfl [iv 0, iv 0, .slice none 0 0] rfl rfl (lb rfl) fun a b78 w S => ?_
  refine sStore (p := b78) (off := 0) (T := 24) (vs := [iv 0, iv 0, .slice none 0 0]) (v := .agg #[iv r71.1.W, iv r71.1.H, .slice ad76 r71.1.Bits.length cp77]) 0 [iv r71.1.W, iv r71.1.H, .slice ad76 r71.1.Bits.length cp77] S (wN rfl) rfl rfl rfl rfl rfl rfl rfl (by simp) rfl fun a w S => ?_
  refine sMove (iv r71.2) S (wN rfl) (.inr rfl) rfl rfl (lb rfl) fun a S => ?_
  refine leafL (leafT (hK70 _ _ ?_))
  refine sSeq (fun K79 hK79 => ?_)
  refine sRegion ?_
  refine sLoadN (p := b30) (off := 0) (T := 24) (vs := [iv r5.W, iv r5.H, .slice ad10 r5.Bits.length cp11]) 5 [iv r5.W, iv r5.H, .slice ad10 r5.Bits.length cp11] S (wN rfl) rfl rfl rfl rfl rfl rfl rfl (lb rfl) fun a S => ?_
  refine sLoadN (p := b31) (off := 0) (T := 24) (vs := [iv r14.W, iv r14.H, .slice ad19 r14.Bits.length cp20]) 4 [iv r14.W, iv r14.H, .slice ad19 r14.Bits.length cp20] S (wN rfl) rfl rfl rfl rfl rfl rfl rfl (lb rfl) fun a S => ?_
  refine sLoadN (p := b31) (off := 0) (T := 24) (vs := [iv r14.W, iv r14.H, .slice ad19 r14.Bits.length cp20]) 4 [iv r14.W, iv r14.H, .slice ad19 r14.Bits.length cp20] S (wN rfl) rfl rfl rfl rfl rfl rfl rfl (lb rfl) fun a S => ?_
  obtain ⟨r80, hx81, h⟩ := bindSome h
  have hv_r80 : r80 = ((api_Grid.mk 0 0 []), 14) := Option.some.inj (hx81.symm.trans (by rw [hv_r5, hv_r14]; exact kc_raddlelaw13_BlockNames_8))
  refine sCall (X := Value) (f := 15) (vs := [.agg #[iv r5.W, iv r5.H, .slice ad10 r5.Bits.length cp11], .agg #[iv r14.W, iv r14.H, .slice ad19 r14.Bits.length cp20], .agg #[iv r14.W, iv r14.H, .slice ad19 r14.Bits.length cp20]]) (val := c_block_Profile_val r80) (B' := fun _ => []) (D' := c_block_Profile_D r80) [] [eBox b78 24 [iv r71.1.W, iv r71.1.H, .slice ad76 r71.1.Bits.length cp77], eBox b69 24 [iv r62.1.W, iv r62.1.H, .slice ad67 r62.1.Bits.length cp68], eBox b41 24 [iv r34.1.W, iv r34.1.H, .slice ad39 r34.1.Bits.length cp40], eBox b32 24 [iv r23.W, iv r23.H, .slice ad28 r23.Bits.length cp29], eBox b31 24 [iv r14.W, iv r14.H, .slice ad19 r14.Bits.length cp20], eBox b30 24 [iv r5.W, iv r5.H, .slice ad10 r5.Bits.length cp11]] [fRep r_api_Grid (.agg #[iv r5.W, iv r5.H, .slice ad10 r5.Bits.length cp11]) r5, fRep r_api_Grid (.agg #[iv r14.W, iv r14.H, .slice ad19 r14.Bits.length cp20]) r14, fRep r_api_Grid (.agg #[iv r14.W, iv r14.H, .slice ad19 r14.Bits.length cp20]) r14] [0, 1, 2, 3, 4, 5] [21, 18, 18] S (wN rfl) rfl callee15 rfl (by decide) rfl rfl (fun E1 w1 S1 => c_block_Profile E1 w1 r5 (.agg #[iv r5.W, iv r5.H, .slice ad10 r5.Bits.length cp11]) r14 (.agg #[iv r14.W, iv r14.H, .slice ad19 r14.Bits.length cp20]) r14 (.agg #[iv r14.W, iv r14.H, .slice ad19 r14.Bits.length cp20]) r80 hx81 S1) rfl (lb rfl) fun u82 a w S => ?_
  obtain ⟨u83, rfl, hu84⟩ := S.mem.know (i := 0) (e := fRep r_api_Grid (u82) r80.1) rfl
  have S := S.learn (fRep (rL rB) u83 r80.1.Bits) hu84
  obtain ⟨ad85, cp86, _, rfl, _⟩ := hu84
  refine sMove (.tuple #[.agg #[iv r80.1.W, iv r80.1.H, .slice ad85 r80.1.Bits.length cp86], iv r80.2]) S (wN rfl) (.inl rfl) rfl rfl (lb rfl) fun a S => ?_
  refine sExtract (vs := [.agg #[iv r80.1.W, iv r80.1.H, .slice ad85 r80.1.Bits.length cp86], iv r80.2]) (.agg #[iv r80.1.W, iv r80.1.H, .slice ad85 r80.1.Bits.length cp86]) S (wN rfl) rfl rfl rfl rfl (lb rfl) fun a S => ?_
  refine sExtract (vs := [.agg #[iv r80.1.W, iv r80.1.H, .slice ad85 r80.1.Bits.length cp86], iv r80.2]) (iv r80.2) S (wN rfl) rfl rfl rfl rfl (lb rfl) fun a S => ?_
  refine sAlloc (.agg #[iv 0, iv 0, .slice none 0 0]) S (wN rfl) rfl rfl [iv 0, iv 0, .slice none 0 0] rfl rfl (lb rfl) fun a b87 w S => ?_
  refine sStore (p := b87) (off := 0) (T := 24) (vs := [iv 0, iv 0, .slice none 0 0]) (v := .agg #[iv r80.1.W, iv r80.1.H, .slice ad85 r80.1.Bits.length cp86]) 0 [iv r80.1.W, iv r80.1.H, .slice ad85 r80.1.Bits.length cp86] S (wN rfl) rfl rfl rfl rfl rfl rfl rfl (by simp) rfl fun a w S => ?_
  refine sMove (iv r80.2) S (wN rfl) (.inr rfl) rfl rfl (lb rfl) fun a S => ?_
  refine leafL (leafT (hK79 _ _ ?_))
  refine sSeq (fun K88 hK88 => ?_)
  refine sRegion ?_
  refine sLit (r := rB) (T := 4) (xs := [true, false, true]) [(0, .bool true), (1, .bool false), (2, .bool true)] 3 [.bool true, .bool false, .bool true] [.bool true, .bool false, .bool true] (.bool false) 1 S (wN rfl) rfl rfl Try.underlying22 rfl (by decide) (by decide) (by kernel_rfl) rfl (fun E1 w1 hE => All.cons rfl (All.cons rfl (All.cons rfl (All.nil _ _ _)))) rfl rfl (lb rfl) fun a w ad89 cp90 S => ?_
  obtain ⟨r91, hx92, h⟩ := bindSome h
  have hv_r91 : r91 = (api_Grid.mk 3 1 [true, false, true]) := Option.some.inj (hx92.symm.trans (by exact kc_raddlelaw13_BlockNames_9))
  have S := S.shutR (r := rB) (T := 4) (v := .slice ad89 [true, false, true].length cp90) (xs := [true, false, true]) 0 rfl
  refine sCall (X := Value) (f := 39) (vs := [.slice ad89 [true, false, true].length cp90]) (val := c_raddlelaw13_row_val r91) (B' := fun _ => []) (D' := c_raddlelaw13_row_D r91) [] [eBox b87 24 [iv r80.1.W, iv r80.1.H, .slice ad85 r80.1.Bits.length cp86], eBox b78 24 [iv r71.1.W, iv r71.1.H, .slice ad76 r71.1.Bits.length cp77], eBox b69 24 [iv r62.1.W, iv r62.1.H, .slice ad67 r62.1.Bits.length cp68], eBox b41 24 [iv r34.1.W, iv r34.1.H, .slice ad39 r34.1.Bits.length cp40], eBox b32 24 [iv r23.W, iv r23.H, .slice ad28 r23.Bits.length cp29], eBox b31 24 [iv r14.W, iv r14.H, .slice ad19 r14.Bits.length cp20], eBox b30 24 [iv r5.W, iv r5.H, .slice ad10 r5.Bits.length cp11]] [fRep (rL rB) (.slice ad89 [true, false, true].length cp90) [true, false, true]] [0, 1, 2, 3, 4, 5, 6] [0] S (wN rfl) rfl callee39 rfl (by decide) rfl rfl (fun E1 w1 S1 => c_raddlelaw13_row E1 w1 [true, false, true] (.slice ad89 [true, false, true].length cp90) r91 hx92 S1) rfl (lb rfl) fun u93 a w S => ?_
  obtain ⟨u94, rfl, hu95⟩ := S.mem.know (i := 0) (e := fRep r_api_Grid (u93) r91) rfl
  have S := S.learn (fRep (rL rB) u94 r91.Bits) hu95
  obtain ⟨ad96, cp97, _, rfl, _⟩ := hu95
  refine sCall (X := Value) (f := 40) (vs := [iv 2, iv 1]) (val := c_raddleref01_Zero_val r50) (B' := fun _ => []) (D' := c_raddleref01_Zero_D r50) [] [eBox b87 24 [iv r80.1.W, iv r80.1.H, .slice ad85 r80.1.Bits.length cp86], eBox b78 24 [iv r71.1.W, iv r71.1.H, .slice ad76 r71.1.Bits.length cp77], eBox b69 24 [iv r62.1.W, iv r62.1.H, .slice ad67 r62.1.Bits.length cp68], eBox b41 24 [iv r34.1.W, iv r34.1.H, .slice ad39 r34.1.Bits.length cp40], eBox b32 24 [iv r23.W, iv r23.H, .slice ad28 r23.Bits.length cp29], eBox b31 24 [iv r14.W, iv r14.H, .slice ad19 r14.Bits.length cp20], eBox b30 24 [iv r5.W, iv r5.H, .slice ad10 r5.Bits.length cp11]] [] [0, 1, 2, 3, 4, 5, 6] [] S (wN rfl) rfl callee40 rfl (by decide) rfl rfl (fun E1 w1 S1 => c_raddleref01_Zero E1 w1 2 1 r50 hx51 S1) rfl (lb rfl) fun u98 a w S => ?_
  obtain ⟨u99, rfl, hu100⟩ := S.mem.know (i := 0) (e := fRep r_api_Grid (u98) r50) rfl
  have S := S.learn (fRep (rL rB) u99 r50.Bits) hu100
  obtain ⟨ad101, cp102, _, rfl, _⟩ := hu100
  refine sLit (r := rB) (T := 4) (xs := [true, true]) [(0, .bool true), (1, .bool true)] 2 [.bool true, .bool true] [.bool true, .bool true] (.bool false) 1 S (wN rfl) rfl rfl Try.underlying22 rfl (by decide) (by decide) (by kernel_rfl) rfl (fun E1 w1 hE => All.cons rfl (All.cons rfl (All.nil _ _ _))) rfl rfl (lb rfl) fun a w ad103 cp104 S => ?_
  obtain ⟨r105, hx106, h⟩ := bindSome h
  have hv_r105 : r105 = (api_Grid.mk 2 1 [true, true]) := Option.some.inj (hx106.symm.trans (by exact kc_raddlelaw13_BlockNames_10))
  have S := S.shutR (r := rB) (T := 4) (v := .slice ad103 [true, true].length cp104) (xs := [true, true]) 0 rfl
  refine sCall (X := Value) (f := 39) (vs := [.slice ad103 [true, true].length cp104]) (val := c_raddlelaw13_row_val r105) (B' := fun _ => []) (D' := c_raddlelaw13_row_D r105) [] [eBox b87 24 [iv r80.1.W, iv r80.1.H, .slice ad85 r80.1.Bits.length cp86], eBox b78 24 [iv r71.1.W, iv r71.1.H, .slice ad76 r71.1.Bits.length cp77], eBox b69 24 [iv r62.1.W, iv r62.1.H, .slice ad67 r62.1.Bits.length cp68], eBox b41 24 [iv r34.1.W, iv r34.1.H, .slice ad39 r34.1.Bits.length cp40], eBox b32 24 [iv r23.W, iv r23.H, .slice ad28 r23.Bits.length cp29], eBox b31 24 [iv r14.W, iv r14.H, .slice ad19 r14.Bits.length cp20], eBox b30 24 [iv r5.W, iv r5.H, .slice ad10 r5.Bits.length cp11]] [fRep (rL rB) (.slice ad103 [true, true].length cp104) [true, true]] [0, 1, 2, 3, 4, 5, 6] [0] S (wN rfl) rfl callee39 rfl (by decide) rfl rfl (fun E1 w1 S1 => c_raddlelaw13_row E1 w1 [true, true] (.slice ad103 [true, true].length cp104) r105 hx106 S1) rfl (lb rfl) fun u107 a w S => ?_
  obtain ⟨u108, rfl, hu109⟩ := S.mem.know (i := 0) (e := fRep r_api_Grid (u107) r105) rfl
  have S := S.learn (fRep (rL rB) u108 r105.Bits) hu109
  obtain ⟨ad110, cp111, _, rfl, _⟩ := hu109
  obtain ⟨r112, hx113, h⟩ := bindSome h
  have hv_r112 : r112 = ((api_Grid.mk 0 0 []), 26) := Option.some.inj (hx113.symm.trans (by rw [hv_r91, hv_r50, hv_r105]; exact kc_raddlelaw13_BlockNames_11))
  refine sCall (X := Value) (f := 15) (vs := [.agg #[iv r91.W, iv r91.H, .slice ad96 r91.Bits.length cp97], .agg #[iv r50.W, iv r50.H, .slice ad101 r50.Bits.length cp102], .agg #[iv r105.W, iv r105.H, .slice ad110 r105.Bits.length cp111]]) (val := c_block_Profile_val r112) (B' := fun _ => []) (D' := c_block_Profile_D r112) [] [eBox b87 24 [iv r80.1.W, iv r80.1.H, .slice ad85 r80.1.Bits.length cp86], eBox b78 24 [iv r71.1.W, iv r71.1.H, .slice ad76 r71.1.Bits.length cp77], eBox b69 24 [iv r62.1.W, iv r62.1.H, .slice ad67 r62.1.Bits.length cp68], eBox b41 24 [iv r34.1.W, iv r34.1.H, .slice ad39 r34.1.Bits.length cp40], eBox b32 24 [iv r23.W, iv r23.H, .slice ad28 r23.Bits.length cp29], eBox b31 24 [iv r14.W, iv r14.H, .slice ad19 r14.Bits.length cp20], eBox b30 24 [iv r5.W, iv r5.H, .slice ad10 r5.Bits.length cp11]] [fRep r_api_Grid (.agg #[iv r91.W, iv r91.H, .slice ad96 r91.Bits.length cp97]) r91, fRep r_api_Grid (.agg #[iv r50.W, iv r50.H, .slice ad101 r50.Bits.length cp102]) r50, fRep r_api_Grid (.agg #[iv r105.W, iv r105.H, .slice ad110 r105.Bits.length cp111]) r105] [0, 1, 2, 3, 4, 5, 6] [6, 4, 1] S (wN rfl) rfl callee15 rfl (by decide) rfl rfl (fun E1 w1 S1 => c_block_Profile E1 w1 r91 (.agg #[iv r91.W, iv r91.H, .slice ad96 r91.Bits.length cp97]) r50 (.agg #[iv r50.W, iv r50.H, .slice ad101 r50.Bits.length cp102]) r105 (.agg #[iv r105.W, iv r105.H, .slice ad110 r105.Bits.length cp111]) r112 hx113 S1) rfl (lb rfl) fun u114 a w S => ?_
  obtain ⟨u115, rfl, hu116⟩ := S.mem.know (i := 0) (e := fRep r_api_Grid (u114) r112.1) rfl
  have S := S.learn (fRep (rL rB) u115 r112.1.Bits) hu116
  obtain ⟨ad117, cp118, _, rfl, _⟩ := hu116
  refine sMove (.tuple #[.agg #[iv r112.1.W, iv r112.1.H, .slice ad117 r112.1.Bits.length cp118], iv r112.2]) S (wN rfl) (.inl rfl) rfl rfl (lb rfl) fun a S => ?_
  refine sExtract (vs := [.agg #[iv r112.1.W, iv r112.1.H, .slice ad117 r112.1.Bits.length cp118], iv r112.2]) (.agg #[iv r112.1.W, iv r112.1.H, .slice ad117 r112.1.Bits.length cp118]) S (wN rfl) rfl rfl rfl rfl (lb rfl) fun a S => ?_
  refine sExtract (vs := [.agg #[iv r112.1.W, iv r112.1.H, .slice ad117 r112.1.Bits.length cp118], iv r112.2]) (iv r112.2) S (wN rfl) rfl rfl rfl rfl (lb rfl) fun a S => ?_
  refine sAlloc (.agg #[iv 0, iv 0, .slice none 0 0]) S (wN rfl) rfl rfl [iv 0, iv 0, .slice none 0 0] rfl rfl (lb rfl) fun a b119 w S => ?_
  refine sStore (p := b119) (off := 0) (T := 24) (vs := [iv 0, iv 0, .slice none 0 0]) (v := .agg #[iv r112.1.W, iv r112.1.H, .slice ad117 r112.1.Bits.length cp118]) 0 [iv r112.1.W, iv r112.1.H, .slice ad117 r112.1.Bits.length cp118] S (wN rfl) rfl rfl rfl rfl rfl rfl rfl (by simp) rfl fun a w S => ?_
  refine sMove (iv r112.2) S (wN rfl) (.inr rfl) rfl rfl (lb rfl) fun a S => ?_
  refine leafL (leafT (hK88 _ _ ?_))
  refine sSeq (fun K120 hK120 => ?_)
  refine sRegion ?_
  refine sLit (r := rB) (T := 4) (xs := [true, false]) [(0, .bool true), (1, .bool false)] 2 [.bool true, .bool false] [.bool true, .bool false] (.bool false) 1 S (wN rfl) rfl rfl Try.underlying22 rfl (by decide) (by decide) (by kernel_rfl) rfl (fun E1 w1 hE => All.cons rfl (All.cons rfl (All.nil _ _ _))) rfl rfl (lb rfl) fun a w ad121 cp122 S => ?_
  have S := S.shutR (r := rB) (T := 4) (v := .slice ad121 [true, false].length cp122) (xs := [true, false]) 0 rfl
  refine sCall (X := Value) (f := 39) (vs := [.slice ad121 [true, false].length cp122]) (val := c_raddlelaw13_row_val r5) (B' := fun _ => []) (D' := c_raddlelaw13_row_D r5) [] [eBox b119 24 [iv r112.1.W, iv r112.1.H, .slice ad117 r112.1.Bits.length cp118], eBox b87 24 [iv r80.1.W, iv r80.1.H, .slice ad85 r80.1.Bits.length cp86], eBox b78 24 [iv r71.1.W, iv r71.1.H, .slice ad76 r71.1.Bits.length cp77], eBox b69 24 [iv r62.1.W, iv r62.1.H, .slice ad67 r62.1.Bits.length cp68], eBox b41 24 [iv r34.1.W, iv r34.1.H, .slice ad39 r34.1.Bits.length cp40], eBox b32 24 [iv r23.W, iv r23.H, .slice ad28 r23.Bits.length cp29], eBox b31 24 [iv r14.W, iv r14.H, .slice ad19 r14.Bits.length cp20], eBox b30 24 [iv r5.W, iv r5.H, .slice ad10 r5.Bits.length cp11]] [fRep (rL rB) (.slice ad121 [true, false].length cp122) [true, false]] [0, 1, 2, 3, 4, 5, 6, 7] [0] S (wN rfl) rfl callee39 rfl (by decide) rfl rfl (fun E1 w1 S1 => c_raddlelaw13_row E1 w1 [true, false] (.slice ad121 [true, false].length cp122) r5 hx6 S1) rfl (lb rfl) fun u123 a w S => ?_
  obtain ⟨u124, rfl, hu125⟩ := S.mem.know (i := 0) (e := fRep r_api_Grid (u123) r5) rfl
  have S := S.learn (fRep (rL rB) u124 r5.Bits) hu125
  obtain ⟨ad126, cp127, _, rfl, _⟩ := hu125
  refine sCall (X := Value) (f := 40) (vs := [iv 2, iv 1]) (val := c_raddleref01_Zero_val r50) (B' := fun _ => []) (D' := c_raddleref01_Zero_D r50) [] [eBox b119 24 [iv r112.1.W, iv r112.1.H, .slice ad117 r112.1.Bits.length cp118], eBox b87 24 [iv r80.1.W, iv r80.1.H, .slice ad85 r80.1.Bits.length cp86], eBox b78 24 [iv r71.1.W, iv r71.1.H, .slice ad76 r71.1.Bits.length cp77], eBox b69 24 [iv r62.1.W, iv r62.1.H, .slice ad67 r62.1.Bits.length cp68], eBox b41 24 [iv r34.1.W, iv r34.1.H, .slice ad39 r34.1.Bits.length cp40], eBox b32 24 [iv r23.W, iv r23.H, .slice ad28 r23.Bits.length cp29], eBox b31 24 [iv r14.W, iv r14.H, .slice ad19 r14.Bits.length cp20], eBox b30 24 [iv r5.W, iv r5.H, .slice ad10 r5.Bits.length cp11]] [] [0, 1, 2, 3, 4, 5, 6, 7] [] S (wN rfl) rfl callee40 rfl (by decide) rfl rfl (fun E1 w1 S1 => c_raddleref01_Zero E1 w1 2 1 r50 hx51 S1) rfl (lb rfl) fun u128 a w S => ?_
  obtain ⟨u129, rfl, hu130⟩ := S.mem.know (i := 0) (e := fRep r_api_Grid (u128) r50) rfl
  have S := S.learn (fRep (rL rB) u129 r50.Bits) hu130
  obtain ⟨ad131, cp132, _, rfl, _⟩ := hu130
  refine sLit (r := rB) (T := 4) (xs := [true, true]) [(0, .bool true), (1, .bool true)] 2 [.bool true, .bool true] [.bool true, .bool true] (.bool false) 1 S (wN rfl) rfl rfl Try.underlying22 rfl (by decide) (by decide) (by kernel_rfl) rfl (fun E1 w1 hE => All.cons rfl (All.cons rfl (All.nil _ _ _))) rfl rfl (lb rfl) fun a w ad133 cp134 S => ?_
  have S := S.shutR (r := rB) (T := 4) (v := .slice ad133 [true, true].length cp134) (xs := [true, true]) 0 rfl
  refine sCall (X := Value) (f := 39) (vs := [.slice ad133 [true, true].length cp134]) (val := c_raddlelaw13_row_val r105) (B' := fun _ => []) (D' := c_raddlelaw13_row_D r105) [] [eBox b119 24 [iv r112.1.W, iv r112.1.H, .slice ad117 r112.1.Bits.length cp118], eBox b87 24 [iv r80.1.W, iv r80.1.H, .slice ad85 r80.1.Bits.length cp86], eBox b78 24 [iv r71.1.W, iv r71.1.H, .slice ad76 r71.1.Bits.length cp77], eBox b69 24 [iv r62.1.W, iv r62.1.H, .slice ad67 r62.1.Bits.length cp68], eBox b41 24 [iv r34.1.W, iv r34.1.H, .slice ad39 r34.1.Bits.length cp40], eBox b32 24 [iv r23.W, iv r23.H, .slice ad28 r23.Bits.length cp29], eBox b31 24 [iv r14.W, iv r14.H, .slice ad19 r14.Bits.length cp20], eBox b30 24 [iv r5.W, iv r5.H, .slice ad10 r5.Bits.length cp11]] [fRep (rL rB) (.slice ad133 [true, true].length cp134) [true, true]] [0, 1, 2, 3, 4, 5, 6, 7] [0] S (wN rfl) rfl callee39 rfl (by decide) rfl rfl (fun E1 w1 S1 => c_raddlelaw13_row E1 w1 [true, true] (.slice ad133 [true, true].length cp134) r105 hx106 S1) rfl (lb rfl) fun u135 a w S => ?_
  obtain ⟨u136, rfl, hu137⟩ := S.mem.know (i := 0) (e := fRep r_api_Grid (u135) r105) rfl
  have S := S.learn (fRep (rL rB) u136 r105.Bits) hu137
  obtain ⟨ad138, cp139, _, rfl, _⟩ := hu137
  obtain ⟨r140, hx141, h⟩ := bindSome h
  have hv_r140 : r140 = ((api_Grid.mk 0 0 []), 6) := Option.some.inj (hx141.symm.trans (by rw [hv_r5, hv_r50, hv_r105]; exact kc_raddlelaw13_BlockNames_12))
  refine sCall (X := Value) (f := 15) (vs := [.agg #[iv r5.W, iv r5.H, .slice ad126 r5.Bits.length cp127], .agg #[iv r50.W, iv r50.H, .slice ad131 r50.Bits.length cp132], .agg #[iv r105.W, iv r105.H, .slice ad138 r105.Bits.length cp139]]) (val := c_block_Profile_val r140) (B' := fun _ => []) (D' := c_block_Profile_D r140) [] [eBox b119 24 [iv r112.1.W, iv r112.1.H, .slice ad117 r112.1.Bits.length cp118], eBox b87 24 [iv r80.1.W, iv r80.1.H, .slice ad85 r80.1.Bits.length cp86], eBox b78 24 [iv r71.1.W, iv r71.1.H, .slice ad76 r71.1.Bits.length cp77], eBox b69 24 [iv r62.1.W, iv r62.1.H, .slice ad67 r62.1.Bits.length cp68], eBox b41 24 [iv r34.1.W, iv r34.1.H, .slice ad39 r34.1.Bits.length cp40], eBox b32 24 [iv r23.W, iv r23.H, .slice ad28 r23.Bits.length cp29], eBox b31 24 [iv r14.W, iv r14.H, .slice ad19 r14.Bits.length cp20], eBox b30 24 [iv r5.W, iv r5.H, .slice ad10 r5.Bits.length cp11]] [fRep r_api_Grid (.agg #[iv r5.W, iv r5.H, .slice ad126 r5.Bits.length cp127]) r5, fRep r_api_Grid (.agg #[iv r50.W, iv r50.H, .slice ad131 r50.Bits.length cp132]) r50, fRep r_api_Grid (.agg #[iv r105.W, iv r105.H, .slice ad138 r105.Bits.length cp139]) r105] [0, 1, 2, 3, 4, 5, 6, 7] [6, 4, 1] S (wN rfl) rfl callee15 rfl (by decide) rfl rfl (fun E1 w1 S1 => c_block_Profile E1 w1 r5 (.agg #[iv r5.W, iv r5.H, .slice ad126 r5.Bits.length cp127]) r50 (.agg #[iv r50.W, iv r50.H, .slice ad131 r50.Bits.length cp132]) r105 (.agg #[iv r105.W, iv r105.H, .slice ad138 r105.Bits.length cp139]) r140 hx141 S1) rfl (lb rfl) fun u142 a w S => ?_
  obtain ⟨u143, rfl, hu144⟩ := S.mem.know (i := 0) (e := fRep r_api_Grid (u142) r140.1) rfl
  have S := S.learn (fRep (rL rB) u143 r140.1.Bits) hu144
  obtain ⟨ad145, cp146, _, rfl, _⟩ := hu144
  refine sMove (.tuple #[.agg #[iv r140.1.W, iv r140.1.H, .slice ad145 r140.1.Bits.length cp146], iv r140.2]) S (wN rfl) (.inl rfl) rfl rfl (lb rfl) fun a S => ?_
  refine sExtract (vs := [.agg #[iv r140.1.W, iv r140.1.H, .slice ad145 r140.1.Bits.length cp146], iv r140.2]) (.agg #[iv r140.1.W, iv r140.1.H, .slice ad145 r140.1.Bits.length cp146]) S (wN rfl) rfl rfl rfl rfl (lb rfl) fun a S => ?_
  refine sExtract (vs := [.agg #[iv r140.1.W, iv r140.1.H, .slice ad145 r140.1.Bits.length cp146], iv r140.2]) (iv r140.2) S (wN rfl) rfl rfl rfl rfl (lb rfl) fun a S => ?_
  refine sAlloc (.agg #[iv 0, iv 0, .slice none 0 0]) S (wN rfl) rfl rfl [iv 0, iv 0, .slice none 0 0] rfl rfl (lb rfl) fun a b147 w S => ?_
  refine sStore (p := b147) (off := 0) (T := 24) (vs := [iv 0, iv 0, .slice none 0 0]) (v := .agg #[iv r140.1.W, iv r140.1.H, .slice ad145 r140.1.Bits.length cp146]) 0 [iv r140.1.W, iv r140.1.H, .slice ad145 r140.1.Bits.length cp146] S (wN rfl) rfl rfl rfl rfl rfl rfl rfl (by simp) rfl fun a w S => ?_
  refine sMove (iv r140.2) S (wN rfl) (.inr rfl) rfl rfl (lb rfl) fun a S => ?_
  refine leafL (leafT (hK120 _ _ ?_))
  refine sSeq (fun K148 hK148 => ?_)
  refine sRegion ?_
  refine sLoadN (p := b30) (off := 0) (T := 24) (vs := [iv r5.W, iv r5.H, .slice ad10 r5.Bits.length cp11]) 8 [iv r5.W, iv r5.H, .slice ad10 r5.Bits.length cp11] S (wN rfl) rfl rfl rfl rfl rfl rfl rfl (lb rfl) fun a S => ?_
  obtain ⟨r149, hx150, h⟩ := bindSome h
  have hv_r149 : r149 = ([], ([], 26)) := Option.some.inj (hx150.symm.trans (by rw [hv_r5]; exact kc_raddlelaw13_BlockNames_13))
  refine sCall (X := Value × Value) (f := 19) (vs := [.agg #[iv r5.W, iv r5.H, .slice ad10 r5.Bits.length cp11], iv 0, iv 1]) (val := c_block_Units_val r149) (B' := fun _ => []) (D' := c_block_Units_D r149) [] [eBox b147 24 [iv r140.1.W, iv r140.1.H, .slice ad145 r140.1.Bits.length cp146], eBox b119 24 [iv r112.1.W, iv r112.1.H, .slice ad117 r112.1.Bits.length cp118], eBox b87 24 [iv r80.1.W, iv r80.1.H, .slice ad85 r80.1.Bits.length cp86], eBox b78 24 [iv r71.1.W, iv r71.1.H, .slice ad76 r71.1.Bits.length cp77], eBox b69 24 [iv r62.1.W, iv r62.1.H, .slice ad67 r62.1.Bits.length cp68], eBox b41 24 [iv r34.1.W, iv r34.1.H, .slice ad39 r34.1.Bits.length cp40], eBox b32 24 [iv r23.W, iv r23.H, .slice ad28 r23.Bits.length cp29], eBox b31 24 [iv r14.W, iv r14.H, .slice ad19 r14.Bits.length cp20], eBox b30 24 [iv r5.W, iv r5.H, .slice ad10 r5.Bits.length cp11]] [fRep r_api_Grid (.agg #[iv r5.W, iv r5.H, .slice ad10 r5.Bits.length cp11]) r5] [0, 1, 2, 3, 4, 5, 6, 7, 8] [43] S (wN rfl) rfl callee19 rfl (by decide) rfl rfl (fun E1 w1 S1 => c_block_Units E1 w1 r5 (.agg #[iv r5.W, iv r5.H, .slice ad10 r5.Bits.length cp11]) 0 1 r149 hx150 S1) rfl (lb rfl) fun xx a w S => ?_
  obtain ⟨u151, u152⟩ := xx
  obtain ⟨ad153, cp154, _, rfl, _⟩ := S.mem.know (i := 0) (e := fRep (rL r_api_Grid) (u151) r149.1) rfl
  obtain ⟨ad155, cp156, _, rfl, _⟩ := S.mem.know (i := 1) (e := fRep (rL (rI .i64)) (u152) r149.2.1) rfl
  refine sMove (.tuple #[.slice ad153 r149.1.length cp154, .slice ad155 r149.2.1.length cp156, iv r149.2.2]) S (wN rfl) (.inl rfl) rfl rfl (lb rfl) fun a S => ?_
  refine sExtract (vs := [.slice ad153 r149.1.length cp154, .slice ad155 r149.2.1.length cp156, iv r149.2.2]) (.slice ad153 r149.1.length cp154) S (wN rfl) rfl rfl rfl rfl (lb rfl) fun a S => ?_
  refine sExtract (vs := [.slice ad153 r149.1.length cp154, .slice ad155 r149.2.1.length cp156, iv r149.2.2]) (.slice ad155 r149.2.1.length cp156) S (wN rfl) rfl rfl rfl rfl (lb rfl) fun a S => ?_
  refine sExtract (vs := [.slice ad153 r149.1.length cp154, .slice ad155 r149.2.1.length cp156, iv r149.2.2]) (iv r149.2.2) S (wN rfl) rfl rfl rfl rfl (lb rfl) fun a S => ?_
  refine sMove (.slice ad153 r149.1.length cp154) S (wN rfl) (.inr rfl) rfl rfl (lb rfl) fun a S => ?_
  refine sMove (.slice ad155 r149.2.1.length cp156) S (wN rfl) (.inr rfl) rfl rfl (lb rfl) fun a S => ?_
  refine sMove (iv r149.2.2) S (wN rfl) (.inr rfl) rfl rfl (lb rfl) fun a S => ?_
  refine leafL (leafT (hK148 _ _ ?_))
  refine sSeq (fun K157 hK157 => ?_)
  refine sRegion ?_
  refine sLoadN (p := b30) (off := 0) (T := 24) (vs := [iv r5.W, iv r5.H, .slice ad10 r5.Bits.length cp11]) 8 [iv r5.W, iv r5.H, .slice ad10 r5.Bits.length cp11] S (wN rfl) rfl rfl rfl rfl rfl rfl rfl (lb rfl) fun a S => ?_
  obtain ⟨r158, hx159, h⟩ := bindSome h
  have hv_r158 : r158 = ([], ([], 26)) := Option.some.inj (hx159.symm.trans (by rw [hv_r5]; exact kc_raddlelaw13_BlockNames_14))
  refine sCall (X := Value × Value) (f := 19) (vs := [.agg #[iv r5.W, iv r5.H, .slice ad10 r5.Bits.length cp11], iv 2, iv 2]) (val := c_block_Units_val r158) (B' := fun _ => []) (D' := c_block_Units_D r158) [] [eBox b147 24 [iv r140.1.W, iv r140.1.H, .slice ad145 r140.1.Bits.length cp146], eBox b119 24 [iv r112.1.W, iv r112.1.H, .slice ad117 r112.1.Bits.length cp118], eBox b87 24 [iv r80.1.W, iv r80.1.H, .slice ad85 r80.1.Bits.length cp86], eBox b78 24 [iv r71.1.W, iv r71.1.H, .slice ad76 r71.1.Bits.length cp77], eBox b69 24 [iv r62.1.W, iv r62.1.H, .slice ad67 r62.1.Bits.length cp68], eBox b41 24 [iv r34.1.W, iv r34.1.H, .slice ad39 r34.1.Bits.length cp40], eBox b32 24 [iv r23.W, iv r23.H, .slice ad28 r23.Bits.length cp29], eBox b31 24 [iv r14.W, iv r14.H, .slice ad19 r14.Bits.length cp20], eBox b30 24 [iv r5.W, iv r5.H, .slice ad10 r5.Bits.length cp11]] [fRep r_api_Grid (.agg #[iv r5.W, iv r5.H, .slice ad10 r5.Bits.length cp11]) r5] [0, 1, 2, 3, 4, 5, 6, 7, 8] [45] S (wN rfl) rfl callee19 rfl (by decide) rfl rfl (fun E1 w1 S1 => c_block_Units E1 w1 r5 (.agg #[iv r5.W, iv r5.H, .slice ad10 r5.Bits.length cp11]) 2 2 r158 hx159 S1) rfl (lb rfl) fun xx a w S => ?_
  obtain ⟨u160, u161⟩ := xx
  obtain ⟨ad162, cp163, _, rfl, _⟩ := S.mem.know (i := 0) (e := fRep (rL r_api_Grid) (u160) r158.1) rfl
  obtain ⟨ad164, cp165, _, rfl, _⟩ := S.mem.know (i := 1) (e := fRep (rL (rI .i64)) (u161) r158.2.1) rfl
  refine sMove (.tuple #[.slice ad162 r158.1.length cp163, .slice ad164 r158.2.1.length cp165, iv r158.2.2]) S (wN rfl) (.inl rfl) rfl rfl (lb rfl) fun a S => ?_
  refine sExtract (vs := [.slice ad162 r158.1.length cp163, .slice ad164 r158.2.1.length cp165, iv r158.2.2]) (.slice ad162 r158.1.length cp163) S (wN rfl) rfl rfl rfl rfl (lb rfl) fun a S => ?_
  refine sExtract (vs := [.slice ad162 r158.1.length cp163, .slice ad164 r158.2.1.length cp165, iv r158.2.2]) (.slice ad164 r158.2.1.length cp165) S (wN rfl) rfl rfl rfl rfl (lb rfl) fun a S => ?_
  refine sExtract (vs := [.slice ad162 r158.1.length cp163, .slice ad164 r158.2.1.length cp165, iv r158.2.2]) (iv r158.2.2) S (wN rfl) rfl rfl rfl rfl (lb rfl) fun a S => ?_
  refine sMove (.slice ad162 r158.1.length cp163) S (wN rfl) (.inr rfl) rfl rfl (lb rfl) fun a S => ?_
  refine sMove (.slice ad164 r158.2.1.length cp165) S (wN rfl) (.inr rfl) rfl rfl (lb rfl) fun a S => ?_
  refine sMove (iv r158.2.2) S (wN rfl) (.inr rfl) rfl rfl (lb rfl) fun a S => ?_
  refine leafL (leafT (hK157 _ _ ?_))
  refine sSeq (fun K166 hK166 => ?_)
  refine sRegion ?_
  refine sLit (r := (rI .i64)) (T := 3) (xs := ([0] : List Int)) [(0, iv 0)] 1 [iv 0] [iv 0] (iv 0) 8 S (wN rfl) rfl rfl Try.underlying35 rfl (by decide) (by decide) (by kernel_rfl) rfl (fun E1 w1 hE => All.cons rfl (All.nil _ _ _)) rfl rfl (lb rfl) fun a w ad167 cp168 S => ?_
  obtain ⟨r169, hx170, h⟩ := bindSome h
  have hv_r169 : r169 = ((api_Grid.mk 0 0 []), 6) := Option.some.inj (hx170.symm.trans (by exact kc_raddlelaw13_BlockNames_15))
  have S := S.learn (fRep (rL r_api_Grid) (.slice none 0 0) ([] : (List api_Grid))) (rL_nil _ _ _)
  have S := S.shutR (r := (rI .i64)) (T := 3) (v := .slice ad167 ([0] : List Int).length cp168) (xs := ([0] : List Int)) 0 rfl
  refine sCall (X := Value) (f := 21) (vs := [.slice none 0 0, .slice ad167 ([0] : List Int).length cp168, iv 1]) (val := c_block_Join_val r169) (B' := fun _ => []) (D' := c_block_Join_D r169) [] [eBox b147 24 [iv r140.1.W, iv r140.1.H, .slice ad145 r140.1.Bits.length cp146], eBox b119 24 [iv r112.1.W, iv r112.1.H, .slice ad117 r112.1.Bits.length cp118], eBox b87 24 [iv r80.1.W, iv r80.1.H, .slice ad85 r80.1.Bits.length cp86], eBox b78 24 [iv r71.1.W, iv r71.1.H, .slice ad76 r71.1.Bits.length cp77], eBox b69 24 [iv r62.1.W, iv r62.1.H, .slice ad67 r62.1.Bits.length cp68], eBox b41 24 [iv r34.1.W, iv r34.1.H, .slice ad39 r34.1.Bits.length cp40], eBox b32 24 [iv r23.W, iv r23.H, .slice ad28 r23.Bits.length cp29], eBox b31 24 [iv r14.W, iv r14.H, .slice ad19 r14.Bits.length cp20], eBox b30 24 [iv r5.W, iv r5.H, .slice ad10 r5.Bits.length cp11]] [fRep (rL r_api_Grid) (.slice none 0 0) ([] : (List api_Grid)), fRep (rL (rI .i64)) (.slice ad167 ([0] : List Int).length cp168) ([0] : List Int)] [0, 1, 2, 3, 4, 5, 6, 7, 8] [1, 0] S (wN rfl) rfl callee21 rfl (by decide) rfl rfl (fun E1 w1 S1 => c_block_Join E1 w1 ([] : (List api_Grid)) (.slice none 0 0) ([0] : List Int) (.slice ad167 ([0] : List Int).length cp168) 1 r169 hx170 S1) rfl (lb rfl) fun u171 a w S => ?_
  obtain ⟨u172, rfl, hu173⟩ := S.mem.know (i := 0) (e := fRep r_api_Grid (u171) r169.1) rfl
  have S := S.learn (fRep (rL rB) u172 r169.1.Bits) hu173
  obtain ⟨ad174, cp175, _, rfl, _⟩ := hu173
  refine sMove (.tuple #[.agg #[iv r169.1.W, iv r169.1.H, .slice ad174 r169.1.Bits.length cp175], iv r169.2]) S (wN rfl) (.inl rfl) rfl rfl (lb rfl) fun a S => ?_
  refine sExtract (vs := [.agg #[iv r169.1.W, iv r169.1.H, .slice ad174 r169.1.Bits.length cp175], iv r169.2]) (.agg #[iv r169.1.W, iv r169.1.H, .slice ad174 r169.1.Bits.length cp175]) S (wN rfl) rfl rfl rfl rfl (lb rfl) fun a S => ?_
  refine sExtract (vs := [.agg #[iv r169.1.W, iv r169.1.H, .slice ad174 r169.1.Bits.length cp175], iv r169.2]) (iv r169.2) S (wN rfl) rfl rfl rfl rfl (lb rfl) fun a S => ?_
  refine sAlloc (.agg #[iv 0, iv 0, .slice none 0 0]) S (wN rfl) rfl rfl [iv 0, iv 0, .slice none 0 0] rfl rfl (lb rfl) fun a b176 w S => ?_
  refine sStore (p := b176) (off := 0) (T := 24) (vs := [iv 0, iv 0, .slice none 0 0]) (v := .agg #[iv r169.1.W, iv r169.1.H, .slice ad174 r169.1.Bits.length cp175]) 0 [iv r169.1.W, iv r169.1.H, .slice ad174 r169.1.Bits.length cp175] S (wN rfl) rfl rfl rfl rfl rfl rfl rfl (by simp) rfl fun a w S => ?_
  refine sMove (iv r169.2) S (wN rfl) (.inr rfl) rfl rfl (lb rfl) fun a S => ?_
  refine leafL (leafT (hK166 _ _ ?_))
  refine sSeq (fun K177 hK177 => ?_)
  refine sRegion ?_
  refine sLoadN (p := b31) (off := 0) (T := 24) (vs := [iv r14.W, iv r14.H, .slice ad19 r14.Bits.length cp20]) 8 [iv r14.W, iv r14.H, .slice ad19 r14.Bits.length cp20] S (wN rfl) rfl rfl rfl rfl rfl rfl rfl (lb rfl) fun a S => ?_
  refine sLoadN (p := b30) (off := 0) (T := 24) (vs := [iv r5.W, iv r5.H, .slice ad10 r5.Bits.length cp11]) 9 [iv r5.W, iv r5.H, .slice ad10 r5.Bits.length cp11] S (wN rfl) rfl rfl rfl rfl rfl rfl rfl (lb rfl) fun a S => ?_
  refine sLit (r := r_api_Grid) (T := 24) (xs := [r14, r5]) [(0, .agg #[iv r14.W, iv r14.H, .slice ad19 r14.Bits.length cp20]), (1, .agg #[iv r5.W, iv r5.H, .slice ad10 r5.Bits.length cp11])] 2 [.agg #[iv r14.W, iv r14.H, .slice ad19 r14.Bits.length cp20], .agg #[iv r5.W, iv r5.H, .slice ad10 r5.Bits.length cp11]] [iv r14.W, iv r14.H, .slice ad19 r14.Bits.length cp20, iv r5.W, iv r5.H, .slice ad10 r5.Bits.length cp11] (.agg #[iv 0, iv 0, .slice none 0 0]) 40 S (wN rfl) rfl rfl Try.underlying34 rfl (by decide) (by decide) (by kernel_rfl) rfl (fun E1 w1 hE => All.cons (r_api_Grid.mono hE (S.mem.know (i := 48) (e := fRep r_api_Grid (.agg #[iv r14.W, iv r14.H, .slice ad19 r14.Bits.length cp20]) r14) rfl)) (All.cons (r_api_Grid.mono hE (S.mem.know (i := 51) (e := fRep r_api_Grid (.agg #[iv r5.W, iv r5.H, .slice ad10 r5.Bits.length cp11]) r5) rfl)) (All.nil _ _ _))) rfl rfl (lb rfl) fun a w ad178 cp179 S => ?_
  refine sLit (r := (rI .i64)) (T := 3) (xs := ([0] : List Int)) [(0, iv 0)] 1 [iv 0] [iv 0] (iv 0) 8 S (wN rfl) rfl rfl Try.underlying35 rfl (by decide) (by decide) (by kernel_rfl) rfl (fun E1 w1 hE => All.cons rfl (All.nil _ _ _)) rfl rfl (lb rfl) fun a w ad180 cp181 S => ?_
  obtain ⟨r182, hx183, h⟩ := bindSome h
  have hv_r182 : r182 = ((api_Grid.mk 0 0 []), 26) := Option.some.inj (hx183.symm.trans (by rw [hv_r14, hv_r5]; exact kc_raddlelaw13_BlockNames_16))
  have S := S.shutR (r := r_api_Grid) (T := 24) (v := .slice ad178 [r14, r5].length cp179) (xs := [r14, r5]) 1 rfl
  have S := S.shutR (r := (rI .i64)) (T := 3) (v := .slice ad180 ([0] : List Int).length cp181) (xs := ([0] : List Int)) 0 rfl
  refine sCall (X := Value) (f := 21) (vs := [.slice ad178 [r14, r5].length cp179, .slice ad180 ([0] : List Int).length cp181, iv 1]) (val := c_block_Join_val r182) (B' := fun _ => []) (D' := c_block_Join_D r182) [] [eBox b176 24 [iv r169.1.W, iv r169.1.H, .slice ad174 r169.1.Bits.length cp175], eBox b147 24 [iv r140.1.W, iv r140.1.H, .slice ad145 r140.1.Bits.length cp146], eBox b119 24 [iv r112.1.W, iv r112.1.H, .slice ad117 r112.1.Bits.length cp118], eBox b87 24 [iv r80.1.W, iv r80.1.H, .slice ad85 r80.1.Bits.length cp86], eBox b78 24 [iv r71.1.W, iv r71.1.H, .slice ad76 r71.1.Bits.length cp77], eBox b69 24 [iv r62.1.W, iv r62.1.H, .slice ad67 r62.1.Bits.length cp68], eBox b41 24 [iv r34.1.W, iv r34.1.H, .slice ad39 r34.1.Bits.length cp40], eBox b32 24 [iv r23.W, iv r23.H, .slice ad28 r23.Bits.length cp29], eBox b31 24 [iv r14.W, iv r14.H, .slice ad19 r14.Bits.length cp20], eBox b30 24 [iv r5.W, iv r5.H, .slice ad10 r5.Bits.length cp11]] [fRep (rL r_api_Grid) (.slice ad178 [r14, r5].length cp179) [r14, r5], fRep (rL (rI .i64)) (.slice ad180 ([0] : List Int).length cp181) ([0] : List Int)] [0, 1, 2, 3, 4, 5, 6, 7, 8, 9] [1, 0] S (wN rfl) rfl callee21 rfl (by decide) rfl rfl (fun E1 w1 S1 => c_block_Join E1 w1 [r14, r5] (.slice ad178 [r14, r5].length cp179) ([0] : List Int) (.slice ad180 ([0] : List Int).length cp181) 1 r182 hx183 S1) rfl (lb rfl) fun u184 a w S => ?_
  obtain ⟨u185, rfl, hu186⟩ := S.mem.know (i := 0) (e := fRep r_api_Grid (u184) r182.1) rfl
  have S := S.learn (fRep (rL rB) u185 r182.1.Bits) hu186
  obtain ⟨ad187, cp188, _, rfl, _⟩ := hu186
  refine sMove (.tuple #[.agg #[iv r182.1.W, iv r182.1.H, .slice ad187 r182.1.Bits.length cp188], iv r182.2]) S (wN rfl) (.inl rfl) rfl rfl (lb rfl) fun a S => ?_
  refine sExtract (vs := [.agg #[iv r182.1.W, iv r182.1.H, .slice ad187 r182.1.Bits.length cp188], iv r182.2]) (.agg #[iv r182.1.W, iv r182.1.H, .slice ad187 r182.1.Bits.length cp188]) S (wN rfl) rfl rfl rfl rfl (lb rfl) fun a S => ?_
  refine sExtract (vs := [.agg #[iv r182.1.W, iv r182.1.H, .slice ad187 r182.1.Bits.length cp188], iv r182.2]) (iv r182.2) S (wN rfl) rfl rfl rfl rfl (lb rfl) fun a S => ?_
  refine sAlloc (.agg #[iv 0, iv 0, .slice none 0 0]) S (wN rfl) rfl rfl [iv 0, iv 0, .slice none 0 0] rfl rfl (lb rfl) fun a b189 w S => ?_
  refine sStore (p := b189) (off := 0) (T := 24) (vs := [iv 0, iv 0, .slice none 0 0]) (v := .agg #[iv r182.1.W, iv r182.1.H, .slice ad187 r182.1.Bits.length cp188]) 0 [iv r182.1.W, iv r182.1.H, .slice ad187 r182.1.Bits.length cp188] S (wN rfl) rfl rfl rfl rfl rfl rfl rfl (by simp) rfl fun a w S => ?_
  refine sMove (iv r182.2) S (wN rfl) (.inr rfl) rfl rfl (lb rfl) fun a S => ?_
  refine leafL (leafT (hK177 _ _ ?_))
  refine sSeq (fun K190 hK190 => ?_)
  refine sRegion ?_
  refine sLoadN (p := b31) (off := 0) (T := 24) (vs := [iv r14.W, iv r14.H, .slice ad19 r14.Bits.length cp20]) 9 [iv r14.W, iv r14.H, .slice ad19 r14.Bits.length cp20] S (wN rfl) rfl rfl rfl rfl rfl rfl rfl (lb rfl) fun a S => ?_
  refine sLit (r := r_api_Grid) (T := 24) (xs := [r14]) [(0, .agg #[iv r14.W, iv r14.H, .slice ad19 r14.Bits.length cp20])] 1 [.agg #[iv r14.W, iv r14.H, .slice ad19 r14.Bits.length cp20]] [iv r14.W, iv r14.H, .slice ad19 r14.Bits.length cp20] (.agg #[iv 0, iv 0, .slice none 0 0]) 40 S (wN rfl) rfl rfl Try.underlying34 rfl (by decide) (by decide) (by kernel_rfl) rfl (fun E1 w1 hE => All.cons (r_api_Grid.mono hE (S.mem.know (i := 52) (e := fRep r_api_Grid (.agg #[iv r14.W, iv r14.H, .slice ad19 r14.Bits.length cp20]) r14) rfl)) (All.nil _ _ _)) rfl rfl (lb rfl) fun a w ad191 cp192 S => ?_
  obtain ⟨r193, hx194, h⟩ := bindSome h
  have hv_r193 : r193 = ((api_Grid.mk 0 0 []), 26) := Option.some.inj (hx194.symm.trans (by rw [hv_r14]; exact kc_raddlelaw13_BlockNames_17))
  have S := S.shutR (r := r_api_Grid) (T := 24) (v := .slice ad191 [r14].length cp192) (xs := [r14]) 0 rfl
  have S := S.learn (fRep (rL (rI .i64)) (.slice none 0 0) ([] : (List Int))) (rL_nil _ _ _)
  refine sCall (X := Value) (f := 21) (vs := [.slice ad191 [r14].length cp192, .slice none 0 0, iv 1]) (val := c_block_Join_val r193) (B' := fun _ => []) (D' := c_block_Join_D r193) [] [eBox b189 24 [iv r182.1.W, iv r182.1.H, .slice ad187 r182.1.Bits.length cp188], eBox b176 24 [iv r169.1.W, iv r169.1.H, .slice ad174 r169.1.Bits.length cp175], eBox b147 24 [iv r140.1.W, iv r140.1.H, .slice ad145 r140.1.Bits.length cp146], eBox b119 24 [iv r112.1.W, iv r112.1.H, .slice ad117 r112.1.Bits.length cp118], eBox b87 24 [iv r80.1.W, iv r80.1.H, .slice ad85 r80.1.Bits.length cp86], eBox b78 24 [iv r71.1.W, iv r71.1.H, .slice ad76 r71.1.Bits.length cp77], eBox b69 24 [iv r62.1.W, iv r62.1.H, .slice ad67 r62.1.Bits.length cp68], eBox b41 24 [iv r34.1.W, iv r34.1.H, .slice ad39 r34.1.Bits.length cp40], eBox b32 24 [iv r23.W, iv r23.H, .slice ad28 r23.Bits.length cp29], eBox b31 24 [iv r14.W, iv r14.H, .slice ad19 r14.Bits.length cp20], eBox b30 24 [iv r5.W, iv r5.H, .slice ad10 r5.Bits.length cp11]] [fRep (rL r_api_Grid) (.slice ad191 [r14].length cp192) [r14], fRep (rL (rI .i64)) (.slice none 0 0) ([] : (List Int))] [0, 1, 2, 3, 4, 5, 6, 7, 8, 9, 10] [1, 0] S (wN rfl) rfl callee21 rfl (by decide) rfl rfl (fun E1 w1 S1 => c_block_Join E1 w1 [r14] (.slice ad191 [r14].length cp192) ([] : (List Int)) (.slice none 0 0) 1 r193 hx194 S1) rfl (lb rfl) fun u195 a w S => ?_
  obtain ⟨u196, rfl, hu197⟩ := S.mem.know (i := 0) (e := fRep r_api_Grid (u195) r193.1) rfl
  have S := S.learn (fRep (rL rB) u196 r193.1.Bits) hu197
  obtain ⟨ad198, cp199, _, rfl, _⟩ := hu197
  refine sMove (.tuple #[.agg #[iv r193.1.W, iv r193.1.H, .slice ad198 r193.1.Bits.length cp199], iv r193.2]) S (wN rfl) (.inl rfl) rfl rfl (lb rfl) fun a S => ?_
  refine sExtract (vs := [.agg #[iv r193.1.W, iv r193.1.H, .slice ad198 r193.1.Bits.length cp199], iv r193.2]) (.agg #[iv r193.1.W, iv r193.1.H, .slice ad198 r193.1.Bits.length cp199]) S (wN rfl) rfl rfl rfl rfl (lb rfl) fun a S => ?_
  refine sExtract (vs := [.agg #[iv r193.1.W, iv r193.1.H, .slice ad198 r193.1.Bits.length cp199], iv r193.2]) (iv r193.2) S (wN rfl) rfl rfl rfl rfl (lb rfl) fun a S => ?_
  refine sAlloc (.agg #[iv 0, iv 0, .slice none 0 0]) S (wN rfl) rfl rfl [iv 0, iv 0, .slice none 0 0] rfl rfl (lb rfl) fun a b200 w S => ?_
  refine sStore (p := b200) (off := 0) (T := 24) (vs := [iv 0, iv 0, .slice none 0 0]) (v := .agg #[iv r193.1.W, iv r193.1.H, .slice ad198 r193.1.Bits.length cp199]) 0 [iv r193.1.W, iv r193.1.H, .slice ad198 r193.1.Bits.length cp199] S (wN rfl) rfl rfl rfl rfl rfl rfl rfl (by simp) rfl fun a w S => ?_
  refine sMove (iv r193.2) S (wN rfl) (.inr rfl) rfl rfl (lb rfl) fun a S => ?_
  refine leafL (leafT (hK190 _ _ ?_))
  refine sSeq (fun K201 hK201 => ?_)
  refine sRegion ?_
  refine sLoadN (p := b31) (off := 0) (T := 24) (vs := [iv r14.W, iv r14.H, .slice ad19 r14.Bits.length cp20]) 10 [iv r14.W, iv r14.H, .slice ad19 r14.Bits.length cp20] S (wN rfl) rfl rfl rfl rfl rfl rfl rfl (lb rfl) fun a S => ?_
  refine sLit (r := r_api_Grid) (T := 24) (xs := [r14]) [(0, .agg #[iv r14.W, iv r14.H, .slice ad19 r14.Bits.length cp20])] 1 [.agg #[iv r14.W, iv r14.H, .slice ad19 r14.Bits.length cp20]] [iv r14.W, iv r14.H, .slice ad19 r14.Bits.length cp20] (.agg #[iv 0, iv 0, .slice none 0 0]) 40 S (wN rfl) rfl rfl Try.underlying34 rfl (by decide) (by decide) (by kernel_rfl) rfl (fun E1 w1 hE => All.cons (r_api_Grid.mono hE (S.mem.know (i := 56) (e := fRep r_api_Grid (.agg #[iv r14.W, iv r14.H, .slice ad19 r14.Bits.length cp20]) r14) rfl)) (All.nil _ _ _)) rfl rfl (lb rfl) fun a w ad202 cp203 S => ?_
  refine sLit (r := (rI .i64)) (T := 3) (xs := ([1] : List Int)) [(0, iv 1)] 1 [iv 1] [iv 1] (iv 0) 8 S (wN rfl) rfl rfl Try.underlying35 rfl (by decide) (by decide) (by kernel_rfl) rfl (fun E1 w1 hE => All.cons rfl (All.nil _ _ _)) rfl rfl (lb rfl) fun a w ad204 cp205 S => ?_
  obtain ⟨r206, hx207, h⟩ := bindSome h
  have hv_r206 : r206 = ((api_Grid.mk 0 0 []), 8) := Option.some.inj (hx207.symm.trans (by rw [hv_r14]; exact kc_raddlelaw13_BlockNames_18))
  have S := S.shutR (r := r_api_Grid) (T := 24) (v := .slice ad202 [r14].length cp203) (xs := [r14]) 1 rfl
  have S := S.shutR (r := (rI .i64)) (T := 3) (v := .slice ad204 ([1] : List Int).length cp205) (xs := ([1] : List Int)) 0 rfl
  refine sCall (X := Value) (f := 21) (vs := [.slice ad202 [r14].length cp203, .slice ad204 ([1] : List Int).length cp205, iv 1]) (val := c_block_Join_val r206) (B' := fun _ => []) (D' := c_block_Join_D r206) [] [eBox b200 24 [iv r193.1.W, iv r193.1.H, .slice ad198 r193.1.Bits.length cp199], eBox b189 24 [iv r182.1.W, iv r182.1.H, .slice ad187 r182.1.Bits.length cp188], eBox b176 24 [iv r169.1.W, iv r169.1.H, .slice ad174 r169.1.Bits.length cp175], eBox b147 24 [iv r140.1.W, iv r140.1.H, .slice ad145 r140.1.Bits.length cp146], eBox b119 24 [iv r112.1.W, iv r112.1.H, .slice ad117 r112.1.Bits.length cp118], eBox b87 24 [iv r80.1.W, iv r80.1.H, .slice ad85 r80.1.Bits.length cp86], eBox b78 24 [iv r71.1.W, iv r71.1.H, .slice ad76 r71.1.Bits.length cp77], eBox b69 24 [iv r62.1.W, iv r62.1.H, .slice ad67 r62.1.Bits.length cp68], eBox b41 24 [iv r34.1.W, iv r34.1.H, .slice ad39 r34.1.Bits.length cp40], eBox b32 24 [iv r23.W, iv r23.H, .slice ad28 r23.Bits.length cp29], eBox b31 24 [iv r14.W, iv r14.H, .slice ad19 r14.Bits.length cp20], eBox b30 24 [iv r5.W, iv r5.H, .slice ad10 r5.Bits.length cp11]] [fRep (rL r_api_Grid) (.slice ad202 [r14].length cp203) [r14], fRep (rL (rI .i64)) (.slice ad204 ([1] : List Int).length cp205) ([1] : List Int)] [0, 1, 2, 3, 4, 5, 6, 7, 8, 9, 10, 11] [1, 0] S (wN rfl) rfl callee21 rfl (by decide) rfl rfl (fun E1 w1 S1 => c_block_Join E1 w1 [r14] (.slice ad202 [r14].length cp203) ([1] : List Int) (.slice ad204 ([1] : List Int).length cp205) 1 r206 hx207 S1) rfl (lb rfl) fun u208 a w S => ?_
  obtain ⟨u209, rfl, hu210⟩ := S.mem.know (i := 0) (e := fRep r_api_Grid (u208) r206.1) rfl
  have S := S.learn (fRep (rL rB) u209 r206.1.Bits) hu210
  obtain ⟨ad211, cp212, _, rfl, _⟩ := hu210
  refine sMove (.tuple #[.agg #[iv r206.1.W, iv r206.1.H, .slice ad211 r206.1.Bits.length cp212], iv r206.2]) S (wN rfl) (.inl rfl) rfl rfl (lb rfl) fun a S => ?_
  refine sExtract (vs := [.agg #[iv r206.1.W, iv r206.1.H, .slice ad211 r206.1.Bits.length cp212], iv r206.2]) (.agg #[iv r206.1.W, iv r206.1.H, .slice ad211 r206.1.Bits.length cp212]) S (wN rfl) rfl rfl rfl rfl (lb rfl) fun a S => ?_
  refine sExtract (vs := [.agg #[iv r206.1.W, iv r206.1.H, .slice ad211 r206.1.Bits.length cp212], iv r206.2]) (iv r206.2) S (wN rfl) rfl rfl rfl rfl (lb rfl) fun a S => ?_
  refine sAlloc (.agg #[iv 0, iv 0, .slice none 0 0]) S (wN rfl) rfl rfl [iv 0, iv 0, .slice none 0 0] rfl rfl (lb rfl) fun a b213 w S => ?_
  refine sStore (p := b213) (off := 0) (T := 24) (vs := [iv 0, iv 0, .slice none 0 0]) (v := .agg #[iv r206.1.W, iv r206.1.H, .slice ad211 r206.1.Bits.length cp212]) 0 [iv r206.1.W, iv r206.1.H, .slice ad211 r206.1.Bits.length cp212] S (wN rfl) rfl rfl rfl rfl rfl rfl rfl (by simp) rfl fun a w S => ?_
  refine sMove (iv r206.2) S (wN rfl) (.inr rfl) rfl rfl (lb rfl) fun a S => ?_
  refine leafL (leafT (hK201 _ _ ?_))
  refine sSeq (fun K214 hK214 => ?_)
  obtain ⟨m219, hx220, h⟩ := bindSome h
  have hv_m219 : m219 = [0, 0, 0, 0, 0, 0, 0, 0, 0, 0, 0, 0, 0, 0, 0, 0, 0, 0, 0, 0, 0, 0, 0, 0, 0, 0, 0, 0, 0, 0, 0, 0, 0, 0, 0, 0, 0, 0, 0, 0, 0, 0, 0, 0, 0, 0, 0, 0, 0, 0, 0, 0, 0, 0, 0, 0, 0, 0, 0, 0, 0, 0, 0, 0, 0] := Option.some.inj (hx220.symm.trans (by kernel_rfl))
  obtain ⟨r221, hx222, h⟩ := bindSome h
  have hv_r221 : r221 = ((api_Grid.mk 0 0 []), 4) := Option.some.inj (hx222.symm.trans (by rw [hv_r14, hv_m219]; exact kc_raddlelaw13_BlockNames_19))
  refine sDraw (nf := [1, 2, 3, 7, 8]) (W := [(0, 141, .agg #[iv r14.W, iv r14.H, .slice ad19 r14.Bits.length cp20])]) rfl S ?_
  refine nodeCut (fun N W L D => ∀ b238 ad236 cp237 ad231 cp232 ad229 cp230, N [7, 3, 2, 1] ((7, 30, .pointer (some ⟨b238, 0, none⟩)) :: (4, 140, .tuple #[.agg #[iv r221.1.W, iv r221.1.H, .slice ad236 r221.1.Bits.length cp237], iv r221.2]) :: (5, 145, .agg #[iv r221.1.W, iv r221.1.H, .slice ad236 r221.1.Bits.length cp237]) :: (6, 146, iv r221.2) :: (3, 144, .tuple #[.agg #[iv r221.1.W, iv r221.1.H, .slice ad236 r221.1.Bits.length cp237], iv r221.2]) :: (2, 143, .slice ad231 m219.length cp232) :: (1, 142, .slice ad229 [r14].length cp230) :: W) ((eBox b238 24 [iv 0, iv 0, .slice none 0 0]) :: L) ((fRep (rL rB) (.slice ad236 r221.1.Bits.length cp237) r221.1.Bits) :: (fRep r_api_Grid (.agg #[iv r221.1.W, iv r221.1.H, .slice ad236 r221.1.Bits.length cp237]) r221.1) :: (fRep (rL (rI .i64)) (.slice ad231 m219.length cp232) m219) :: (fRep (rL r_api_Grid) (.slice ad229 [r14].length cp230) [r14]) :: D)) (fun b238 ad236 cp237 ad231 cp232 ad229 cp230 => ?_) fun nd2 => ?_
  · refine node_by (A := anc_raddlelaw13_BlockNames_0) (nf := [1, 2, 3, 7, 8]) (Y := [7, 3, 2, 1]) 10 (by kernel_rfl) (by kernel_rfl) (by kernel_rfl) (by kernel_rfl) (by kernel_rfl) [7, 4, 5, 6, 3, 2, 1, 0] (by kernel_rfl) (by decide) (by decide) (aD 0 9 3 (by decide) (aY 1 8 (by decide) (aY 2 7 (by decide) (aY 3 6 (by decide) (aF 4 5 (by decide) ?_ (aF 5 4 (by decide) ?_ (aF 6 3 (by decide) ?_ (aY 7 2 (by decide) (aN 8 1 (by decide) ?_ (aE 9 0 8 (by decide) (trivial))))))))))) [] (fun q hq => by cases hq) (fun hY => absurd (hY 8 (by decide)) (by decide))
    · refine fI 140 (.tuple #[.agg #[iv r221.1.W, iv r221.1.H, .slice ad236 r221.1.Bits.length cp237], iv r221.2]) [(144, .tuple #[.agg #[iv r221.1.W, iv r221.1.H, .slice ad236 r221.1.Bits.length cp237], iv r221.2])] 1 [some 4] rfl rfl rfl rfl rfl rfl fun G a w S => ?_
      refine sMove (.tuple #[.agg #[iv r221.1.W, iv r221.1.H, .slice ad236 r221.1.Bits.length cp237], iv r221.2]) S (wN rfl) (.inl rfl) rfl rfl (lb rfl) fun a S => ?_
      exact leafL ⟨rfl, S⟩
    · refine fI 145 (.agg #[iv r221.1.W, iv r221.1.H, .slice ad236 r221.1.Bits.length cp237]) [(140, .tuple #[.agg #[iv r221.1.W, iv r221.1.H, .slice ad236 r221.1.Bits.length cp237], iv r221.2])] 2 [some 1] rfl rfl rfl rfl rfl rfl fun G a w S => ?_
      refine sExtract (vs := [.agg #[iv r221.1.W, iv r221.1.H, .slice ad236 r221.1.Bits.length cp237], iv r221.2]) (.agg #[iv r221.1.W, iv r221.1.H, .slice ad236 r221.1.Bits.length cp237]) S (wN rfl) rfl rfl rfl rfl (lb rfl) fun a S => ?_
      exact leafL ⟨rfl, S⟩
    · refine fI 146 (iv r221.2) [(140, .tuple #[.agg #[iv r221.1.W, iv r221.1.H, .slice ad236 r221.1.Bits.length cp237], iv r221.2])] 3 [some 1] rfl rfl rfl rfl rfl rfl fun G a w S => ?_
      refine sExtract (vs := [.agg #[iv r221.1.W, iv r221.1.H, .slice ad236 r221.1.Bits.length cp237], iv r221.2]) (iv r221.2) S (wN rfl) rfl rfl rfl rfl (lb rfl) fun a S => ?_
      exact leafL ⟨rfl, S⟩
    refine ⟨_, [(30, .pointer (some ⟨b238, 0, none⟩)), (145, .agg #[iv r221.1.W, iv r221.1.H, .slice ad236 r221.1.Bits.length cp237])], rfl, (srcs_of [some 0, some 2] rfl rfl rfl), fun G a w S => ?_⟩
    refine sStore (p := b238) (off := 0) (T := 24) (vs := [iv 0, iv 0, .slice none 0 0]) (v := .agg #[iv r221.1.W, iv r221.1.H, .slice ad236 r221.1.Bits.length cp237]) 0 [iv r221.1.W, iv r221.1.H, .slice ad236 r221.1.Bits.length cp237] S (wN rfl) rfl rfl rfl rfl rfl rfl rfl (by simp) rfl fun a w S => ?_
    refine leafL ⟨rfl, _, _, .inr ⟨[(9, 31, iv r221.2)], rfl, S, hz_of rfl, ?_⟩⟩
    refine node_by (A := anc_raddlelaw13_BlockNames_0) (nf := [1, 2, 3, 7, 8]) (Y := [8, 7, 3, 2, 1]) 10 (by kernel_rfl) (by kernel_rfl) (by kernel_rfl) (by kernel_rfl) (by kernel_rfl) [9, 7, 4, 5, 6, 3, 2, 1, 0] (by kernel_rfl) (by decide) (by decide) (aD 0 9 8 (by decide) (aY 1 8 (by decide) (aY 2 7 (by decide) (aY 3 6 (by decide) (aD 4 5 8 (by decide) (aD 5 4 8 (by decide) (aF 6 3 (by decide) ?_ (aY 7 2 (by decide) (aY 8 1 (by decide) (aF 9 0 (by decide) ?_ (trivial))))))))))) [(1, .pointer (some ⟨b30, 0, none⟩)), (2, .pointer (some ⟨b31, 0, none⟩)), (3, .pointer (some ⟨b32, 0, none⟩)), (5, iv r34.2), (7, iv r62.2), (9, iv r71.2), (11, iv r80.2), (13, iv r112.2), (15, iv r140.2), (18, iv r149.2.2), (21, iv r158.2.2), (23, iv r169.2), (25, iv r182.2), (27, iv r193.2), (29, iv r206.2), (31, iv r221.2)] (fin_of [none, none, none, none, none, none, none, none, none, none, none, none, none, none, none, some 0] rfl (by kernel_rfl) (by kernel_rfl)) (fun _ a w S => ?_)
    · refine fI 146 (iv r221.2) [(140, .tuple #[.agg #[iv r221.1.W, iv r221.1.H, .slice ad236 r221.1.Bits.length cp237], iv r221.2])] 4 [some 2] rfl rfl rfl rfl rfl rfl fun G a w S => ?_
      refine sExtract (vs := [.agg #[iv r221.1.W, iv r221.1.H, .slice ad236 r221.1.Bits.length cp237], iv r221.2]) (iv r221.2) S (wN rfl) rfl rfl rfl rfl (lb rfl) fun a S => ?_
      exact leafL ⟨rfl, S⟩
    · refine fI 31 (iv r221.2) [(146, iv r221.2)] 0 [some 4] rfl rfl rfl rfl rfl rfl fun G a w S => ?_
      refine sMove (iv r221.2) S (wN rfl) (.inr rfl) rfl rfl (lb rfl) fun a S => ?_
      exact leafL ⟨rfl, S⟩
    refine leafT (hK214 _ _ ?_)
    refine sSeq (fun K239 hK239 => ?_)
    refine sRegion ?_
    refine sLoadN (p := b31) (off := 0) (T := 24) (vs := [iv r14.W, iv r14.H, .slice ad19 r14.Bits.length cp20]) 12 [iv r14.W, iv r14.H, .slice ad19 r14.Bits.length cp20] S (wN rfl) rfl rfl rfl rfl rfl rfl rfl (lb rfl) fun a S => ?_
    refine sLit (r := r_api_Grid) (T := 24) (xs := [r14]) [(0, .agg #[iv r14.W, iv r14.H, .slice ad19 r14.Bits.length cp20])] 1 [.agg #[iv r14.W, iv r14.H, .slice ad19 r14.Bits.length cp20]] [iv r14.W, iv r14.H, .slice ad19 r14.Bits.length cp20] (.agg #[iv 0, iv 0, .slice none 0 0]) 40 S (wN rfl) rfl rfl Try.underlying34 rfl (by decide) (by decide) (by kernel_rfl) rfl (fun E1 w1 hE => All.cons (r_api_Grid.mono hE (S.mem.know (i := 64) (e := fRep r_api_Grid (.agg #[iv r14.W, iv r14.H, .slice ad19 r14.Bits.length cp20]) r14) rfl)) (All.nil _ _ _)) rfl rfl (lb rfl) fun a w ad240 cp241 S => ?_
    refine sLit (r := (rI .i64)) (T := 3) (xs := ([0] : List Int)) [(0, iv 0)] 1 [iv 0] [iv 0] (iv 0) 8 S (wN rfl) rfl rfl Try.underlying35 rfl (by decide) (by decide) (by kernel_rfl) rfl (fun E1 w1 hE => All.cons rfl (All.nil _ _ _)) rfl rfl (lb rfl) fun a w ad242 cp243 S => ?_
    obtain ⟨r244, hx245, h⟩ := bindSome h
    have hv_r244 : r244 = ((api_Grid.mk 0 0 []), 26) := Option.some.inj (hx245.symm.trans (by rw [hv_r14]; exact kc_raddlelaw13_BlockNames_20))
    have S := S.shutR (r := r_api_Grid) (T := 24) (v := .slice ad240 [r14].length cp241) (xs := [r14]) 1 rfl
    have S := S.shutR (r := (rI .i64)) (T := 3) (v := .slice ad242 ([0] : List Int).length cp243) (xs := ([0] : List Int)) 0 rfl
    refine sCall (X := Value) (f := 21) (vs := [.slice ad240 [r14].length cp241, .slice ad242 ([0] : List Int).length cp243, iv 0]) (val := c_block_Join_val r244) (B' := fun _ => []) (D' := c_block_Join_D r244) [] [eBox b238 24 [iv r221.1.W, iv r221.1.H, .slice ad236 r221.1.Bits.length cp237], eBox b213 24 [iv r206.1.W, iv r206.1.H, .slice ad211 r206.1.Bits.length cp212], eBox b200 24 [iv r193.1.W, iv r193.1.H, .slice ad198 r193.1.Bits.length cp199], eBox b189 24 [iv r182.1.W, iv r182.1.H, .slice ad187 r182.1.Bits.length cp188], eBox b176 24 [iv r169.1.W, iv r169.1.H, .slice ad174 r169.1.Bits.length cp175], eBox b147 24 [iv r140.1.W, iv r140.1.H, .slice ad145 r140.1.Bits.length cp146], eBox b119 24 [iv r112.1.W, iv r112.1.H, .slice ad117 r112.1.Bits.length cp118], eBox b87 24 [iv r80.1.W, iv r80.1.H, .slice ad85 r80.1.Bits.length cp86], eBox b78 24 [iv r71.1.W, iv r71.1.H, .slice ad76 r71.1.Bits.length cp77], eBox b69 24 [iv r62.1.W, iv r62.1.H, .slice ad67 r62.1.Bits.length cp68], eBox b41 24 [iv r34.1.W, iv r34.1.H, .slice ad39 r34.1.Bits.length cp40], eBox b32 24 [iv r23.W, iv r23.H, .slice ad28 r23.Bits.length cp29], eBox b31 24 [iv r14.W, iv r14.H, .slice ad19 r14.Bits.length cp20], eBox b30 24 [iv r5.W, iv r5.H, .slice ad10 r5.Bits.length cp11]] [fRep (rL r_api_Grid) (.slice ad240 [r14].length cp241) [r14], fRep (rL (rI .i64)) (.slice ad242 ([0] : List Int).length cp243) ([0] : List Int)] [0, 1, 2, 3, 4, 5, 6, 7, 8, 9, 10, 11, 12, 13] [1, 0] S (wN rfl) rfl callee21 rfl (by decide) rfl rfl (fun E1 w1 S1 => c_block_Join E1 w1 [r14] (.slice ad240 [r14].length cp241) ([0] : List Int) (.slice ad242 ([0] : List Int).length cp243) 0 r244 hx245 S1) rfl (lb rfl) fun u246 a w S => ?_
    obtain ⟨u247, rfl, hu248⟩ := S.mem.know (i := 0) (e := fRep r_api_Grid (u246) r244.1) rfl
    have S := S.learn (fRep (rL rB) u247 r244.1.Bits) hu248
    obtain ⟨ad249, cp250, _, rfl, _⟩ := hu248
    refine sMove (.tuple #[.agg #[iv r244.1.W, iv r244.1.H, .slice ad249 r244.1.Bits.length cp250], iv r244.2]) S (wN rfl) (.inl rfl) rfl rfl (lb rfl) fun a S => ?_
    refine sExtract (vs := [.agg #[iv r244.1.W, iv r244.1.H, .slice ad249 r244.1.Bits.length cp250], iv r244.2]) (.agg #[iv r244.1.W, iv r244.1.H, .slice ad249 r244.1.Bits.length cp250]) S (wN rfl) rfl rfl rfl rfl (lb rfl) fun a S => ?_
    refine sExtract (vs := [.agg #[iv r244.1.W, iv r244.1.H, .slice ad249 r244.1.Bits.length cp250], iv r244.2]) (iv r244.2) S (wN rfl) rfl rfl rfl rfl (lb rfl) fun a S => ?_
    refine sAlloc (.agg #[iv 0, iv 0, .slice none 0 0]) S (wN rfl) rfl rfl [iv 0, iv 0, .slice none 0 0] rfl rfl (lb rfl) fun a b251 w S => ?_
    refine sStore (p := b251) (off := 0) (T := 24) (vs := [iv 0, iv 0, .slice none 0 0]) (v := .agg #[iv r244.1.W, iv r244.1.H, .slice ad249 r244.1.Bits.length cp250]) 0 [iv r244.1.W, iv r244.1.H, .slice ad249 r244.1.Bits.length cp250] S (wN rfl) rfl rfl rfl rfl rfl rfl rfl (by simp) rfl fun a w S => ?_
    refine sMove (iv r244.2) S (wN rfl) (.inr rfl) rfl rfl (lb rfl) fun a S => ?_
    refine leafL (leafT (hK239 _ _ ?_))
    refine sSeq (fun K252 hK252 => ?_)
    refine sRegion ?_
    refine sLit (r := (rI .i64)) (T := 3) (xs := ([0] : List Int)) [(0, iv 0)] 1 [iv 0] [iv 0] (iv 0) 8 S (wN rfl) rfl rfl Try.underlying35 rfl (by decide) (by decide) (by kernel_rfl) rfl (fun E1 w1 hE => All.cons rfl (All.nil _ _ _)) rfl rfl (lb rfl) fun a w ad253 cp254 S => ?_
    obtain ⟨r255, hx256, h⟩ := bindSome h
    have hv_r255 : r255 = ([], 2) := Option.some.inj (hx256.symm.trans (by exact kc_raddlelaw13_BlockNames_21))
    have S := S.shutR (r := (rI .i64)) (T := 3) (v := .slice ad253 ([0] : List Int).length cp254) (xs := ([0] : List Int)) 0 rfl
    have S := S.learn (fRep (rL (rL (rI .i64))) (.slice none 0 0) ([] : (List (List Int)))) (rL_nil _ _ _)
    refine sCall (X := Value) (f := 27) (vs := [.slice ad253 ([0] : List Int).length cp254, .slice none 0 0]) (val := c_block_Spell_val r255) (B' := fun _ => []) (D' := c_block_Spell_D r255) [] [eBox b251 24 [iv r244.1.W, iv r244.1.H, .slice ad249 r244.1.Bits.length cp250], eBox b238 24 [iv r221.1.W, iv r221.1.H, .slice ad236 r221.1.Bits.length cp237], eBox b213 24 [iv r206.1.W, iv r206.1.H, .slice ad211 r206.1.Bits.length cp212], eBox b200 24 [iv r193.1.W, iv r193.1.H, .slice ad198 r193.1.Bits.length cp199], eBox b189 24 [iv r182.1.W, iv r182.1.H, .slice ad187 r182.1.Bits.length cp188], eBox b176 24 [iv r169.1.W, iv r169.1.H, .slice ad174 r169.1.Bits.length cp175], eBox b147 24 [iv r140.1.W, iv r140.1.H, .slice ad145 r140.1.Bits.length cp146], eBox b119 24 [iv r112.1.W, iv r112.1.H, .slice ad117 r112.1.Bits.length cp118], eBox b87 24 [iv r80.1.W, iv r80.1.H, .slice ad85 r80.1.Bits.length cp86], eBox b78 24 [iv r71.1.W, iv r71.1.H, .slice ad76 r71.1.Bits.length cp77], eBox b69 24 [iv r62.1.W, iv r62.1.H, .slice ad67 r62.1.Bits.length cp68], eBox b41 24 [iv r34.1.W, iv r34.1.H, .slice ad39 r34.1.Bits.length cp40], eBox b32 24 [iv r23.W, iv r23.H, .slice ad28 r23.Bits.length cp29], eBox b31 24 [iv r14.W, iv r14.H, .slice ad19 r14.Bits.length cp20], eBox b30 24 [iv r5.W, iv r5.H, .slice ad10 r5.Bits.length cp11]] [fRep (rL (rI .i64)) (.slice ad253 ([0] : List Int).length cp254) ([0] : List Int), fRep (rL (rL (rI .i64))) (.slice none 0 0) ([] : (List (List Int)))] [0, 1, 2, 3, 4, 5, 6, 7, 8, 9, 10, 11, 12, 13, 14] [1, 0] S (wN rfl) rfl callee27 rfl (by decide) rfl rfl (fun E1 w1 S1 => c_block_Spell E1 w1 ([0] : List Int) (.slice ad253 ([0] : List Int).length cp254) ([] : (List (List Int))) (.slice none 0 0) r255 hx256 S1) rfl (lb rfl) fun u257 a w S => ?_
    obtain ⟨ad258, cp259, _, rfl, _⟩ := S.mem.know (i := 0) (e := fRep (rL (rI .i64)) (u257) r255.1) rfl
    refine sMove (.tuple #[.slice ad258 r255.1.length cp259, iv r255.2]) S (wN rfl) (.inl rfl) rfl rfl (lb rfl) fun a S => ?_
    refine sExtract (vs := [.slice ad258 r255.1.length cp259, iv r255.2]) (.slice ad258 r255.1.length cp259) S (wN rfl) rfl rfl rfl rfl (lb rfl) fun a S => ?_
    refine sExtract (vs := [.slice ad258 r255.1.length cp259, iv r255.2]) (iv r255.2) S (wN rfl) rfl rfl rfl rfl (lb rfl) fun a S => ?_
    refine sMove (.slice ad258 r255.1.length cp259) S (wN rfl) (.inr rfl) rfl rfl (lb rfl) fun a S => ?_
    refine sMove (iv r255.2) S (wN rfl) (.inr rfl) rfl rfl (lb rfl) fun a S => ?_
    refine leafL (leafT (hK252 _ _ ?_))
    refine sSeq (fun K260 hK260 => ?_)
    refine sRegion ?_
    refine sLit (r := (rI .i64)) (T := 3) (xs := ([0] : List Int)) [(0, iv 0)] 1 [iv 0] [iv 0] (iv 0) 8 S (wN rfl) rfl rfl Try.underlying35 rfl (by decide) (by decide) (by kernel_rfl) rfl (fun E1 w1 hE => All.cons rfl (All.nil _ _ _)) rfl rfl (lb rfl) fun a w ad261 cp262 S => ?_
    refine sLit0 (α := Int) (rI .i64) (T := 3) S (wN rfl) rfl Try.underlying35 rfl rfl (lb rfl) fun a w ad263 cp264 S => ?_
    have S := S.shutR (r := (rI .i64)) (T := 3) (v := .slice ad263 ([] : List Int).length cp264) (xs := ([] : List Int)) 0 rfl
    refine sLit (r := (rL (rI .i64))) (T := 35) (xs := [([] : List Int)]) [(0, .slice ad263 ([] : List Int).length cp264)] 1 [.slice ad263 ([] : List Int).length cp264] [.slice ad263 ([] : List Int).length cp264] (.slice none 0 0) 24 S (wN rfl) rfl rfl Try.underlying46 rfl (by decide) (by decide) (by kernel_rfl) rfl (fun E1 w1 hE => All.cons ((rL (rI .i64)).mono hE (S.mem.know (i := 0) (e := fRep (rL (rI .i64)) (.slice ad263 ([] : List Int).length cp264) ([] : List Int)) rfl)) (All.nil _ _ _)) rfl rfl (lb rfl) fun a w ad265 cp266 S => ?_
    obtain ⟨r267, hx268, h⟩ := bindSome h
    have hv_r267 : r267 = ([], 26) := Option.some.inj (hx268.symm.trans (by exact kc_raddlelaw13_BlockNames_22))
    have S := S.shutR (r := (rI .i64)) (T := 3) (v := .slice ad261 ([0] : List Int).length cp262) (xs := ([0] : List Int)) 1 rfl
    have S := S.shutR (r := (rL (rI .i64))) (T := 35) (v := .slice ad265 [([] : List Int)].length cp266) (xs := [([] : List Int)]) 0 rfl
    refine sCall (X := Value) (f := 27) (vs := [.slice ad261 ([0] : List Int).length cp262, .slice ad265 [([] : List Int)].length cp266]) (val := c_block_Spell_val r267) (B' := fun _ => []) (D' := c_block_Spell_D r267) [] [eBox b251 24 [iv r244.1.W, iv r244.1.H, .slice ad249 r244.1.Bits.length cp250], eBox b238 24 [iv r221.1.W, iv r221.1.H, .slice ad236 r221.1.Bits.length cp237], eBox b213 24 [iv r206.1.W, iv r206.1.H, .slice ad211 r206.1.Bits.length cp212], eBox b200 24 [iv r193.1.W, iv r193.1.H, .slice ad198 r193.1.Bits.length cp199], eBox b189 24 [iv r182.1.W, iv r182.1.H, .slice ad187 r182.1.Bits.length cp188], eBox b176 24 [iv r169.1.W, iv r169.1.H, .slice ad174 r169.1.Bits.length cp175], eBox b147 24 [iv r140.1.W, iv r140.1.H, .slice ad145 r140.1.Bits.length cp146], eBox b119 24 [iv r112.1.W, iv r112.1.H, .slice ad117 r112.1.Bits.length cp118], eBox b87 24 [iv r80.1.W, iv r80.1.H, .slice ad85 r80.1.Bits.length cp86], eBox b78 24 [iv r71.1.W, iv r71.1.H, .slice ad76 r71.1.Bits.length cp77], eBox b69 24 [iv r62.1.W, iv r62.1.H, .slice ad67 r62.1.Bits.length cp68], eBox b41 24 [iv r34.1.W, iv r34.1.H, .slice ad39 r34.1.Bits.length cp40], eBox b32 24 [iv r23.W, iv r23.H, .slice ad28 r23.Bits.length cp29], eBox b31 24 [iv r14.W, iv r14.H, .slice ad19 r14.Bits.length cp20], eBox b30 24 [iv r5.W, iv r5.H, .slice ad10 r5.Bits.length cp11]] [fRep (rL (rI .i64)) (.slice ad261 ([0] : List Int).length cp262) ([0] : List Int), fRep (rL (rL (rI .i64))) (.slice ad265 [([] : List Int)].length cp266) [([] : List Int)]] [0, 1, 2, 3, 4, 5, 6, 7, 8, 9, 10, 11, 12, 13, 14] [1, 0] S (wN rfl) rfl callee27 rfl (by decide) rfl rfl (fun E1 w1 S1 => c_block_Spell E1 w1 ([0] : List Int) (.slice ad261 ([0] : List Int).length cp262) [([] : List Int)] (.slice ad265 [([] : List Int)].length cp266) r267 hx268 S1) rfl (lb rfl) fun u269 a w S => ?_
    obtain ⟨ad270, cp271, _, rfl, _⟩ := S.mem.know (i := 0) (e := fRep (rL (rI .i64)) (u269) r267.1) rfl
    refine sMove (.tuple #[.slice ad270 r267.1.length cp271, iv r267.2]) S (wN rfl) (.inl rfl) rfl rfl (lb rfl) fun a S => ?_
    refine sExtract (vs := [.slice ad270 r267.1.length cp271, iv r267.2]) (.slice ad270 r267.1.length cp271) S (wN rfl) rfl rfl rfl rfl (lb rfl) fun a S => ?_
    refine sExtract (vs := [.slice ad270 r267.1.length cp271, iv r267.2]) (iv r267.2) S (wN rfl) rfl rfl rfl rfl (lb rfl) fun a S => ?_
    refine sMove (.slice ad270 r267.1.length cp271) S (wN rfl) (.inr rfl) rfl rfl (lb rfl) fun a S => ?_
    refine sMove (iv r267.2) S (wN rfl) (.inr rfl) rfl rfl (lb rfl) fun a S => ?_
    refine leafL (leafT (hK260 _ _ ?_))
    refine sSeq (fun K272 hK272 => ?_)
    refine sRegion ?_
    refine sLit (r := (rI .i64)) (T := 3) (xs := ([1] : List Int)) [(0, iv 1)] 1 [iv 1] [iv 1] (iv 0) 8 S (wN rfl) rfl rfl Try.underlying35 rfl (by decide) (by decide) (by kernel_rfl) rfl (fun E1 w1 hE => All.cons rfl (All.nil _ _ _)) rfl rfl (lb rfl) fun a w ad273 cp274 S => ?_
    refine sLit (r := (rI .i64)) (T := 3) (xs := ([1] : List Int)) [(0, iv 1)] 1 [iv 1] [iv 1] (iv 0) 8 S (wN rfl) rfl rfl Try.underlying35 rfl (by decide) (by decide) (by kernel_rfl) rfl (fun E1 w1 hE => All.cons rfl (All.nil _ _ _)) rfl rfl (lb rfl) fun a w ad275 cp276 S => ?_
    have S := S.shutR (r := (rI .i64)) (T := 3) (v := .slice ad275 ([1] : List Int).length cp276) (xs := ([1] : List Int)) 0 rfl
    refine sLit (r := (rL (rI .i64))) (T := 35) (xs := [([1] : List Int)]) [(0, .slice ad275 ([1] : List Int).length cp276)] 1 [.slice ad275 ([1] : List Int).length cp276] [.slice ad275 ([1] : List Int).length cp276] (.slice none 0 0) 24 S (wN rfl) rfl rfl Try.underlying46 rfl (by decide) (by decide) (by kernel_rfl) rfl (fun E1 w1 hE => All.cons ((rL (rI .i64)).mono hE (S.mem.know (i := 0) (e := fRep (rL (rI .i64)) (.slice ad275 ([1] : List Int).length cp276) ([1] : List Int)) rfl)) (All.nil _ _ _)) rfl rfl (lb rfl) fun a w ad277 cp278 S => ?_
    obtain ⟨r279, hx280, h⟩ := bindSome h
    have hv_r279 : r279 = ([], 8) := Option.some.inj (hx280.symm.trans (by exact kc_raddlelaw13_BlockNames_23))
    have S := S.shutR (r := (rI .i64)) (T := 3) (v := .slice ad273 ([1] : List Int).length cp274) (xs := ([1] : List Int)) 1 rfl
    have S := S.shutR (r := (rL (rI .i64))) (T := 35) (v := .slice ad277 [([1] : List Int)].length cp278) (xs := [([1] : List Int)]) 0 rfl
    refine sCall (X := Value) (f := 27) (vs := [.slice ad273 ([1] : List Int).length cp274, .slice ad277 [([1] : List Int)].length cp278]) (val := c_block_Spell_val r279) (B' := fun _ => []) (D' := c_block_Spell_D r279) [] [eBox b251 24 [iv r244.1.W, iv r244.1.H, .slice ad249 r244.1.Bits.length cp250], eBox b238 24 [iv r221.1.W, iv r221.1.H, .slice ad236 r221.1.Bits.length cp237], eBox b213 24 [iv r206.1.W, iv r206.1.H, .slice ad211 r206.1.Bits.length cp212], eBox b200 24 [iv r193.1.W, iv r193.1.H, .slice ad198 r193.1.Bits.length cp199], eBox b189 24 [iv r182.1.W, iv r182.1.H, .slice ad187 r182.1.Bits.length cp188], eBox b176 24 [iv r169.1.W, iv r169.1.H, .slice ad174 r169.1.Bits.length cp175], eBox b147 24 [iv r140.1.W, iv r140.1.H, .slice ad145 r140.1.Bits.length cp146], eBox b119 24 [iv r112.1.W, iv r112.1.H, .slice ad117 r112.1.Bits.length cp118], eBox b87 24 [iv r80.1.W, iv r80.1.H, .slice ad85 r80.1.Bits.length cp86], eBox b78 24 [iv r71.1.W, iv r71.1.H, .slice ad76 r71.1.Bits.length cp77], eBox b69 24 [iv r62.1.W, iv r62.1.H, .slice ad67 r62.1.Bits.length cp68], eBox b41 24 [iv r34.1.W, iv r34.1.H, .slice ad39 r34.1.Bits.length cp40], eBox b32 24 [iv r23.W, iv r23.H, .slice ad28 r23.Bits.length cp29], eBox b31 24 [iv r14.W, iv r14.H, .slice ad19 r14.Bits.length cp20], eBox b30 24 [iv r5.W, iv r5.H, .slice ad10 r5.Bits.length cp11]] [fRep (rL (rI .i64)) (.slice ad273 ([1] : List Int).length cp274) ([1] : List Int), fRep (rL (rL (rI .i64))) (.slice ad277 [([1] : List Int)].length cp278) [([1] : List Int)]] [0, 1, 2, 3, 4, 5, 6, 7, 8, 9, 10, 11, 12, 13, 14] [1, 0] S (wN rfl) rfl callee27 rfl (by decide) rfl rfl (fun E1 w1 S1 => c_block_Spell E1 w1 ([1] : List Int) (.slice ad273 ([1] : List Int).length cp274) [([1] : List Int)] (.slice ad277 [([1] : List Int)].length cp278) r279 hx280 S1) rfl (lb rfl) fun u281 a w S => ?_
    obtain ⟨ad282, cp283, _, rfl, _⟩ := S.mem.know (i := 0) (e := fRep (rL (rI .i64)) (u281) r279.1) rfl
    refine sMove (.tuple #[.slice ad282 r279.1.length cp283, iv r279.2]) S (wN rfl) (.inl rfl) rfl rfl (lb rfl) fun a S => ?_
    refine sExtract (vs := [.slice ad282 r279.1.length cp283, iv r279.2]) (.slice ad282 r279.1.length cp283) S (wN rfl) rfl rfl rfl rfl (lb rfl) fun a S => ?_
    refine sExtract (vs := [.slice ad282 r279.1.length cp283, iv r279.2]) (iv r279.2) S (wN rfl) rfl rfl rfl rfl (lb rfl) fun a S => ?_
    refine sMove (.slice ad282 r279.1.length cp283) S (wN rfl) (.inr rfl) rfl rfl (lb rfl) fun a S => ?_
    refine sMove (iv r279.2) S (wN rfl) (.inr rfl) rfl rfl (lb rfl) fun a S => ?_
    refine leafL (leafT (hK272 _ _ ?_))
    refine sSeq (fun K284 hK284 => ?_)
    refine sRegion ?_
    obtain ⟨m287, hx288, h⟩ := bindSome h
    have hv_m287 : m287 = [0, 0, 0, 0, 0, 0, 0, 0, 0, 0, 0, 0, 0, 0, 0, 0, 0, 0, 0, 0, 0, 0, 0, 0, 0, 0, 0, 0, 0, 0, 0, 0, 0, 0, 0, 0, 0, 0, 0, 0, 0, 0, 0, 0, 0, 0, 0, 0, 0, 0, 0, 0, 0, 0, 0, 0, 0, 0, 0, 0, 0, 0, 0, 0, 0, 0, 0, 0, 0, 0, 0, 0, 0, 0, 0, 0, 0, 0, 0, 0, 0, 0, 0, 0, 0, 0, 0, 0, 0, 0, 0, 0, 0, 0, 0, 0, 0, 0, 0, 0, 0, 0, 0, 0, 0, 0, 0, 0, 0, 0, 0, 0, 0, 0, 0, 0, 0, 0, 0, 0, 0, 0, 0, 0, 0, 0, 0, 0, 0, 0, 0, 0, 0, 0, 0, 0, 0, 0, 0, 0, 0, 0, 0, 0, 0, 0, 0, 0, 0, 0, 0, 0, 0, 0, 0, 0, 0, 0, 0, 0, 0, 0, 0, 0, 0, 0, 0, 0, 0, 0, 0, 0, 0, 0, 0, 0, 0, 0, 0, 0, 0, 0, 0, 0, 0, 0, 0, 0, 0, 0, 0, 0, 0, 0, 0, 0, 0, 0, 0, 0, 0] := Option.some.inj (hx288.symm.trans (by kernel_rfl))
    refine sMake (r := (rI .i64)) (m := 201) (xs := m287) (iv 0) (0 : Int) 8 S (wN rfl) rfl Try.underlying35 rfl rfl (by decide) (fun _ _ => rfl) rfl rfl hx288 rfl (lb rfl) fun a w ad285 cp286 S => ?_
    refine sLit (r := (rI .i64)) (T := 3) (xs := ([1, 2] : List Int)) [(0, iv 1), (1, iv 2)] 2 [iv 1, iv 2] [iv 1, iv 2] (iv 0) 8 S (wN rfl) rfl rfl Try.underlying35 rfl (by decide) (by decide) (by kernel_rfl) rfl (fun E1 w1 hE => All.cons rfl (All.cons rfl (All.nil _ _ _))) rfl rfl (lb rfl) fun a w ad289 cp290 S => ?_
    have S := S.shutR (r := (rI .i64)) (T := 3) (v := .slice ad289 ([1, 2] : List Int).length cp290) (xs := ([1, 2] : List Int)) 0 rfl
    refine sLit (r := (rL (rI .i64))) (T := 35) (xs := [([1, 2] : List Int)]) [(0, .slice ad289 ([1, 2] : List Int).length cp290)] 1 [.slice ad289 ([1, 2] : List Int).length cp290] [.slice ad289 ([1, 2] : List Int).length cp290] (.slice none 0 0) 24 S (wN rfl) rfl rfl Try.underlying46 rfl (by decide) (by decide) (by kernel_rfl) rfl (fun E1 w1 hE => All.cons ((rL (rI .i64)).mono hE (S.mem.know (i := 0) (e := fRep (rL (rI .i64)) (.slice ad289 ([1, 2] : List Int).length cp290) ([1, 2] : List Int)) rfl)) (All.nil _ _ _)) rfl rfl (lb rfl) fun a w ad291 cp292 S => ?_
    obtain ⟨r293, hx294, h⟩ := bindSome h
    have hv_r293 : r293 = ([], 4) := Option.some.inj (hx294.symm.trans (by rw [hv_m287]; exact kc_raddlelaw13_BlockNames_24))
    have S := S.shutR (r := (rI .i64)) (T := 3) (v := .slice ad285 m287.length cp286) (xs := m287) 1 rfl
    have S := S.shutR (r := (rL (rI .i64))) (T := 35) (v := .slice ad291 [([1, 2] : List Int)].length cp292) (xs := [([1, 2] : List Int)]) 0 rfl
    refine sCall (X := Value) (f := 27) (vs := [.slice ad285 m287.length cp286, .slice ad291 [([1, 2] : List Int)].length cp292]) (val := c_block_Spell_val r293) (B' := fun _ => []) (D' := c_block_Spell_D r293) [] [eBox b251 24 [iv r244.1.W, iv r244.1.H, .slice ad249 r244.1.Bits.length cp250], eBox b238 24 [iv r221.1.W, iv r221.1.H, .slice ad236 r221.1.Bits.length cp237], eBox b213 24 [iv r206.1.W, iv r206.1.H, .slice ad211 r206.1.Bits.length cp212], eBox b200 24 [iv r193.1.W, iv r193.1.H, .slice ad198 r193.1.Bits.length cp199], eBox b189 24 [iv r182.1.W, iv r182.1.H, .slice ad187 r182.1.Bits.length cp188], eBox b176 24 [iv r169.1.W, iv r169.1.H, .slice ad174 r169.1.Bits.length cp175], eBox b147 24 [iv r140.1.W, iv r140.1.H, .slice ad145 r140.1.Bits.length cp146], eBox b119 24 [iv r112.1.W, iv r112.1.H, .slice ad117 r112.1.Bits.length cp118], eBox b87 24 [iv r80.1.W, iv r80.1.H, .slice ad85 r80.1.Bits.length cp86], eBox b78 24 [iv r71.1.W, iv r71.1.H, .slice ad76 r71.1.Bits.length cp77], eBox b69 24 [iv r62.1.W, iv r62.1.H, .slice ad67 r62.1.Bits.length cp68], eBox b41 24 [iv r34.1.W, iv r34.1.H, .slice ad39 r34.1.Bits.length cp40], eBox b32 24 [iv r23.W, iv r23.H, .slice ad28 r23.Bits.length cp29], eBox b31 24 [iv r14.W, iv r14.H, .slice ad19 r14.Bits.length cp20], eBox b30 24 [iv r5.W, iv r5.H, .slice ad10 r5.Bits.length cp11]] [fRep (rL (rI .i64)) (.slice ad285 m287.length cp286) m287, fRep (rL (rL (rI .i64))) (.slice ad291 [([1, 2] : List Int)].length cp292) [([1, 2] : List Int)]] [0, 1, 2, 3, 4, 5, 6, 7, 8, 9, 10, 11, 12, 13, 14] [1, 0] S (wN rfl) rfl callee27 rfl (by decide) rfl rfl (fun E1 w1 S1 => c_block_Spell E1 w1 m287 (.slice ad285 m287.length cp286) [([1, 2] : List Int)] (.slice ad291 [([1, 2] : List Int)].length cp292) r293 hx294 S1) rfl (lb rfl) fun u295 a w S => ?_
    obtain ⟨ad296, cp297, _, rfl, _⟩ := S.mem.know (i := 0) (e := fRep (rL (rI .i64)) (u295) r293.1) rfl
    refine sMove (.tuple #[.slice ad296 r293.1.length cp297, iv r293.2]) S (wN rfl) (.inl rfl) rfl rfl (lb rfl) fun a S => ?_
    refine sExtract (vs := [.slice ad296 r293.1.length cp297, iv r293.2]) (.slice ad296 r293.1.length cp297) S (wN rfl) rfl rfl rfl rfl (lb rfl) fun a S => ?_
    refine sExtract (vs := [.slice ad296 r293.1.length cp297, iv r293.2]) (iv r293.2) S (wN rfl) rfl rfl rfl rfl (lb rfl) fun a S => ?_
    refine sMove (.slice ad296 r293.1.length cp297) S (wN rfl) (.inr rfl) rfl rfl (lb rfl) fun a S => ?_
    refine sMove (iv r293.2) S (wN rfl) (.inr rfl) rfl rfl (lb rfl) fun a S => ?_
    refine leafL (leafT (hK284 _ _ ?_))
    refine sSeq (fun K298 hK298 => ?_)
    refine sRegion ?_
    refine sLit (r := (rI .i64)) (T := 3) (xs := ([1] : List Int)) [(0, iv 1)] 1 [iv 1] [iv 1] (iv 0) 8 S (wN rfl) rfl rfl Try.underlying35 rfl (by decide) (by decide) (by kernel_rfl) rfl (fun E1 w1 hE => All.cons rfl (All.nil _ _ _)) rfl rfl (lb rfl) fun a w ad299 cp300 S => ?_
    refine sLit (r := (rI .i64)) (T := 3) (xs := ([1] : List Int)) [(0, iv 1)] 1 [iv 1] [iv 1] (iv 0) 8 S (wN rfl) rfl rfl Try.underlying35 rfl (by decide) (by decide) (by kernel_rfl) rfl (fun E1 w1 hE => All.cons rfl (All.nil _ _ _)) rfl rfl (lb rfl) fun a w ad301 cp302 S => ?_
    refine sLit (r := (rI .i64)) (T := 3) (xs := ([1] : List Int)) [(0, iv 1)] 1 [iv 1] [iv 1] (iv 0) 8 S (wN rfl) rfl rfl Try.underlying35 rfl (by decide) (by decide) (by kernel_rfl) rfl (fun E1 w1 hE => All.cons rfl (All.nil _ _ _)) rfl rfl (lb rfl) fun a w ad303 cp304 S => ?_
    have S := S.shutR (r := (rI .i64)) (T := 3) (v := .slice ad301 ([1] : List Int).length cp302) (xs := ([1] : List Int)) 1 rfl
    have S := S.shutR (r := (rI .i64)) (T := 3) (v := .slice ad303 ([1] : List Int).length cp304) (xs := ([1] : List Int)) 0 rfl
    refine sLit (r := (rL (rI .i64))) (T := 35) (xs := [([1] : List Int), ([1] : List Int)]) [(0, .slice ad301 ([1] : List Int).length cp302), (1, .slice ad303 ([1] : List Int).length cp304)] 2 [.slice ad301 ([1] : List Int).length cp302, .slice ad303 ([1] : List Int).length cp304] [.slice ad301 ([1] : List Int).length cp302, .slice ad303 ([1] : List Int).length cp304] (.slice none 0 0) 24 S (wN rfl) rfl rfl Try.underlying46 rfl (by decide) (by decide) (by kernel_rfl) rfl (fun E1 w1 hE => All.cons ((rL (rI .i64)).mono hE (S.mem.know (i := 1) (e := fRep (rL (rI .i64)) (.slice ad301 ([1] : List Int).length cp302) ([1] : List Int)) rfl)) (All.cons ((rL (rI .i64)).mono hE (S.mem.know (i := 0) (e := fRep (rL (rI .i64)) (.slice ad303 ([1] : List Int).length cp304) ([1] : List Int)) rfl)) (All.nil _ _ _))) rfl rfl (lb rfl) fun a w ad305 cp306 S => ?_
    obtain ⟨r307, hx308, h⟩ := bindSome h
    have hv_r307 : r307 = ([], 14) := Option.some.inj (hx308.symm.trans (by exact kc_raddlelaw13_BlockNames_25))
    have S := S.shutR (r := (rI .i64)) (T := 3) (v := .slice ad299 ([1] : List Int).length cp300) (xs := ([1] : List Int)) 1 rfl
    have S := S.shutR (r := (rL (rI .i64))) (T := 35) (v := .slice ad305 [([1] : List Int), ([1] : List Int)].length cp306) (xs := [([1] : List Int), ([1] : List Int)]) 0 rfl
    refine sCall (X := Value) (f := 29) (vs := [.slice ad299 ([1] : List Int).length cp300, .slice ad305 [([1] : List Int), ([1] : List Int)].length cp306]) (val := c_block_Blocks_val r307) (B' := fun _ => []) (D' := c_block_Blocks_D r307) [] [eBox b251 24 [iv r244.1.W, iv r244.1.H, .slice ad249 r244.1.Bits.length cp250], eBox b238 24 [iv r221.1.W, iv r221.1.H, .slice ad236 r221.1.Bits.length cp237], eBox b213 24 [iv r206.1.W, iv r206.1.H, .slice ad211 r206.1.Bits.length cp212], eBox b200 24 [iv r193.1.W, iv r193.1.H, .slice ad198 r193.1.Bits.length cp199], eBox b189 24 [iv r182.1.W, iv r182.1.H, .slice ad187 r182.1.Bits.length cp188], eBox b176 24 [iv r169.1.W, iv r169.1.H, .slice ad174 r169.1.Bits.length cp175], eBox b147 24 [iv r140.1.W, iv r140.1.H, .slice ad145 r140.1.Bits.length cp146], eBox b119 24 [iv r112.1.W, iv r112.1.H, .slice ad117 r112.1.Bits.length cp118], eBox b87 24 [iv r80.1.W, iv r80.1.H, .slice ad85 r80.1.Bits.length cp86], eBox b78 24 [iv r71.1.W, iv r71.1.H, .slice ad76 r71.1.Bits.length cp77], eBox b69 24 [iv r62.1.W, iv r62.1.H, .slice ad67 r62.1.Bits.length cp68], eBox b41 24 [iv r34.1.W, iv r34.1.H, .slice ad39 r34.1.Bits.length cp40], eBox b32 24 [iv r23.W, iv r23.H, .slice ad28 r23.Bits.length cp29], eBox b31 24 [iv r14.W, iv r14.H, .slice ad19 r14.Bits.length cp20], eBox b30 24 [iv r5.W, iv r5.H, .slice ad10 r5.Bits.length cp11]] [fRep (rL (rI .i64)) (.slice ad299 ([1] : List Int).length cp300) ([1] : List Int), fRep (rL (rL (rI .i64))) (.slice ad305 [([1] : List Int), ([1] : List Int)].length cp306) [([1] : List Int), ([1] : List Int)]] [0, 1, 2, 3, 4, 5, 6, 7, 8, 9, 10, 11, 12, 13, 14] [1, 0] S (wN rfl) rfl callee29 rfl (by decide) rfl rfl (fun E1 w1 S1 => c_block_Blocks E1 w1 ([1] : List Int) (.slice ad299 ([1] : List Int).length cp300) [([1] : List Int), ([1] : List Int)] (.slice ad305 [([1] : List Int), ([1] : List Int)].length cp306) r307 hx308 S1) rfl (lb rfl) fun u309 a w S => ?_
    obtain ⟨ad310, cp311, _, rfl, _⟩ := S.mem.know (i := 0) (e := fRep (rL (rI .i64)) (u309) r307.1) rfl
    refine sMove (.tuple #[.slice ad310 r307.1.length cp311, iv r307.2]) S (wN rfl) (.inl rfl) rfl rfl (lb rfl) fun a S => ?_
    refine sExtract (vs := [.slice ad310 r307.1.length cp311, iv r307.2]) (.slice ad310 r307.1.length cp311) S (wN rfl) rfl rfl rfl rfl (lb rfl) fun a S => ?_
    refine sExtract (vs := [.slice ad310 r307.1.length cp311, iv r307.2]) (iv r307.2) S (wN rfl) rfl rfl rfl rfl (lb rfl) fun a S => ?_
    refine sMove (.slice ad310 r307.1.length cp311) S (wN rfl) (.inr rfl) rfl rfl (lb rfl) fun a S => ?_
    refine sMove (iv r307.2) S (wN rfl) (.inr rfl) rfl rfl (lb rfl) fun a S => ?_
    refine leafL (leafT (hK298 _ _ ?_))
    refine sSeq (fun K312 hK312 => ?_)
    refine sRegion ?_
    refine sLit (r := (rI .i64)) (T := 3) (xs := ([1, 2, 3] : List Int)) [(0, iv 1), (1, iv 2), (2, iv 3)] 3 [iv 1, iv 2, iv 3] [iv 1, iv 2, iv 3] (iv 0) 8 S (wN rfl) rfl rfl Try.underlying35 rfl (by decide) (by decide) (by kernel_rfl) rfl (fun E1 w1 hE => All.cons rfl (All.cons rfl (All.cons rfl (All.nil _ _ _)))) rfl rfl (lb rfl) fun a w ad313 cp314 S => ?_
    refine sLit (r := (rI .i64)) (T := 3) (xs := ([1, 2] : List Int)) [(0, iv 1), (1, iv 2)] 2 [iv 1, iv 2] [iv 1, iv 2] (iv 0) 8 S (wN rfl) rfl rfl Try.underlying35 rfl (by decide) (by decide) (by kernel_rfl) rfl (fun E1 w1 hE => All.cons rfl (All.cons rfl (All.nil _ _ _))) rfl rfl (lb rfl) fun a w ad315 cp316 S => ?_
    have S := S.shutR (r := (rI .i64)) (T := 3) (v := .slice ad315 ([1, 2] : List Int).length cp316) (xs := ([1, 2] : List Int)) 0 rfl
    refine sLit (r := (rL (rI .i64))) (T := 35) (xs := [([1, 2] : List Int)]) [(0, .slice ad315 ([1, 2] : List Int).length cp316)] 1 [.slice ad315 ([1, 2] : List Int).length cp316] [.slice ad315 ([1, 2] : List Int).length cp316] (.slice none 0 0) 24 S (wN rfl) rfl rfl Try.underlying46 rfl (by decide) (by decide) (by kernel_rfl) rfl (fun E1 w1 hE => All.cons ((rL (rI .i64)).mono hE (S.mem.know (i := 0) (e := fRep (rL (rI .i64)) (.slice ad315 ([1, 2] : List Int).length cp316) ([1, 2] : List Int)) rfl)) (All.nil _ _ _)) rfl rfl (lb rfl) fun a w ad317 cp318 S => ?_
    obtain ⟨r319, hx320, h⟩ := bindSome h
    have hv_r319 : r319 = ([], 26) := Option.some.inj (hx320.symm.trans (by exact kc_raddlelaw13_BlockNames_26))
    have S := S.shutR (r := (rI .i64)) (T := 3) (v := .slice ad313 ([1, 2, 3] : List Int).length cp314) (xs := ([1, 2, 3] : List Int)) 1 rfl
    have S := S.shutR (r := (rL (rI .i64))) (T := 35) (v := .slice ad317 [([1, 2] : List Int)].length cp318) (xs := [([1, 2] : List Int)]) 0 rfl
    refine sCall (X := Value) (f := 29) (vs := [.slice ad313 ([1, 2, 3] : List Int).length cp314, .slice ad317 [([1, 2] : List Int)].length cp318]) (val := c_block_Blocks_val r319) (B' := fun _ => []) (D' := c_block_Blocks_D r319) [] [eBox b251 24 [iv r244.1.W, iv r244.1.H, .slice ad249 r244.1.Bits.length cp250], eBox b238 24 [iv r221.1.W, iv r221.1.H, .slice ad236 r221.1.Bits.length cp237], eBox b213 24 [iv r206.1.W, iv r206.1.H, .slice ad211 r206.1.Bits.length cp212], eBox b200 24 [iv r193.1.W, iv r193.1.H, .slice ad198 r193.1.Bits.length cp199], eBox b189 24 [iv r182.1.W, iv r182.1.H, .slice ad187 r182.1.Bits.length cp188], eBox b176 24 [iv r169.1.W, iv r169.1.H, .slice ad174 r169.1.Bits.length cp175], eBox b147 24 [iv r140.1.W, iv r140.1.H, .slice ad145 r140.1.Bits.length cp146], eBox b119 24 [iv r112.1.W, iv r112.1.H, .slice ad117 r112.1.Bits.length cp118], eBox b87 24 [iv r80.1.W, iv r80.1.H, .slice ad85 r80.1.Bits.length cp86], eBox b78 24 [iv r71.1.W, iv r71.1.H, .slice ad76 r71.1.Bits.length cp77], eBox b69 24 [iv r62.1.W, iv r62.1.H, .slice ad67 r62.1.Bits.length cp68], eBox b41 24 [iv r34.1.W, iv r34.1.H, .slice ad39 r34.1.Bits.length cp40], eBox b32 24 [iv r23.W, iv r23.H, .slice ad28 r23.Bits.length cp29], eBox b31 24 [iv r14.W, iv r14.H, .slice ad19 r14.Bits.length cp20], eBox b30 24 [iv r5.W, iv r5.H, .slice ad10 r5.Bits.length cp11]] [fRep (rL (rI .i64)) (.slice ad313 ([1, 2, 3] : List Int).length cp314) ([1, 2, 3] : List Int), fRep (rL (rL (rI .i64))) (.slice ad317 [([1, 2] : List Int)].length cp318) [([1, 2] : List Int)]] [0, 1, 2, 3, 4, 5, 6, 7, 8, 9, 10, 11, 12, 13, 14] [1, 0] S (wN rfl) rfl callee29 rfl (by decide) rfl rfl (fun E1 w1 S1 => c_block_Blocks E1 w1 ([1, 2, 3] : List Int) (.slice ad313 ([1, 2, 3] : List Int).length cp314) [([1, 2] : List Int)] (.slice ad317 [([1, 2] : List Int)].length cp318) r319 hx320 S1) rfl (lb rfl) fun u321 a w S => ?_
    obtain ⟨ad322, cp323, _, rfl, _⟩ := S.mem.know (i := 0) (e := fRep (rL (rI .i64)) (u321) r319.1) rfl
    refine sMove (.tuple #[.slice ad322 r319.1.length cp323, iv r319.2]) S (wN rfl) (.inl rfl) rfl rfl (lb rfl) fun a S => ?_
    refine sExtract (vs := [.slice ad322 r319.1.length cp323, iv r319.2]) (.slice ad322 r319.1.length cp323) S (wN rfl) rfl rfl rfl rfl (lb rfl) fun a S => ?_
    refine sExtract (vs := [.slice ad322 r319.1.length cp323, iv r319.2]) (iv r319.2) S (wN rfl) rfl rfl rfl rfl (lb rfl) fun a S => ?_
    refine sMove (.slice ad322 r319.1.length cp323) S (wN rfl) (.inr rfl) rfl rfl (lb rfl) fun a S => ?_
    refine sMove (iv r319.2) S (wN rfl) (.inr rfl) rfl rfl (lb rfl) fun a S => ?_
    refine leafL (leafT (hK312 _ _ ?_))
    refine sSeq (fun K324 hK324 => ?_)
    refine sRegion ?_
    refine sLit (r := (rI .i64)) (T := 3) (xs := ([1, 3] : List Int)) [(0, iv 1), (1, iv 3)] 2 [iv 1, iv 3] [iv 1, iv 3] (iv 0) 8 S (wN rfl) rfl rfl Try.underlying35 rfl (by decide) (by decide) (by kernel_rfl) rfl (fun E1 w1 hE => All.cons rfl (All.cons rfl (All.nil _ _ _))) rfl rfl (lb rfl) fun a w ad325 cp326 S => ?_
    refine sLit (r := (rI .i64)) (T := 3) (xs := ([1, 2] : List Int)) [(0, iv 1), (1, iv 2)] 2 [iv 1, iv 2] [iv 1, iv 2] (iv 0) 8 S (wN rfl) rfl rfl Try.underlying35 rfl (by decide) (by decide) (by kernel_rfl) rfl (fun E1 w1 hE => All.cons rfl (All.cons rfl (All.nil _ _ _))) rfl rfl (lb rfl) fun a w ad327 cp328 S => ?_
    have S := S.shutR (r := (rI .i64)) (T := 3) (v := .slice ad327 ([1, 2] : List Int).length cp328) (xs := ([1, 2] : List Int)) 0 rfl
    refine sLit (r := (rL (rI .i64))) (T := 35) (xs := [([1, 2] : List Int)]) [(0, .slice ad327 ([1, 2] : List Int).length cp328)] 1 [.slice ad327 ([1, 2] : List Int).length cp328] [.slice ad327 ([1, 2] : List Int).length cp328] (.slice none 0 0) 24 S (wN rfl) rfl rfl Try.underlying46 rfl (by decide) (by decide) (by kernel_rfl) rfl (fun E1 w1 hE => All.cons ((rL (rI .i64)).mono hE (S.mem.know (i := 0) (e := fRep (rL (rI .i64)) (.slice ad327 ([1, 2] : List Int).length cp328) ([1, 2] : List Int)) rfl)) (All.nil _ _ _)) rfl rfl (lb rfl) fun a w ad329 cp330 S => ?_
    obtain ⟨r331, hx332, h⟩ := bindSome h
    have hv_r331 : r331 = ([], 6) := Option.some.inj (hx332.symm.trans (by exact kc_raddlelaw13_BlockNames_27))
    have S := S.shutR (r := (rI .i64)) (T := 3) (v := .slice ad325 ([1, 3] : List Int).length cp326) (xs := ([1, 3] : List Int)) 1 rfl
    have S := S.shutR (r := (rL (rI .i64))) (T := 35) (v := .slice ad329 [([1, 2] : List Int)].length cp330) (xs := [([1, 2] : List Int)]) 0 rfl
    refine sCall (X := Value) (f := 29) (vs := [.slice ad325 ([1, 3] : List Int).length cp326, .slice ad329 [([1, 2] : List Int)].length cp330]) (val := c_block_Blocks_val r331) (B' := fun _ => []) (D' := c_block_Blocks_D r331) [] [eBox b251 24 [iv r244.1.W, iv r244.1.H, .slice ad249 r244.1.Bits.length cp250], eBox b238 24 [iv r221.1.W, iv r221.1.H, .slice ad236 r221.1.Bits.length cp237], eBox b213 24 [iv r206.1.W, iv r206.1.H, .slice ad211 r206.1.Bits.length cp212], eBox b200 24 [iv r193.1.W, iv r193.1.H, .slice ad198 r193.1.Bits.length cp199], eBox b189 24 [iv r182.1.W, iv r182.1.H, .slice ad187 r182.1.Bits.length cp188], eBox b176 24 [iv r169.1.W, iv r169.1.H, .slice ad174 r169.1.Bits.length cp175], eBox b147 24 [iv r140.1.W, iv r140.1.H, .slice ad145 r140.1.Bits.length cp146], eBox b119 24 [iv r112.1.W, iv r112.1.H, .slice ad117 r112.1.Bits.length cp118], eBox b87 24 [iv r80.1.W, iv r80.1.H, .slice ad85 r80.1.Bits.length cp86], eBox b78 24 [iv r71.1.W, iv r71.1.H, .slice ad76 r71.1.Bits.length cp77], eBox b69 24 [iv r62.1.W, iv r62.1.H, .slice ad67 r62.1.Bits.length cp68], eBox b41 24 [iv r34.1.W, iv r34.1.H, .slice ad39 r34.1.Bits.length cp40], eBox b32 24 [iv r23.W, iv r23.H, .slice ad28 r23.Bits.length cp29], eBox b31 24 [iv r14.W, iv r14.H, .slice ad19 r14.Bits.length cp20], eBox b30 24 [iv r5.W, iv r5.H, .slice ad10 r5.Bits.length cp11]] [fRep (rL (rI .i64)) (.slice ad325 ([1, 3] : List Int).length cp326) ([1, 3] : List Int), fRep (rL (rL (rI .i64))) (.slice ad329 [([1, 2] : List Int)].length cp330) [([1, 2] : List Int)]] [0, 1, 2, 3, 4, 5, 6, 7, 8, 9, 10, 11, 12, 13, 14] [1, 0] S (wN rfl) rfl callee29 rfl (by decide) rfl rfl (fun E1 w1 S1 => c_block_Blocks E1 w1 ([1, 3] : List Int) (.slice ad325 ([1, 3] : List Int).length cp326) [([1, 2] : List Int)] (.slice ad329 [([1, 2] : List Int)].length cp330) r331 hx332 S1) rfl (lb rfl) fun u333 a w S => ?_
    obtain ⟨ad334, cp335, _, rfl, _⟩ := S.mem.know (i := 0) (e := fRep (rL (rI .i64)) (u333) r331.1) rfl
    refine sMove (.tuple #[.slice ad334 r331.1.length cp335, iv r331.2]) S (wN rfl) (.inl rfl) rfl rfl (lb rfl) fun a S => ?_
    refine sExtract (vs := [.slice ad334 r331.1.length cp335, iv r331.2]) (.slice ad334 r331.1.length cp335) S (wN rfl) rfl rfl rfl rfl (lb rfl) fun a S => ?_
    refine sExtract (vs := [.slice ad334 r331.1.length cp335, iv r331.2]) (iv r331.2) S (wN rfl) rfl rfl rfl rfl (lb rfl) fun a S => ?_
    refine sMove (.slice ad334 r331.1.length cp335) S (wN rfl) (.inr rfl) rfl rfl (lb rfl) fun a S => ?_
    refine sMove (iv r331.2) S (wN rfl) (.inr rfl) rfl rfl (lb rfl) fun a S => ?_
    refine leafL (leafT (hK324 _ _ ?_))
    refine sSeq (fun K336 hK336 => ?_)
    refine sRegion ?_
    refine sLoadN (p := b30) (off := 0) (T := 24) (vs := [iv r5.W, iv r5.H, .slice ad10 r5.Bits.length cp11]) 14 [iv r5.W, iv r5.H, .slice ad10 r5.Bits.length cp11] S (wN rfl) rfl rfl rfl rfl rfl rfl rfl (lb rfl) fun a S => ?_
    refine sLoadN (p := b31) (off := 0) (T := 24) (vs := [iv r14.W, iv r14.H, .slice ad19 r14.Bits.length cp20]) 13 [iv r14.W, iv r14.H, .slice ad19 r14.Bits.length cp20] S (wN rfl) rfl rfl rfl rfl rfl rfl rfl (lb rfl) fun a S => ?_
    refine sLoadN (p := b32) (off := 0) (T := 24) (vs := [iv r23.W, iv r23.H, .slice ad28 r23.Bits.length cp29]) 12 [iv r23.W, iv r23.H, .slice ad28 r23.Bits.length cp29] S (wN rfl) rfl rfl rfl rfl rfl rfl rfl (lb rfl) fun a S => ?_
    obtain ⟨r337, hx338, h⟩ := bindSome h
    have hv_r337 : r337 = ((api_Grid.mk 2 1 [true, false]), 0) := Option.some.inj (hx338.symm.trans (by rw [hv_r5, hv_r14, hv_r23]; exact kc_raddlelaw13_BlockNames_28))
    refine sCall (X := Value) (f := 15) (vs := [.agg #[iv r5.W, iv r5.H, .slice ad10 r5.Bits.length cp11], .agg #[iv r14.W, iv r14.H, .slice ad19 r14.Bits.length cp20], .agg #[iv r23.W, iv r23.H, .slice ad28 r23.Bits.length cp29]]) (val := c_block_Profile_val r337) (B' := fun _ => []) (D' := c_block_Profile_D r337) [] [eBox b251 24 [iv r244.1.W, iv r244.1.H, .slice ad249 r244.1.Bits.length cp250], eBox b238 24 [iv r221.1.W, iv r221.1.H, .slice ad236 r221.1.Bits.length cp237], eBox b213 24 [iv r206.1.W, iv r206.1.H, .slice ad211 r206.1.Bits.length cp212], eBox b200 24 [iv r193.1.W, iv r193.1.H, .slice ad198 r193.1.Bits.length cp199], eBox b189 24 [iv r182.1.W, iv r182.1.H, .slice ad187 r182.1.Bits.length cp188], eBox b176 24 [iv r169.1.W, iv r169.1.H, .slice ad174 r169.1.Bits.length cp175], eBox b147 24 [iv r140.1.W, iv r140.1.H, .slice ad145 r140.1.Bits.length cp146], eBox b119 24 [iv r112.1.W, iv r112.1.H, .slice ad117 r112.1.Bits.length cp118], eBox b87 24 [iv r80.1.W, iv r80.1.H, .slice ad85 r80.1.Bits.length cp86], eBox b78 24 [iv r71.1.W, iv r71.1.H, .slice ad76 r71.1.Bits.length cp77], eBox b69 24 [iv r62.1.W, iv r62.1.H, .slice ad67 r62.1.Bits.length cp68], eBox b41 24 [iv r34.1.W, iv r34.1.H, .slice ad39 r34.1.Bits.length cp40], eBox b32 24 [iv r23.W, iv r23.H, .slice ad28 r23.Bits.length cp29], eBox b31 24 [iv r14.W, iv r14.H, .slice ad19 r14.Bits.length cp20], eBox b30 24 [iv r5.W, iv r5.H, .slice ad10 r5.Bits.length cp11]] [fRep r_api_Grid (.agg #[iv r5.W, iv r5.H, .slice ad10 r5.Bits.length cp11]) r5, fRep r_api_Grid (.agg #[iv r14.W, iv r14.H, .slice ad19 r14.Bits.length cp20]) r14, fRep r_api_Grid (.agg #[iv r23.W, iv r23.H, .slice ad28 r23.Bits.length cp29]) r23] [0, 1, 2, 3, 4, 5, 6, 7, 8, 9, 10, 11, 12, 13, 14] [99, 96, 93] S (wN rfl) rfl callee15 rfl (by decide) rfl rfl (fun E1 w1 S1 => c_block_Profile E1 w1 r5 (.agg #[iv r5.W, iv r5.H, .slice ad10 r5.Bits.length cp11]) r14 (.agg #[iv r14.W, iv r14.H, .slice ad19 r14.Bits.length cp20]) r23 (.agg #[iv r23.W, iv r23.H, .slice ad28 r23.Bits.length cp29]) r337 hx338 S1) rfl (lb rfl) fun u339 a w S => ?_
    obtain ⟨u340, rfl, hu341⟩ := S.mem.know (i := 0) (e := fRep r_api_Grid (u339) r337.1) rfl
    have S := S.learn (fRep (rL rB) u340 r337.1.Bits) hu341
    obtain ⟨ad342, cp343, _, rfl, _⟩ := hu341
    refine sMove (.tuple #[.agg #[iv r337.1.W, iv r337.1.H, .slice ad342 r337.1.Bits.length cp343], iv r337.2]) S (wN rfl) (.inl rfl) rfl rfl (lb rfl) fun a S => ?_
    refine sExtract (vs := [.agg #[iv r337.1.W, iv r337.1.H, .slice ad342 r337.1.Bits.length cp343], iv r337.2]) (.agg #[iv r337.1.W, iv r337.1.H, .slice ad342 r337.1.Bits.length cp343]) S (wN rfl) rfl rfl rfl rfl (lb rfl) fun a S => ?_
    refine sExtract (vs := [.agg #[iv r337.1.W, iv r337.1.H, .slice ad342 r337.1.Bits.length cp343], iv r337.2]) (iv r337.2) S (wN rfl) rfl rfl rfl rfl (lb rfl) fun a S => ?_
    refine sAlloc (.agg #[iv 0, iv 0, .slice none 0 0]) S (wN rfl) rfl rfl [iv 0, iv 0, .slice none 0 0] rfl rfl (lb rfl) fun a b344 w S => ?_
    refine sStore (p := b344) (off := 0) (T := 24) (vs := [iv 0, iv 0, .slice none 0 0]) (v := .agg #[iv r337.1.W, iv r337.1.H, .slice ad342 r337.1.Bits.length cp343]) 0 [iv r337.1.W, iv r337.1.H, .slice ad342 r337.1.Bits.length cp343] S (wN rfl) rfl rfl rfl rfl rfl rfl rfl (by simp) rfl fun a w S => ?_
    refine sMove (iv r337.2) S (wN rfl) (.inr rfl) rfl rfl (lb rfl) fun a S => ?_
    refine leafL (leafT (hK336 _ _ ?_))
    refine sSeq (fun K345 hK345 => ?_)
    refine sRegion ?_
    refine sMove (.bool true) S (wN rfl) (.inl rfl) rfl rfl (lb rfl) fun a S => ?_
    obtain ⟨r346, hx347, h⟩ := bindSome h
    have hv_r346 : r346 = true := Option.some.inj (hx347.symm.trans (by exact kc_raddlelaw13_BlockNames_29))
    have S1 := S.mem
    refine sCallQ (X := Unit) (f := 31) (vs := []) (val := fun _ => .bool r346) S (wG 0 true 209 rfl rfl rfl rfl) rfl callee31 rfl (S1.quiet [] rfl) (fun E1 w1 S1 => c_raddlelaw13_alive E1 w1  r346 hx347 S1) rfl (lb rfl) fun _ a w S => ?_
    refine sPickT (.bool r346) S (wN rfl) rfl rfl rfl rfl rfl (lb rfl) fun a S => ?_
    refine sMove (.bool r346) S (wN rfl) (.inl rfl) rfl rfl (lb rfl) fun a S => ?_
    rcases iteSome h with ⟨hc348, h⟩ | ⟨hc348, h⟩
    rotate_left
    · exact absurd hc348 (by rw [hv_r346]; decide)
    refine sMove (iv r34.2) S (wG 3 true 212 rfl rfl rfl hc348) (.inl rfl) rfl rfl (lb rfl) fun a S => ?_
    refine sBin (.bool (r34.2 == 26)) S (wG 3 true 212 rfl rfl rfl hc348) rfl rfl rfl (bEq _ _ _ _ .i64 r34.2 26) rfl (lb rfl) fun a S => ?_
    refine sPickT (.bool (r34.2 == 26)) S (wN rfl) rfl rfl hc348 rfl rfl (lb rfl) fun a S => ?_
    refine sMove (.bool (r34.2 == 26)) S (wN rfl) (.inl rfl) rfl rfl (lb rfl) fun a S => ?_
    rcases iteSome h with ⟨hc349, h⟩ | ⟨hc349, h⟩
    rotate_left
    · exact absurd hc349 (by rw [hv_r34]; decide)
    refine sMove (iv r62.2) S (wG 7 true 216 rfl rfl rfl hc349) (.inl rfl) rfl rfl (lb rfl) fun a S => ?_
    refine sBin (.bool (r62.2 == 4)) S (wG 7 true 216 rfl rfl rfl hc349) rfl rfl rfl (bEq _ _ _ _ .i64 r62.2 4) rfl (lb rfl) fun a S => ?_
    refine sPickT (.bool (r62.2 == 4)) S (wN rfl) rfl rfl hc349 rfl rfl (lb rfl) fun a S => ?_
    refine sMove (.bool (r62.2 == 4)) S (wN rfl) (.inl rfl) rfl rfl (lb rfl) fun a S => ?_
    rcases iteSome h with ⟨hc350, h⟩ | ⟨hc350, h⟩
    rotate_left
    · exact absurd hc350 (by rw [hv_r62]; decide)
    refine sMove (iv r71.2) S (wG 11 true 220 rfl rfl rfl hc350) (.inl rfl) rfl rfl (lb rfl) fun a S => ?_
    refine sBin (.bool (r71.2 == 8)) S (wG 11 true 220 rfl rfl rfl hc350) rfl rfl rfl (bEq _ _ _ _ .i64 r71.2 8) rfl (lb rfl) fun a S => ?_
    refine sPickT (.bool (r71.2 == 8)) S (wN rfl) rfl rfl hc350 rfl rfl (lb rfl) fun a S => ?_
    refine sMove (.bool (r71.2 == 8)) S (wN rfl) (.inl rfl) rfl rfl (lb rfl) fun a S => ?_
    rcases iteSome h with ⟨hc351, h⟩ | ⟨hc351, h⟩
    rotate_left
    · exact absurd hc351 (by rw [hv_r71]; decide)
    refine sMove (iv r80.2) S (wG 15 true 224 rfl rfl rfl hc351) (.inl rfl) rfl rfl (lb rfl) fun a S => ?_
    refine sBin (.bool (r80.2 == 14)) S (wG 15 true 224 rfl rfl rfl hc351) rfl rfl rfl (bEq _ _ _ _ .i64 r80.2 14) rfl (lb rfl) fun a S => ?_
    refine sPickT (.bool (r80.2 == 14)) S (wN rfl) rfl rfl hc351 rfl rfl (lb rfl) fun a S => ?_
    refine sMove (.bool (r80.2 == 14)) S (wN rfl) (.inl rfl) rfl rfl (lb rfl) fun a S => ?_
    rcases iteSome h with ⟨hc352, h⟩ | ⟨hc352, h⟩
    rotate_left
    · exact absurd hc352 (by rw [hv_r80]; decide)
    refine sMove (iv r112.2) S (wG 19 true 228 rfl rfl rfl hc352) (.inl rfl) rfl rfl (lb rfl) fun a S => ?_
    refine sBin (.bool (r112.2 == 26)) S (wG 19 true 228 rfl rfl rfl hc352) rfl rfl rfl (bEq _ _ _ _ .i64 r112.2 26) rfl (lb rfl) fun a S => ?_
    refine sPickT (.bool (r112.2 == 26)) S (wN rfl) rfl rfl hc352 rfl rfl (lb rfl) fun a S => ?_
    refine sMove (.bool (r112.2 == 26)) S (wN rfl) (.inl rfl) rfl rfl (lb rfl) fun a S => ?_
    rcases iteSome h with ⟨hc353, h⟩ | ⟨hc353, h⟩
    rotate_left
    · exact absurd hc353 (by rw [hv_r112]; decide)
    refine sMove (iv r140.2) S (wG 23 true 232 rfl rfl rfl hc353) (.inl rfl) rfl rfl (lb rfl) fun a S => ?_
    refine sBin (.bool (r140.2 == 6)) S (wG 23 true 232 rfl rfl rfl hc353) rfl rfl rfl (bEq _ _ _ _ .i64 r140.2 6) rfl (lb rfl) fun a S => ?_
    refine sPickT (.bool (r140.2 == 6)) S (wN rfl) rfl rfl hc353 rfl rfl (lb rfl) fun a S => ?_
    refine sMove (.bool (r140.2 == 6)) S (wN rfl) (.inl rfl) rfl rfl (lb rfl) fun a S => ?_
    rcases iteSome h with ⟨hc354, h⟩ | ⟨hc354, h⟩
    rotate_left
    · exact absurd hc354 (by rw [hv_r140]; decide)
    refine sMove (iv r149.2.2) S (wG 27 true 236 rfl rfl rfl hc354) (.inl rfl) rfl rfl (lb rfl) fun a S => ?_
    refine sBin (.bool (r149.2.2 == 26)) S (wG 27 true 236 rfl rfl rfl hc354) rfl rfl rfl (bEq _ _ _ _ .i64 r149.2.2 26) rfl (lb rfl) fun a S => ?_
    refine sPickT (.bool (r149.2.2 == 26)) S (wN rfl) rfl rfl hc354 rfl rfl (lb rfl) fun a S => ?_
    refine sMove (.bool (r149.2.2 == 26)) S (wN rfl) (.inl rfl) rfl rfl (lb rfl) fun a S => ?_
    rcases iteSome h with ⟨hc355, h⟩ | ⟨hc355, h⟩
    rotate_left
    · exact absurd hc355 (by rw [hv_r149]; decide)
    refine sMove (iv r158.2.2) S (wG 31 true 240 rfl rfl rfl hc355) (.inl rfl) rfl rfl (lb rfl) fun a S => ?_
    refine sBin (.bool (r158.2.2 == 26)) S (wG 31 true 240 rfl rfl rfl hc355) rfl rfl rfl (bEq _ _ _ _ .i64 r158.2.2 26) rfl (lb rfl) fun a S => ?_
    refine sPickT (.bool (r158.2.2 == 26)) S (wN rfl) rfl rfl hc355 rfl rfl (lb rfl) fun a S => ?_
    refine sMove (.bool (r158.2.2 == 26)) S (wN rfl) (.inl rfl) rfl rfl (lb rfl) fun a S => ?_
    rcases iteSome h with ⟨hc356, h⟩ | ⟨hc356, h⟩
    rotate_left
    · exact absurd hc356 (by rw [hv_r158]; decide)
    refine sMove (iv r169.2) S (wG 35 true 244 rfl rfl rfl hc356) (.inl rfl) rfl rfl (lb rfl) fun a S => ?_
    refine sBin (.bool (r169.2 == 6)) S (wG 35 true 244 rfl rfl rfl hc356) rfl rfl rfl (bEq _ _ _ _ .i64 r169.2 6) rfl (lb rfl) fun a S => ?_
    refine sPickT (.bool (r169.2 == 6)) S (wN rfl) rfl rfl hc356 rfl rfl (lb rfl) fun a S => ?_
    refine sMove (.bool (r169.2 == 6)) S (wN rfl) (.inl rfl) rfl rfl (lb rfl) fun a S => ?_
    rcases iteSome h with ⟨hc357, h⟩ | ⟨hc357, h⟩
    rotate_left
    · exact absurd hc357 (by rw [hv_r169]; decide)
    refine sMove (iv r182.2) S (wG 39 true 248 rfl rfl rfl hc357) (.inl rfl) rfl rfl (lb rfl) fun a S => ?_
    refine sBin (.bool (r182.2 == 26)) S (wG 39 true 248 rfl rfl rfl hc357) rfl rfl rfl (bEq _ _ _ _ .i64 r182.2 26) rfl (lb rfl) fun a S => ?_
    refine sPickT (.bool (r182.2 == 26)) S (wN rfl) rfl rfl hc357 rfl rfl (lb rfl) fun a S => ?_
    refine sMove (.bool (r182.2 == 26)) S (wN rfl) (.inl rfl) rfl rfl (lb rfl) fun a S => ?_
    rcases iteSome h with ⟨hc358, h⟩ | ⟨hc358, h⟩
    rotate_left
    · exact absurd hc358 (by rw [hv_r182]; decide)
    refine sMove (iv r193.2) S (wG 43 true 252 rfl rfl rfl hc358) (.inl rfl) rfl rfl (lb rfl) fun a S => ?_
    refine sBin (.bool (r193.2 == 26)) S (wG 43 true 252 rfl rfl rfl hc358) rfl rfl rfl (bEq _ _ _ _ .i64 r193.2 26) rfl (lb rfl) fun a S => ?_
    refine sPickT (.bool (r193.2 == 26)) S (wN rfl) rfl rfl hc358 rfl rfl (lb rfl) fun a S => ?_
    refine sMove (.bool (r193.2 == 26)) S (wN rfl) (.inl rfl) rfl rfl (lb rfl) fun a S => ?_
    rcases iteSome h with ⟨hc359, h⟩ | ⟨hc359, h⟩
    rotate_left
    · exact absurd hc359 (by rw [hv_r193]; decide)
    refine sMove (iv r206.2) S (wG 47 true 256 rfl rfl rfl hc359) (.inl rfl) rfl rfl (lb rfl) fun a S => ?_
    refine sBin (.bool (r206.2 == 8)) S (wG 47 true 256 rfl rfl rfl hc359) rfl rfl rfl (bEq _ _ _ _ .i64 r206.2 8) rfl (lb rfl) fun a S => ?_
    refine sPickT (.bool (r206.2 == 8)) S (wN rfl) rfl rfl hc359 rfl rfl (lb rfl) fun a S => ?_
    refine sMove (.bool (r206.2 == 8)) S (wN rfl) (.inl rfl) rfl rfl (lb rfl) fun a S => ?_
    rcases iteSome h with ⟨hc360, h⟩ | ⟨hc360, h⟩
    rotate_left
    · exact absurd hc360 (by rw [hv_r206]; decide)
    refine sMove (iv r221.2) S (wG 51 true 260 rfl rfl rfl hc360) (.inl rfl) rfl rfl (lb rfl) fun a S => ?_
    refine sBin (.bool (r221.2 == 4)) S (wG 51 true 260 rfl rfl rfl hc360) rfl rfl rfl (bEq _ _ _ _ .i64 r221.2 4) rfl (lb rfl) fun a S => ?_
    refine sPickT (.bool (r221.2 == 4)) S (wN rfl) rfl rfl hc360 rfl rfl (lb rfl) fun a S => ?_
    refine sMove (.bool (r221.2 == 4)) S (wN rfl) (.inl rfl) rfl rfl (lb rfl) fun a S => ?_
    rcases iteSome h with ⟨hc361, h⟩ | ⟨hc361, h⟩
    rotate_left
    · exact absurd hc361 (by rw [hv_r221]; decide)
    refine sMove (iv r244.2) S (wG 55 true 264 rfl rfl rfl hc361) (.inl rfl) rfl rfl (lb rfl) fun a S => ?_
    refine sBin (.bool (r244.2 == 26)) S (wG 55 true 264 rfl rfl rfl hc361) rfl rfl rfl (bEq _ _ _ _ .i64 r244.2 26) rfl (lb rfl) fun a S => ?_
    refine sPickT (.bool (r244.2 == 26)) S (wN rfl) rfl rfl hc361 rfl rfl (lb rfl) fun a S => ?_
    refine sMove (.bool (r244.2 == 26)) S (wN rfl) (.inl rfl) rfl rfl (lb rfl) fun a S => ?_
    rcases iteSome h with ⟨hc362, h⟩ | ⟨hc362, h⟩
    rotate_left
    · exact absurd hc362 (by rw [hv_r244]; decide)
    refine sMove (iv r255.2) S (wG 59 true 268 rfl rfl rfl hc362) (.inl rfl) rfl rfl (lb rfl) fun a S => ?_
    refine sBin (.bool (r255.2 == 2)) S (wG 59 true 268 rfl rfl rfl hc362) rfl rfl rfl (bEq _ _ _ _ .i64 r255.2 2) rfl (lb rfl) fun a S => ?_
    refine sPickT (.bool (r255.2 == 2)) S (wN rfl) rfl rfl hc362 rfl rfl (lb rfl) fun a S => ?_
    refine sMove (.bool (r255.2 == 2)) S (wN rfl) (.inl rfl) rfl rfl (lb rfl) fun a S => ?_
    rcases iteSome h with ⟨hc363, h⟩ | ⟨hc363, h⟩
    rotate_left
    · exact absurd hc363 (by rw [hv_r255]; decide)
    refine sMove (iv r267.2) S (wG 63 true 272 rfl rfl rfl hc363) (.inl rfl) rfl rfl (lb rfl) fun a S => ?_
    refine sBin (.bool (r267.2 == 26)) S (wG 63 true 272 rfl rfl rfl hc363) rfl rfl rfl (bEq _ _ _ _ .i64 r267.2 26) rfl (lb rfl) fun a S => ?_
    refine sPickT (.bool (r267.2 == 26)) S (wN rfl) rfl rfl hc363 rfl rfl (lb rfl) fun a S => ?_
    refine sMove (.bool (r267.2 == 26)) S (wN rfl) (.inl rfl) rfl rfl (lb rfl) fun a S => ?_
    rcases iteSome h with ⟨hc364, h⟩ | ⟨hc364, h⟩
    rotate_left
    · exact absurd hc364 (by rw [hv_r267]; decide)
    refine sMove (iv r279.2) S (wG 67 true 276 rfl rfl rfl hc364) (.inl rfl) rfl rfl (lb rfl) fun a S => ?_
    refine sBin (.bool (r279.2 == 8)) S (wG 67 true 276 rfl rfl rfl hc364) rfl rfl rfl (bEq _ _ _ _ .i64 r279.2 8) rfl (lb rfl) fun a S => ?_
    refine sPickT (.bool (r279.2 == 8)) S (wN rfl) rfl rfl hc364 rfl rfl (lb rfl) fun a S => ?_
    refine sMove (.bool (r279.2 == 8)) S (wN rfl) (.inl rfl) rfl rfl (lb rfl) fun a S => ?_
    rcases iteSome h with ⟨hc365, h⟩ | ⟨hc365, h⟩
    rotate_left
    · exact absurd hc365 (by rw [hv_r279]; decide)
    refine sMove (iv r293.2) S (wG 71 true 280 rfl rfl rfl hc365) (.inl rfl) rfl rfl (lb rfl) fun a S => ?_
    refine sBin (.bool (r293.2 == 4)) S (wG 71 true 280 rfl rfl rfl hc365) rfl rfl rfl (bEq _ _ _ _ .i64 r293.2 4) rfl (lb rfl) fun a S => ?_
    refine sPickT (.bool (r293.2 == 4)) S (wN rfl) rfl rfl hc365 rfl rfl (lb rfl) fun a S => ?_
    refine sMove (.bool (r293.2 == 4)) S (wN rfl) (.inl rfl) rfl rfl (lb rfl) fun a S => ?_
    rcases iteSome h with ⟨hc366, h⟩ | ⟨hc366, h⟩
    rotate_left
    · exact absurd hc366 (by rw [hv_r293]; decide)
    refine sMove (iv r307.2) S (wG 75 true 284 rfl rfl rfl hc366) (.inl rfl) rfl rfl (lb rfl) fun a S => ?_
    refine sBin (.bool (r307.2 == 14)) S (wG 75 true 284 rfl rfl rfl hc366) rfl rfl rfl (bEq _ _ _ _ .i64 r307.2 14) rfl (lb rfl) fun a S => ?_
    refine sPickT (.bool (r307.2 == 14)) S (wN rfl) rfl rfl hc366 rfl rfl (lb rfl) fun a S => ?_
    refine sMove (.bool (r307.2 == 14)) S (wN rfl) (.inl rfl) rfl rfl (lb rfl) fun a S => ?_
    rcases iteSome h with ⟨hc367, h⟩ | ⟨hc367, h⟩
    rotate_left
    · exact absurd hc367 (by rw [hv_r307]; decide)
    refine sMove (iv r319.2) S (wG 79 true 288 rfl rfl rfl hc367) (.inl rfl) rfl rfl (lb rfl) fun a S => ?_
    refine sBin (.bool (r319.2 == 26)) S (wG 79 true 288 rfl rfl rfl hc367) rfl rfl rfl (bEq _ _ _ _ .i64 r319.2 26) rfl (lb rfl) fun a S => ?_
    refine sPickT (.bool (r319.2 == 26)) S (wN rfl) rfl rfl hc367 rfl rfl (lb rfl) fun a S => ?_
    refine sMove (.bool (r319.2 == 26)) S (wN rfl) (.inl rfl) rfl rfl (lb rfl) fun a S => ?_
    rcases iteSome h with ⟨hc368, h⟩ | ⟨hc368, h⟩
    rotate_left
    · exact absurd hc368 (by rw [hv_r319]; decide)
    refine sMove (iv r331.2) S (wG 83 true 292 rfl rfl rfl hc368) (.inl rfl) rfl rfl (lb rfl) fun a S => ?_
    refine sBin (.bool (r331.2 == 6)) S (wG 83 true 292 rfl rfl rfl hc368) rfl rfl rfl (bEq _ _ _ _ .i64 r331.2 6) rfl (lb rfl) fun a S => ?_
    refine sPickT (.bool (r331.2 == 6)) S (wN rfl) rfl rfl hc368 rfl rfl (lb rfl) fun a S => ?_
    refine sMove (.bool (r331.2 == 6)) S (wN rfl) (.inl rfl) rfl rfl (lb rfl) fun a S => ?_
    rcases iteSome h with ⟨hc369, h⟩ | ⟨hc369, h⟩
    rotate_left
    · exact absurd hc369 (by rw [hv_r331]; decide)
    refine sMove (iv r337.2) S (wG 87 true 296 rfl rfl rfl hc369) (.inl rfl) rfl rfl (lb rfl) fun a S => ?_
    refine sBin (.bool (r337.2 == 0)) S (wG 87 true 296 rfl rfl rfl hc369) rfl rfl rfl (bEq _ _ _ _ .i64 r337.2 0) rfl (lb rfl) fun a S => ?_
    refine sPickT (.bool (r337.2 == 0)) S (wN rfl) rfl rfl hc369 rfl rfl (lb rfl) fun a S => ?_
    refine sMove (.bool (r337.2 == 0)) S (wN rfl) (.inl rfl) rfl rfl (lb rfl) fun a S => ?_
    rcases iteSome h with ⟨hc370, h⟩ | ⟨hc370, h⟩
    rotate_left
    · exact absurd hc370 (by rw [hv_r337]; decide)
    refine sLoadN (p := b344) (off := 0) (T := 24) (vs := [iv r337.1.W, iv r337.1.H, .slice ad342 r337.1.Bits.length cp343]) 0 [iv r337.1.W, iv r337.1.H, .slice ad342 r337.1.Bits.length cp343] S (wG 91 true 300 rfl rfl rfl hc370) rfl rfl rfl rfl rfl rfl rfl (lb rfl) fun a S => ?_
    refine sLoadN (p := b30) (off := 0) (T := 24) (vs := [iv r5.W, iv r5.H, .slice ad10 r5.Bits.length cp11]) 15 [iv r5.W, iv r5.H, .slice ad10 r5.Bits.length cp11] S (wG 91 true 300 rfl rfl rfl hc370) rfl rfl rfl rfl rfl rfl rfl (lb rfl) fun a S => ?_
    obtain ⟨r371, hx372, h⟩ := bindSome h
    have hv_r371 : r371 = true := Option.some.inj (hx372.symm.trans (by rw [hv_r337, hv_r5]; exact kc_raddlelaw13_BlockNames_30))
    have S1 := S.mem
    refine sCallQ (X := Unit) (f := 17) (vs := [.agg #[iv r337.1.W, iv r337.1.H, .slice ad342 r337.1.Bits.length cp343], .agg #[iv r5.W, iv r5.H, .slice ad10 r5.Bits.length cp11]]) (val := fun _ => .bool r371) S (wG 91 true 300 rfl rfl rfl hc370) rfl callee17 rfl (S1.quiet [1, 101] rfl) (fun E1 w1 S1 => c_raddleref01_Same E1 w1 r337.1 (.agg #[iv r337.1.W, iv r337.1.H, .slice ad342 r337.1.Bits.length cp343]) r5 (.agg #[iv r5.W, iv r5.H, .slice ad10 r5.Bits.length cp11]) r371 hx372 S1) rfl (lb rfl) fun _ a w S => ?_
    refine sPickT (.bool r371) S (wN rfl) rfl rfl hc370 rfl rfl (lb rfl) fun a S => ?_
    refine sMove (.bool r371) S (wN rfl) (.inr rfl) rfl rfl (lb rfl) fun a S => ?_
    refine leafL (leafT (hK345 _ _ ?_))
    obtain rfl := Option.some.inj h
    exact wp_ret (sRet (.bool r371) S (rsl1 rfl (rvT (t := 0) (v := .bool r371) S rfl)) ⟨(), rfl, S.mem.sel [] [] (by decide) rfl rfl⟩)
  refine nodeCut (fun N W L D => ∀ b373 ad231 cp232 ad229 cp230, N [7, 2, 1] ((7, 30, .pointer (some ⟨b373, 0, none⟩)) :: (2, 143, .slice ad231 m219.length cp232) :: (1, 142, .slice ad229 [r14].length cp230) :: W) ((eBox b373 24 [iv 0, iv 0, .slice none 0 0]) :: (eRow (rI .i64) 3 (.slice ad231 m219.length cp232) m219) :: (eRow r_api_Grid 24 (.slice ad229 [r14].length cp230) [r14]) :: L) (D)) (fun b373 ad231 cp232 ad229 cp230 => ?_) fun nd3 => ?_
  · refine node_by (A := anc_raddlelaw13_BlockNames_0) (nf := [1, 2, 3, 7, 8]) (Y := [7, 2, 1]) 10 (by kernel_rfl) (by kernel_rfl) (by kernel_rfl) (by kernel_rfl) (by kernel_rfl) [7, 2, 1, 0] (by kernel_rfl) (by decide) (by decide) (aD 0 9 1 (by decide) (aY 1 8 (by decide) (aY 2 7 (by decide) (aN 3 6 (by decide) ?_ (aE 4 5 3 (by decide) (aE 5 4 3 (by decide) (aE 6 3 3 (by decide) (aY 7 2 (by decide) (aB 8 1 3 (by decide) (aE 9 0 3 (by decide) (trivial))))))))))) [] (fun q hq => by cases hq) (fun hY => absurd (hY 3 (by decide)) (by decide))
    refine ⟨_, [(142, .slice ad229 [r14].length cp230), (143, .slice ad231 m219.length cp232)], rfl, (srcs_of [some 2, some 1] rfl rfl rfl), fun G a w S => ?_⟩
    have S := S.shutR (r := r_api_Grid) (T := 24) (v := .slice ad229 [r14].length cp230) (xs := [r14]) 2 rfl
    have S := S.shutR (r := (rI .i64)) (T := 3) (v := .slice ad231 m219.length cp232) (xs := m219) 1 rfl
    refine sCall (X := Value) (f := 21) (vs := [.slice ad229 [r14].length cp230, .slice ad231 m219.length cp232, iv 65]) (val := c_block_Join_val r221) (B' := fun _ => []) (D' := c_block_Join_D r221) [] [eBox b373 24 [iv 0, iv 0, .slice none 0 0], eBox b213 24 [iv r206.1.W, iv r206.1.H, .slice ad211 r206.1.Bits.length cp212], eBox b200 24 [iv r193.1.W, iv r193.1.H, .slice ad198 r193.1.Bits.length cp199], eBox b189 24 [iv r182.1.W, iv r182.1.H, .slice ad187 r182.1.Bits.length cp188], eBox b176 24 [iv r169.1.W, iv r169.1.H, .slice ad174 r169.1.Bits.length cp175], eBox b147 24 [iv r140.1.W, iv r140.1.H, .slice ad145 r140.1.Bits.length cp146], eBox b119 24 [iv r112.1.W, iv r112.1.H, .slice ad117 r112.1.Bits.length cp118], eBox b87 24 [iv r80.1.W, iv r80.1.H, .slice ad85 r80.1.Bits.length cp86], eBox b78 24 [iv r71.1.W, iv r71.1.H, .slice ad76 r71.1.Bits.length cp77], eBox b69 24 [iv r62.1.W, iv r62.1.H, .slice ad67 r62.1.Bits.length cp68], eBox b41 24 [iv r34.1.W, iv r34.1.H, .slice ad39 r34.1.Bits.length cp40], eBox b32 24 [iv r23.W, iv r23.H, .slice ad28 r23.Bits.length cp29], eBox b31 24 [iv r14.W, iv r14.H, .slice ad19 r14.Bits.length cp20], eBox b30 24 [iv r5.W, iv r5.H, .slice ad10 r5.Bits.length cp11]] [fRep (rL r_api_Grid) (.slice ad229 [r14].length cp230) [r14], fRep (rL (rI .i64)) (.slice ad231 m219.length cp232) m219] [0, 1, 2, 3, 4, 5, 6, 7, 8, 9, 10, 11, 12, 13] [1, 0] S (wN rfl) rfl callee21 rfl (by decide) rfl rfl (fun E1 w1 S1 => c_block_Join E1 w1 [r14] (.slice ad229 [r14].length cp230) m219 (.slice ad231 m219.length cp232) 65 r221 hx222 S1) rfl (lb rfl) fun u374 a w S => ?_
    obtain ⟨u375, rfl, hu376⟩ := S.mem.know (i := 0) (e := fRep r_api_Grid (u374) r221.1) rfl
    have S := S.learn (fRep (rL rB) u375 r221.1.Bits) hu376
    obtain ⟨ad377, cp378, _, rfl, _⟩ := hu376
    refine leafL ⟨rfl, _, _, .inl ⟨144, (.tuple #[.agg #[iv r221.1.W, iv r221.1.H, .slice ad377 r221.1.Bits.length cp378], iv r221.2]), [(4, 140, .tuple #[.agg #[iv r221.1.W, iv r221.1.H, .slice ad377 r221.1.Bits.length cp378], iv r221.2]), (5, 145, .agg #[iv r221.1.W, iv r221.1.H, .slice ad377 r221.1.Bits.length cp378]), (6, 146, iv r221.2)], rfl, S, hz_of rfl, ?_⟩⟩
    exact nodePerm (nd2 b373 ad377 cp378 ad231 cp232 ad229 cp230) [4, 0, 1, 2, 3, 5, 6, 7] [0, 1, 2, 3, 4, 5, 6, 7, 8, 9, 10, 11, 12, 13] [0, 1, 2, 3, 4, 5, 6, 7, 8, 9, 10, 11, 12, 13, 14, 15, 16, 17, 18, 19, 20, 21, 22, 23, 24, 25, 26, 27, 28, 29, 30, 31, 32, 33, 34, 35, 36, 37, 38, 39, 40, 41, 42, 43, 44, 45, 46, 47, 48, 49, 50, 51, 52, 53, 54, 55, 56, 57, 58, 59, 60, 61, 62, 63, 64, 65, 66, 67, 68] (by decide) (by decide) rfl rfl rfl
  refine nodeCut (fun N W L D => ∀ ad231 cp232 ad229 cp230, N [2, 1] ((2, 143, .slice ad231 m219.length cp232) :: (1, 142, .slice ad229 [r14].length cp230) :: W) ((eRow (rI .i64) 3 (.slice ad231 m219.length cp232) m219) :: (eRow r_api_Grid 24 (.slice ad229 [r14].length cp230) [r14]) :: L) (D)) (fun ad231 cp232 ad229 cp230 => ?_) fun nd1 => ?_
  · refine node_by (A := anc_raddlelaw13_BlockNames_0) (nf := [1, 2, 3, 7, 8]) (Y := [2, 1]) 10 (by kernel_rfl) (by kernel_rfl) (by kernel_rfl) (by kernel_rfl) (by kernel_rfl) [2, 1, 0] (by kernel_rfl) (by decide) (by decide) (aD 0 9 1 (by decide) (aY 1 8 (by decide) (aY 2 7 (by decide) (aN 3 6 (by decide) ?_ (aE 4 5 3 (by decide) (aE 5 4 3 (by decide) (aE 6 3 3 (by decide) (aN 7 2 (by decide) ?_ (aB 8 1 3 (by decide) (aE 9 0 3 (by decide) (trivial))))))))))) [] (fun q hq => by cases hq) (fun hY => absurd (hY 3 (by decide)) (by decide))
    · refine ⟨_, [(142, .slice ad229 [r14].length cp230), (143, .slice ad231 m219.length cp232)], rfl, (srcs_of [some 1, some 0] rfl rfl rfl), fun G a w S => ?_⟩
      have S := S.shutR (r := r_api_Grid) (T := 24) (v := .slice ad229 [r14].length cp230) (xs := [r14]) 1 rfl
      have S := S.shutR (r := (rI .i64)) (T := 3) (v := .slice ad231 m219.length cp232) (xs := m219) 0 rfl
      refine sCall (X := Value) (f := 21) (vs := [.slice ad229 [r14].length cp230, .slice ad231 m219.length cp232, iv 65]) (val := c_block_Join_val r221) (B' := fun _ => []) (D' := c_block_Join_D r221) [] [eBox b213 24 [iv r206.1.W, iv r206.1.H, .slice ad211 r206.1.Bits.length cp212], eBox b200 24 [iv r193.1.W, iv r193.1.H, .slice ad198 r193.1.Bits.length cp199], eBox b189 24 [iv r182.1.W, iv r182.1.H, .slice ad187 r182.1.Bits.length cp188], eBox b176 24 [iv r169.1.W, iv r169.1.H, .slice ad174 r169.1.Bits.length cp175], eBox b147 24 [iv r140.1.W, iv r140.1.H, .slice ad145 r140.1.Bits.length cp146], eBox b119 24 [iv r112.1.W, iv r112.1.H, .slice ad117 r112.1.Bits.length cp118], eBox b87 24 [iv r80.1.W, iv r80.1.H, .slice ad85 r80.1.Bits.length cp86], eBox b78 24 [iv r71.1.W, iv r71.1.H, .slice ad76 r71.1.Bits.length cp77], eBox b69 24 [iv r62.1.W, iv r62.1.H, .slice ad67 r62.1.Bits.length cp68], eBox b41 24 [iv r34.1.W, iv r34.1.H, .slice ad39 r34.1.Bits.length cp40], eBox b32 24 [iv r23.W, iv r23.H, .slice ad28 r23.Bits.length cp29], eBox b31 24 [iv r14.W, iv r14.H, .slice ad19 r14.Bits.length cp20], eBox b30 24 [iv r5.W, iv r5.H, .slice ad10 r5.Bits.length cp11]] [fRep (rL r_api_Grid) (.slice ad229 [r14].length cp230) [r14], fRep (rL (rI .i64)) (.slice ad231 m219.length cp232) m219] [0, 1, 2, 3, 4, 5, 6, 7, 8, 9, 10, 11, 12] [1, 0] S (wN rfl) rfl callee21 rfl (by decide) rfl rfl (fun E1 w1 S1 => c_block_Join E1 w1 [r14] (.slice ad229 [r14].length cp230) m219 (.slice ad231 m219.length cp232) 65 r221 hx222 S1) rfl (lb rfl) fun u233 a w S => ?_
      obtain ⟨u234, rfl, hu235⟩ := S.mem.know (i := 0) (e := fRep r_api_Grid (u233) r221.1) rfl
      have S := S.learn (fRep (rL rB) u234 r221.1.Bits) hu235
      obtain ⟨ad236, cp237, _, rfl, _⟩ := hu235
      refine leafL ⟨rfl, _, _, .inl ⟨144, (.tuple #[.agg #[iv r221.1.W, iv r221.1.H, .slice ad236 r221.1.Bits.length cp237], iv r221.2]), [(4, 140, .tuple #[.agg #[iv r221.1.W, iv r221.1.H, .slice ad236 r221.1.Bits.length cp237], iv r221.2]), (5, 145, .agg #[iv r221.1.W, iv r221.1.H, .slice ad236 r221.1.Bits.length cp237]), (6, 146, iv r221.2)], rfl, S, hz_of rfl, ?_⟩⟩
      refine node_by (A := anc_raddlelaw13_BlockNames_0) (nf := [1, 2, 3, 7, 8]) (Y := [3, 2, 1]) 10 (by kernel_rfl) (by kernel_rfl) (by kernel_rfl) (by kernel_rfl) (by kernel_rfl) [4, 5, 6, 3, 2, 1, 0] (by kernel_rfl) (by decide) (by decide) (aD 0 9 3 (by decide) (aY 1 8 (by decide) (aY 2 7 (by decide) (aY 3 6 (by decide) (aF 4 5 (by decide) ?_ (aF 5 4 (by decide) ?_ (aF 6 3 (by decide) ?_ (aN 7 2 (by decide) ?_ (aB 8 1 7 (by decide) (aE 9 0 7 (by decide) (trivial))))))))))) [] (fun q hq => by cases hq) (fun hY => absurd (hY 7 (by decide)) (by decide))
      · refine fI 140 (.tuple #[.agg #[iv r221.1.W, iv r221.1.H, .slice ad236 r221.1.Bits.length cp237], iv r221.2]) [(144, .tuple #[.agg #[iv r221.1.W, iv r221.1.H, .slice ad236 r221.1.Bits.length cp237], iv r221.2])] 0 [some 3] rfl rfl rfl rfl rfl rfl fun G a w S => ?_
        refine sMove (.tuple #[.agg #[iv r221.1.W, iv r221.1.H, .slice ad236 r221.1.Bits.length cp237], iv r221.2]) S (wN rfl) (.inl rfl) rfl rfl (lb rfl) fun a S => ?_
        exact leafL ⟨rfl, S⟩
      · refine fI 145 (.agg #[iv r221.1.W, iv r221.1.H, .slice ad236 r221.1.Bits.length cp237]) [(140, .tuple #[.agg #[iv r221.1.W, iv r221.1.H, .slice ad236 r221.1.Bits.length cp237], iv r221.2])] 1 [some 0] rfl rfl rfl rfl rfl rfl fun G a w S => ?_
        refine sExtract (vs := [.agg #[iv r221.1.W, iv r221.1.H, .slice ad236 r221.1.Bits.length cp237], iv r221.2]) (.agg #[iv r221.1.W, iv r221.1.H, .slice ad236 r221.1.Bits.length cp237]) S (wN rfl) rfl rfl rfl rfl (lb rfl) fun a S => ?_
        exact leafL ⟨rfl, S⟩
      · refine fI 146 (iv r221.2) [(140, .tuple #[.agg #[iv r221.1.W, iv r221.1.H, .slice ad236 r221.1.Bits.length cp237], iv r221.2])] 2 [some 0] rfl rfl rfl rfl rfl rfl fun G a w S => ?_
        refine sExtract (vs := [.agg #[iv r221.1.W, iv r221.1.H, .slice ad236 r221.1.Bits.length cp237], iv r221.2]) (iv r221.2) S (wN rfl) rfl rfl rfl rfl (lb rfl) fun a S => ?_
        exact leafL ⟨rfl, S⟩
      refine ⟨_, [], rfl, (srcs_of [] rfl rfl rfl), fun G a w S => ?_⟩
      refine sAlloc (.agg #[iv 0, iv 0, .slice none 0 0]) S (wN rfl) rfl rfl [iv 0, iv 0, .slice none 0 0] rfl rfl (lb rfl) fun a b238 w S => ?_
      refine leafL ⟨rfl, _, _, .inl ⟨30, (.pointer (some ⟨b238, 0, none⟩)), [], rfl, S, hz_of rfl, ?_⟩⟩
      exact nd2 b238 ad236 cp237 ad231 cp232 ad229 cp230
    refine ⟨_, [], rfl, (srcs_of [] rfl rfl rfl), fun G a w S => ?_⟩
    refine sAlloc (.agg #[iv 0, iv 0, .slice none 0 0]) S (wN rfl) rfl rfl [iv 0, iv 0, .slice none 0 0] rfl rfl (lb rfl) fun a b373 w S => ?_
    refine leafL ⟨rfl, _, _, .inl ⟨30, (.pointer (some ⟨b373, 0, none⟩)), [], rfl, S, hz_of rfl, ?_⟩⟩
    exact nd3 b373 ad231 cp232 ad229 cp230
  refine nodeCut (fun N W L D => ∀ b379 ad229 cp230, N [7, 1] ((7, 30, .pointer (some ⟨b379, 0, none⟩)) :: (1, 142, .slice ad229 [r14].length cp230) :: W) ((eBox b379 24 [iv 0, iv 0, .slice none 0 0]) :: (eRow r_api_Grid 24 (.slice ad229 [r14].length cp230) [r14]) :: L) (D)) (fun b379 ad229 cp230 => ?_) fun nd4 => ?_
  · refine node_by (A := anc_raddlelaw13_BlockNames_0) (nf := [1, 2, 3, 7, 8]) (Y := [7, 1]) 10 (by kernel_rfl) (by kernel_rfl) (by kernel_rfl) (by kernel_rfl) (by kernel_rfl) [7, 1, 0] (by kernel_rfl) (by decide) (by decide) (aD 0 9 1 (by decide) (aY 1 8 (by decide) (aN 2 7 (by decide) ?_ (aB 3 6 2 (by decide) (aE 4 5 2 (by decide) (aE 5 4 2 (by decide) (aE 6 3 2 (by decide) (aY 7 2 (by decide) (aB 8 1 2 (by decide) (aE 9 0 2 (by decide) (trivial))))))))))) [] (fun q hq => by cases hq) (fun hY => absurd (hY 2 (by decide)) (by decide))
    refine ⟨_, [], rfl, (srcs_of [] rfl rfl rfl), fun G a w S => ?_⟩
    refine sMake (r := (rI .i64)) (m := 65) (xs := m219) (iv 0) (0 : Int) 8 S (wN rfl) rfl Try.underlying35 rfl rfl (by decide) (fun _ _ => rfl) rfl rfl hx220 rfl (lb rfl) fun a w ad380 cp381 S => ?_
    refine leafL ⟨rfl, _, _, .inl ⟨143, (.slice ad380 m219.length cp381), [], rfl, S, hz_of rfl, ?_⟩⟩
    exact nodePerm (nd3 b379 ad380 cp381 ad229 cp230) [1, 0, 2, 3] [1, 0, 2, 3, 4, 5, 6, 7, 8, 9, 10, 11, 12, 13, 14, 15] [0, 1, 2, 3, 4, 5, 6, 7, 8, 9, 10, 11, 12, 13, 14, 15, 16, 17, 18, 19, 20, 21, 22, 23, 24, 25, 26, 27, 28, 29, 30, 31, 32, 33, 34, 35, 36, 37, 38, 39, 40, 41, 42, 43, 44, 45, 46, 47, 48, 49, 50, 51, 52, 53, 54, 55, 56, 57, 58, 59, 60, 61, 62, 63, 64] (by decide) (by decide) rfl rfl rfl
  refine nodeCut (fun N W L D => ∀ b386 ad382 cp383, N [7, 2] ((7, 30, .pointer (some ⟨b386, 0, none⟩)) :: (2, 143, .slice ad382 m219.length cp383) :: W) ((eBox b386 24 [iv 0, iv 0, .slice none 0 0]) :: (eRow (rI .i64) 3 (.slice ad382 m219.length cp383) m219) :: L) (D)) (fun b386 ad382 cp383 => ?_) fun nd5 => ?_
  · refine node_by (A := anc_raddlelaw13_BlockNames_0) (nf := [1, 2, 3, 7, 8]) (Y := [7, 2]) 10 (by kernel_rfl) (by kernel_rfl) (by kernel_rfl) (by kernel_rfl) (by kernel_rfl) [7, 2, 0] (by kernel_rfl) (by decide) (by decide) (aF 0 9 (by decide) ?_ (aN 1 8 (by decide) ?_ (aY 2 7 (by decide) (aB 3 6 1 (by decide) (aE 4 5 1 (by decide) (aE 5 4 1 (by decide) (aE 6 3 1 (by decide) (aY 7 2 (by decide) (aB 8 1 1 (by decide) (aE 9 0 1 (by decide) (trivial))))))))))) [] (fun q hq => by cases hq) (fun hY => absurd (hY 1 (by decide)) (by decide))
    · refine fI 141 (.agg #[iv r14.W, iv r14.H, .slice ad19 r14.Bits.length cp20]) [(2, .pointer (some ⟨b31, 0, none⟩))] 2 [none] rfl rfl rfl rfl rfl rfl fun G a w S => ?_
      refine sLoadN (p := b31) (off := 0) (T := 24) (vs := [iv r14.W, iv r14.H, .slice ad19 r14.Bits.length cp20]) 13 [iv r14.W, iv r14.H, .slice ad19 r14.Bits.length cp20] S (wN rfl) rfl rfl rfl rfl rfl rfl rfl (lb rfl) fun a S => ?_
      exact leafL ⟨rfl, S⟩
    refine ⟨_, [(141, .agg #[iv r14.W, iv r14.H, .slice ad19 r14.Bits.length cp20])], rfl, (srcs_of [some 2] rfl rfl rfl), fun G a w S => ?_⟩
    refine sLit (r := r_api_Grid) (T := 24) (xs := [r14]) [(0, .agg #[iv r14.W, iv r14.H, .slice ad19 r14.Bits.length cp20])] 1 [.agg #[iv r14.W, iv r14.H, .slice ad19 r14.Bits.length cp20]] [iv r14.W, iv r14.H, .slice ad19 r14.Bits.length cp20] (.agg #[iv 0, iv 0, .slice none 0 0]) 40 S (wN rfl) rfl rfl Try.underlying34 rfl (by decide) (by decide) (by kernel_rfl) rfl (fun E1 w1 hE => All.cons (r_api_Grid.mono hE (S.mem.know (i := 60) (e := fRep r_api_Grid (.agg #[iv r14.W, iv r14.H, .slice ad19 r14.Bits.length cp20]) r14) rfl)) (All.nil _ _ _)) rfl rfl (lb rfl) fun a w ad387 cp388 S => ?_
    refine leafL ⟨rfl, _, _, .inl ⟨142, (.slice ad387 [r14].length cp388), [], rfl, S, hz_of rfl, ?_⟩⟩
    exact nodePerm (nd3 b386 ad382 cp383 ad387 cp388) [1, 2, 0, 3] [1, 2, 0, 3, 4, 5, 6, 7, 8, 9, 10, 11, 12, 13, 14, 15] [0, 1, 2, 3, 4, 5, 6, 7, 8, 9, 10, 11, 12, 13, 14, 15, 16, 17, 18, 19, 20, 21, 22, 23, 24, 25, 26, 27, 28, 29, 30, 31, 32, 33, 34, 35, 36, 37, 38, 39, 40, 41, 42, 43, 44, 45, 46, 47, 48, 49, 50, 51, 52, 53, 54, 55, 56, 57, 58, 59, 60, 61, 62, 63, 64] (by decide) (by decide) rfl rfl rfl
  refine node_by (A := anc_raddlelaw13_BlockNames_0) (nf := [1, 2, 3, 7, 8]) (Y := []) (W := [(0, 141, .agg #[iv r14.W, iv r14.H, .slice ad19 r14.Bits.length cp20])]) 10 (by kernel_rfl) (by kernel_rfl) (by kernel_rfl) (by kernel_rfl) (by kernel_rfl) [0] (by kernel_rfl) (by decide) (by decide) (aF 0 9 (by decide) ?_ (aN 1 8 (by decide) ?_ (aN 2 7 (by decide) ?_ (aB 3 6 1 (by decide) (aE 4 5 1 (by decide) (aE 5 4 1 (by decide) (aE 6 3 1 (by decide) (aN 7 2 (by decide) ?_ (aB 8 1 1 (by decide) (aE 9 0 1 (by decide) (trivial))))))))))) [] (fun q hq => by cases hq) (fun hY => absurd (hY 1 (by decide)) (by decide))
  · refine fI 141 (.agg #[iv r14.W, iv r14.H, .slice ad19 r14.Bits.length cp20]) [(2, .pointer (some ⟨b31, 0, none⟩))] 0 [none] rfl rfl rfl rfl rfl rfl fun G a w S => ?_
    refine sLoadN (p := b31) (off := 0) (T := 24) (vs := [iv r14.W, iv r14.H, .slice ad19 r14.Bits.length cp20]) 11 [iv r14.W, iv r14.H, .slice ad19 r14.Bits.length cp20] S (wN rfl) rfl rfl rfl rfl rfl rfl rfl (lb rfl) fun a S => ?_
    exact leafL ⟨rfl, S⟩
  · refine ⟨_, [(141, .agg #[iv r14.W, iv r14.H, .slice ad19 r14.Bits.length cp20])], rfl, (srcs_of [some 0] rfl rfl rfl), fun G a w S => ?_⟩
    refine sLit (r := r_api_Grid) (T := 24) (xs := [r14]) [(0, .agg #[iv r14.W, iv r14.H, .slice ad19 r14.Bits.length cp20])] 1 [.agg #[iv r14.W, iv r14.H, .slice ad19 r14.Bits.length cp20]] [iv r14.W, iv r14.H, .slice ad19 r14.Bits.length cp20] (.agg #[iv 0, iv 0, .slice none 0 0]) 40 S (wN rfl) rfl rfl Try.underlying34 rfl (by decide) (by decide) (by kernel_rfl) rfl (fun E1 w1 hE => All.cons (r_api_Grid.mono hE (S.mem.know (i := 60) (e := fRep r_api_Grid (.agg #[iv r14.W, iv r14.H, .slice ad19 r14.Bits.length cp20]) r14) rfl)) (All.nil _ _ _)) rfl rfl (lb rfl) fun a w ad229 cp230 S => ?_
    refine leafL ⟨rfl, _, _, .inl ⟨142, (.slice ad229 [r14].length cp230), [], rfl, S, hz_of rfl, ?_⟩⟩
    refine node_by (A := anc_raddlelaw13_BlockNames_0) (nf := [1, 2, 3, 7, 8]) (Y := [1]) 10 (by kernel_rfl) (by kernel_rfl) (by kernel_rfl) (by kernel_rfl) (by kernel_rfl) [1, 0] (by kernel_rfl) (by decide) (by decide) (aD 0 9 1 (by decide) (aY 1 8 (by decide) (aN 2 7 (by decide) ?_ (aB 3 6 2 (by decide) (aE 4 5 2 (by decide) (aE 5 4 2 (by decide) (aE 6 3 2 (by decide) (aN 7 2 (by decide) ?_ (aB 8 1 2 (by decide) (aE 9 0 2 (by decide) (trivial))))))))))) [] (fun q hq => by cases hq) (fun hY => absurd (hY 2 (by decide)) (by decide))
    · refine ⟨_, [], rfl, (srcs_of [] rfl rfl rfl), fun G a w S => ?_⟩
      refine sMake (r := (rI .i64)) (m := 65) (xs := m219) (iv 0) (0 : Int) 8 S (wN rfl) rfl Try.underlying35 rfl rfl (by decide) (fun _ _ => rfl) rfl rfl hx220 rfl (lb rfl) fun a w ad231 cp232 S => ?_
      refine leafL ⟨rfl, _, _, .inl ⟨143, (.slice ad231 m219.length cp232), [], rfl, S, hz_of rfl, ?_⟩⟩
      exact nd1 ad231 cp232 ad229 cp230
    refine ⟨_, [], rfl, (srcs_of [] rfl rfl rfl), fun G a w S => ?_⟩
    refine sAlloc (.agg #[iv 0, iv 0, .slice none 0 0]) S (wN rfl) rfl rfl [iv 0, iv 0, .slice none 0 0] rfl rfl (lb rfl) fun a b379 w S => ?_
    refine leafL ⟨rfl, _, _, .inl ⟨30, (.pointer (some ⟨b379, 0, none⟩)), [], rfl, S, hz_of rfl, ?_⟩⟩
    exact nd4 b379 ad229 cp230
  · refine ⟨_, [], rfl, (srcs_of [] rfl rfl rfl), fun G a w S => ?_⟩
    refine sMake (r := (rI .i64)) (m := 65) (xs := m219) (iv 0) (0 : Int) 8 S (wN rfl) rfl Try.underlying35 rfl rfl (by decide) (fun _ _ => rfl) rfl rfl hx220 rfl (lb rfl) fun a w ad382 cp383 S => ?_
    refine leafL ⟨rfl, _, _, .inl ⟨143, (.slice ad382 m219.length cp383), [], rfl, S, hz_of rfl, ?_⟩⟩
    refine node_by (A := anc_raddlelaw13_BlockNames_0) (nf := [1, 2, 3, 7, 8]) (Y := [2]) 10 (by kernel_rfl) (by kernel_rfl) (by kernel_rfl) (by kernel_rfl) (by kernel_rfl) [2, 0] (by kernel_rfl) (by decide) (by decide) (aF 0 9 (by decide) ?_ (aN 1 8 (by decide) ?_ (aY 2 7 (by decide) (aB 3 6 1 (by decide) (aE 4 5 1 (by decide) (aE 5 4 1 (by decide) (aE 6 3 1 (by decide) (aN 7 2 (by decide) ?_ (aB 8 1 1 (by decide) (aE 9 0 1 (by decide) (trivial))))))))))) [] (fun q hq => by cases hq) (fun hY => absurd (hY 1 (by decide)) (by decide))
    · refine fI 141 (.agg #[iv r14.W, iv r14.H, .slice ad19 r14.Bits.length cp20]) [(2, .pointer (some ⟨b31, 0, none⟩))] 1 [none] rfl rfl rfl rfl rfl rfl fun G a w S => ?_
      refine sLoadN (p := b31) (off := 0) (T := 24) (vs := [iv r14.W, iv r14.H, .slice ad19 r14.Bits.length cp20]) 12 [iv r14.W, iv r14.H, .slice ad19 r14.Bits.length cp20] S (wN rfl) rfl rfl rfl rfl rfl rfl rfl (lb rfl) fun a S => ?_
      exact leafL ⟨rfl, S⟩
    · refine ⟨_, [(141, .agg #[iv r14.W, iv r14.H, .slice ad19 r14.Bits.length cp20])], rfl, (srcs_of [some 1] rfl rfl rfl), fun G a w S => ?_⟩
      refine sLit (r := r_api_Grid) (T := 24) (xs := [r14]) [(0, .agg #[iv r14.W, iv r14.H, .slice ad19 r14.Bits.length cp20])] 1 [.agg #[iv r14.W, iv r14.H, .slice ad19 r14.Bits.length cp20]] [iv r14.W, iv r14.H, .slice ad19 r14.Bits.length cp20] (.agg #[iv 0, iv 0, .slice none 0 0]) 40 S (wN rfl) rfl rfl Try.underlying34 rfl (by decide) (by decide) (by kernel_rfl) rfl (fun E1 w1 hE => All.cons (r_api_Grid.mono hE (S.mem.know (i := 60) (e := fRep r_api_Grid (.agg #[iv r14.W, iv r14.H, .slice ad19 r14.Bits.length cp20]) r14) rfl)) (All.nil _ _ _)) rfl rfl (lb rfl) fun a w ad384 cp385 S => ?_
      refine leafL ⟨rfl, _, _, .inl ⟨142, (.slice ad384 [r14].length cp385), [], rfl, S, hz_of rfl, ?_⟩⟩
      exact nodePerm (nd1 ad382 cp383 ad384 cp385) [1, 0, 2] [1, 0, 2, 3, 4, 5, 6, 7, 8, 9, 10, 11, 12, 13, 14] [0, 1, 2, 3, 4, 5, 6, 7, 8, 9, 10, 11, 12, 13, 14, 15, 16, 17, 18, 19, 20, 21, 22, 23, 24, 25, 26, 27, 28, 29, 30, 31, 32, 33, 34, 35, 36, 37, 38, 39, 40, 41, 42, 43, 44, 45, 46, 47, 48, 49, 50, 51, 52, 53, 54, 55, 56, 57, 58, 59, 60, 61, 62, 63, 64] (by decide) (by decide) rfl rfl rfl
    refine ⟨_, [], rfl, (srcs_of [] rfl rfl rfl), fun G a w S => ?_⟩
    refine sAlloc (.agg #[iv 0, iv 0, .slice none 0 0]) S (wN rfl) rfl rfl [iv 0, iv 0, .slice none 0 0] rfl rfl (lb rfl) fun a b386 w S => ?_
    refine leafL ⟨rfl, _, _, .inl ⟨30, (.pointer (some ⟨b386, 0, none⟩)), [], rfl, S, hz_of rfl, ?_⟩⟩
    exact nd5 b386 ad382 cp383
  refine ⟨_, [], rfl, (srcs_of [] rfl rfl rfl), fun G a w S => ?_⟩
  refine sAlloc (.agg #[iv 0, iv 0, .slice none 0 0]) S (wN rfl) rfl rfl [iv 0, iv 0, .slice none 0 0] rfl rfl (lb rfl) fun a b389 w S => ?_
  refine leafL ⟨rfl, _, _, .inl ⟨30, (.pointer (some ⟨b389, 0, none⟩)), [], rfl, S, hz_of rfl, ?_⟩⟩
  refine node_by (A := anc_raddlelaw13_BlockNames_0) (nf := [1, 2, 3, 7, 8]) (Y := [7]) 10 (by kernel_rfl) (by kernel_rfl) (by kernel_rfl) (by kernel_rfl) (by kernel_rfl) [7, 0] (by kernel_rfl) (by decide) (by decide) (aF 0 9 (by decide) ?_ (aN 1 8 (by decide) ?_ (aN 2 7 (by decide) ?_ (aB 3 6 1 (by decide) (aE 4 5 1 (by decide) (aE 5 4 1 (by decide) (aE 6 3 1 (by decide) (aY 7 2 (by decide) (aB 8 1 1 (by decide) (aE 9 0 1 (by decide) (trivial))))))))))) [] (fun q hq => by cases hq) (fun hY => absurd (hY 1 (by decide)) (by decide))
  · refine fI 141 (.agg #[iv r14.W, iv r14.H, .slice ad19 r14.Bits.length cp20]) [(2, .pointer (some ⟨b31, 0, none⟩))] 1 [none] rfl rfl rfl rfl rfl rfl fun G a w S => ?_
    refine sLoadN (p := b31) (off := 0) (T := 24) (vs := [iv r14.W, iv r14.H, .slice ad19 r14.Bits.length cp20]) 12 [iv r14.W, iv r14.H, .slice ad19 r14.Bits.length cp20] S (wN rfl) rfl rfl rfl rfl rfl rfl rfl (lb rfl) fun a S => ?_
    exact leafL ⟨rfl, S⟩
  · refine ⟨_, [(141, .agg #[iv r14.W, iv r14.H, .slice ad19 r14.Bits.length cp20])], rfl, (srcs_of [some 1] rfl rfl rfl), fun G a w S => ?_⟩
    refine sLit (r := r_api_Grid) (T := 24) (xs := [r14]) [(0, .agg #[iv r14.W, iv r14.H, .slice ad19 r14.Bits.length cp20])] 1 [.agg #[iv r14.W, iv r14.H, .slice ad19 r14.Bits.length cp20]] [iv r14.W, iv r14.H, .slice ad19 r14.Bits.length cp20] (.agg #[iv 0, iv 0, .slice none 0 0]) 40 S (wN rfl) rfl rfl Try.underlying34 rfl (by decide) (by decide) (by kernel_rfl) rfl (fun E1 w1 hE => All.cons (r_api_Grid.mono hE (S.mem.know (i := 60) (e := fRep r_api_Grid (.agg #[iv r14.W, iv r14.H, .slice ad19 r14.Bits.length cp20]) r14) rfl)) (All.nil _ _ _)) rfl rfl (lb rfl) fun a w ad390 cp391 S => ?_
    refine leafL ⟨rfl, _, _, .inl ⟨142, (.slice ad390 [r14].length cp391), [], rfl, S, hz_of rfl, ?_⟩⟩
    exact nodePerm (nd4 b389 ad390 cp391) [1, 0, 2] [1, 0, 2, 3, 4, 5, 6, 7, 8, 9, 10, 11, 12, 13, 14] [0, 1, 2, 3, 4, 5, 6, 7, 8, 9, 10, 11, 12, 13, 14, 15, 16, 17, 18, 19, 20, 21, 22, 23, 24, 25, 26, 27, 28, 29, 30, 31, 32, 33, 34, 35, 36, 37, 38, 39, 40, 41, 42, 43, 44, 45, 46, 47, 48, 49, 50, 51, 52, 53, 54, 55, 56, 57, 58, 59, 60, 61, 62, 63, 64] (by decide) (by decide) rfl rfl rfl
  refine ⟨_, [], rfl, (srcs_of [] rfl rfl rfl), fun G a w S => ?_⟩
  refine sMake (r := (rI .i64)) (m := 65) (xs := m219) (iv 0) (0 : Int) 8 S (wN rfl) rfl Try.underlying35 rfl rfl (by decide) (fun _ _ => rfl) rfl rfl hx220 rfl (lb rfl) fun a w ad392 cp393 S => ?_
  refine leafL ⟨rfl, _, _, .inl ⟨143, (.slice ad392 m219.length cp393), [], rfl, S, hz_of rfl, ?_⟩⟩
  exact nodePerm (nd5 b389 ad392 cp393) [1, 0, 2] [1, 0, 2, 3, 4, 5, 6, 7, 8, 9, 10, 11, 12, 13, 14] [0, 1, 2, 3, 4, 5, 6, 7, 8, 9, 10, 11, 12, 13, 14, 15, 16, 17, 18, 19, 20, 21, 22, 23, 24, 25, 26, 27, 28, 29, 30, 31, 32, 33, 34, 35, 36, 37, 38, 39, 40, 41, 42, 43, 44, 45, 46, 47, 48, 49, 50, 51, 52, 53, 54, 55, 56, 57, 58, 59, 60, 61, 62, 63, 64] (by decide) (by decide) rfl rfl rfl

end Go.Proofs.Ythfifeabomdlpaa
namespace Go.Proofs.Ythfifeabomdlpaa
open Go.RowKit
set_option linter.unusedVariables false

def K_raddlelaw13_BlockNames  : Option Bool :=
  Option.bind (K_raddlelaw13_row [true, false]) fun r5 =>
  Option.bind (K_raddlelaw13_row [true]) fun r14 =>
  Option.bind (K_raddlelaw13_row [false]) fun r23 =>
  Option.bind (K_block_Fill r5 r14 r5) fun r34 =>
  Option.bind (K_raddleref01_Zero 33 1) fun r43 =>
  Option.bind (K_raddleref01_Zero 2 1) fun r50 =>
  Option.bind (K_block_Fill r43 r50 r50) fun r62 =>
  Option.bind (K_block_Fill (api_Grid.mk 0 0 ([] : (List Bool))) r14 r5) fun r71 =>
  Option.bind (K_block_Profile r5 r14 r14) fun r80 =>
  Option.bind (K_raddlelaw13_row [true, false, true]) fun r91 =>
  Option.bind (K_raddlelaw13_row [true, true]) fun r105 =>
  Option.bind (K_block_Profile r91 r50 r105) fun r112 =>
  Option.bind (K_block_Profile r5 r50 r105) fun r140 =>
  Option.bind (K_block_Units r5 0 1) fun r149 =>
  Option.bind (K_block_Units r5 2 2) fun r158 =>
  Option.bind (K_block_Join ([] : (List api_Grid)) ([0] : List Int) 1) fun r169 =>
  Option.bind (K_block_Join [r14, r5] ([0] : List Int) 1) fun r182 =>
  Option.bind (K_block_Join [r14] ([] : (List Int)) 1) fun r193 =>
  Option.bind (K_block_Join [r14] ([1] : List Int) 1) fun r206 =>
  Option.bind (makeO 65 (0 : Int)) fun m219 =>
  Option.bind (K_block_Join [r14] m219 65) fun r221 =>
  Option.bind (K_block_Join [r14] ([0] : List Int) 0) fun r244 =>
  Option.bind (K_block_Spell ([0] : List Int) ([] : (List (List Int)))) fun r255 =>
  Option.bind (K_block_Spell ([0] : List Int) [([] : List Int)]) fun r267 =>
  Option.bind (K_block_Spell ([1] : List Int) [([1] : List Int)]) fun r279 =>
  Option.bind (makeO 201 (0 : Int)) fun m287 =>
  Option.bind (K_block_Spell m287 [([1, 2] : List Int)]) fun r293 =>
  Option.bind (K_block_Blocks ([1] : List Int) [([1] : List Int), ([1] : List Int)]) fun r307 =>
  Option.bind (K_block_Blocks ([1, 2, 3] : List Int) [([1, 2] : List Int)]) fun r319 =>
  Option.bind (K_block_Blocks ([1, 3] : List Int) [([1, 2] : List Int)]) fun r331 =>
  Option.bind (K_block_Profile r5 r14 r23) fun r337 =>
  Option.bind (K_raddlelaw13_alive) fun r346 =>
  if r346 then
    if r34.2 == 26 then
      if r62.2 == 4 then
        if r71.2 == 8 then
          if r80.2 == 14 then
            if r112.2 == 26 then
              if r140.2 == 6 then
                if r149.2.2 == 26 then
                  if r158.2.2 == 26 then
                    if r169.2 == 6 then
                      if r182.2 == 26 then
                        if r193.2 == 26 then
                          if r206.2 == 8 then
                            if r221.2 == 4 then
                              if r244.2 == 26 then
                                if r255.2 == 2 then
                                  if r267.2 == 26 then
                                    if r279.2 == 8 then
                                      if r293.2 == 4 then
                                        if r307.2 == 14 then
                                          if r319.2 == 26 then
                                            if r331.2 == 6 then
                                              if r337.2 == 0 then
                                                Option.bind (K_raddleref01_Same r337.1 r5) fun r371 =>
                                                some r371
                                              else
                                                none
                                            else
                                              none
                                          else
                                            none
                                        else
                                          none
                                      else
                                        none
                                    else
                                      none
                                  else
                                    none
                                else
                                  none
                              else
                                none
                            else
                              none
                          else
                            none
                        else
                          none
                      else
                        none
                    else
                      none
                  else
                    none
                else
                  none
              else
                none
            else
              none
          else
            none
        else
          none
      else
        none
    else
      none
  else
    none
theorem m_F_raddlelaw13_BlockNames  : Le (K_raddlelaw13_BlockNames) (F_raddlelaw13_BlockNames) := by
  unfold K_raddlelaw13_BlockNames F_raddlelaw13_BlockNames
  with_reducible repeat' (first | exact m_F_raddlelaw13_row _ | exact m_F_block_Fill _ _ _ | exact m_F_raddleref01_Zero _ _ | exact m_F_block_Profile _ _ _ | exact m_F_block_Units _ _ _ | exact m_F_block_Join _ _ _ | exact m_F_block_Spell _ _ | exact m_F_block_Blocks _ _ | exact m_F_raddlelaw13_alive | exact m_F_raddleref01_Same _ _ | exact Le.rfl _ | refine Le.loop _ ?_ | refine Le.bind ?_ ?_ | refine Le.ite ?_ ?_ | refine Le.sum ?_ ?_ | refine Le.prod ?_ | intro _ | exact Empty.elim (by assumption) | dsimp only)
set_option maxRecDepth 1000000 in
theorem k_raddlelaw13_BlockNames : F_raddlelaw13_BlockNames = some true := m_F_raddlelaw13_BlockNames _ (by kernel_rfl)
theorem law_BlockNames : F_raddlelaw13_BlockNames = some true := k_raddlelaw13_BlockNames
end Go.Proofs.Ythfifeabomdlpaa
namespace Go.Proofs.Ythfifeabomdlpaa
open Go.RowKit
set_option linter.unusedVariables false

namespace frameBlockNames
open Go.ChangeShapes Go.WideShapes Go.ChangeAt Go.Joins
theorem own : ownKnob Try.prog.godebug = none := by kernel_rfl
theorem laidOut : laidOutB Try.prog = true := by kernel_rfl
set_option maxRecDepth 100000 in
theorem lifted (os : Os) (started : os.Started) (H : Type) (enc : TypeId × Value → H) :
    ReturnsInHanded {} Try.checked os 10 .any (Rows.blockNamesSpec.pre6 enc Try.prog Try.f10 Rows.blockNamesRow.domain false) (Rows.blockNamesSpec.post enc Try.prog Try.f10 false true false false) := by
  refine returnsInHanded_of_change (C := Try.checked) own started (by kernel_rfl) Try.func10
    (ChangeSpec.witness6 (enc := enc) (C := Try.checked) false ⟨#[], #[], []⟩ 8 (by kernel_rfl) (by kernel_rfl) (by kernel_rfl) (by kernel_rfl)) ?_
  intro W base args ds gs before hval0 hW hcnd _
  have hval : ∀ (j : Nat) t v, Try.f10.params[j]? = some t → args[j]? = some v → Value.okWide Try.prog W .any base t v := hval0
  have hW' := hW
  obtain ⟨p, q, hA0, hV, rfl, hfz, hnd⟩ := hW
  have hA : DataW.TrodAll enc Try.prog W 0 (fun _ => true) true Try.f10.params.toList args.toList ds p := hA0
  rw [Try.params10] at hA hval
  obtain ⟨rfl, rfl, rfl⟩ := trodAll_none hA
  obtain ⟨rfl, rfl⟩ := trodVars_none hV
  clear hA0 hval0
  refine (c_raddlelaw13_BlockNames (fun _ => False) W  true (law_BlockNames  ) (St0.start (by intro d hd; cases hd))).mono fun e W' hr => ?_
  obtain ⟨_, he, hS⟩ := hr
  have bel := hS.chg.below
  subst he
  exact ⟨_, rfl, _, _, _, [], _, [], hW', trodAll_mk1 (shut_bool Try.underlying4 _), trodAll_mk0, rfl, bel.frame _, fun h => by cases h⟩
theorem over : Rows.blockNamesRow.holds Try.pinned (OpenSpec.ofChange Rows.blockNamesSpec) :=
  OpenClaim.holds_of_wide 10 Try.f10 rfl rfl rfl rfl rfl rfl rfl ⟨rfl, rfl, rfl, rfl, rfl⟩ rfl rfl rfl rfl rfl (by kernel_rfl) Try.func10 (by kernel_rfl)
    (of_decide_eq_true (by kernel_rfl)) (by unfold Func.isWrapper; first | (rw [if_pos (by decide +kernel)]; kernel_rfl) | (rw [if_neg (by decide +kernel)]; exact ⟨rfl, rfl⟩))
    (fun os started H enc _ => lifted os started H enc)
end frameBlockNames
theorem blockNames_holds : Rows.BlockNamesSaid := frameBlockNames.over

end Go.Proofs.Ythfifeabomdlpaa
