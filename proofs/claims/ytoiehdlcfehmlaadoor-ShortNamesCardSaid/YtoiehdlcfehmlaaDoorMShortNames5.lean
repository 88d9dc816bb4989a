/- Several texts in one: G3 KvShortNames FrShortNames -/
import Derived.WalkKit
import Derived.Maps.AppendAt
import Derived.Deep.AppendLies
import Derived.KernelRfl
import Derived.Laws.OwnMore
import Derived.Great.BuildSlice
import Derived.Orders
import Derived.Laws.StructEq
import Derived.ChangeKeysEq
import Derived.Defers
import Derived.Laws.BytesString
import Derived.RangeFuncNested
import Derived.RangeFuncBound
import Derived.RangeFuncCalls
import Derived.RangeFuncLeaves
import Derived.OrdersIn
import Derived.LoopNIn
import Derived.Test.YtoiehdlcfehmlaaDoorProg
import Derived.ProofKit
import Derived.OpenShut
import Derived.ChangeOld
import Derived.Deep.Slices
import Derived.Lib.SmallJoins
import Derived.JoinedOf
import Derived.JoinedAt
import Derived.Below
import Derived.Shelf.Strings.Builder1
import Derived.Shelf.Strings.Builder2
import Derived.Shelf.Strings.OnBuilder
import Derived.Test.YtoiehdlcfehmlaaDoorRows
import Derived.LaidMore
import Derived.SevenTiedAt
import Derived.Test.YtoiehdlcfehmlaaDoorCards
import Derived.Test.YtoiehdlcfehmlaaDoorTie
import Derived.Test.YtoiehdlcfehmlaaDoorMShortNames4
namespace Go.Proofs.YtoiehdlcfehmlaaDoor
open Go.RowKit
set_option linter.unusedVariables false

noncomputable def F_raddlelaw38_ShortNames  : Option Bool :=
  Option.bind (F_short_Turns 7 0) fun r3 =>
  Option.bind (F_short_Turns 4 4) fun r9 =>
  Option.bind (F_short_Turns 1 1) fun r15 =>
  Option.bind (F_short_Turns 3 1) fun r21 =>
  Option.bind (F_short_Heights 3 ([] : (List Int))) fun r27 =>
  Option.bind (F_short_Fit ([0, 0] : List Int)) fun r35 =>
  Option.bind (F_short_Fit ([2] : List Int)) fun r43 =>
  Option.bind (F_short_Turns 0 0) fun r49 =>
  Option.bind (F_short_Turns 4 5) fun r55 =>
  Option.bind (F_short_Turns 60 51) fun r61 =>
  Option.bind (F_short_Turns 201 1) fun r67 =>
  Option.bind (F_short_Heights 3 ([4] : List Int)) fun r75 =>
  Option.bind (F_short_Heights 3 ([0] : List Int)) fun r83 =>
  Option.bind (makeO 51 (0 : Int)) fun m91 =>
  Option.bind (F_short_Worked 201 m91) fun r93 =>
  Option.bind (F_short_Chart 200 m91) fun r98 =>
  Option.bind (F_short_Fit ([] : (List Int))) fun r107 =>
  Option.bind (F_short_Fit ([1, 2] : List Int)) fun r115 =>
  Option.bind (F_short_Fit ([51] : List Int)) fun r123 =>
  Option.bind (makeO 201 (0 : Int)) fun m131 =>
  Option.bind (F_short_Fit m131) fun r133 =>
  Option.bind (F_short_Read (api_Chart.mk 2 [(api_Row.mk false [(api_Stitch.mk 1 false 0 0), (api_Stitch.mk 8 false 0 0)])])) fun r143 =>
  Option.bind (F_short_Read (api_Chart.mk 0 ([] : (List api_Row)))) fun r149 =>
  Option.bind (F_short_Read (api_Chart.mk 5 ([] : (List api_Row)))) fun r155 =>
  if r49.2 == 2 then
    if r55.2 == 2 then
      if r61.2 == 2 then
        if r67.2 == 2 then
          if r75.2 == 2 then
            if r83.2 == 2 then
              if r93.2 == 2 then
                if r98.2 == 4 then
                  if r107.2 == 2 then
                    if r115.2 == 2 then
                      if r123.2 == 2 then
                        if r133.2 == 4 then
                          if r143.2.2 == 8 then
                            if r3.2 == 0 then
                              if (r3.1.length : Int) == 0 then
                                if r9.2 == 0 then
                                  Option.bind (F_raddleref36_Same r9.1 ([4, 3, 2, 1] : List Int)) fun r180 =>
                                  if r180 then
                                    if r15.2 == 0 then
                                      Option.bind (F_raddleref36_Same r15.1 ([1] : List Int)) fun r186 =>
                                      if r186 then
                                        if r21.2 == 0 then
                                          Option.bind (F_raddleref36_Same r21.1 ([2] : List Int)) fun r192 =>
                                          if r192 then
                                            if r27.2 == 0 then
                                              Option.bind (F_raddleref36_Same r27.1 ([0, 0, 0] : List Int)) fun r198 =>
                                              if r198 then
                                                if r35.2 == 0 then
                                                  if (r35.1.length : Int) == 0 then
                                                    if r43.2 == 0 then
                                                      Option.bind (F_raddleref36_Same r43.1 ([1, 1] : List Int)) fun r206 =>
                                                      if r206 then
                                                        if r149.2.2 == 8 then
                                                          if r155.2.2 == 0 then
                                                            if r155.1 == 5 then
                                                              if (r155.2.1.length : Int) == 0 then
                                                                Option.bind (F_raddlelaw38_alive) fun r214 =>
                                                                some r214
                                                              else
                                                                none
                                                            else
                                                              none
                                                          else
                                                            none
                                                        else
                                                          none
                                                      else
                                                        none
                                                    else
                                                      none
                                                  else
                                                    none
                                                else
                                                  none
                                              else
                                                none
                                            else
                                              none
                                          else
                                            none
                                        else
                                          none
                                      else
                                        none
                                    else
                                      none
                                  else
                                    none
                                else
                                  none
                              else
                                none
                            else
                              none
                          else
                            none
                        else
                          none
                      else
                        none
                    else
                      none
                  else
                    none
                else
                  none
              else
                none
            else
              none
          else
            none
        else
          none
      else
        none
    else
      none
  else
    none
set_option maxHeartbeats 4000000 in
set_option maxRecDepth 100000 in
theorem c_raddlelaw38_ShortNames (E : Nat → Prop) (w0 : World)  (r : Bool) (h : F_raddlelaw38_ShortNames  = some r) (S : St0 E [] w0 w0 [] []) :
    Calls Tryd.prog 3 #[] w0 (Ret (X := Unit) E [] w0 (fun _ => .bool r) (fun _ => []) (fun _ => [])) := by
  unfold F_raddlelaw38_ShortNames at h
  refine sEnter (args := []) 295 Tryd.func3 rfl rfl (by simp) S (fun a S => ?_)
  refine sSeq (fun K1 hK1 => ?_)
  refine sRegion ?_
  refine sMove (.bool false) S (wN rfl) (.inr rfl) rfl rfl (lb rfl) fun a S => ?_
  refine leafL (leafT (hK1 _ _ ?_))
  refine sSeq (fun K2 hK2 => ?_)
  refine sRegion ?_
  obtain ⟨r3, hx4, h⟩ := bindSome h
  have hv_r3 : r3 = ([], 0) := Option.some.inj (hx4.symm.trans (by exact kc_raddlelaw38_ShortNames_0))
  refine sCall (X := Value) (f := 8) (vs := [iv 7, iv 0]) (val := c_short_Turns_val r3) (B' := fun _ => []) (D' := c_short_Turns_D r3) [] [] [] [] [] S (wN rfl) rfl callee8 rfl (by decide) rfl rfl (fun E1 w1 S1 => c_short_Turns E1 w1 7 0 r3 hx4 S1) rfl (lb rfl) fun u5 a w S => ?_
  obtain ⟨ad6, cp7, _, rfl, _⟩ := S.mem.know (i := 0) (e := fRep (rL (rI .i64)) (u5) r3.1) rfl
  refine sMove (.tuple #[.slice ad6 r3.1.length cp7, iv r3.2]) S (wN rfl) (.inl rfl) rfl rfl (lb rfl) fun a S => ?_
  refine sExtract (vs := [.slice ad6 r3.1.length cp7, iv r3.2]) (.slice ad6 r3.1.length cp7) S (wN rfl) rfl rfl rfl rfl (lb rfl) fun a S => ?_
  refine sExtract (vs := [.slice ad6 r3.1.length cp7, iv r3.2]) (iv r3.2) S (wN rfl) rfl rfl rfl rfl (lb rfl) fun a S => ?_
  refine sMove (.slice ad6 r3.1.length cp7) S (wN rfl) (.inr rfl) rfl rfl (lb rfl) fun a S => ?_
  refine sMove (iv r3.2) S (wN rfl) (.inr rfl) rfl rfl (lb rfl) fun a S => ?_
  refine leafL (leafT (hK2 _ _ ?_))
  refine sSeq (fun K8 hK8 => ?_)
  refine sRegion ?_
  obtain ⟨r9, hx10, h⟩ := bindSome h
  have hv_r9 : r9 = ([4, 3, 2, 1], 0) := Option.some.inj (hx10.symm.trans (by exact kc_raddlelaw38_ShortNames_1))
  refine sCall (X := Value) (f := 8) (vs := [iv 4, iv 4]) (val := c_short_Turns_val r9) (B' := fun _ => []) (D' := c_short_Turns_D r9) [] [] [] [] [] S (wN rfl) rfl callee8 rfl (by decide) rfl rfl (fun E1 w1 S1 => c_short_Turns E1 w1 4 4 r9 hx10 S1) rfl (lb rfl) fun u11 a w S => ?_
  obtain ⟨ad12, cp13, _, rfl, _⟩ := S.mem.know (i := 0) (e := fRep (rL (rI .i64)) (u11) r9.1) rfl
  refine sMove (.tuple #[.slice ad12 r9.1.length cp13, iv r9.2]) S (wN rfl) (.inl rfl) rfl rfl (lb rfl) fun a S => ?_
  refine sExtract (vs := [.slice ad12 r9.1.length cp13, iv r9.2]) (.slice ad12 r9.1.length cp13) S (wN rfl) rfl rfl rfl rfl (lb rfl) fun a S => ?_
  refine sExtract (vs := [.slice ad12 r9.1.length cp13, iv r9.2]) (iv r9.2) S (wN rfl) rfl rfl rfl rfl (lb rfl) fun a S => ?_
  refine sMove (.slice ad12 r9.1.length cp13) S (wN rfl) (.inr rfl) rfl rfl (lb rfl) fun a S => ?_
  refine sMove (iv r9.2) S (wN rfl) (.inr rfl) rfl rfl (lb rfl) fun a S => ?_
  refine leafL (leafT (hK8 _ _ ?_))
  refine sSeq (fun K14 hK14 => ?_)
  refine sRegion ?_
  obtain ⟨r15, hx16, h⟩ := bindSome h
  have hv_r15 : r15 = ([1], 0) := Option.some.inj (hx16.symm.trans (by exact kc_raddlelaw38_ShortNames_2))
  refine sCall (X := Value) (f := 8) (vs := [iv 1, iv 1]) (val := c_short_Turns_val r15) (B' := fun _ => []) (D' := c_short_Turns_D r15) [] [] [] [] [] S (wN rfl) rfl callee8 rfl (by decide) rfl rfl (fun E1 w1 S1 => c_short_Turns E1 w1 1 1 r15 hx16 S1) rfl (lb rfl) fun u17 a w S => ?_
  obtain ⟨ad18, cp19, _, rfl, _⟩ := S.mem.know (i := 0) (e := fRep (rL (rI .i64)) (u17) r15.1) rfl
  refine sMove (.tuple #[.slice ad18 r15.1.length cp19, iv r15.2]) S (wN rfl) (.inl rfl) rfl rfl (lb rfl) fun a S => ?_
  refine sExtract (vs := [.slice ad18 r15.1.length cp19, iv r15.2]) (.slice ad18 r15.1.length cp19) S (wN rfl) rfl rfl rfl rfl (lb rfl) fun a S => ?_
  refine sExtract (vs := [.slice ad18 r15.1.length cp19, iv r15.2]) (iv r15.2) S (wN rfl) rfl rfl rfl rfl (lb rfl) fun a S => ?_
  refine sMove (.slice ad18 r15.1.length cp19) S (wN rfl) (.inr rfl) rfl rfl (lb rfl) fun a S => ?_
  refine sMove (iv r15.2) S (wN rfl) (.inr rfl) rfl rfl (lb rfl) fun a S => ?_
  refine leafL (leafT (hK14 _ _ ?_))
  refine sSeq (fun K20 hK20 => ?_)
  refine sRegion ?_
  obtain ⟨r21, hx22, h⟩ := bindSome h
  have hv_r21 : r21 = ([2], 0) := Option.some.inj (hx22.symm.trans (by exact kc_raddlelaw38_ShortNames_3))
  refine sCall (X := Value) (f := 8) (vs := [iv 3, iv 1]) (val := c_short_Turns_val r21) (B' := fun _ => []) (D' := c_short_Turns_D r21) [] [] [] [] [] S (wN rfl) rfl callee8 rfl (by decide) rfl rfl (fun E1 w1 S1 => c_short_Turns E1 w1 3 1 r21 hx22 S1) rfl (lb rfl) fun u23 a w S => ?_
  obtain ⟨ad24, cp25, _, rfl, _⟩ := S.mem.know (i := 0) (e := fRep (rL (rI .i64)) (u23) r21.1) rfl
  refine sMove (.tuple #[.slice ad24 r21.1.length cp25, iv r21.2]) S (wN rfl) (.inl rfl) rfl rfl (lb rfl) fun a S => ?_
  refine sExtract (vs := [.slice ad24 r21.1.length cp25, iv r21.2]) (.slice ad24 r21.1.length cp25) S (wN rfl) rfl rfl rfl rfl (lb rfl) fun a S => ?_
  refine sExtract (vs := [.slice ad24 r21.1.length cp25, iv r21.2]) (iv r21.2) S (wN rfl) rfl rfl rfl rfl (lb rfl) fun a S => ?_
  refine sMove (.slice ad24 r21.1.length cp25) S (wN rfl) (.inr rfl) rfl rfl (lb rfl) fun a S => ?_
  refine sMove (iv r21.2) S (wN rfl) (.inr rfl) rfl rfl (lb rfl) fun a S => ?_
  refine leafL (leafT (hK20 _ _ ?_))
  refine sSeq (fun K26 hK26 => ?_)
  refine sRegion ?_
  obtain ⟨r27, hx28, h⟩ := bindSome h
  have hv_r27 : r27 = ([0, 0, 0], 0) := Option.some.inj (hx28.symm.trans (by exact kc_raddlelaw38_ShortNames_4))
  have S := S.learn (fRep (rL (rI .i64)) (.slice none 0 0) ([] : (List Int))) (rL_nil _ _ _)
  refine sCall (X := Value) (f := 9) (vs := [iv 3, .slice none 0 0]) (val := c_short_Heights_val r27) (B' := fun _ => []) (D' := c_short_Heights_D r27) [] [] [fRep (rL (rI .i64)) (.slice none 0 0) ([] : (List Int))] [] [0] S (wN rfl) rfl callee9 rfl (by decide) rfl rfl (fun E1 w1 S1 => c_short_Heights E1 w1 3 ([] : (List Int)) (.slice none 0 0) r27 hx28 S1) rfl (lb rfl) fun u29 a w S => ?_
  obtain ⟨ad30, cp31, _, rfl, _⟩ := S.mem.know (i := 0) (e := fRep (rL (rI .i64)) (u29) r27.1) rfl
  refine sMove (.tuple #[.slice ad30 r27.1.length cp31, iv r27.2]) S (wN rfl) (.inl rfl) rfl rfl (lb rfl) fun a S => ?_
  refine sExtract (vs := [.slice ad30 r27.1.length cp31, iv r27.2]) (.slice ad30 r27.1.length cp31) S (wN rfl) rfl rfl rfl rfl (lb rfl) fun a S => ?_
  refine sExtract (vs := [.slice ad30 r27.1.length cp31, iv r27.2]) (iv r27.2) S (wN rfl) rfl rfl rfl rfl (lb rfl) fun a S => ?_
  refine sMove (.slice ad30 r27.1.length cp31) S (wN rfl) (.inr rfl) rfl rfl (lb rfl) fun a S => ?_
  refine sMove (iv r27.2) S (wN rfl) (.inr rfl) rfl rfl (lb rfl) fun a S => ?_
  refine leafL (leafT (hK26 _ _ ?_))
  refine sSeq (fun K32 hK32 => ?_)
  refine sRegion ?_
  refine sLit (r := (rI .i64)) (T := 3) (xs := ([0, 0] : List Int)) [(0, iv 0), (1, iv 0)] 2 [iv 0, iv 0] [iv 0, iv 0] (iv 0) 8 S (wN rfl) rfl rfl Tryd.underlying22 rfl (by decide) (by decide) (by kernel_rfl) rfl (fun E1 w1 hE => All.cons rfl (All.cons rfl (All.nil _ _ _))) rfl rfl (lb rfl) fun a w ad33 cp34 S => ?_
  obtain ⟨r35, hx36, h⟩ := bindSome h
  have hv_r35 : r35 = ([], 0) := Option.some.inj (hx36.symm.trans (by exact kc_raddlelaw38_ShortNames_5))
  have S := S.shutR (r := (rI .i64)) (T := 3) (v := .slice ad33 ([0, 0] : List Int).length cp34) (xs := ([0, 0] : List Int)) 0 rfl
  refine sCall (X := Value) (f := 10) (vs := [.slice ad33 ([0, 0] : List Int).length cp34]) (val := c_short_Fit_val r35) (B' := fun _ => []) (D' := c_short_Fit_D r35) [] [] [fRep (rL (rI .i64)) (.slice ad33 ([0, 0] : List Int).length cp34) ([0, 0] : List Int)] [] [0] S (wN rfl) rfl callee10 rfl (by decide) rfl rfl (fun E1 w1 S1 => c_short_Fit E1 w1 ([0, 0] : List Int) (.slice ad33 ([0, 0] : List Int).length cp34) r35 hx36 S1) rfl (lb rfl) fun u37 a w S => ?_
  obtain ⟨ad38, cp39, _, rfl, _⟩ := S.mem.know (i := 0) (e := fRep (rL (rI .i64)) (u37) r35.1) rfl
  refine sMove (.tuple #[.slice ad38 r35.1.length cp39, iv r35.2]) S (wN rfl) (.inl rfl) rfl rfl (lb rfl) fun a S => ?_
  refine sExtract (vs := [.slice ad38 r35.1.length cp39, iv r35.2]) (.slice ad38 r35.1.length cp39) S (wN rfl) rfl rfl rfl rfl (lb rfl) fun a S => ?_
  refine sExtract (vs := [.slice ad38 r35.1.length cp39, iv r35.2]) (iv r35.2) S (wN rfl) rfl rfl rfl rfl (lb rfl) fun a S => ?_
  refine sMove (.slice ad38 r35.1.length cp39) S (wN rfl) (.inr rfl) rfl rfl (lb rfl) fun a S => ?_
  refine sMove (iv r35.2) S (wN rfl) (.inr rfl) rfl rfl (lb rfl) fun a S => ?_
  refine leafL (leafT (hK32 _ _ ?_))
  refine sSeq (fun K40 hK40 => ?_)
  refine sRegion ?_
  refine sLit (r := (rI .i64)) (T := 3) (xs := ([2] : List Int)) [(0, iv 2)] 1 [iv 2] [iv 2] (iv 0) 8 S (wN rfl) rfl rfl Tryd.underlying22 rfl (by decide) (by decide) (by kernel_rfl) rfl (fun E1 w1 hE => All.cons rfl (All.nil _ _ _)) rfl rfl (lb rfl) fun a w ad41 cp42 S => ?_
  obtain ⟨r43, hx44, h⟩ := bindSome h
  have hv_r43 : r43 = ([1, 1], 0) := Option.some.inj (hx44.symm.trans (by exact kc_raddlelaw38_ShortNames_6))
  have S := S.shutR (r := (rI .i64)) (T := 3) (v := .slice ad41 ([2] : List Int).length cp42) (xs := ([2] : List Int)) 0 rfl
  refine sCall (X := Value) (f := 10) (vs := [.slice ad41 ([2] : List Int).length cp42]) (val := c_short_Fit_val r43) (B' := fun _ => []) (D' := c_short_Fit_D r43) [] [] [fRep (rL (rI .i64)) (.slice ad41 ([2] : List Int).length cp42) ([2] : List Int)] [] [0] S (wN rfl) rfl callee10 rfl (by decide) rfl rfl (fun E1 w1 S1 => c_short_Fit E1 w1 ([2] : List Int) (.slice ad41 ([2] : List Int).length cp42) r43 hx44 S1) rfl (lb rfl) fun u45 a w S => ?_
  obtain ⟨ad46, cp47, _, rfl, _⟩ := S.mem.know (i := 0) (e := fRep (rL (rI .i64)) (u45) r43.1) rfl
  refine sMove (.tuple #[.slice ad46 r43.1.length cp47, iv r43.2]) S (wN rfl) (.inl rfl) rfl rfl (lb rfl) fun a S => ?_
  refine sExtract (vs := [.slice ad46 r43.1.length cp47, iv r43.2]) (.slice ad46 r43.1.length cp47) S (wN rfl) rfl rfl rfl rfl (lb rfl) fun a S => ?_
  refine sExtract (vs := [.slice ad46 r43.1.length cp47, iv r43.2]) (iv r43.2) S (wN rfl) rfl rfl rfl rfl (lb rfl) fun a S => ?_
  refine sMove (.slice ad46 r43.1.length cp47) S (wN rfl) (.inr rfl) rfl rfl (lb rfl) fun a S => ?_
  refine sMove (iv r43.2) S (wN rfl) (.inr rfl) rfl rfl (lb rfl) fun a S => ?_
  refine leafL (leafT (hK40 _ _ ?_))
  refine sSeq (fun K48 hK48 => ?_)
  refine sRegion ?_
  obtain ⟨r49, hx50, h⟩ := bindSome h
  have hv_r49 : r49 = ([], 2) := Option.some.inj (hx50.symm.trans (by exact kc_raddlelaw38_ShortNames_7))
  refine sCall (X := Value) (f := 8) (vs := [iv 0, iv 0]) (val := c_short_Turns_val r49) (B' := fun _ => []) (D' := c_short_Turns_D r49) [] [] [] [] [] S (wN rfl) rfl callee8 rfl (by decide) rfl rfl (fun E1 w1 S1 => c_short_Turns E1 w1 0 0 r49 hx50 S1) rfl (lb rfl) fun u51 a w S => ?_
  obtain ⟨ad52, cp53, _, rfl, _⟩ := S.mem.know (i := 0) (e := fRep (rL (rI .i64)) (u51) r49.1) rfl
  refine sMove (.tuple #[.slice ad52 r49.1.length cp53, iv r49.2]) S (wN rfl) (.inl rfl) rfl rfl (lb rfl) fun a S => ?_
  refine sExtract (vs := [.slice ad52 r49.1.length cp53, iv r49.2]) (.slice ad52 r49.1.length cp53) S (wN rfl) rfl rfl rfl rfl (lb rfl) fun a S => ?_
  refine sExtract (vs := [.slice ad52 r49.1.length cp53, iv r49.2]) (iv r49.2) S (wN rfl) rfl rfl rfl rfl (lb rfl) fun a S => ?_
  refine sMove (.slice ad52 r49.1.length cp53) S (wN rfl) (.inr rfl) rfl rfl (lb rfl) fun a S => ?_
  refine sMove (iv r49.2) S (wN rfl) (.inr rfl) rfl rfl (lb rfl) fun a S => ?_
  refine leafL (leafT (hK48 _ _ ?_))
  refine sSeq (fun K54 hK54 => ?_)
  refine sRegion ?_
  obtain ⟨r55, hx56, h⟩ := bindSome h
  have hv_r55 : r55 = ([], 2) := Option.some.inj (hx56.symm.trans (by exact kc_raddlelaw38_ShortNames_8))
  refine sCall (X := Value) (f := 8) (vs := [iv 4, iv 5]) (val := c_short_Turns_val r55) (B' := fun _ => []) (D' := c_short_Turns_D r55) [] [] [] [] [] S (wN rfl) rfl callee8 rfl (by decide) rfl rfl (fun E1 w1 S1 => c_short_Turns E1 w1 4 5 r55 hx56 S1) rfl (lb rfl) fun u57 a w S => ?_
  obtain ⟨ad58, cp59, _, rfl, _⟩ := S.mem.know (i := 0) (e := fRep (rL (rI .i64)) (u57) r55.1) rfl
  refine sMove (.tuple #[.slice ad58 r55.1.length cp59, iv r55.2]) S (wN rfl) (.inl rfl) rfl rfl (lb rfl) fun a S => ?_
  refine sExtract (vs := [.slice ad58 r55.1.length cp59, iv r55.2]) (.slice ad58 r55.1.length cp59) S (wN rfl) rfl rfl rfl rfl (lb rfl) fun a S => ?_
  refine sExtract (vs := [.slice ad58 r55.1.length cp59, iv r55.2]) (iv r55.2) S (wN rfl) rfl rfl rfl rfl (lb rfl) fun a S => ?_
  refine sMove (.slice ad58 r55.1.length cp59) S (wN rfl) (.inr rfl) rfl rfl (lb rfl) fun a S => ?_
  refine sMove (iv r55.2) S (wN rfl) (.inr rfl) rfl rfl (lb rfl) fun a S => ?_
  refine leafL (leafT (hK54 _ _ ?_))
  refine sSeq (fun K60 hK60 => ?_)
  refine sRegion ?_
  obtain ⟨r61, hx62, h⟩ := bindSome h
  have hv_r61 : r61 = ([], 2) := Option.some.inj (hx62.symm.trans (by exact kc_raddlelaw38_ShortNames_9))
  refine sCall (X := Value) (f := 8) (vs := [iv 60, iv 51]) (val := c_short_Turns_val r61) (B' := fun _ => []) (D' := c_short_Turns_D r61) [] [] [] [] [] S (wN rfl) rfl callee8 rfl (by decide) rfl rfl (fun E1 w1 S1 => c_short_Turns E1 w1 60 51 r61 hx62 S1) rfl (lb rfl) fun u63 a w S => ?_
  obtain ⟨ad64, cp65, _, rfl, _⟩ := S.mem.know (i := 0) (e := fRep (rL (rI .i64)) (u63) r61.1) rfl
  refine sMove (.tuple #[.slice ad64 r61.1.length cp65, iv r61.2]) S (wN rfl) (.inl rfl) rfl rfl (lb rfl) fun a S => ?_
  refine sExtract (vs := [.slice ad64 r61.1.length cp65, iv r61.2]) (.slice ad64 r61.1.length cp65) S (wN rfl) rfl rfl rfl rfl (lb rfl) fun a S => ?_
  refine sExtract (vs := [.slice ad64 r61.1.length cp65, iv r61.2]) (iv r61.2) S (wN rfl) rfl rfl rfl rfl (lb rfl) fun a S => ?_
  refine sMove (.slice ad64 r61.1.length cp65) S (wN rfl) (.inr rfl) rfl rfl (lb rfl) fun a S => ?_
  refine sMove (iv r61.2) S (wN rfl) (.inr rfl) rfl rfl (lb rfl) fun a S => ?_
  refine leafL (leafT (hK60 _ _ ?_))
  refine sSeq (fun K66 hK66 => ?_)
  refine sRegion ?_
  obtain ⟨r67, hx68, h⟩ := bindSome h
  have hv_r67 : r67 = ([], 2) := Option.some.inj (hx68.symm.trans (by exact kc_raddlelaw38_ShortNames_10))
  refine sCall (X := Value) (f := 8) (vs := [iv 201, iv 1]) (val := c_short_Turns_val r67) (B' := fun _ => []) (D' := c_short_Turns_D r67) [] [] [] [] [] S (wN rfl) rfl callee8 rfl (by decide) rfl rfl (fun E1 w1 S1 => c_short_Turns E1 w1 201 1 r67 hx68 S1) rfl (lb rfl) fun u69 a w S => ?_
  obtain ⟨ad70, cp71, _, rfl, _⟩ := S.mem.know (i := 0) (e := fRep (rL (rI .i64)) (u69) r67.1) rfl
  refine sMove (.tuple #[.slice ad70 r67.1.length cp71, iv r67.2]) S (wN rfl) (.inl rfl) rfl rfl (lb rfl) fun a S => ?_
  refine sExtract (vs := [.slice ad70 r67.1.length cp71, iv r67.2]) (.slice ad70 r67.1.length cp71) S (wN rfl) rfl rfl rfl rfl (lb rfl) fun a S => ?_
  refine sExtract (vs := [.slice ad70 r67.1.length cp71, iv r67.2]) (iv r67.2) S (wN rfl) rfl rfl rfl rfl (lb rfl) fun a S => ?_
  refine sMove (.slice ad70 r67.1.length cp71) S (wN rfl) (.inr rfl) rfl rfl (lb rfl) fun a S => ?_
  refine sMove (iv r67.2) S (wN rfl) (.inr rfl) rfl rfl (lb rfl) fun a S => ?_
  refine leafL (leafT (hK66 _ _ ?_))
  refine sSeq (fun K72 hK72 => ?_)
  refine sRegion ?_
  refine sLit (r := (rI .i64)) (T := 3) (xs := ([4] : List Int)) [(0, iv 4)] 1 [iv 4] [iv 4] (iv 0) 8 S (wN rfl) rfl rfl Tryd.underlying22 rfl (by decide) (by decide) (by kernel_rfl) rfl (fun E1 w1 hE => All.cons rfl (All.nil _ _ _)) rfl rfl (lb rfl) fun a w ad73 cp74 S => ?_
  obtain ⟨r75, hx76, h⟩ := bindSome h
  have hv_r75 : r75 = ([], 2) := Option.some.inj (hx76.symm.trans (by exact kc_raddlelaw38_ShortNames_11))
  have S := S.shutR (r := (rI .i64)) (T := 3) (v := .slice ad73 ([4] : List Int).length cp74) (xs := ([4] : List Int)) 0 rfl
  refine sCall (X := Value) (f := 9) (vs := [iv 3, .slice ad73 ([4] : List Int).length cp74]) (val := c_short_Heights_val r75) (B' := fun _ => []) (D' := c_short_Heights_D r75) [] [] [fRep (rL (rI .i64)) (.slice ad73 ([4] : List Int).length cp74) ([4] : List Int)] [] [0] S (wN rfl) rfl callee9 rfl (by decide) rfl rfl (fun E1 w1 S1 => c_short_Heights E1 w1 3 ([4] : List Int) (.slice ad73 ([4] : List Int).length cp74) r75 hx76 S1) rfl (lb rfl) fun u77 a w S => ?_
  obtain ⟨ad78, cp79, _, rfl, _⟩ := S.mem.know (i := 0) (e := fRep (rL (rI .i64)) (u77) r75.1) rfl
  refine sMove (.tuple #[.slice ad78 r75.1.length cp79, iv r75.2]) S (wN rfl) (.inl rfl) rfl rfl (lb rfl) fun a S => ?_
  refine sExtract (vs := [.slice ad78 r75.1.length cp79, iv r75.2]) (.slice ad78 r75.1.length cp79) S (wN rfl) rfl rfl rfl rfl (lb rfl) fun a S => ?_
  refine sExtract (vs := [.slice ad78 r75.1.length cp79, iv r75.2]) (iv r75.2) S (wN rfl) rfl rfl rfl rfl (lb rfl) fun a S => ?_
  refine sMove (.slice ad78 r75.1.length cp79) S (wN rfl) (.inr rfl) rfl rfl (lb rfl) fun a S => ?_
  refine sMove (iv r75.2) S (wN rfl) (.inr rfl) rfl rfl (lb rfl) fun a S => ?_
  refine leafL (leafT (hK72 _ _ ?_))
  refine sSeq (fun K80 hK80 => ?_)
  refine sRegion ?_
  refine sLit (r := (rI .i64)) (T := 3) (xs := ([0] : List Int)) [(0, iv 0)] 1 [iv 0] [iv 0] (iv 0) 8 S (wN rfl) rfl rfl Tryd.underlying22 rfl (by decide) (by decide) (by kernel_rfl) rfl (fun E1 w1 hE => All.cons rfl (All.nil _ _ _)) rfl rfl (lb rfl) fun a w ad81 cp82 S => ?_
  obtain ⟨r83, hx84, h⟩ := bindSome h
  have hv_r83 : r83 = ([], 2) := Option.some.inj (hx84.symm.trans (by exact kc_raddlelaw38_ShortNames_12))
  have S := S.shutR (r := (rI .i64)) (T := 3) (v := .slice ad81 ([0] : List Int).length cp82) (xs := ([0] : List Int)) 0 rfl
  refine sCall (X := Value) (f := 9) (vs := [iv 3, .slice ad81 ([0] : List Int).length cp82]) (val := c_short_Heights_val r83) (B' := fun _ => []) (D' := c_short_Heights_D r83) [] [] [fRep (rL (rI .i64)) (.slice ad81 ([0] : List Int).length cp82) ([0] : List Int)] [] [0] S (wN rfl) rfl callee9 rfl (by decide) rfl rfl (fun E1 w1 S1 => c_short_Heights E1 w1 3 ([0] : List Int) (.slice ad81 ([0] : List Int).length cp82) r83 hx84 S1) rfl (lb rfl) fun u85 a w S => ?_
  obtain ⟨ad86, cp87, _, rfl, _⟩ := S.mem.know (i := 0) (e := fRep (rL (rI .i64)) (u85) r83.1) rfl
  refine sMove (.tuple #[.slice ad86 r83.1.length cp87, iv r83.2]) S (wN rfl) (.inl rfl) rfl rfl (lb rfl) fun a S => ?_
  refine sExtract (vs := [.slice ad86 r83.1.length cp87, iv r83.2]) (.slice ad86 r83.1.length cp87) S (wN rfl) rfl rfl rfl rfl (lb rfl) fun a S => ?_
  refine sExtract (vs := [.slice ad86 r83.1.length cp87, iv r83.2]) (iv r83.2) S (wN rfl) rfl rfl rfl rfl (lb rfl) fun a S => ?_
  refine sMove (.slice ad86 r83.1.length cp87) S (wN rfl) (.inr rfl) rfl rfl (lb rfl) fun a S => ?_
  refine sMove (iv r83.2) S (wN rfl) (.inr rfl) rfl rfl (lb rfl) fun a S => ?_
  refine leafL (leafT (hK80 _ _ ?_))
  refine sSeq (fun K88 hK88 => ?_)
  refine sRegion ?_
  obtain ⟨m91, hx92, h⟩ := bindSome h
  have hv_m91 : m91 = [0, 0, 0, 0, 0, 0, 0, 0, 0, 0, 0, 0, 0, 0, 0, 0, 0, 0, 0, 0, 0, 0, 0, 0, 0, 0, 0, 0, 0, 0, 0, 0, 0, 0, 0, 0, 0, 0, 0, 0, 0, 0, 0, 0, 0, 0, 0, 0, 0, 0, 0] := Option.some.inj (hx92.symm.trans (by kernel_rfl))
  refine sMake (r := (rI .i64)) (m := 51) (xs := m91) (iv 0) (0 : Int) 8 S (wN rfl) rfl Tryd.underlying22 rfl rfl (by decide) (fun _ _ => rfl) rfl rfl hx92 rfl (lb rfl) fun a w ad89 cp90 S => ?_
  obtain ⟨r93, hx94, h⟩ := bindSome h
  have hv_r93 : r93 = (0, 2) := Option.some.inj (hx94.symm.trans (by rw [hv_m91]; exact kc_raddlelaw38_ShortNames_13))
  have S1 := S.mem
  have S1 := S1.shutR (r := (rI .i64)) (T := 3) (v := .slice ad89 m91.length cp90) (xs := m91) 0 rfl
  refine sCallQ (X := Unit) (f := 11) (vs := [iv 201, .slice ad89 m91.length cp90]) (val := fun _ => .tuple #[iv r93.1, iv r93.2]) S (wN rfl) rfl callee11 rfl (S1.quiet [0] rfl) (fun E1 w1 S1 => c_short_Worked E1 w1 201 m91 (.slice ad89 m91.length cp90) r93 hx94 S1) rfl (lb rfl) fun _ a w S => ?_
  refine sMove (.tuple #[iv r93.1, iv r93.2]) S (wN rfl) (.inl rfl) rfl rfl (lb rfl) fun a S => ?_
  refine sExtract (vs := [iv r93.1, iv r93.2]) (iv r93.1) S (wN rfl) rfl rfl rfl rfl (lb rfl) fun a S => ?_
  refine sExtract (vs := [iv r93.1, iv r93.2]) (iv r93.2) S (wN rfl) rfl rfl rfl rfl (lb rfl) fun a S => ?_
  refine sMove (iv r93.1) S (wN rfl) (.inr rfl) rfl rfl (lb rfl) fun a S => ?_
  refine sMove (iv r93.2) S (wN rfl) (.inr rfl) rfl rfl (lb rfl) fun a S => ?_
  refine leafL (leafT (hK88 _ _ ?_))
  refine sSeq (fun K95 hK95 => ?_)
  refine sRegion ?_
  refine sMake (r := (rI .i64)) (m := 51) (xs := m91) (iv 0) (0 : Int) 8 S (wN rfl) rfl Tryd.underlying22 rfl rfl (by decide) (fun _ _ => rfl) rfl rfl hx92 rfl (lb rfl) fun a w ad96 cp97 S => ?_
  obtain ⟨r98, hx99, h⟩ := bindSome h
  have hv_r98 : r98 = ((api_Chart.mk 0 []), 4) := Option.some.inj (hx99.symm.trans (by rw [hv_m91]; exact kc_raddlelaw38_ShortNames_14))
  have S := S.shutR (r := (rI .i64)) (T := 3) (v := .slice ad96 m91.length cp97) (xs := m91) 0 rfl
  refine sCall (X := Value) (f := 12) (vs := [iv 200, .slice ad96 m91.length cp97]) (val := c_short_Chart_val r98) (B' := fun _ => []) (D' := c_short_Chart_D r98) [] [eRow (rI .i64) 3 (.slice ad89 m91.length cp90) m91] [fRep (rL (rI .i64)) (.slice ad96 m91.length cp97) m91] [0] [0] S (wN rfl) rfl callee12 rfl (by decide) rfl rfl (fun E1 w1 S1 => c_short_Chart E1 w1 200 m91 (.slice ad96 m91.length cp97) r98 hx99 S1) rfl (lb rfl) fun u100 a w S => ?_
  obtain ⟨u101, rfl, hu102⟩ := S.mem.know (i := 0) (e := fRep r_api_Chart (u100) r98.1) rfl
  have S := S.learn (fRep (rL r_api_Row) u101 r98.1.Rows) hu102
  obtain ⟨ad103, cp104, _, rfl, _⟩ := hu102
  refine sMove (.tuple #[.agg #[iv r98.1.Start, .slice ad103 r98.1.Rows.length cp104], iv r98.2]) S (wN rfl) (.inl rfl) rfl rfl (lb rfl) fun a S => ?_
  refine sExtract (vs := [.agg #[iv r98.1.Start, .slice ad103 r98.1.Rows.length cp104], iv r98.2]) (.agg #[iv r98.1.Start, .slice ad103 r98.1.Rows.length cp104]) S (wN rfl) rfl rfl rfl rfl (lb rfl) fun a S => ?_
  refine sExtract (vs := [.agg #[iv r98.1.Start, .slice ad103 r98.1.Rows.length cp104], iv r98.2]) (iv r98.2) S (wN rfl) rfl rfl rfl rfl (lb rfl) fun a S => ?_
  refine sAlloc (.agg #[iv 0, .slice none 0 0]) S (wN rfl) rfl rfl [iv 0, .slice none 0 0] rfl rfl (lb rfl) fun a b105 w S => ?_
  refine sStore (p := b105) (off := 0) (T := 32) (vs := [iv 0, .slice none 0 0]) (v := .agg #[iv r98.1.Start, .slice ad103 r98.1.Rows.length cp104]) 0 [iv r98.1.Start, .slice ad103 r98.1.Rows.length cp104] S (wN rfl) rfl rfl rfl rfl rfl rfl rfl (by simp) rfl fun a w S => ?_
  refine sMove (iv r98.2) S (wN rfl) (.inr rfl) rfl rfl (lb rfl) fun a S => ?_
  refine leafL (leafT (hK95 _ _ ?_))
  refine sSeq (fun K106 hK106 => ?_)
  refine sRegion ?_
  obtain ⟨r107, hx108, h⟩ := bindSome h
  have hv_r107 : r107 = ([], 2) := Option.some.inj (hx108.symm.trans (by exact kc_raddlelaw38_ShortNames_15))
  refine sCall (X := Value) (f := 10) (vs := [.slice none 0 0]) (val := c_short_Fit_val r107) (B' := fun _ => []) (D' := c_short_Fit_D r107) [] [eBox b105 32 [iv r98.1.Start, .slice ad103 r98.1.Rows.length cp104], eRow (rI .i64) 3 (.slice ad89 m91.length cp90) m91] [fRep (rL (rI .i64)) (.slice none 0 0) ([] : (List Int))] [0, 1] [16] S (wN rfl) rfl callee10 rfl (by decide) rfl rfl (fun E1 w1 S1 => c_short_Fit E1 w1 ([] : (List Int)) (.slice none 0 0) r107 hx108 S1) rfl (lb rfl) fun u109 a w S => ?_
  obtain ⟨ad110, cp111, _, rfl, _⟩ := S.mem.know (i := 0) (e := fRep (rL (rI .i64)) (u109) r107.1) rfl
  refine sMove (.tuple #[.slice ad110 r107.1.length cp111, iv r107.2]) S (wN rfl) (.inl rfl) rfl rfl (lb rfl) fun a S => ?_
  refine sExtract (vs := [.slice ad110 r107.1.length cp111, iv r107.2]) (.slice ad110 r107.1.length cp111) S (wN rfl) rfl rfl rfl rfl (lb rfl) fun a S => ?_
  refine sExtract (vs := [.slice ad110 r107.1.length cp111, iv r107.2]) (iv r107.2) S (wN rfl) rfl rfl rfl rfl (lb rfl) fun a S => ?_
  refine sMove (.slice ad110 r107.1.length cp111) S (wN rfl) (.inr rfl) rfl rfl (lb rfl) fun a S => ?_
  refine sMove (iv r107.2) S (wN rfl) (.inr rfl) rfl rfl (lb rfl) fun a S => ?_
  refine leafL (leafT (hK106 _ _ ?_))
  refine sSeq (fun K112 hK112 => ?_)
  refine sRegion ?_
  refine sLit (r := (rI .i64)) (T := 3) (xs := ([1, 2] : List Int)) [(0, iv 1), (1, iv 2)] 2 [iv 1, iv 2] [iv 1, iv 2] (iv 0) 8 S (wN rfl) rfl rfl Tryd.underlying22 rfl (by decide) (by decide) (by kernel_rfl) rfl (fun E1 w1 hE => All.cons rfl (All.cons rfl (All.nil _ _ _))) rfl rfl (lb rfl) fun a w ad113 cp114 S => ?_
  obtain ⟨r115, hx116, h⟩ := bindSome h
  have hv_r115 : r115 = ([], 2) := Option.some.inj (hx116.symm.trans (by exact kc_raddlelaw38_ShortNames_16))
  have S := S.shutR (r := (rI .i64)) (T := 3) (v := .slice ad113 ([1, 2] : List Int).length cp114) (xs := ([1, 2] : List Int)) 0 rfl
  refine sCall (X := Value) (f := 10) (vs := [.slice ad113 ([1, 2] : List Int).length cp114]) (val := c_short_Fit_val r115) (B' := fun _ => []) (D' := c_short_Fit_D r115) [] [eBox b105 32 [iv r98.1.Start, .slice ad103 r98.1.Rows.length cp104], eRow (rI .i64) 3 (.slice ad89 m91.length cp90) m91] [fRep (rL (rI .i64)) (.slice ad113 ([1, 2] : List Int).length cp114) ([1, 2] : List Int)] [0, 1] [0] S (wN rfl) rfl callee10 rfl (by decide) rfl rfl (fun E1 w1 S1 => c_short_Fit E1 w1 ([1, 2] : List Int) (.slice ad113 ([1, 2] : List Int).length cp114) r115 hx116 S1) rfl (lb rfl) fun u117 a w S => ?_
  obtain ⟨ad118, cp119, _, rfl, _⟩ := S.mem.know (i := 0) (e := fRep (rL (rI .i64)) (u117) r115.1) rfl
  refine sMove (.tuple #[.slice ad118 r115.1.length cp119, iv r115.2]) S (wN rfl) (.inl rfl) rfl rfl (lb rfl) fun a S => ?_
  refine sExtract (vs := [.slice ad118 r115.1.length cp119, iv r115.2]) (.slice ad118 r115.1.length cp119) S (wN rfl) rfl rfl rfl rfl (lb rfl) fun a S => ?_
  refine sExtract (vs := [.slice ad118 r115.1.length cp119, iv r115.2]) (iv r115.2) S (wN rfl) rfl rfl rfl rfl (lb rfl) fun a S => ?_
  refine sMove (.slice ad118 r115.1.length cp119) S (wN rfl) (.inr rfl) rfl rfl (lb rfl) fun a S => ?_
  refine sMove (iv r115.2) S (wN rfl) (.inr rfl) rfl rfl (lb rfl) fun a S => ?_
  refine leafL (leafT (hK112 _ _ ?_))
  refine sSeq (fun K120 hK120 => ?_)
  refine sRegion ?_
  refine sLit (r := (rI .i64)) (T := 3) (xs := ([51] : List Int)) [(0, iv 51)] 1 [iv 51] [iv 51] (iv 0) 8 S (wN rfl) rfl rfl Tryd.underlying22 rfl (by decide) (by decide) (by kernel_rfl) rfl (fun E1 w1 hE => All.cons rfl (All.nil _ _ _)) rfl rfl (lb rfl) fun a w ad121 cp122 S => ?_
  obtain ⟨r123, hx124, h⟩ := bindSome h
  have hv_r123 : r123 = ([], 2) := Option.some.inj (hx124.symm.trans (by exact kc_raddlelaw38_ShortNames_17))
  have S := S.shutR (r := (rI .i64)) (T := 3) (v := .slice ad121 ([51] : List Int).length cp122) (xs := ([51] : List Int)) 0 rfl
  refine sCall (X := Value) (f := 10) (vs := [.slice ad121 ([51] : List Int).length cp122]) (val := c_short_Fit_val r123) (B' := fun _ => []) (D' := c_short_Fit_D r123) [] [eBox b105 32 [iv r98.1.Start, .slice ad103 r98.1.Rows.length cp104], eRow (rI .i64) 3 (.slice ad89 m91.length cp90) m91] [fRep (rL (rI .i64)) (.slice ad121 ([51] : List Int).length cp122) ([51] : List Int)] [0, 1] [0] S (wN rfl) rfl callee10 rfl (by decide) rfl rfl (fun E1 w1 S1 => c_short_Fit E1 w1 ([51] : List Int) (.slice ad121 ([51] : List Int).length cp122) r123 hx124 S1) rfl (lb rfl) fun u125 a w S => ?_
  obtain ⟨ad126, cp127, _, rfl, _⟩ := S.mem.know (i := 0) (e := fRep (rL (rI .i64)) (u125) r123.1) rfl
  refine sMove (.tuple #[.slice ad126 r123.1.length cp127, iv r123.2]) S (wN rfl) (.inl rfl) rfl rfl (lb rfl) fun a S => ?_
  refine sExtract (vs := [.slice ad126 r123.1.length cp127, iv r123.2]) (.slice ad126 r123.1.length cp127) S (wN rfl) rfl rfl rfl rfl (lb rfl) fun a S => ?_
  refine sExtract (vs := [.slice ad126 r123.1.length cp127, iv r123.2]) (iv r123.2) S (wN rfl) rfl rfl rfl rfl (lb rfl) fun a S => ?_
  refine sMove (.slice ad126 r123.1.length cp127) S (wN rfl) (.inr rfl) rfl rfl (lb rfl) fun a S => ?_
  refine sMove (iv r123.2) S (wN rfl) (.inr rfl) rfl rfl (lb rfl) fun a S => ?_
  refine leafL (leafT (hK120 _ _ ?_))
  refine sSeq (fun K128 hK128 => ?_)
  refine sRegion ?_
  obtain ⟨m131, hx132, h⟩ := bindSome h
  have hv_m131 : m131 = [0, 0, 0, 0, 0, 0, 0, 0, 0, 0, 0, 0, 0, 0, 0, 0, 0, 0, 0, 0, 0, 0, 0, 0, 0, 0, 0, 0, 0, 0, 0, 0, 0, 0, 0, 0, 0, 0, 0, 0, 0, 0, 0, 0, 0, 0, 0, 0, 0, 0, 0, 0, 0, 0, 0, 0, 0, 0, 0, 0, 0, 0, 0, 0, 0, 0, 0, 0, 0, 0, 0, 0, 0, 0, 0, 0, 0, 0, 0, 0, 0, 0, 0, 0, 0, 0, 0, 0, 0, 0, 0, 0, 0, 0, 0, 0, 0, 0, 0, 0, 0, 0, 0, 0, 0, 0, 0, 0, 0, 0, 0, 0, 0, 0, 0, 0, 0, 0, 0, 0, 0, 0, 0, 0, 0, 0, 0, 0, 0, 0, 0, 0, 0, 0, 0, 0, 0, 0, 0, 0, 0, 0, 0, 0, 0, 0, 0, 0, 0, 0, 0, 0, 0, 0, 0, 0, 0, 0, 0, 0, 0, 0, 0, 0, 0, 0, 0, 0, 0, 0, 0, 0, 0, 0, 0, 0, 0, 0, 0, 0, 0, 0, 0, 0, 0, 0, 0, 0, 0, 0, 0, 0, 0, 0, 0, 0, 0, 0, 0, 0, 0] := Option.some.inj (hx132.symm.trans (by kernel_rfl))
  refine sMake (r := (rI .i64)) (m := 201) (xs := m131) (iv 0) (0 : Int) 8 S (wN rfl) rfl Tryd.underlying22 rfl rfl (by decide) (fun _ _ => rfl) rfl rfl hx132 rfl (lb rfl) fun a w ad129 cp130 S => ?_
  obtain ⟨r133, hx134, h⟩ := bindSome h
  have hv_r133 : r133 = ([], 4) := Option.some.inj (hx134.symm.trans (by rw [hv_m131]; exact kc_raddlelaw38_ShortNames_18))
  have S := S.shutR (r := (rI .i64)) (T := 3) (v := .slice ad129 m131.length cp130) (xs := m131) 0 rfl
  refine sCall (X := Value) (f := 10) (vs := [.slice ad129 m131.length cp130]) (val := c_short_Fit_val r133) (B' := fun _ => []) (D' := c_short_Fit_D r133) [] [eBox b105 32 [iv r98.1.Start, .slice ad103 r98.1.Rows.length cp104], eRow (rI .i64) 3 (.slice ad89 m91.length cp90) m91] [fRep (rL (rI .i64)) (.slice ad129 m131.length cp130) m131] [0, 1] [0] S (wN rfl) rfl callee10 rfl (by decide) rfl rfl (fun E1 w1 S1 => c_short_Fit E1 w1 m131 (.slice ad129 m131.length cp130) r133 hx134 S1) rfl (lb rfl) fun u135 a w S => ?_
  obtain ⟨ad136, cp137, _, rfl, _⟩ := S.mem.know (i := 0) (e := fRep (rL (rI .i64)) (u135) r133.1) rfl
  refine sMove (.tuple #[.slice ad136 r133.1.length cp137, iv r133.2]) S (wN rfl) (.inl rfl) rfl rfl (lb rfl) fun a S => ?_
  refine sExtract (vs := [.slice ad136 r133.1.length cp137, iv r133.2]) (.slice ad136 r133.1.length cp137) S (wN rfl) rfl rfl rfl rfl (lb rfl) fun a S => ?_
  refine sExtract (vs := [.slice ad136 r133.1.length cp137, iv r133.2]) (iv r133.2) S (wN rfl) rfl rfl rfl rfl (lb rfl) fun a S => ?_
  refine sMove (.slice ad136 r133.1.length cp137) S (wN rfl) (.inr rfl) rfl rfl (lb rfl) fun a S => ?_
  refine sMove (iv r133.2) S (wN rfl) (.inr rfl) rfl rfl (lb rfl) fun a S => ?_
  refine leafL (leafT (hK128 _ _ ?_))
  refine sSeq (fun K138 hK138 => ?_)
  refine sRegion ?_
  refine sBuild [(0, .int .u8 1)] [.int .u8 1, .bool false, iv 0, iv 0] S (wN rfl) rfl rfl rfl rfl (lb rfl) fun a S => ?_
  refine sBuild [(0, .int .u8 8)] [.int .u8 8, .bool false, iv 0, iv 0] S (wN rfl) rfl rfl rfl rfl (lb rfl) fun a S => ?_
  have S := S.learn (fRep r_api_Stitch (.agg #[.int .u8 1, .bool false, iv 0, iv 0]) (api_Stitch.mk 1 false 0 0)) rfl
  have S := S.learn (fRep r_api_Stitch (.agg #[.int .u8 8, .bool false, iv 0, iv 0]) (api_Stitch.mk 8 false 0 0)) rfl
  refine sLit (r := r_api_Stitch) (T := 38) (xs := [(api_Stitch.mk 1 false 0 0), (api_Stitch.mk 8 false 0 0)]) [(0, .agg #[.int .u8 1, .bool false, iv 0, iv 0]), (1, .agg #[.int .u8 8, .bool false, iv 0, iv 0])] 2 [.agg #[.int .u8 1, .bool false, iv 0, iv 0], .agg #[.int .u8 8, .bool false, iv 0, iv 0]] [.int .u8 1, .bool false, iv 0, iv 0, .int .u8 8, .bool false, iv 0, iv 0] (.agg #[.int .u8 0, .bool false, iv 0, iv 0]) 24 S (wN rfl) rfl rfl Tryd.underlying39 rfl (by decide) (by decide) (by kernel_rfl) rfl (fun E1 w1 hE => All.cons (r_api_Stitch.mono hE (S.mem.know (i := 1) (e := fRep r_api_Stitch (.agg #[.int .u8 1, .bool false, iv 0, iv 0]) (api_Stitch.mk 1 false 0 0)) rfl)) (All.cons (r_api_Stitch.mono hE (S.mem.know (i := 0) (e := fRep r_api_Stitch (.agg #[.int .u8 8, .bool false, iv 0, iv 0]) (api_Stitch.mk 8 false 0 0)) rfl)) (All.nil _ _ _))) rfl rfl (lb rfl) fun a w ad139 cp140 S => ?_
  refine sBuild [(1, .slice ad139 [(api_Stitch.mk 1 false 0 0), (api_Stitch.mk 8 false 0 0)].length cp140)] [.bool false, .slice ad139 [(api_Stitch.mk 1 false 0 0), (api_Stitch.mk 8 false 0 0)].length cp140] S (wN rfl) rfl rfl rfl rfl (lb rfl) fun a S => ?_
  have S := S.shutR (r := r_api_Stitch) (T := 38) (v := .slice ad139 [(api_Stitch.mk 1 false 0 0), (api_Stitch.mk 8 false 0 0)].length cp140) (xs := [(api_Stitch.mk 1 false 0 0), (api_Stitch.mk 8 false 0 0)]) 0 rfl
  have S := S.learn (fRep r_api_Row (.agg #[.bool false, .slice ad139 [(api_Stitch.mk 1 false 0 0), (api_Stitch.mk 8 false 0 0)].length cp140]) (api_Row.mk false [(api_Stitch.mk 1 false 0 0), (api_Stitch.mk 8 false 0 0)])) ⟨_, rfl, S.mem.know (i := 0) (e := fRep (rL r_api_Stitch) (.slice ad139 [(api_Stitch.mk 1 false 0 0), (api_Stitch.mk 8 false 0 0)].length cp140) [(api_Stitch.mk 1 false 0 0), (api_Stitch.mk 8 false 0 0)]) rfl⟩
  refine sLit (r := r_api_Row) (T := 41) (xs := [(api_Row.mk false [(api_Stitch.mk 1 false 0 0), (api_Stitch.mk 8 false 0 0)])]) [(0, .agg #[.bool false, .slice ad139 [(api_Stitch.mk 1 false 0 0), (api_Stitch.mk 8 false 0 0)].length cp140])] 1 [.agg #[.bool false, .slice ad139 [(api_Stitch.mk 1 false 0 0), (api_Stitch.mk 8 false 0 0)].length cp140]] [.bool false, .slice ad139 [(api_Stitch.mk 1 false 0 0), (api_Stitch.mk 8 false 0 0)].length cp140] (.agg #[.bool false, .slice none 0 0]) 32 S (wN rfl) rfl rfl Tryd.underlying30 rfl (by decide) (by decide) (by kernel_rfl) rfl (fun E1 w1 hE => All.cons (r_api_Row.mono hE (S.mem.know (i := 0) (e := fRep r_api_Row (.agg #[.bool false, .slice ad139 [(api_Stitch.mk 1 false 0 0), (api_Stitch.mk 8 false 0 0)].length cp140]) (api_Row.mk false [(api_Stitch.mk 1 false 0 0), (api_Stitch.mk 8 false 0 0)])) rfl)) (All.nil _ _ _)) rfl rfl (lb rfl) fun a w ad141 cp142 S => ?_
  refine sBuild [(0, iv 2), (1, .slice ad141 [(api_Row.mk false [(api_Stitch.mk 1 false 0 0), (api_Stitch.mk 8 false 0 0)])].length cp142)] [iv 2, .slice ad141 [(api_Row.mk false [(api_Stitch.mk 1 false 0 0), (api_Stitch.mk 8 false 0 0)])].length cp142] S (wN rfl) rfl rfl rfl rfl (lb rfl) fun a S => ?_
  obtain ⟨r143, hx144, h⟩ := bindSome h
  have hv_r143 : r143 = (0, ([], 8)) := Option.some.inj (hx144.symm.trans (by exact kc_raddlelaw38_ShortNames_19))
  have S := S.shutR (r := r_api_Row) (T := 41) (v := .slice ad141 [(api_Row.mk false [(api_Stitch.mk 1 false 0 0), (api_Stitch.mk 8 false 0 0)])].length cp142) (xs := [(api_Row.mk false [(api_Stitch.mk 1 false 0 0), (api_Stitch.mk 8 false 0 0)])]) 0 rfl
  have S := S.learn (fRep r_api_Chart (.agg #[iv 2, .slice ad141 [(api_Row.mk false [(api_Stitch.mk 1 false 0 0), (api_Stitch.mk 8 false 0 0)])].length cp142]) (api_Chart.mk 2 [(api_Row.mk false [(api_Stitch.mk 1 false 0 0), (api_Stitch.mk 8 false 0 0)])])) ⟨_, rfl, S.mem.know (i := 0) (e := fRep (rL r_api_Row) (.slice ad141 [(api_Row.mk false [(api_Stitch.mk 1 false 0 0), (api_Stitch.mk 8 false 0 0)])].length cp142) [(api_Row.mk false [(api_Stitch.mk 1 false 0 0), (api_Stitch.mk 8 false 0 0)])]) rfl⟩
  refine sCall (X := Value) (f := 13) (vs := [.agg #[iv 2, .slice ad141 [(api_Row.mk false [(api_Stitch.mk 1 false 0 0), (api_Stitch.mk 8 false 0 0)])].length cp142]]) (val := c_short_Read_val r143) (B' := fun _ => []) (D' := c_short_Read_D r143) [] [eBox b105 32 [iv r98.1.Start, .slice ad103 r98.1.Rows.length cp104], eRow (rI .i64) 3 (.slice ad89 m91.length cp90) m91] [fRep r_api_Chart (.agg #[iv 2, .slice ad141 [(api_Row.mk false [(api_Stitch.mk 1 false 0 0), (api_Stitch.mk 8 false 0 0)])].length cp142]) (api_Chart.mk 2 [(api_Row.mk false [(api_Stitch.mk 1 false 0 0), (api_Stitch.mk 8 false 0 0)])])] [0, 1] [0] S (wN rfl) rfl callee13 rfl (by decide) rfl rfl (fun E1 w1 S1 => c_short_Read E1 w1 (api_Chart.mk 2 [(api_Row.mk false [(api_Stitch.mk 1 false 0 0), (api_Stitch.mk 8 false 0 0)])]) (.agg #[iv 2, .slice ad141 [(api_Row.mk false [(api_Stitch.mk 1 false 0 0), (api_Stitch.mk 8 false 0 0)])].length cp142]) r143 hx144 S1) rfl (lb rfl) fun u145 a w S => ?_
  obtain ⟨ad146, cp147, _, rfl, _⟩ := S.mem.know (i := 0) (e := fRep (rL (rI .i64)) (u145) r143.2.1) rfl
  refine sMove (.tuple #[iv r143.1, .slice ad146 r143.2.1.length cp147, iv r143.2.2]) S (wN rfl) (.inl rfl) rfl rfl (lb rfl) fun a S => ?_
  refine sExtract (vs := [iv r143.1, .slice ad146 r143.2.1.length cp147, iv r143.2.2]) (iv r143.1) S (wN rfl) rfl rfl rfl rfl (lb rfl) fun a S => ?_
  refine sExtract (vs := [iv r143.1, .slice ad146 r143.2.1.length cp147, iv r143.2.2]) (.slice ad146 r143.2.1.length cp147) S (wN rfl) rfl rfl rfl rfl (lb rfl) fun a S => ?_
  refine sExtract (vs := [iv r143.1, .slice ad146 r143.2.1.length cp147, iv r143.2.2]) (iv r143.2.2) S (wN rfl) rfl rfl rfl rfl (lb rfl) fun a S => ?_
  refine sMove (iv r143.1) S (wN rfl) (.inr rfl) rfl rfl (lb rfl) fun a S => ?_
  refine sMove (.slice ad146 r143.2.1.length cp147) S (wN rfl) (.inr rfl) rfl rfl (lb rfl) fun a S => ?_
  refine sMove (iv r143.2.2) S (wN rfl) (.inr rfl) rfl rfl (lb rfl) fun a S => ?_
  refine leafL (leafT (hK138 _ _ ?_))
  refine sSeq (fun K148 hK148 => ?_)
  refine sRegion ?_
  refine sBuild [] [iv 0, .slice none 0 0] S (wN rfl) rfl rfl rfl rfl (lb rfl) fun a S => ?_
  obtain ⟨r149, hx150, h⟩ := bindSome h
  have hv_r149 : r149 = (0, ([], 8)) := Option.some.inj (hx150.symm.trans (by exact kc_raddlelaw38_ShortNames_20))
  have S := S.learn (fRep (rL r_api_Row) (.slice none 0 0) ([] : (List api_Row))) (rL_nil _ _ _)
  have S := S.learn (fRep r_api_Chart (.agg #[iv 0, .slice none 0 0]) (api_Chart.mk 0 ([] : (List api_Row)))) ⟨_, rfl, S.mem.know (i := 0) (e := fRep (rL r_api_Row) (.slice none 0 0) ([] : (List api_Row))) rfl⟩
  refine sCall (X := Value) (f := 13) (vs := [.agg #[iv 0, .slice none 0 0]]) (val := c_short_Read_val r149) (B' := fun _ => []) (D' := c_short_Read_D r149) [] [eBox b105 32 [iv r98.1.Start, .slice ad103 r98.1.Rows.length cp104], eRow (rI .i64) 3 (.slice ad89 m91.length cp90) m91] [fRep r_api_Chart (.agg #[iv 0, .slice none 0 0]) (api_Chart.mk 0 ([] : (List api_Row)))] [0, 1] [0] S (wN rfl) rfl callee13 rfl (by decide) rfl rfl (fun E1 w1 S1 => c_short_Read E1 w1 (api_Chart.mk 0 ([] : (List api_Row))) (.agg #[iv 0, .slice none 0 0]) r149 hx150 S1) rfl (lb rfl) fun u151 a w S => ?_
  obtain ⟨ad152, cp153, _, rfl, _⟩ := S.mem.know (i := 0) (e := fRep (rL (rI .i64)) (u151) r149.2.1) rfl
  refine sMove (.tuple #[iv r149.1, .slice ad152 r149.2.1.length cp153, iv r149.2.2]) S (wN rfl) (.inl rfl) rfl rfl (lb rfl) fun a S => ?_
  refine sExtract (vs := [iv r149.1, .slice ad152 r149.2.1.length cp153, iv r149.2.2]) (iv r149.1) S (wN rfl) rfl rfl rfl rfl (lb rfl) fun a S => ?_
  refine sExtract (vs := [iv r149.1, .slice ad152 r149.2.1.length cp153, iv r149.2.2]) (.slice ad152 r149.2.1.length cp153) S (wN rfl) rfl rfl rfl rfl (lb rfl) fun a S => ?_
  refine sExtract (vs := [iv r149.1, .slice ad152 r149.2.1.length cp153, iv r149.2.2]) (iv r149.2.2) S (wN rfl) rfl rfl rfl rfl (lb rfl) fun a S => ?_
  refine sMove (iv r149.1) S (wN rfl) (.inr rfl) rfl rfl (lb rfl) fun a S => ?_
  refine sMove (.slice ad152 r149.2.1.length cp153) S (wN rfl) (.inr rfl) rfl rfl (lb rfl) fun a S => ?_
  refine sMove (iv r149.2.2) S (wN rfl) (.inr rfl) rfl rfl (lb rfl) fun a S => ?_
  refine leafL (leafT (hK148 _ _ ?_))
  refine sSeq (fun K154 hK154 => ?_)
  refine sRegion ?_
  refine sBuild [(0, iv 5)] [iv 5, .slice none 0 0] S (wN rfl) rfl rfl rfl rfl (lb rfl) fun a S => ?_
  obtain ⟨r155, hx156, h⟩ := bindSome h
  have hv_r155 : r155 = (5, ([], 0)) := Option.some.inj (hx156.symm.trans (by exact kc_raddlelaw38_ShortNames_21))
  have S := S.learn (fRep r_api_Chart (.agg #[iv 5, .slice none 0 0]) (api_Chart.mk 5 ([] : (List api_Row)))) ⟨_, rfl, S.mem.know (i := 2) (e := fRep (rL r_api_Row) (.slice none 0 0) ([] : (List api_Row))) rfl⟩
  refine sCall (X := Value) (f := 13) (vs := [.agg #[iv 5, .slice none 0 0]]) (val := c_short_Read_val r155) (B' := fun _ => []) (D' := c_short_Read_D r155) [] [eBox b105 32 [iv r98.1.Start, .slice ad103 r98.1.Rows.length cp104], eRow (rI .i64) 3 (.slice ad89 m91.length cp90) m91] [fRep r_api_Chart (.agg #[iv 5, .slice none 0 0]) (api_Chart.mk 5 ([] : (List api_Row)))] [0, 1] [0] S (wN rfl) rfl callee13 rfl (by decide) rfl rfl (fun E1 w1 S1 => c_short_Read E1 w1 (api_Chart.mk 5 ([] : (List api_Row))) (.agg #[iv 5, .slice none 0 0]) r155 hx156 S1) rfl (lb rfl) fun u157 a w S => ?_
  obtain ⟨ad158, cp159, _, rfl, _⟩ := S.mem.know (i := 0) (e := fRep (rL (rI .i64)) (u157) r155.2.1) rfl
  refine sMove (.tuple #[iv r155.1, .slice ad158 r155.2.1.length cp159, iv r155.2.2]) S (wN rfl) (.inl rfl) rfl rfl (lb rfl) fun a S => ?_
  refine sExtract (vs := [iv r155.1, .slice ad158 r155.2.1.length cp159, iv r155.2.2]) (iv r155.1) S (wN rfl) rfl rfl rfl rfl (lb rfl) fun a S => ?_
  refine sExtract (vs := [iv r155.1, .slice ad158 r155.2.1.length cp159, iv r155.2.2]) (.slice ad158 r155.2.1.length cp159) S (wN rfl) rfl rfl rfl rfl (lb rfl) fun a S => ?_
  refine sExtract (vs := [iv r155.1, .slice ad158 r155.2.1.length cp159, iv r155.2.2]) (iv r155.2.2) S (wN rfl) rfl rfl rfl rfl (lb rfl) fun a S => ?_
  refine sMove (iv r155.1) S (wN rfl) (.inr rfl) rfl rfl (lb rfl) fun a S => ?_
  refine sMove (.slice ad158 r155.2.1.length cp159) S (wN rfl) (.inr rfl) rfl rfl (lb rfl) fun a S => ?_
  refine sMove (iv r155.2.2) S (wN rfl) (.inr rfl) rfl rfl (lb rfl) fun a S => ?_
  refine leafL (leafT (hK154 _ _ ?_))
  refine sSeq (fun K160 hK160 => ?_)
  refine sRegion ?_
  refine sMove (iv r49.2) S (wN rfl) (.inl rfl) rfl rfl (lb rfl) fun a S => ?_
  refine sBin (.bool (r49.2 == 2)) S (wN rfl) rfl rfl rfl (bEq _ _ _ _ .i64 r49.2 2) rfl (lb rfl) fun a S => ?_
  refine sMove (.bool (r49.2 == 2)) S (wN rfl) (.inl rfl) rfl rfl (lb rfl) fun a S => ?_
  rcases iteSome h with ⟨hc161, h⟩ | ⟨hc161, h⟩
  rotate_left
  · exact absurd hc161 (by rw [hv_r49]; decide)
  refine sMove (iv r55.2) S (wG 2 true 160 rfl rfl rfl hc161) (.inl rfl) rfl rfl (lb rfl) fun a S => ?_
  refine sBin (.bool (r55.2 == 2)) S (wG 2 true 160 rfl rfl rfl hc161) rfl rfl rfl (bEq _ _ _ _ .i64 r55.2 2) rfl (lb rfl) fun a S => ?_
  refine sPickT (.bool (r55.2 == 2)) S (wN rfl) rfl rfl hc161 rfl rfl (lb rfl) fun a S => ?_
  refine sMove (.bool (r55.2 == 2)) S (wN rfl) (.inl rfl) rfl rfl (lb rfl) fun a S => ?_
  rcases iteSome h with ⟨hc162, h⟩ | ⟨hc162, h⟩
  rotate_left
  · exact absurd hc162 (by rw [hv_r55]; decide)
  refine sMove (iv r61.2) S (wG 6 true 164 rfl rfl rfl hc162) (.inl rfl) rfl rfl (lb rfl) fun a S => ?_
  refine sBin (.bool (r61.2 == 2)) S (wG 6 true 164 rfl rfl rfl hc162) rfl rfl rfl (bEq _ _ _ _ .i64 r61.2 2) rfl (lb rfl) fun a S => ?_
  refine sPickT (.bool (r61.2 == 2)) S (wN rfl) rfl rfl hc162 rfl rfl (lb rfl) fun a S => ?_
  refine sMove (.bool (r61.2 == 2)) S (wN rfl) (.inl rfl) rfl rfl (lb rfl) fun a S => ?_
  rcases iteSome h with ⟨hc163, h⟩ | ⟨hc163, h⟩
  rotate_left
  · exact absurd hc163 (by rw [hv_r61]; decide)
  refine sMove (iv r67.2) S (wG 10 true 168 rfl rfl rfl hc163) (.inl rfl) rfl rfl (lb rfl) fun a S => ?_
  refine sBin (.bool (r67.2 == 2)) S (wG 10 true 168 rfl rfl rfl hc163) rfl rfl rfl (bEq _ _ _ _ .i64 r67.2 2) rfl (lb rfl) fun a S => ?_
  refine sPickT (.bool (r67.2 == 2)) S (wN rfl) rfl rfl hc163 rfl rfl (lb rfl) fun a S => ?_
  refine sMove (.bool (r67.2 == 2)) S (wN rfl) (.inl rfl) rfl rfl (lb rfl) fun a S => ?_
  rcases iteSome h with ⟨hc164, h⟩ | ⟨hc164, h⟩
  rotate_left
  · exact absurd hc164 (by rw [hv_r67]; decide)
  refine sMove (iv r75.2) S (wG 14 true 172 rfl rfl rfl hc164) (.inl rfl) rfl rfl (lb rfl) fun a S => ?_
  refine sBin (.bool (r75.2 == 2)) S (wG 14 true 172 rfl rfl rfl hc164) rfl rfl rfl (bEq _ _ _ _ .i64 r75.2 2) rfl (lb rfl) fun a S => ?_
  refine sPickT (.bool (r75.2 == 2)) S (wN rfl) rfl rfl hc164 rfl rfl (lb rfl) fun a S => ?_
  refine sMove (.bool (r75.2 == 2)) S (wN rfl) (.inl rfl) rfl rfl (lb rfl) fun a S => ?_
  rcases iteSome h with ⟨hc165, h⟩ | ⟨hc165, h⟩
  rotate_left
  · exact absurd hc165 (by rw [hv_r75]; decide)
  refine sMove (iv r83.2) S (wG 18 true 176 rfl rfl rfl hc165) (.inl rfl) rfl rfl (lb rfl) fun a S => ?_
  refine sBin (.bool (r83.2 == 2)) S (wG 18 true 176 rfl rfl rfl hc165) rfl rfl rfl (bEq _ _ _ _ .i64 r83.2 2) rfl (lb rfl) fun a S => ?_
  refine sPickT (.bool (r83.2 == 2)) S (wN rfl) rfl rfl hc165 rfl rfl (lb rfl) fun a S => ?_
  refine sMove (.bool (r83.2 == 2)) S (wN rfl) (.inl rfl) rfl rfl (lb rfl) fun a S => ?_
  rcases iteSome h with ⟨hc166, h⟩ | ⟨hc166, h⟩
  rotate_left
  · exact absurd hc166 (by rw [hv_r83]; decide)
  refine sMove (iv r93.2) S (wG 22 true 180 rfl rfl rfl hc166) (.inl rfl) rfl rfl (lb rfl) fun a S => ?_
  refine sBin (.bool (r93.2 == 2)) S (wG 22 true 180 rfl rfl rfl hc166) rfl rfl rfl (bEq _ _ _ _ .i64 r93.2 2) rfl (lb rfl) fun a S => ?_
  refine sPickT (.bool (r93.2 == 2)) S (wN rfl) rfl rfl hc166 rfl rfl (lb rfl) fun a S => ?_
  refine sMove (.bool (r93.2 == 2)) S (wN rfl) (.inl rfl) rfl rfl (lb rfl) fun a S => ?_
  rcases iteSome h with ⟨hc167, h⟩ | ⟨hc167, h⟩
  rotate_left
  · exact absurd hc167 (by rw [hv_r93]; decide)
  refine sMove (iv r98.2) S (wG 26 true 184 rfl rfl rfl hc167) (.inl rfl) rfl rfl (lb rfl) fun a S => ?_
  refine sBin (.bool (r98.2 == 4)) S (wG 26 true 184 rfl rfl rfl hc167) rfl rfl rfl (bEq _ _ _ _ .i64 r98.2 4) rfl (lb rfl) fun a S => ?_
  refine sPickT (.bool (r98.2 == 4)) S (wN rfl) rfl rfl hc167 rfl rfl (lb rfl) fun a S => ?_
  refine sMove (.bool (r98.2 == 4)) S (wN rfl) (.inl rfl) rfl rfl (lb rfl) fun a S => ?_
  rcases iteSome h with ⟨hc168, h⟩ | ⟨hc168, h⟩
  rotate_left
  · exact absurd hc168 (by rw [hv_r98]; decide)
  refine sMove (iv r107.2) S (wG 30 true 188 rfl rfl rfl hc168) (.inl rfl) rfl rfl (lb rfl) fun a S => ?_
  refine sBin (.bool (r107.2 == 2)) S (wG 30 true 188 rfl rfl rfl hc168) rfl rfl rfl (bEq _ _ _ _ .i64 r107.2 2) rfl (lb rfl) fun a S => ?_
  refine sPickT (.bool (r107.2 == 2)) S (wN rfl) rfl rfl hc168 rfl rfl (lb rfl) fun a S => ?_
  refine sMove (.bool (r107.2 == 2)) S (wN rfl) (.inl rfl) rfl rfl (lb rfl) fun a S => ?_
  rcases iteSome h with ⟨hc169, h⟩ | ⟨hc169, h⟩
  rotate_left
  · exact absurd hc169 (by rw [hv_r107]; decide)
  refine sMove (iv r115.2) S (wG 34 true 192 rfl rfl rfl hc169) (.inl rfl) rfl rfl (lb rfl) fun a S => ?_
  refine sBin (.bool (r115.2 == 2)) S (wG 34 true 192 rfl rfl rfl hc169) rfl rfl rfl (bEq _ _ _ _ .i64 r115.2 2) rfl (lb rfl) fun a S => ?_
  refine sPickT (.bool (r115.2 == 2)) S (wN rfl) rfl rfl hc169 rfl rfl (lb rfl) fun a S => ?_
  refine sMove (.bool (r115.2 == 2)) S (wN rfl) (.inl rfl) rfl rfl (lb rfl) fun a S => ?_
  rcases iteSome h with ⟨hc170, h⟩ | ⟨hc170, h⟩
  rotate_left
  · exact absurd hc170 (by rw [hv_r115]; decide)
  refine sMove (iv r123.2) S (wG 38 true 196 rfl rfl rfl hc170) (.inl rfl) rfl rfl (lb rfl) fun a S => ?_
  refine sBin (.bool (r123.2 == 2)) S (wG 38 true 196 rfl rfl rfl hc170) rfl rfl rfl (bEq _ _ _ _ .i64 r123.2 2) rfl (lb rfl) fun a S => ?_
  refine sPickT (.bool (r123.2 == 2)) S (wN rfl) rfl rfl hc170 rfl rfl (lb rfl) fun a S => ?_
  refine sMove (.bool (r123.2 == 2)) S (wN rfl) (.inl rfl) rfl rfl (lb rfl) fun a S => ?_
  rcases iteSome h with ⟨hc171, h⟩ | ⟨hc171, h⟩
  rotate_left
  · exact absurd hc171 (by rw [hv_r123]; decide)
  refine sMove (iv r133.2) S (wG 42 true 200 rfl rfl rfl hc171) (.inl rfl) rfl rfl (lb rfl) fun a S => ?_
  refine sBin (.bool (r133.2 == 4)) S (wG 42 true 200 rfl rfl rfl hc171) rfl rfl rfl (bEq _ _ _ _ .i64 r133.2 4) rfl (lb rfl) fun a S => ?_
  refine sPickT (.bool (r133.2 == 4)) S (wN rfl) rfl rfl hc171 rfl rfl (lb rfl) fun a S => ?_
  refine sMove (.bool (r133.2 == 4)) S (wN rfl) (.inl rfl) rfl rfl (lb rfl) fun a S => ?_
  rcases iteSome h with ⟨hc172, h⟩ | ⟨hc172, h⟩
  rotate_left
  · exact absurd hc172 (by rw [hv_r133]; decide)
  refine sMove (iv r143.2.2) S (wG 46 true 204 rfl rfl rfl hc172) (.inl rfl) rfl rfl (lb rfl) fun a S => ?_
  refine sBin (.bool (r143.2.2 == 8)) S (wG 46 true 204 rfl rfl rfl hc172) rfl rfl rfl (bEq _ _ _ _ .i64 r143.2.2 8) rfl (lb rfl) fun a S => ?_
  refine sPickT (.bool (r143.2.2 == 8)) S (wN rfl) rfl rfl hc172 rfl rfl (lb rfl) fun a S => ?_
  refine sMove (.bool (r143.2.2 == 8)) S (wN rfl) (.inl rfl) rfl rfl (lb rfl) fun a S => ?_
  rcases iteSome h with ⟨hc173, h⟩ | ⟨hc173, h⟩
  rotate_left
  · exact absurd hc173 (by rw [hv_r143]; decide)
  refine sMove (iv r149.2.2) S (wG 50 true 208 rfl rfl rfl hc173) (.inl rfl) rfl rfl (lb rfl) fun a S => ?_
  refine sBin (.bool (r149.2.2 == 8)) S (wG 50 true 208 rfl rfl rfl hc173) rfl rfl rfl (bEq _ _ _ _ .i64 r149.2.2 8) rfl (lb rfl) fun a S => ?_
  refine sPickT (.bool (r149.2.2 == 8)) S (wN rfl) rfl rfl hc173 rfl rfl (lb rfl) fun a S => ?_
  refine sMove (.bool (r149.2.2 == 8)) S (wN rfl) (.inr rfl) rfl rfl (lb rfl) fun a S => ?_
  refine leafL (leafT (hK160 _ _ ?_))
  refine sSeq (fun K174 hK174 => ?_)
  refine sRegion ?_
  refine sMove (iv r3.2) S (wN rfl) (.inl rfl) rfl rfl (lb rfl) fun a S => ?_
  refine sBin (.bool (r3.2 == 0)) S (wN rfl) rfl rfl rfl (bEq _ _ _ _ .i64 r3.2 0) rfl (lb rfl) fun a S => ?_
  refine sMove (.bool (r3.2 == 0)) S (wN rfl) (.inl rfl) rfl rfl (lb rfl) fun a S => ?_
  rcases iteSome h with ⟨hc175, h⟩ | ⟨hc175, h⟩
  rotate_left
  · exact absurd hc175 (by rw [hv_r3]; decide)
  refine sMove (.slice ad6 r3.1.length cp7) S (wG 2 true 214 rfl rfl rfl hc175) (.inl rfl) rfl rfl (lb rfl) fun a S => ?_
  refine sLen (ad := ad6) (m := r3.1.length) (c := cp7) S (wG 2 true 214 rfl rfl rfl hc175) rfl Tryd.underlying22 rfl rfl (lb rfl) fun a S => ?_
  refine sBin (.bool ((r3.1.length : Int) == 0)) S (wG 2 true 214 rfl rfl rfl hc175) rfl rfl rfl (bEq _ _ _ _ .i64 (r3.1.length : Int) 0) rfl (lb rfl) fun a S => ?_
  refine sPickT (.bool ((r3.1.length : Int) == 0)) S (wN rfl) rfl rfl hc175 rfl rfl (lb rfl) fun a S => ?_
  refine sMove (.bool ((r3.1.length : Int) == 0)) S (wN rfl) (.inl rfl) rfl rfl (lb rfl) fun a S => ?_
  rcases iteSome h with ⟨hc176, h⟩ | ⟨hc176, h⟩
  rotate_left
  · exact absurd hc176 (by rw [hv_r3]; decide)
  refine sMove (iv r9.2) S (wG 7 true 219 rfl rfl rfl hc176) (.inl rfl) rfl rfl (lb rfl) fun a S => ?_
  refine sBin (.bool (r9.2 == 0)) S (wG 7 true 219 rfl rfl rfl hc176) rfl rfl rfl (bEq _ _ _ _ .i64 r9.2 0) rfl (lb rfl) fun a S => ?_
  refine sPickT (.bool (r9.2 == 0)) S (wN rfl) rfl rfl hc176 rfl rfl (lb rfl) fun a S => ?_
  refine sMove (.bool (r9.2 == 0)) S (wN rfl) (.inl rfl) rfl rfl (lb rfl) fun a S => ?_
  rcases iteSome h with ⟨hc177, h⟩ | ⟨hc177, h⟩
  rotate_left
  · exact absurd hc177 (by rw [hv_r9]; decide)
  refine sMove (.slice ad12 r9.1.length cp13) S (wG 11 true 223 rfl rfl rfl hc177) (.inl rfl) rfl rfl (lb rfl) fun a S => ?_
  refine sLit (r := (rI .i64)) (T := 3) (xs := ([4, 3, 2, 1] : List Int)) [(0, iv 4), (1, iv 3), (2, iv 2), (3, iv 1)] 4 [iv 4, iv 3, iv 2, iv 1] [iv 4, iv 3, iv 2, iv 1] (iv 0) 8 S (wG 11 true 223 rfl rfl rfl hc177) rfl rfl Tryd.underlying22 rfl (by decide) (by decide) (by kernel_rfl) rfl (fun E1 w1 hE => All.cons rfl (All.cons rfl (All.cons rfl (All.cons rfl (All.nil _ _ _))))) rfl rfl (lb rfl) fun a w ad178 cp179 S => ?_
  obtain ⟨r180, hx181, h⟩ := bindSome h
  have hv_r180 : r180 = true := Option.some.inj (hx181.symm.trans (by rw [hv_r9]; exact kc_raddlelaw38_ShortNames_22))
  have S1 := S.mem
  have S1 := S1.shutR (r := (rI .i64)) (T := 3) (v := .slice ad178 ([4, 3, 2, 1] : List Int).length cp179) (xs := ([4, 3, 2, 1] : List Int)) 0 rfl
  refine sCallQ (X := Unit) (f := 14) (vs := [.slice ad12 r9.1.length cp13, .slice ad178 ([4, 3, 2, 1] : List Int).length cp179]) (val := fun _ => .bool r180) S (wG 11 true 223 rfl rfl rfl hc177) rfl callee14 rfl (S1.quiet [39, 0] rfl) (fun E1 w1 S1 => c_raddleref36_Same E1 w1 r9.1 (.slice ad12 r9.1.length cp13) ([4, 3, 2, 1] : List Int) (.slice ad178 ([4, 3, 2, 1] : List Int).length cp179) r180 hx181 S1) rfl (lb rfl) fun _ a w S => ?_
  refine sPickT (.bool r180) S (wN rfl) rfl rfl hc177 rfl rfl (lb rfl) fun a S => ?_
  refine sMove (.bool r180) S (wN rfl) (.inl rfl) rfl rfl (lb rfl) fun a S => ?_
  rcases iteSome h with ⟨hc182, h⟩ | ⟨hc182, h⟩
  rotate_left
  · exact absurd hc182 (by rw [hv_r180]; decide)
  refine sMove (iv r15.2) S (wG 16 true 228 rfl rfl rfl hc182) (.inl rfl) rfl rfl (lb rfl) fun a S => ?_
  refine sBin (.bool (r15.2 == 0)) S (wG 16 true 228 rfl rfl rfl hc182) rfl rfl rfl (bEq _ _ _ _ .i64 r15.2 0) rfl (lb rfl) fun a S => ?_
  refine sPickT (.bool (r15.2 == 0)) S (wN rfl) rfl rfl hc182 rfl rfl (lb rfl) fun a S => ?_
  refine sMove (.bool (r15.2 == 0)) S (wN rfl) (.inl rfl) rfl rfl (lb rfl) fun a S => ?_
  rcases iteSome h with ⟨hc183, h⟩ | ⟨hc183, h⟩
  rotate_left
  · exact absurd hc183 (by rw [hv_r15]; decide)
  refine sMove (.slice ad18 r15.1.length cp19) S (wG 20 true 232 rfl rfl rfl hc183) (.inl rfl) rfl rfl (lb rfl) fun a S => ?_
  refine sLit (r := (rI .i64)) (T := 3) (xs := ([1] : List Int)) [(0, iv 1)] 1 [iv 1] [iv 1] (iv 0) 8 S (wG 20 true 232 rfl rfl rfl hc183) rfl rfl Tryd.underlying22 rfl (by decide) (by decide) (by kernel_rfl) rfl (fun E1 w1 hE => All.cons rfl (All.nil _ _ _)) rfl rfl (lb rfl) fun a w ad184 cp185 S => ?_
  obtain ⟨r186, hx187, h⟩ := bindSome h
  have hv_r186 : r186 = true := Option.some.inj (hx187.symm.trans (by rw [hv_r15]; exact kc_raddlelaw38_ShortNames_23))
  have S1 := S.mem
  have S1 := S1.shutR (r := (rI .i64)) (T := 3) (v := .slice ad184 ([1] : List Int).length cp185) (xs := ([1] : List Int)) 0 rfl
  refine sCallQ (X := Unit) (f := 14) (vs := [.slice ad18 r15.1.length cp19, .slice ad184 ([1] : List Int).length cp185]) (val := fun _ => .bool r186) S (wG 20 true 232 rfl rfl rfl hc183) rfl callee14 rfl (S1.quiet [38, 0] rfl) (fun E1 w1 S1 => c_raddleref36_Same E1 w1 r15.1 (.slice ad18 r15.1.length cp19) ([1] : List Int) (.slice ad184 ([1] : List Int).length cp185) r186 hx187 S1) rfl (lb rfl) fun _ a w S => ?_
  refine sPickT (.bool r186) S (wN rfl) rfl rfl hc183 rfl rfl (lb rfl) fun a S => ?_
  refine sMove (.bool r186) S (wN rfl) (.inl rfl) rfl rfl (lb rfl) fun a S => ?_
  rcases iteSome h with ⟨hc188, h⟩ | ⟨hc188, h⟩
  rotate_left
  · exact absurd hc188 (by rw [hv_r186]; decide)
  refine sMove (iv r21.2) S (wG 25 true 237 rfl rfl rfl hc188) (.inl rfl) rfl rfl (lb rfl) fun a S => ?_
  refine sBin (.bool (r21.2 == 0)) S (wG 25 true 237 rfl rfl rfl hc188) rfl rfl rfl (bEq _ _ _ _ .i64 r21.2 0) rfl (lb rfl) fun a S => ?_
  refine sPickT (.bool (r21.2 == 0)) S (wN rfl) rfl rfl hc188 rfl rfl (lb rfl) fun a S => ?_
  refine sMove (.bool (r21.2 == 0)) S (wN rfl) (.inl rfl) rfl rfl (lb rfl) fun a S => ?_
  rcases iteSome h with ⟨hc189, h⟩ | ⟨hc189, h⟩
  rotate_left
  · exact absurd hc189 (by rw [hv_r21]; decide)
  refine sMove (.slice ad24 r21.1.length cp25) S (wG 29 true 241 rfl rfl rfl hc189) (.inl rfl) rfl rfl (lb rfl) fun a S => ?_
  refine sLit (r := (rI .i64)) (T := 3) (xs := ([2] : List Int)) [(0, iv 2)] 1 [iv 2] [iv 2] (iv 0) 8 S (wG 29 true 241 rfl rfl rfl hc189) rfl rfl Tryd.underlying22 rfl (by decide) (by decide) (by kernel_rfl) rfl (fun E1 w1 hE => All.cons rfl (All.nil _ _ _)) rfl rfl (lb rfl) fun a w ad190 cp191 S => ?_
  obtain ⟨r192, hx193, h⟩ := bindSome h
  have hv_r192 : r192 = true := Option.some.inj (hx193.symm.trans (by rw [hv_r21]; exact kc_raddlelaw38_ShortNames_24))
  have S1 := S.mem
  have S1 := S1.shutR (r := (rI .i64)) (T := 3) (v := .slice ad190 ([2] : List Int).length cp191) (xs := ([2] : List Int)) 0 rfl
  refine sCallQ (X := Unit) (f := 14) (vs := [.slice ad24 r21.1.length cp25, .slice ad190 ([2] : List Int).length cp191]) (val := fun _ => .bool r192) S (wG 29 true 241 rfl rfl rfl hc189) rfl callee14 rfl (S1.quiet [37, 0] rfl) (fun E1 w1 S1 => c_raddleref36_Same E1 w1 r21.1 (.slice ad24 r21.1.length cp25) ([2] : List Int) (.slice ad190 ([2] : List Int).length cp191) r192 hx193 S1) rfl (lb rfl) fun _ a w S => ?_
  refine sPickT (.bool r192) S (wN rfl) rfl rfl hc189 rfl rfl (lb rfl) fun a S => ?_
  refine sMove (.bool r192) S (wN rfl) (.inl rfl) rfl rfl (lb rfl) fun a S => ?_
  rcases iteSome h with ⟨hc194, h⟩ | ⟨hc194, h⟩
  rotate_left
  · exact absurd hc194 (by rw [hv_r192]; decide)
  refine sMove (iv r27.2) S (wG 34 true 246 rfl rfl rfl hc194) (.inl rfl) rfl rfl (lb rfl) fun a S => ?_
  refine sBin (.bool (r27.2 == 0)) S (wG 34 true 246 rfl rfl rfl hc194) rfl rfl rfl (bEq _ _ _ _ .i64 r27.2 0) rfl (lb rfl) fun a S => ?_
  refine sPickT (.bool (r27.2 == 0)) S (wN rfl) rfl rfl hc194 rfl rfl (lb rfl) fun a S => ?_
  refine sMove (.bool (r27.2 == 0)) S (wN rfl) (.inl rfl) rfl rfl (lb rfl) fun a S => ?_
  rcases iteSome h with ⟨hc195, h⟩ | ⟨hc195, h⟩
  rotate_left
  · exact absurd hc195 (by rw [hv_r27]; decide)
  refine sMove (.slice ad30 r27.1.length cp31) S (wG 38 true 250 rfl rfl rfl hc195) (.inl rfl) rfl rfl (lb rfl) fun a S => ?_
  refine sLit (r := (rI .i64)) (T := 3) (xs := ([0, 0, 0] : List Int)) [(0, iv 0), (1, iv 0), (2, iv 0)] 3 [iv 0, iv 0, iv 0] [iv 0, iv 0, iv 0] (iv 0) 8 S (wG 38 true 250 rfl rfl rfl hc195) rfl rfl Tryd.underlying22 rfl (by decide) (by decide) (by kernel_rfl) rfl (fun E1 w1 hE => All.cons rfl (All.cons rfl (All.cons rfl (All.nil _ _ _)))) rfl rfl (lb rfl) fun a w ad196 cp197 S => ?_
  obtain ⟨r198, hx199, h⟩ := bindSome h
  have hv_r198 : r198 = true := Option.some.inj (hx199.symm.trans (by rw [hv_r27]; exact kc_raddlelaw38_ShortNames_25))
  have S1 := S.mem
  have S1 := S1.shutR (r := (rI .i64)) (T := 3) (v := .slice ad196 ([0, 0, 0] : List Int).length cp197) (xs := ([0, 0, 0] : List Int)) 0 rfl
  refine sCallQ (X := Unit) (f := 14) (vs := [.slice ad30 r27.1.length cp31, .slice ad196 ([0, 0, 0] : List Int).length cp197]) (val := fun _ => .bool r198) S (wG 38 true 250 rfl rfl rfl hc195) rfl callee14 rfl (S1.quiet [35, 0] rfl) (fun E1 w1 S1 => c_raddleref36_Same E1 w1 r27.1 (.slice ad30 r27.1.length cp31) ([0, 0, 0] : List Int) (.slice ad196 ([0, 0, 0] : List Int).length cp197) r198 hx199 S1) rfl (lb rfl) fun _ a w S => ?_
  refine sPickT (.bool r198) S (wN rfl) rfl rfl hc195 rfl rfl (lb rfl) fun a S => ?_
  refine sMove (.bool r198) S (wN rfl) (.inl rfl) rfl rfl (lb rfl) fun a S => ?_
  rcases iteSome h with ⟨hc200, h⟩ | ⟨hc200, h⟩
  rotate_left
  · exact absurd hc200 (by rw [hv_r198]; decide)
  refine sMove (iv r35.2) S (wG 43 true 255 rfl rfl rfl hc200) (.inl rfl) rfl rfl (lb rfl) fun a S => ?_
  refine sBin (.bool (r35.2 == 0)) S (wG 43 true 255 rfl rfl rfl hc200) rfl rfl rfl (bEq _ _ _ _ .i64 r35.2 0) rfl (lb rfl) fun a S => ?_
  refine sPickT (.bool (r35.2 == 0)) S (wN rfl) rfl rfl hc200 rfl rfl (lb rfl) fun a S => ?_
  refine sMove (.bool (r35.2 == 0)) S (wN rfl) (.inl rfl) rfl rfl (lb rfl) fun a S => ?_
  rcases iteSome h with ⟨hc201, h⟩ | ⟨hc201, h⟩
  rotate_left
  · exact absurd hc201 (by rw [hv_r35]; decide)
  refine sMove (.slice ad38 r35.1.length cp39) S (wG 47 true 259 rfl rfl rfl hc201) (.inl rfl) rfl rfl (lb rfl) fun a S => ?_
  refine sLen (ad := ad38) (m := r35.1.length) (c := cp39) S (wG 47 true 259 rfl rfl rfl hc201) rfl Tryd.underlying22 rfl rfl (lb rfl) fun a S => ?_
  refine sBin (.bool ((r35.1.length : Int) == 0)) S (wG 47 true 259 rfl rfl rfl hc201) rfl rfl rfl (bEq _ _ _ _ .i64 (r35.1.length : Int) 0) rfl (lb rfl) fun a S => ?_
  refine sPickT (.bool ((r35.1.length : Int) == 0)) S (wN rfl) rfl rfl hc201 rfl rfl (lb rfl) fun a S => ?_
  refine sMove (.bool ((r35.1.length : Int) == 0)) S (wN rfl) (.inl rfl) rfl rfl (lb rfl) fun a S => ?_
  rcases iteSome h with ⟨hc202, h⟩ | ⟨hc202, h⟩
  rotate_left
  · exact absurd hc202 (by rw [hv_r35]; decide)
  refine sMove (iv r43.2) S (wG 52 true 264 rfl rfl rfl hc202) (.inl rfl) rfl rfl (lb rfl) fun a S => ?_
  refine sBin (.bool (r43.2 == 0)) S (wG 52 true 264 rfl rfl rfl hc202) rfl rfl rfl (bEq _ _ _ _ .i64 r43.2 0) rfl (lb rfl) fun a S => ?_
  refine sPickT (.bool (r43.2 == 0)) S (wN rfl) rfl rfl hc202 rfl rfl (lb rfl) fun a S => ?_
  refine sMove (.bool (r43.2 == 0)) S (wN rfl) (.inl rfl) rfl rfl (lb rfl) fun a S => ?_
  rcases iteSome h with ⟨hc203, h⟩ | ⟨hc203, h⟩
  rotate_left
  · exact absurd hc203 (by rw [hv_r43]; decide)
  refine sMove (.slice ad46 r43.1.length cp47) S (wG 56 true 268 rfl rfl rfl hc203) (.inl rfl) rfl rfl (lb rfl) fun a S => ?_
  refine sLit (r := (rI .i64)) (T := 3) (xs := ([1, 1] : List Int)) [(0, iv 1), (1, iv 1)] 2 [iv 1, iv 1] [iv 1, iv 1] (iv 0) 8 S (wG 56 true 268 rfl rfl rfl hc203) rfl rfl Tryd.underlying22 rfl (by decide) (by decide) (by kernel_rfl) rfl (fun E1 w1 hE => All.cons rfl (All.cons rfl (All.nil _ _ _))) rfl rfl (lb rfl) fun a w ad204 cp205 S => ?_
  obtain ⟨r206, hx207, h⟩ := bindSome h
  have hv_r206 : r206 = true := Option.some.inj (hx207.symm.trans (by rw [hv_r43]; exact kc_raddlelaw38_ShortNames_26))
  have S1 := S.mem
  have S1 := S1.shutR (r := (rI .i64)) (T := 3) (v := .slice ad204 ([1, 1] : List Int).length cp205) (xs := ([1, 1] : List Int)) 0 rfl
  refine sCallQ (X := Unit) (f := 14) (vs := [.slice ad46 r43.1.length cp47, .slice ad204 ([1, 1] : List Int).length cp205]) (val := fun _ => .bool r206) S (wG 56 true 268 rfl rfl rfl hc203) rfl callee14 rfl (S1.quiet [31, 0] rfl) (fun E1 w1 S1 => c_raddleref36_Same E1 w1 r43.1 (.slice ad46 r43.1.length cp47) ([1, 1] : List Int) (.slice ad204 ([1, 1] : List Int).length cp205) r206 hx207 S1) rfl (lb rfl) fun _ a w S => ?_
  refine sPickT (.bool r206) S (wN rfl) rfl rfl hc203 rfl rfl (lb rfl) fun a S => ?_
  refine sMove (.bool r206) S (wN rfl) (.inr rfl) rfl rfl (lb rfl) fun a S => ?_
  refine leafL (leafT (hK174 _ _ ?_))
  refine sSeq (fun K208 hK208 => ?_)
  refine sRegion ?_
  refine sMove (.bool true) S (wN rfl) (.inl rfl) rfl rfl (lb rfl) fun a S => ?_
  refine sMove (.bool r206) S (wG 0 true 273 rfl rfl rfl rfl) (.inl rfl) rfl rfl (lb rfl) fun a S => ?_
  refine sPickT (.bool r206) S (wN rfl) rfl rfl rfl rfl rfl (lb rfl) fun a S => ?_
  refine sMove (.bool r206) S (wN rfl) (.inl rfl) rfl rfl (lb rfl) fun a S => ?_
  rcases iteSome h with ⟨hc209, h⟩ | ⟨hc209, h⟩
  rotate_left
  · exact absurd hc209 (by rw [hv_r206]; decide)
  refine sMove (.bool (r149.2.2 == 8)) S (wG 3 true 276 rfl rfl rfl hc209) (.inl rfl) rfl rfl (lb rfl) fun a S => ?_
  refine sPickT (.bool (r149.2.2 == 8)) S (wN rfl) rfl rfl hc209 rfl rfl (lb rfl) fun a S => ?_
  refine sMove (.bool (r149.2.2 == 8)) S (wN rfl) (.inl rfl) rfl rfl (lb rfl) fun a S => ?_
  rcases iteSome h with ⟨hc210, h⟩ | ⟨hc210, h⟩
  rotate_left
  · exact absurd hc210 (by rw [hv_r149]; decide)
  refine sMove (iv r155.2.2) S (wG 6 true 279 rfl rfl rfl hc210) (.inl rfl) rfl rfl (lb rfl) fun a S => ?_
  refine sBin (.bool (r155.2.2 == 0)) S (wG 6 true 279 rfl rfl rfl hc210) rfl rfl rfl (bEq _ _ _ _ .i64 r155.2.2 0) rfl (lb rfl) fun a S => ?_
  refine sPickT (.bool (r155.2.2 == 0)) S (wN rfl) rfl rfl hc210 rfl rfl (lb rfl) fun a S => ?_
  refine sMove (.bool (r155.2.2 == 0)) S (wN rfl) (.inl rfl) rfl rfl (lb rfl) fun a S => ?_
  rcases iteSome h with ⟨hc211, h⟩ | ⟨hc211, h⟩
  rotate_left
  · exact absurd hc211 (by rw [hv_r155]; decide)
  refine sMove (iv r155.1) S (wG 10 true 283 rfl rfl rfl hc211) (.inl rfl) rfl rfl (lb rfl) fun a S => ?_
  refine sBin (.bool (r155.1 == 5)) S (wG 10 true 283 rfl rfl rfl hc211) rfl rfl rfl (bEq _ _ _ _ .i64 r155.1 5) rfl (lb rfl) fun a S => ?_
  refine sPickT (.bool (r155.1 == 5)) S (wN rfl) rfl rfl hc211 rfl rfl (lb rfl) fun a S => ?_
  refine sMove (.bool (r155.1 == 5)) S (wN rfl) (.inl rfl) rfl rfl (lb rfl) fun a S => ?_
  rcases iteSome h with ⟨hc212, h⟩ | ⟨hc212, h⟩
  rotate_left
  · exact absurd hc212 (by rw [hv_r155]; decide)
  refine sMove (.slice ad158 r155.2.1.length cp159) S (wG 14 true 287 rfl rfl rfl hc212) (.inl rfl) rfl rfl (lb rfl) fun a S => ?_
  refine sLen (ad := ad158) (m := r155.2.1.length) (c := cp159) S (wG 14 true 287 rfl rfl rfl hc212) rfl Tryd.underlying22 rfl rfl (lb rfl) fun a S => ?_
  refine sBin (.bool ((r155.2.1.length : Int) == 0)) S (wG 14 true 287 rfl rfl rfl hc212) rfl rfl rfl (bEq _ _ _ _ .i64 (r155.2.1.length : Int) 0) rfl (lb rfl) fun a S => ?_
  refine sPickT (.bool ((r155.2.1.length : Int) == 0)) S (wN rfl) rfl rfl hc212 rfl rfl (lb rfl) fun a S => ?_
  refine sMove (.bool ((r155.2.1.length : Int) == 0)) S (wN rfl) (.inl rfl) rfl rfl (lb rfl) fun a S => ?_
  rcases iteSome h with ⟨hc213, h⟩ | ⟨hc213, h⟩
  rotate_left
  · exact absurd hc213 (by rw [hv_r155]; decide)
  obtain ⟨r214, hx215, h⟩ := bindSome h
  have hv_r214 : r214 = true := Option.some.inj (hx215.symm.trans (by exact kc_raddlelaw38_ShortNames_27))
  have S1 := S.mem
  refine sCallQ (X := Unit) (f := 15) (vs := []) (val := fun _ => .bool r214) S (wG 19 true 292 rfl rfl rfl hc213) rfl callee15 rfl (S1.quiet [] rfl) (fun E1 w1 S1 => c_raddlelaw38_alive E1 w1  r214 hx215 S1) rfl (lb rfl) fun _ a w S => ?_
  refine sPickT (.bool r214) S (wN rfl) rfl rfl hc213 rfl rfl (lb rfl) fun a S => ?_
  refine sMove (.bool r214) S (wN rfl) (.inr rfl) rfl rfl (lb rfl) fun a S => ?_
  refine leafL (leafT (hK208 _ _ ?_))
  obtain rfl := Option.some.inj h
  exact wp_ret (sRet (.bool r214) S (rsl1 rfl (rvT (t := 0) (v := .bool r214) S rfl)) ⟨(), rfl, S.mem.sel [] [] (by decide) rfl rfl⟩)

end Go.Proofs.YtoiehdlcfehmlaaDoor
namespace Go.Proofs.YtoiehdlcfehmlaaDoor
open Go.RowKit
set_option linter.unusedVariables false

def K_raddlelaw38_ShortNames  : Option Bool :=
  Option.bind (K_short_Turns 7 0) fun r3 =>
  Option.bind (K_short_Turns 4 4) fun r9 =>
  Option.bind (K_short_Turns 1 1) fun r15 =>
  Option.bind (K_short_Turns 3 1) fun r21 =>
  Option.bind (K_short_Heights 3 ([] : (List Int))) fun r27 =>
  Option.bind (K_short_Fit ([0, 0] : List Int)) fun r35 =>
  Option.bind (K_short_Fit ([2] : List Int)) fun r43 =>
  Option.bind (K_short_Turns 0 0) fun r49 =>
  Option.bind (K_short_Turns 4 5) fun r55 =>
  Option.bind (K_short_Turns 60 51) fun r61 =>
  Option.bind (K_short_Turns 201 1) fun r67 =>
  Option.bind (K_short_Heights 3 ([4] : List Int)) fun r75 =>
  Option.bind (K_short_Heights 3 ([0] : List Int)) fun r83 =>
  Option.bind (makeO 51 (0 : Int)) fun m91 =>
  Option.bind (K_short_Worked 201 m91) fun r93 =>
  Option.bind (K_short_Chart 200 m91) fun r98 =>
  Option.bind (K_short_Fit ([] : (List Int))) fun r107 =>
  Option.bind (K_short_Fit ([1, 2] : List Int)) fun r115 =>
  Option.bind (K_short_Fit ([51] : List Int)) fun r123 =>
  Option.bind (makeO 201 (0 : Int)) fun m131 =>
  Option.bind (K_short_Fit m131) fun r133 =>
  Option.bind (K_short_Read (api_Chart.mk 2 [(api_Row.mk false [(api_Stitch.mk 1 false 0 0), (api_Stitch.mk 8 false 0 0)])])) fun r143 =>
  Option.bind (K_short_Read (api_Chart.mk 0 ([] : (List api_Row)))) fun r149 =>
  Option.bind (K_short_Read (api_Chart.mk 5 ([] : (List api_Row)))) fun r155 =>
  if r49.2 == 2 then
    if r55.2 == 2 then
      if r61.2 == 2 then
        if r67.2 == 2 then
          if r75.2 == 2 then
            if r83.2 == 2 then
              if r93.2 == 2 then
                if r98.2 == 4 then
                  if r107.2 == 2 then
                    if r115.2 == 2 then
                      if r123.2 == 2 then
                        if r133.2 == 4 then
                          if r143.2.2 == 8 then
                            if r3.2 == 0 then
                              if (r3.1.length : Int) == 0 then
                                if r9.2 == 0 then
                                  Option.bind (K_raddleref36_Same r9.1 ([4, 3, 2, 1] : List Int)) fun r180 =>
                                  if r180 then
                                    if r15.2 == 0 then
                                      Option.bind (K_raddleref36_Same r15.1 ([1] : List Int)) fun r186 =>
                                      if r186 then
                                        if r21.2 == 0 then
                                          Option.bind (K_raddleref36_Same r21.1 ([2] : List Int)) fun r192 =>
                                          if r192 then
                                            if r27.2 == 0 then
                                              Option.bind (K_raddleref36_Same r27.1 ([0, 0, 0] : List Int)) fun r198 =>
                                              if r198 then
                                                if r35.2 == 0 then
                                                  if (r35.1.length : Int) == 0 then
                                                    if r43.2 == 0 then
                                                      Option.bind (K_raddleref36_Same r43.1 ([1, 1] : List Int)) fun r206 =>
                                                      if r206 then
                                                        if r149.2.2 == 8 then
                                                          if r155.2.2 == 0 then
                                                            if r155.1 == 5 then
                                                              if (r155.2.1.length : Int) == 0 then
                                                                Option.bind (K_raddlelaw38_alive) fun r214 =>
                                                                some r214
                                                              else
                                                                none
                                                            else
                                                              none
                                                          else
                                                            none
                                                        else
                                                          none
                                                      else
                                                        none
                                                    else
                                                      none
                                                  else
                                                    none
                                                else
                                                  none
                                              else
                                                none
                                            else
                                              none
                                          else
                                            none
                                        else
                                          none
                                      else
                                        none
                                    else
                                      none
                                  else
                                    none
                                else
                                  none
                              else
                                none
                            else
                              none
                          else
                            none
                        else
                          none
                      else
                        none
                    else
                      none
                  else
                    none
                else
                  none
              else
                none
            else
              none
          else
            none
        else
          none
      else
        none
    else
      none
  else
    none
theorem m_F_raddlelaw38_ShortNames  : Le (K_raddlelaw38_ShortNames) (F_raddlelaw38_ShortNames) := by
  unfold K_raddlelaw38_ShortNames F_raddlelaw38_ShortNames
  with_reducible repeat' (first | exact m_F_short_Turns _ _ | exact m_F_short_Heights _ _ | exact m_F_short_Fit _ | exact m_F_short_Worked _ _ | exact m_F_short_Chart _ _ | exact m_F_short_Read _ | exact m_F_raddleref36_Same _ _ | exact m_F_raddlelaw38_alive | exact Le.rfl _ | refine Le.loop _ ?_ | refine Le.bind ?_ ?_ | refine Le.ite ?_ ?_ | refine Le.sum ?_ ?_ | refine Le.prod ?_ | intro _ | exact Empty.elim (by assumption) | dsimp only)
set_option maxRecDepth 1000000 in
theorem k_raddlelaw38_ShortNames : F_raddlelaw38_ShortNames = some true := m_F_raddlelaw38_ShortNames _ (by kernel_rfl)
theorem law_ShortNames : F_raddlelaw38_ShortNames = some true := k_raddlelaw38_ShortNames
end Go.Proofs.YtoiehdlcfehmlaaDoor
namespace Go.Proofs.YtoiehdlcfehmlaaDoor
open Go.RowKit
set_option linter.unusedVariables false

namespace frameShortNames
open Go.ChangeShapes Go.WideShapes Go.ChangeAt Go.Joins
theorem own : ownKnob Tryd.prog.godebug = none := by kernel_rfl
theorem laidOut : laidOutB Tryd.prog = true := by kernel_rfl
set_option maxRecDepth 100000 in
theorem door_met (os : Os) (args : Array Value) : laidMetH Tryd.prog Rows.shortNamesRow.laid ((World.doorLaid Tryd.prog 400 os).forCall (fun _ _ => 0) ⟨#[], args, []⟩).memory :=
  laidMetH_of_parts3 (fuel := 8) (laidMet_of_run' 8 (by kernel_rfl) (by kernel_rfl)) (by kernel_rfl) (by kernel_rfl)
set_option maxRecDepth 100000 in
theorem lifted (os : Os) (started : os.Started) (H : Type) (enc : TypeId × Value → H) :
    ReturnsInHanded {} Tryd.checked os 3 .any (fun w args => (Rows.shortNamesSpec.pre enc Tryd.prog Tryd.f3 Rows.shortNamesRow.domain false w args ∧ laidMetH Tryd.prog Rows.shortNamesRow.laid w) ∧ sizedMet enc Tryd.prog Tryd.f3 (OpenSpec.ofChange Rows.shortNamesSpec) false w args) (Rows.shortNamesSpec.post enc Tryd.prog Tryd.f3 false true false false) := by
  refine returnsInHanded_of_change_and (C := Tryd.checked) (X := fun w _ => laidMetH Tryd.prog Rows.shortNamesRow.laid w) (fun _ _ _ hh h => h.of_heap hh) own started (by kernel_rfl) Tryd.func3
    (ChangeSpec.witness_shaped (enc := enc) (C := Tryd.checked) (os := os) (X := fun w _ => laidMetH Tryd.prog Rows.shortNamesRow.laid w) false (World.doorLaid Tryd.prog 400 os) #[] 8 rfl (World.shaped_of_RefB (by kernel_rfl) (by kernel_rfl)) (by kernel_rfl) (by kernel_rfl) (by kernel_rfl) (door_met os _)) ?_
  intro W base args ds gs before hval0 hW _ _ _ _
  have hval : ∀ (j : Nat) t v, Tryd.f3.params[j]? = some t → args[j]? = some v → Value.okWide Tryd.prog W .any base t v := hval0
  have hW' := hW
  obtain ⟨p, q, hA0, hV, rfl, hfz, hnd⟩ := hW
  have hA : DataW.TrodAll enc Tryd.prog W 0 (fun _ => true) true Tryd.f3.params.toList args.toList ds p := hA0
  rw [Tryd.params3] at hA hval
  obtain ⟨rfl, rfl, rfl⟩ := trodAll_none hA
  obtain ⟨rfl, rfl⟩ := trodVars_none hV
  clear hA0 hval0
  refine (c_raddlelaw38_ShortNames (fun _ => False) W  true (law_ShortNames  ) (St0.start (by intro d hd; cases hd))).mono fun e W' hr => ?_
  obtain ⟨_, he, hS⟩ := hr
  have bel := hS.chg.below
  subst he
  exact ⟨_, rfl, _, _, _, [], _, [], hW', trodAll_mk1 (shut_bool Tryd.underlying4 _), trodAll_mk0, rfl, bel.frame _, fun h => by cases h⟩
theorem over : Rows.shortNamesRow.holds Tryd.pinned (OpenSpec.ofChange Rows.shortNamesSpec) :=
  OpenClaim.holds_of_wide 3 Tryd.f3 rfl rfl rfl rfl rfl rfl rfl ⟨rfl, rfl, rfl, rfl, rfl⟩ rfl rfl rfl rfl rfl (by kernel_rfl) Tryd.func3 (by kernel_rfl)
    (of_decide_eq_true (by kernel_rfl)) (by unfold Func.isWrapper; first | (rw [if_pos (by decide +kernel)]; kernel_rfl) | (rw [if_neg (by decide +kernel)]; exact ⟨rfl, rfl⟩))
    (fun os started H enc _ => lifted os started H enc)
theorem card : Rows.ShortNamesCardSaid :=
  Claim7.holds_tied_plain_at .later [] [.data, .data, .data] true (true, "dd224f09b7bd2d708e49c9d1e39fbd7694ddda389d105d38d20db584f451cd0f") false
    over (fun _ h => by cases h) (by kernel_rfl) (fun _ h => by cases h) shortNames_row_tie rfl ⟨rfl, rfl⟩ (by kernel_rfl) rfl
    (fun f fn hf hfn => by
      obtain rfl : f = 3 := Option.some.inj ((show Tryd.prog.funcNamed "raddle/raddlelaw38.ShortNames" = some 3 by kernel_rfl).symm.trans hf) |>.symm
      obtain rfl : fn = Tryd.f3 := (Option.some.inj (Tryd.func3.symm.trans hfn)).symm
      exact ⟨by kernel_rfl, fun j t ht => by
        rw [Tryd.params3] at ht
        simp at ht⟩)
    (by kernel_rfl)
end frameShortNames
theorem shortNames_holds : Rows.ShortNamesCardSaid := frameShortNames.card

end Go.Proofs.YtoiehdlcfehmlaaDoor
