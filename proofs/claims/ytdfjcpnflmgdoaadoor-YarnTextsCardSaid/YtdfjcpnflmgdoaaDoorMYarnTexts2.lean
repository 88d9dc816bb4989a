/- Several texts in one: G5s1 G5s0 G5 PlR G14 PlQ PlTm G6 G16s1 G16s0 G16 G7 G19 G8 G20 -/
import Derived.WalkKit
import Derived.Maps.AppendAt
import Derived.Deep.AppendLies
import Derived.KernelRfl
import Derived.Laws.OwnMore
import Derived.Great.BuildSlice
import Derived.Orders
import Derived.Laws.StructEq
import Derived.ChangeKeysEq
import Derived.Defers
import Derived.Laws.BytesString
import Derived.RangeFuncNested
import Derived.RangeFuncBound
import Derived.RangeFuncCalls
import Derived.RangeFuncLeaves
import Derived.OrdersIn
import Derived.LoopNIn
import Derived.ArgAppend
import Derived.Lib.AppendZeros
import Derived.Lib.OthersKept
import Derived.Laws.RangeString
import Derived.Lib.LaidTab
import Derived.Test.YtdfjcpnflmgdoaaDoorProg
import Derived.ProofKit
import Derived.OpenShut
import Derived.ChangeOld
import Derived.Deep.Slices
import Derived.Lib.SmallJoins
import Derived.JoinedOf
import Derived.JoinedAt
import Derived.Below
import Derived.Shelf.Small.Wraps
import Derived.Shelf.Strconv.Itoa0
import Derived.Shelf.Strconv.Itoa1
import Derived.Shelf.LaysM
import Derived.Shelf.Strconv.Itoa2
import Derived.Shelf.Strconv.Itoa3
import Derived.Shelf.Strconv.Itoa4
import Derived.Shelf.Strings.Search1
import Derived.Shelf.Strings.Search2
import Derived.Shelf.Strings.Cut
import Derived.Shelf.Strings.Shaped
import Derived.Shelf.Strings.Prefix
import Derived.Lib.ItoaLen
import Derived.Lib.TrimUEq
import Derived.Test.YtdfjcpnflmgdoaaDoorRows
import Derived.LaidSub
import Derived.MakeChecks
import Derived.Shelf.Vars
import Derived.Deep.DeepHandedRow
import Derived.LaidMore
import Derived.SevenTiedAt
import Derived.Test.YtdfjcpnflmgdoaaDoorCards
import Derived.Test.YtdfjcpnflmgdoaaDoorTie
import Derived.ChangeMaps5
import Derived.Test.YtdfjcpnflmgdoaaDoorMYarnTexts1
namespace Go.Proofs.YtdfjcpnflmgdoaaDoor
open Go.RowKit
set_option linter.unusedVariables false

def anc_raddleref23_Make_s1_0 : List (List Nat) := [[], [], [0, 1], [], [], [3, 4], [0, 1, 2, 3, 4, 5], [], [0, 1, 2, 3, 4, 5, 6, 7]]
noncomputable def F_raddleref23_Make_s1 (p0 : Int) (p1 : Int) : Option (api_Ratio × Int) :=
  if p1 == 0 then
    some ((api_Ratio.mk 0 0), 18)
  else
    Option.bind (α := Bool) (
      if p0 == (-9223372036854775808) then
        some (p1 == (-9223372036854775808))
      else
        some false) fun o8 =>
    if o8 then
      some ((api_Ratio.mk 1 1), 0)
    else
      Option.bind (α := Bool) (
        if p0 == (-9223372036854775808) then
          some true
        else
          some (p1 == (-9223372036854775808))) fun o15 =>
      if o15 then
        Option.bind (α := Bool) (
          Option.bind (remI p0 2) fun z24 =>
          if z24 == 0 then
            Option.bind (remI p1 2) fun z27 =>
            some (z27 == 0)
          else
            some false) fun o21 =>
        if o21 then
          Option.bind (quoI p0 2) fun z31 =>
          Option.bind (quoI p1 2) fun z33 =>
          none
        else
          some ((api_Ratio.mk 0 0), 16)
      else
        Option.bind (α := (Int × Int)) (
          if decide (p1 < 0) then
            some (w64 (0 - p0), w64 (0 - p1))
          else
            some (p0, p1)) fun (o36, o37) =>
        Option.bind (F_raddleref23_common o36 o37) fun r43 =>
        Option.bind (quoI o36 r43) fun z46 =>
        Option.bind (quoI o37 r43) fun z48 =>
        Option.bind (F_raddleref23_Check (api_Ratio.mk z46 z48)) fun r54 =>
        if r54 != 0 then
          some ((api_Ratio.mk 0 0), 16)
        else
          some ((api_Ratio.mk z46 z48), 0)
def c_raddleref23_Make_s1_val (r : (api_Ratio × Int)) (x : Value) : Value := .tuple #[x, .int .i64 r.2]
def c_raddleref23_Make_s1_D (r : (api_Ratio × Int)) (x : Value) : List Fact := [fRep r_api_Ratio x r.1]
set_option maxHeartbeats 4000000 in
set_option maxRecDepth 100000 in
theorem c_raddleref23_Make_s1 (E : Nat → Prop) (w0 : World) (p0 : Int) (p1 : Int) (r : (api_Ratio × Int)) (h : F_raddleref23_Make_s1 p0 p1 = some r) (S : St0 E [] w0 w0 [] []) :
    Calls Tryd.prog 5 #[iv p0, iv p1] w0 (Ret (X := Value) E [] w0 (c_raddleref23_Make_s1_val r) (fun _ => []) (c_raddleref23_Make_s1_D r)) := by
  unfold F_raddleref23_Make_s1 at h
  refine sEnter (args := [iv p0, iv p1]) 61 Tryd.func5 rfl rfl (by simp) S (fun a S => ?_)
  refine sSeq (fun K1 hK1 => ?_)
  refine sRegion ?_
  refine sAlloc (.agg #[iv 0, iv 0]) S (wN rfl) rfl rfl [iv 0, iv 0] rfl rfl (lb rfl) fun a b2 w S => ?_
  refine sMove (iv 0) S (wN rfl) (.inr rfl) rfl rfl (lb rfl) fun a S => ?_
  refine leafL (leafT (hK1 _ _ ?_))
  refine sSeq (fun K3 hK3 => ?_)
  refine sSeq (fun K4 hK4 => ?_)
  refine sRegion ?_
  refine sMove (iv p1) S (wN rfl) (.inl rfl) rfl rfl (lb rfl) fun a S => ?_
  refine sBin (.bool (p1 == 0)) S (wN rfl) rfl rfl rfl (bEq _ _ _ _ .i64 p1 0) rfl (lb rfl) fun a S => ?_
  refine leafL (leafT (hK4 _ _ ?_))
  rcases iteSome h with ⟨hc5, h⟩ | ⟨hc5, h⟩
  · refine sCondT S rfl hc5 ?_
    refine sSeq (fun K6 hK6 => ?_)
    refine sRegion ?_
    refine sBuild [] [iv 0, iv 0] S (wN rfl) rfl rfl rfl rfl (lb rfl) fun a S => ?_
    refine sStore (p := b2) (off := 0) (T := 23) (vs := [iv 0, iv 0]) (v := .agg #[iv 0, iv 0]) 0 [iv 0, iv 0] S (wN rfl) rfl rfl rfl rfl rfl rfl rfl (by simp) rfl fun a w S => ?_
    refine sMove (iv 18) S (wN rfl) (.inr rfl) rfl rfl (lb rfl) fun a S => ?_
    refine leafL (leafT (hK6 _ _ ?_))
    obtain rfl := Option.some.inj h
    have S := S.learn (fRep r_api_Ratio (.agg #[iv 0, iv 0]) (api_Ratio.mk 0 0)) rfl
    exact wp_ret (rThen (sRet (.tuple #[.agg #[iv 0, iv 0], iv 18]) S (rsl2 rfl (rvN (c := 4) (t := 23) (T := 23) (p := b2) 0 [iv 0, iv 0] S rfl rfl rfl rfl) (rvT (t := 5) (v := iv 18) S rfl)) ⟨(.agg #[iv 0, iv 0]), rfl, S.mem.sel [] [0] (by decide) rfl rfl⟩))
  refine sCondF S rfl hc5 ?_
  refine wp_skip (leafT (hK3 _ _ ?_))
  refine sSeq (fun K7 hK7 => ?_)
  obtain ⟨t9, h, g10⟩ := bindSome h
  refine sCut (fun a w => ∃ o8, o8 = t9 ∧ St [] E [] w0 61 a w [(0, iv p0), (1, iv p1), (4, .pointer (some ⟨b2, 0, none⟩)), (16, .bool o8)] [eBox b2 23 [iv 0, iv 0]] []) ?_ (fun a w hI => ?_)
  · refine sRegion ?_
    refine sMove (iv p0) S (wN rfl) (.inl rfl) rfl rfl (lb rfl) fun a S => ?_
    refine sBin (.bool (p0 == (-9223372036854775808))) S (wN rfl) rfl rfl rfl (bEq _ _ _ _ .i64 p0 (-9223372036854775808)) rfl (lb rfl) fun a S => ?_
    refine sMove (.bool (p0 == (-9223372036854775808))) S (wN rfl) (.inl rfl) rfl rfl (lb rfl) fun a S => ?_
    rcases iteSome h with ⟨hc11, h⟩ | ⟨hc11, h⟩
    rotate_left
    · refine sSkip 2 true 13 14 S rfl rfl rfl hc11 rfl (lb rfl) fun a S => ?_
      refine sSkip 2 true 13 15 S rfl rfl rfl hc11 rfl (lb rfl) fun a S => ?_
      refine sPickF (.bool false) S (wN rfl) rfl rfl hc11 rfl rfl (lb rfl) fun a S => ?_
      exact leafL (leafT (⟨false, Option.some.inj h, S.fix [0] [] (by decide) rfl rfl rfl⟩))
    refine sMove (iv p1) S (wG 2 true 13 rfl rfl rfl hc11) (.inl rfl) rfl rfl (lb rfl) fun a S => ?_
    refine sBin (.bool (p1 == (-9223372036854775808))) S (wG 2 true 13 rfl rfl rfl hc11) rfl rfl rfl (bEq _ _ _ _ .i64 p1 (-9223372036854775808)) rfl (lb rfl) fun a S => ?_
    refine sPickT (.bool (p1 == (-9223372036854775808))) S (wN rfl) rfl rfl hc11 rfl rfl (lb rfl) fun a S => ?_
    exact leafL (leafT (⟨p1 == (-9223372036854775808), Option.some.inj h, S.fix [0] [] (by decide) rfl rfl rfl⟩))
  obtain ⟨o8, rfl, S⟩ := hI
  have h := g10
  clear g10
  try dsimp only at h
  rcases iteSome h with ⟨hc12, h⟩ | ⟨hc12, h⟩
  · refine sCondT S rfl hc12 ?_
    refine sSeq (fun K13 hK13 => ?_)
    refine sRegion ?_
    refine sBuild [(0, iv 1), (1, iv 1)] [iv 1, iv 1] S (wN rfl) rfl rfl rfl rfl (lb rfl) fun a S => ?_
    refine sStore (p := b2) (off := 0) (T := 23) (vs := [iv 0, iv 0]) (v := .agg #[iv 1, iv 1]) 0 [iv 1, iv 1] S (wN rfl) rfl rfl rfl rfl rfl rfl rfl (by simp) rfl fun a w S => ?_
    refine sMove (iv 0) S (wN rfl) (.inr rfl) rfl rfl (lb rfl) fun a S => ?_
    refine leafL (leafT (hK13 _ _ ?_))
    obtain rfl := Option.some.inj h
    have S := S.learn (fRep r_api_Ratio (.agg #[iv 1, iv 1]) (api_Ratio.mk 1 1)) rfl
    exact wp_ret (rThen (sRet (.tuple #[.agg #[iv 1, iv 1], iv 0]) S (rsl2 rfl (rvN (c := 4) (t := 23) (T := 23) (p := b2) 0 [iv 1, iv 1] S rfl rfl rfl rfl) (rvT (t := 5) (v := iv 0) S rfl)) ⟨(.agg #[iv 1, iv 1]), rfl, S.mem.sel [] [0] (by decide) rfl rfl⟩))
  refine sCondF S rfl hc12 ?_
  refine wp_skip (leafT (hK7 _ _ ?_))
  refine sSeq (fun K14 hK14 => ?_)
  obtain ⟨t16, h, g17⟩ := bindSome h
  refine sCut (fun a w => ∃ o15, o15 = t16 ∧ St [] E [] w0 61 a w [(0, iv p0), (1, iv p1), (4, .pointer (some ⟨b2, 0, none⟩)), (23, .bool o15)] [eBox b2 23 [iv 0, iv 0]] []) ?_ (fun a w hI => ?_)
  · refine sRegion ?_
    refine sMove (iv p0) S (wN rfl) (.inl rfl) rfl rfl (lb rfl) fun a S => ?_
    refine sBin (.bool (p0 == (-9223372036854775808))) S (wN rfl) rfl rfl rfl (bEq _ _ _ _ .i64 p0 (-9223372036854775808)) rfl (lb rfl) fun a S => ?_
    refine sMove (.bool (p0 == (-9223372036854775808))) S (wN rfl) (.inl rfl) rfl rfl (lb rfl) fun a S => ?_
    rcases iteSome h with ⟨hc18, h⟩ | ⟨hc18, h⟩
    · refine sSkip 2 false 20 21 S rfl rfl rfl hc18 rfl (lb rfl) fun a S => ?_
      refine sSkip 2 false 20 22 S rfl rfl rfl hc18 rfl (lb rfl) fun a S => ?_
      refine sPickT (.bool true) S (wN rfl) rfl rfl hc18 rfl rfl (lb rfl) fun a S => ?_
      exact leafL (leafT (⟨true, Option.some.inj h, S.fix [0] [] (by decide) rfl rfl rfl⟩))
    refine sMove (iv p1) S (wG 2 false 20 rfl rfl rfl hc18) (.inl rfl) rfl rfl (lb rfl) fun a S => ?_
    refine sBin (.bool (p1 == (-9223372036854775808))) S (wG 2 false 20 rfl rfl rfl hc18) rfl rfl rfl (bEq _ _ _ _ .i64 p1 (-9223372036854775808)) rfl (lb rfl) fun a S => ?_
    refine sPickF (.bool (p1 == (-9223372036854775808))) S (wN rfl) rfl rfl hc18 rfl rfl (lb rfl) fun a S => ?_
    exact leafL (leafT (⟨p1 == (-9223372036854775808), Option.some.inj h, S.fix [0] [] (by decide) rfl rfl rfl⟩))
  obtain ⟨o15, rfl, S⟩ := hI
  have h := g17
  clear g17
  try dsimp only at h
  rcases iteSome h with ⟨hc19, h⟩ | ⟨hc19, h⟩
  · refine sCondT S rfl hc19 ?_
    refine sSeq (fun K20 hK20 => ?_)
    obtain ⟨t22, h, g23⟩ := bindSome h
    refine sCut (fun a w => ∃ o21, o21 = t22 ∧ St [] E [] w0 61 a w [(0, iv p0), (1, iv p1), (4, .pointer (some ⟨b2, 0, none⟩)), (31, .bool o21)] [eBox b2 23 [iv 0, iv 0]] []) ?_ (fun a w hI => ?_)
    · refine sRegion ?_
      refine sMove (iv p0) S (wN rfl) (.inl rfl) rfl rfl (lb rfl) fun a S => ?_
      obtain ⟨z24, hx25, h⟩ := bindSome h
      refine sBin (iv z24) S (wN rfl) rfl rfl rfl (bRem _ _ _ _ (x := p0) (y := 2) hx25) rfl (lb rfl) fun a S => ?_
      refine sBin (.bool (z24 == 0)) S (wN rfl) rfl rfl rfl (bEq _ _ _ _ .i64 z24 0) rfl (lb rfl) fun a S => ?_
      refine sMove (.bool (z24 == 0)) S (wN rfl) (.inl rfl) rfl rfl (lb rfl) fun a S => ?_
      rcases iteSome h with ⟨hc26, h⟩ | ⟨hc26, h⟩
      rotate_left
      · refine sSkip 3 true 27 28 S rfl rfl rfl hc26 rfl (lb rfl) fun a S => ?_
        refine sSkip 3 true 27 29 S rfl rfl rfl hc26 rfl (lb rfl) fun a S => ?_
        refine sSkip 3 true 27 30 S rfl rfl rfl hc26 rfl (lb rfl) fun a S => ?_
        refine sPickF (.bool false) S (wN rfl) rfl rfl hc26 rfl rfl (lb rfl) fun a S => ?_
        exact leafL (leafT (⟨false, Option.some.inj h, S.fix [0] [] (by decide) rfl rfl rfl⟩))
      refine sMove (iv p1) S (wG 3 true 27 rfl rfl rfl hc26) (.inl rfl) rfl rfl (lb rfl) fun a S => ?_
      obtain ⟨z27, hx28, h⟩ := bindSome h
      refine sBin (iv z27) S (wG 3 true 27 rfl rfl rfl hc26) rfl rfl rfl (bRem _ _ _ _ (x := p1) (y := 2) hx28) rfl (lb rfl) fun a S => ?_
      refine sBin (.bool (z27 == 0)) S (wG 3 true 27 rfl rfl rfl hc26) rfl rfl rfl (bEq _ _ _ _ .i64 z27 0) rfl (lb rfl) fun a S => ?_
      refine sPickT (.bool (z27 == 0)) S (wN rfl) rfl rfl hc26 rfl rfl (lb rfl) fun a S => ?_
      exact leafL (leafT (⟨z27 == 0, Option.some.inj h, S.fix [0] [] (by decide) rfl rfl rfl⟩))
    obtain ⟨o21, rfl, S⟩ := hI
    have h := g23
    clear g23
    try dsimp only at h
    rcases iteSome h with ⟨hc29, h⟩ | ⟨hc29, h⟩
    · refine sCondT S rfl hc29 ?_
      refine sSeq (fun K30 hK30 => ?_)
      refine sRegion ?_
      refine sMove (iv p0) S (wN rfl) (.inl rfl) rfl rfl (lb rfl) fun a S => ?_
      obtain ⟨z31, hx32, h⟩ := bindSome h
      refine sBin (iv z31) S (wN rfl) rfl rfl rfl (bQuo _ _ _ _ (x := p0) (y := 2) hx32) rfl (lb rfl) fun a S => ?_
      refine sMove (iv p1) S (wN rfl) (.inl rfl) rfl rfl (lb rfl) fun a S => ?_
      obtain ⟨z33, hx34, h⟩ := bindSome h
      refine sBin (iv z33) S (wN rfl) rfl rfl rfl (bQuo _ _ _ _ (x := p1) (y := 2) hx34) rfl (lb rfl) fun a S => ?_
      cases h
    refine sCondF S rfl hc29 ?_
    refine wp_skip (leafT (hK20 _ _ ?_))
    refine sSeq (fun K35 hK35 => ?_)
    refine sRegion ?_
    refine sBuild [] [iv 0, iv 0] S (wN rfl) rfl rfl rfl rfl (lb rfl) fun a S => ?_
    refine sStore (p := b2) (off := 0) (T := 23) (vs := [iv 0, iv 0]) (v := .agg #[iv 0, iv 0]) 0 [iv 0, iv 0] S (wN rfl) rfl rfl rfl rfl rfl rfl rfl (by simp) rfl fun a w S => ?_
    refine sMove (iv 16) S (wN rfl) (.inr rfl) rfl rfl (lb rfl) fun a S => ?_
    refine leafL (leafT (hK35 _ _ ?_))
    obtain rfl := Option.some.inj h
    have S := S.learn (fRep r_api_Ratio (.agg #[iv 0, iv 0]) (api_Ratio.mk 0 0)) rfl
    exact wp_ret (rThen (sRet (.tuple #[.agg #[iv 0, iv 0], iv 16]) S (rsl2 rfl (rvN (c := 4) (t := 23) (T := 23) (p := b2) 0 [iv 0, iv 0] S rfl rfl rfl rfl) (rvT (t := 5) (v := iv 16) S rfl)) ⟨(.agg #[iv 0, iv 0]), rfl, S.mem.sel [] [0] (by decide) rfl rfl⟩))
  refine sCondF S rfl hc19 ?_
  refine wp_skip (leafT (hK14 _ _ ?_))
  obtain ⟨t38, h, g39⟩ := bindSome h
  refine sCut (fun a w => ∃ o36, ∃ o37, (o36, o37) = t38 ∧ St [] E [] w0 61 a w [(0, iv o36), (1, iv o37), (4, .pointer (some ⟨b2, 0, none⟩))] [eBox b2 23 [iv 0, iv 0]] []) ?_ (fun a w hI => ?_)
  · refine sSeq (fun K40 hK40 => ?_)
    refine sRegion ?_
    refine sMove (iv p1) S (wN rfl) (.inl rfl) rfl rfl (lb rfl) fun a S => ?_
    refine sBin (.bool (decide (p1 < 0))) S (wN rfl) rfl rfl rfl (bLt _ _ _ _ .i64 p1 0) rfl (lb rfl) fun a S => ?_
    refine leafL (leafT (hK40 _ _ ?_))
    rcases iteSome h with ⟨hc41, h⟩ | ⟨hc41, h⟩
    rotate_left
    · refine sCondF S rfl hc41 ?_
      exact wp_skip (leafT (⟨p0, p1, Option.some.inj h, S.fix [0] [] (by decide) rfl rfl rfl⟩))
    refine sCondT S rfl hc41 ?_
    refine sRegion ?_
    refine sMove (iv p0) S (wN rfl) (.inl rfl) rfl rfl (lb rfl) fun a S => ?_
    refine sNeg (b := p0) S (wN rfl) rfl rfl rfl (lb rfl) fun a S => ?_
    refine sMove (iv p1) S (wN rfl) (.inl rfl) rfl rfl (lb rfl) fun a S => ?_
    refine sNeg (b := p1) S (wN rfl) rfl rfl rfl (lb rfl) fun a S => ?_
    refine sMove (iv (w64 (0 - p0))) S (wN rfl) (.inr rfl) rfl rfl (lb rfl) fun a S => ?_
    refine sMove (iv (w64 (0 - p1))) S (wN rfl) (.inr rfl) rfl rfl (lb rfl) fun a S => ?_
    exact leafL (leafT (⟨w64 (0 - p0), w64 (0 - p1), Option.some.inj h, S.fix [0] [] (by decide) rfl rfl rfl⟩))
  obtain ⟨o36, o37, rfl, S⟩ := hI
  have h := g39
  clear g39
  try dsimp only at h
  refine sSeq (fun K42 hK42 => ?_)
  refine sRegion ?_
  refine sMove (iv o36) S (wN rfl) (.inl rfl) rfl rfl (lb rfl) fun a S => ?_
  refine sMove (iv o37) S (wN rfl) (.inl rfl) rfl rfl (lb rfl) fun a S => ?_
  obtain ⟨r43, hx44, h⟩ := bindSome h
  have S1 := S.mem
  refine sCallQ (X := Unit) (f := 12) (vs := [iv o36, iv o37]) (val := fun _ => iv r43) S (wN rfl) rfl callee12 rfl (S1.quiet [] rfl) (fun E1 w1 S1 => c_raddleref23_common E1 w1 o36 o37 r43 hx44 S1) rfl (lb rfl) fun _ a w S => ?_
  refine sMove (iv r43) S (wN rfl) (.inr rfl) rfl rfl (lb rfl) fun a S => ?_
  refine leafL (leafT (hK42 _ _ ?_))
  refine sSeq (fun K45 hK45 => ?_)
  obtain ⟨z46, hx47, h⟩ := bindSome h
  obtain ⟨z48, hx49, h⟩ := bindSome h
  refine sDraw (nf := [7, 8]) (W := [(0, 49, iv o36), (1, 50, iv r43), (2, 51, iv z46), (3, 52, iv o37), (4, 53, iv r43), (5, 54, iv z48), (6, 55, .agg #[iv z46, iv z48])]) rfl S ?_
  refine node_by (A := anc_raddleref23_Make_s1_0) (nf := [7, 8]) (Y := []) (W := [(0, 49, iv o36), (1, 50, iv r43), (2, 51, iv z46), (3, 52, iv o37), (4, 53, iv r43), (5, 54, iv z48), (6, 55, .agg #[iv z46, iv z48])]) 9 (by kernel_rfl) (by kernel_rfl) (by kernel_rfl) (by kernel_rfl) (by kernel_rfl) [0, 1, 2, 3, 4, 5, 6] (by kernel_rfl) (by decide) (by decide) (aF 0 8 (by decide) ?_ (aF 1 7 (by decide) ?_ (aF 2 6 (by decide) ?_ (aF 3 5 (by decide) ?_ (aF 4 4 (by decide) ?_ (aF 5 3 (by decide) ?_ (aF 6 2 (by decide) ?_ (aN 7 1 (by decide) ?_ (aB 8 0 7 (by decide) (trivial)))))))))) [] (fun q hq => by cases hq) (fun hY => absurd (hY 7 (by decide)) (by decide))
  · refine fI 49 (iv o36) [(0, iv o36)] 0 [none] rfl rfl rfl rfl rfl rfl fun G a w S => ?_
    refine sMove (iv o36) S (wN rfl) (.inl rfl) rfl rfl (lb rfl) fun a S => ?_
    exact leafL ⟨rfl, S⟩
  · refine fI 50 (iv r43) [(6, iv r43)] 1 [none] rfl rfl rfl rfl rfl rfl fun G a w S => ?_
    refine sMove (iv r43) S (wN rfl) (.inl rfl) rfl rfl (lb rfl) fun a S => ?_
    exact leafL ⟨rfl, S⟩
  · refine fI 51 (iv z46) [(49, iv o36), (50, iv r43)] 2 [some 0, some 1] rfl rfl rfl rfl rfl rfl fun G a w S => ?_
    refine sBin (iv z46) S (wN rfl) rfl rfl rfl (bQuo _ _ _ _ (x := o36) (y := r43) hx47) rfl (lb rfl) fun a S => ?_
    exact leafL ⟨rfl, S⟩
  · refine fI 52 (iv o37) [(1, iv o37)] 3 [none] rfl rfl rfl rfl rfl rfl fun G a w S => ?_
    refine sMove (iv o37) S (wN rfl) (.inl rfl) rfl rfl (lb rfl) fun a S => ?_
    exact leafL ⟨rfl, S⟩
  · refine fI 53 (iv r43) [(6, iv r43)] 4 [none] rfl rfl rfl rfl rfl rfl fun G a w S => ?_
    refine sMove (iv r43) S (wN rfl) (.inl rfl) rfl rfl (lb rfl) fun a S => ?_
    exact leafL ⟨rfl, S⟩
  · refine fI 54 (iv z48) [(52, iv o37), (53, iv r43)] 5 [some 3, some 4] rfl rfl rfl rfl rfl rfl fun G a w S => ?_
    refine sBin (iv z48) S (wN rfl) rfl rfl rfl (bQuo _ _ _ _ (x := o37) (y := r43) hx49) rfl (lb rfl) fun a S => ?_
    exact leafL ⟨rfl, S⟩
  · refine fI 55 (.agg #[iv z46, iv z48]) [(51, iv z46), (54, iv z48)] 6 [some 2, some 5] rfl rfl rfl rfl rfl rfl fun G a w S => ?_
    refine sBuild [(0, iv z46), (1, iv z48)] [iv z46, iv z48] S (wN rfl) rfl rfl rfl rfl (lb rfl) fun a S => ?_
    exact leafL ⟨rfl, S⟩
  refine ⟨_, [], rfl, (srcs_of [] rfl rfl rfl), fun G a w S => ?_⟩
  refine sAlloc (.agg #[iv 0, iv 0]) S (wN rfl) rfl rfl [iv 0, iv 0] rfl rfl (lb rfl) fun a b51 w S => ?_
  refine leafL ⟨rfl, _, _, .inl ⟨7, (.pointer (some ⟨b51, 0, none⟩)), [], rfl, S, hz_of rfl, ?_⟩⟩
  refine node_by (A := anc_raddleref23_Make_s1_0) (nf := [7, 8]) (Y := [7]) 9 (by kernel_rfl) (by kernel_rfl) (by kernel_rfl) (by kernel_rfl) (by kernel_rfl) [7, 0, 1, 2, 3, 4, 5, 6] (by kernel_rfl) (by decide) (by decide) (aF 0 8 (by decide) ?_ (aF 1 7 (by decide) ?_ (aF 2 6 (by decide) ?_ (aF 3 5 (by decide) ?_ (aF 4 4 (by decide) ?_ (aF 5 3 (by decide) ?_ (aF 6 2 (by decide) ?_ (aY 7 1 (by decide) (aN 8 0 (by decide) ?_ (trivial)))))))))) [] (fun q hq => by cases hq) (fun hY => absurd (hY 8 (by decide)) (by decide))
  · refine fI 49 (iv o36) [(0, iv o36)] 1 [none] rfl rfl rfl rfl rfl rfl fun G a w S => ?_
    refine sMove (iv o36) S (wN rfl) (.inl rfl) rfl rfl (lb rfl) fun a S => ?_
    exact leafL ⟨rfl, S⟩
  · refine fI 50 (iv r43) [(6, iv r43)] 2 [none] rfl rfl rfl rfl rfl rfl fun G a w S => ?_
    refine sMove (iv r43) S (wN rfl) (.inl rfl) rfl rfl (lb rfl) fun a S => ?_
    exact leafL ⟨rfl, S⟩
  · refine fI 51 (iv z46) [(49, iv o36), (50, iv r43)] 3 [some 1, some 2] rfl rfl rfl rfl rfl rfl fun G a w S => ?_
    refine sBin (iv z46) S (wN rfl) rfl rfl rfl (bQuo _ _ _ _ (x := o36) (y := r43) hx47) rfl (lb rfl) fun a S => ?_
    exact leafL ⟨rfl, S⟩
  · refine fI 52 (iv o37) [(1, iv o37)] 4 [none] rfl rfl rfl rfl rfl rfl fun G a w S => ?_
    refine sMove (iv o37) S (wN rfl) (.inl rfl) rfl rfl (lb rfl) fun a S => ?_
    exact leafL ⟨rfl, S⟩
  · refine fI 53 (iv r43) [(6, iv r43)] 5 [none] rfl rfl rfl rfl rfl rfl fun G a w S => ?_
    refine sMove (iv r43) S (wN rfl) (.inl rfl) rfl rfl (lb rfl) fun a S => ?_
    exact leafL ⟨rfl, S⟩
  · refine fI 54 (iv z48) [(52, iv o37), (53, iv r43)] 6 [some 4, some 5] rfl rfl rfl rfl rfl rfl fun G a w S => ?_
    refine sBin (iv z48) S (wN rfl) rfl rfl rfl (bQuo _ _ _ _ (x := o37) (y := r43) hx49) rfl (lb rfl) fun a S => ?_
    exact leafL ⟨rfl, S⟩
  · refine fI 55 (.agg #[iv z46, iv z48]) [(51, iv z46), (54, iv z48)] 7 [some 3, some 6] rfl rfl rfl rfl rfl rfl fun G a w S => ?_
    refine sBuild [(0, iv z46), (1, iv z48)] [iv z46, iv z48] S (wN rfl) rfl rfl rfl rfl (lb rfl) fun a S => ?_
    exact leafL ⟨rfl, S⟩
  refine ⟨_, [(7, .pointer (some ⟨b51, 0, none⟩)), (55, .agg #[iv z46, iv z48])], rfl, (srcs_of [some 0, some 7] rfl rfl rfl), fun G a w S => ?_⟩
  refine sStore (p := b51) (off := 0) (T := 23) (vs := [iv 0, iv 0]) (v := .agg #[iv z46, iv z48]) 0 [iv z46, iv z48] S (wN rfl) rfl rfl rfl rfl rfl rfl rfl (by simp) rfl fun a w S => ?_
  refine leafL ⟨rfl, _, _, .inr ⟨[], rfl, S, hz_of rfl, ?_⟩⟩
  refine node_by (A := anc_raddleref23_Make_s1_0) (nf := [7, 8]) (Y := [8, 7]) 9 (by kernel_rfl) (by kernel_rfl) (by kernel_rfl) (by kernel_rfl) (by kernel_rfl) [7, 0, 1, 2, 3, 4, 5, 6] (by kernel_rfl) (by decide) (by decide) (aD 0 8 8 (by decide) (aD 1 7 8 (by decide) (aD 2 6 8 (by decide) (aD 3 5 8 (by decide) (aD 4 4 8 (by decide) (aD 5 3 8 (by decide) (aD 6 2 8 (by decide) (aY 7 1 (by decide) (aY 8 0 (by decide) (trivial)))))))))) [(4, .pointer (some ⟨b2, 0, none⟩)), (7, .pointer (some ⟨b51, 0, none⟩))] (fin_of [none, some 0] rfl (by kernel_rfl) (by kernel_rfl)) (fun _ a w S => ?_)
  refine leafT (hK45 _ _ ?_)
  refine sSeq (fun K52 hK52 => ?_)
  refine sSeq (fun K53 hK53 => ?_)
  refine sRegion ?_
  refine sLoadN (p := b51) (off := 0) (T := 23) (vs := [iv z46, iv z48]) 0 [iv z46, iv z48] S (wN rfl) rfl rfl rfl rfl rfl rfl rfl (lb rfl) fun a S => ?_
  obtain ⟨r54, hx55, h⟩ := bindSome h
  have S1 := S.mem
  have S1 := S1.learn (fRep r_api_Ratio (.agg #[iv z46, iv z48]) (api_Ratio.mk z46 z48)) rfl
  refine sCallQ (X := Unit) (f := 13) (vs := [.agg #[iv z46, iv z48]]) (val := fun _ => iv r54) S (wN rfl) rfl callee13 rfl (S1.quiet [0] rfl) (fun E1 w1 S1 => c_raddleref23_Check E1 w1 (api_Ratio.mk z46 z48) (.agg #[iv z46, iv z48]) r54 hx55 S1) rfl (lb rfl) fun _ a w S => ?_
  refine sBin (.bool (r54 != 0)) S (wN rfl) rfl rfl rfl (bNe _ _ _ _ .i64 r54 0) rfl (lb rfl) fun a S => ?_
  refine leafL (leafT (hK53 _ _ ?_))
  rcases iteSome h with ⟨hc56, h⟩ | ⟨hc56, h⟩
  · refine sCondT S rfl hc56 ?_
    refine sSeq (fun K57 hK57 => ?_)
    refine sRegion ?_
    refine sBuild [] [iv 0, iv 0] S (wN rfl) rfl rfl rfl rfl (lb rfl) fun a S => ?_
    refine sStore (p := b2) (off := 0) (T := 23) (vs := [iv 0, iv 0]) (v := .agg #[iv 0, iv 0]) 1 [iv 0, iv 0] S (wN rfl) rfl rfl rfl rfl rfl rfl rfl (by simp) rfl fun a w S => ?_
    refine sMove (iv 16) S (wN rfl) (.inr rfl) rfl rfl (lb rfl) fun a S => ?_
    refine leafL (leafT (hK57 _ _ ?_))
    obtain rfl := Option.some.inj h
    have S := S.learn (fRep r_api_Ratio (.agg #[iv 0, iv 0]) (api_Ratio.mk 0 0)) rfl
    exact wp_ret (rThen (sRet (.tuple #[.agg #[iv 0, iv 0], iv 16]) S (rsl2 rfl (rvN (c := 4) (t := 23) (T := 23) (p := b2) 0 [iv 0, iv 0] S rfl rfl rfl rfl) (rvT (t := 5) (v := iv 16) S rfl)) ⟨(.agg #[iv 0, iv 0]), rfl, S.mem.sel [] [0] (by decide) rfl rfl⟩))
  refine sCondF S rfl hc56 ?_
  refine wp_skip (leafT (hK52 _ _ ?_))
  refine sSeq (fun K58 hK58 => ?_)
  refine sRegion ?_
  refine sLoadN (p := b51) (off := 0) (T := 23) (vs := [iv z46, iv z48]) 0 [iv z46, iv z48] S (wN rfl) rfl rfl rfl rfl rfl rfl rfl (lb rfl) fun a S => ?_
  refine sStore (p := b2) (off := 0) (T := 23) (vs := [iv 0, iv 0]) (v := .agg #[iv z46, iv z48]) 1 [iv z46, iv z48] S (wN rfl) rfl rfl rfl rfl rfl rfl rfl (by simp) rfl fun a w S => ?_
  refine sMove (iv 0) S (wN rfl) (.inr rfl) rfl rfl (lb rfl) fun a S => ?_
  refine leafL (leafT (hK58 _ _ ?_))
  obtain rfl := Option.some.inj h
  have S := S.learn (fRep r_api_Ratio (.agg #[iv z46, iv z48]) (api_Ratio.mk z46 z48)) rfl
  exact wp_ret (sRet (.tuple #[.agg #[iv z46, iv z48], iv 0]) S (rsl2 rfl (rvN (c := 4) (t := 23) (T := 23) (p := b2) 0 [iv z46, iv z48] S rfl rfl rfl rfl) (rvT (t := 5) (v := iv 0) S rfl)) ⟨(.agg #[iv z46, iv z48]), rfl, S.mem.sel [] [0] (by decide) rfl rfl⟩)

end Go.Proofs.YtdfjcpnflmgdoaaDoor
namespace Go.Proofs.YtdfjcpnflmgdoaaDoor
open Go.RowKit
set_option linter.unusedVariables false

def anc_raddleref23_Make_s0_0 : List (List Nat) := [[], [], [0, 1], [], [], [3, 4], [0, 1, 2, 3, 4, 5], [], [0, 1, 2, 3, 4, 5, 6, 7]]
noncomputable def F_raddleref23_Make_s0 (p0 : Int) (p1 : Int) : Option (api_Ratio × Int) :=
  if p1 == 0 then
    some ((api_Ratio.mk 0 0), 18)
  else
    Option.bind (α := Bool) (
      if p0 == (-9223372036854775808) then
        some (p1 == (-9223372036854775808))
      else
        some false) fun o8 =>
    if o8 then
      some ((api_Ratio.mk 1 1), 0)
    else
      Option.bind (α := Bool) (
        if p0 == (-9223372036854775808) then
          some true
        else
          some (p1 == (-9223372036854775808))) fun o15 =>
      if o15 then
        Option.bind (α := Bool) (
          Option.bind (remI p0 2) fun z24 =>
          if z24 == 0 then
            Option.bind (remI p1 2) fun z27 =>
            some (z27 == 0)
          else
            some false) fun o21 =>
        if o21 then
          Option.bind (quoI p0 2) fun z31 =>
          Option.bind (quoI p1 2) fun z33 =>
          Option.bind (F_raddleref23_Make_s1 z31 z33) fun r35 =>
          some (r35.1, r35.2)
        else
          some ((api_Ratio.mk 0 0), 16)
      else
        Option.bind (α := (Int × Int)) (
          if decide (p1 < 0) then
            some (w64 (0 - p0), w64 (0 - p1))
          else
            some (p0, p1)) fun (o39, o40) =>
        Option.bind (F_raddleref23_common o39 o40) fun r46 =>
        Option.bind (quoI o39 r46) fun z49 =>
        Option.bind (quoI o40 r46) fun z51 =>
        Option.bind (F_raddleref23_Check (api_Ratio.mk z49 z51)) fun r57 =>
        if r57 != 0 then
          some ((api_Ratio.mk 0 0), 16)
        else
          some ((api_Ratio.mk z49 z51), 0)
def c_raddleref23_Make_s0_val (r : (api_Ratio × Int)) (x : Value) : Value := .tuple #[x, .int .i64 r.2]
def c_raddleref23_Make_s0_D (r : (api_Ratio × Int)) (x : Value) : List Fact := [fRep r_api_Ratio x r.1]
set_option maxHeartbeats 4000000 in
set_option maxRecDepth 100000 in
theorem c_raddleref23_Make_s0 (E : Nat → Prop) (w0 : World) (p0 : Int) (p1 : Int) (r : (api_Ratio × Int)) (h : F_raddleref23_Make_s0 p0 p1 = some r) (S : St0 E [] w0 w0 [] []) :
    Calls Tryd.prog 5 #[iv p0, iv p1] w0 (Ret (X := Value) E [] w0 (c_raddleref23_Make_s0_val r) (fun _ => []) (c_raddleref23_Make_s0_D r)) := by
  unfold F_raddleref23_Make_s0 at h
  refine sEnter (args := [iv p0, iv p1]) 61 Tryd.func5 rfl rfl (by simp) S (fun a S => ?_)
  refine sSeq (fun K1 hK1 => ?_)
  refine sRegion ?_
  refine sAlloc (.agg #[iv 0, iv 0]) S (wN rfl) rfl rfl [iv 0, iv 0] rfl rfl (lb rfl) fun a b2 w S => ?_
  refine sMove (iv 0) S (wN rfl) (.inr rfl) rfl rfl (lb rfl) fun a S => ?_
  refine leafL (leafT (hK1 _ _ ?_))
  refine sSeq (fun K3 hK3 => ?_)
  refine sSeq (fun K4 hK4 => ?_)
  refine sRegion ?_
  refine sMove (iv p1) S (wN rfl) (.inl rfl) rfl rfl (lb rfl) fun a S => ?_
  refine sBin (.bool (p1 == 0)) S (wN rfl) rfl rfl rfl (bEq _ _ _ _ .i64 p1 0) rfl (lb rfl) fun a S => ?_
  refine leafL (leafT (hK4 _ _ ?_))
  rcases iteSome h with ⟨hc5, h⟩ | ⟨hc5, h⟩
  · refine sCondT S rfl hc5 ?_
    refine sSeq (fun K6 hK6 => ?_)
    refine sRegion ?_
    refine sBuild [] [iv 0, iv 0] S (wN rfl) rfl rfl rfl rfl (lb rfl) fun a S => ?_
    refine sStore (p := b2) (off := 0) (T := 23) (vs := [iv 0, iv 0]) (v := .agg #[iv 0, iv 0]) 0 [iv 0, iv 0] S (wN rfl) rfl rfl rfl rfl rfl rfl rfl (by simp) rfl fun a w S => ?_
    refine sMove (iv 18) S (wN rfl) (.inr rfl) rfl rfl (lb rfl) fun a S => ?_
    refine leafL (leafT (hK6 _ _ ?_))
    obtain rfl := Option.some.inj h
    have S := S.learn (fRep r_api_Ratio (.agg #[iv 0, iv 0]) (api_Ratio.mk 0 0)) rfl
    exact wp_ret (rThen (sRet (.tuple #[.agg #[iv 0, iv 0], iv 18]) S (rsl2 rfl (rvN (c := 4) (t := 23) (T := 23) (p := b2) 0 [iv 0, iv 0] S rfl rfl rfl rfl) (rvT (t := 5) (v := iv 18) S rfl)) ⟨(.agg #[iv 0, iv 0]), rfl, S.mem.sel [] [0] (by decide) rfl rfl⟩))
  refine sCondF S rfl hc5 ?_
  refine wp_skip (leafT (hK3 _ _ ?_))
  refine sSeq (fun K7 hK7 => ?_)
  obtain ⟨t9, h, g10⟩ := bindSome h
  refine sCut (fun a w => ∃ o8, o8 = t9 ∧ St [] E [] w0 61 a w [(0, iv p0), (1, iv p1), (4, .pointer (some ⟨b2, 0, none⟩)), (16, .bool o8)] [eBox b2 23 [iv 0, iv 0]] []) ?_ (fun a w hI => ?_)
  · refine sRegion ?_
    refine sMove (iv p0) S (wN rfl) (.inl rfl) rfl rfl (lb rfl) fun a S => ?_
    refine sBin (.bool (p0 == (-9223372036854775808))) S (wN rfl) rfl rfl rfl (bEq _ _ _ _ .i64 p0 (-9223372036854775808)) rfl (lb rfl) fun a S => ?_
    refine sMove (.bool (p0 == (-9223372036854775808))) S (wN rfl) (.inl rfl) rfl rfl (lb rfl) fun a S => ?_
    rcases iteSome h with ⟨hc11, h⟩ | ⟨hc11, h⟩
    rotate_left
    · refine sSkip 2 true 13 14 S rfl rfl rfl hc11 rfl (lb rfl) fun a S => ?_
      refine sSkip 2 true 13 15 S rfl rfl rfl hc11 rfl (lb rfl) fun a S => ?_
      refine sPickF (.bool false) S (wN rfl) rfl rfl hc11 rfl rfl (lb rfl) fun a S => ?_
      exact leafL (leafT (⟨false, Option.some.inj h, S.fix [0] [] (by decide) rfl rfl rfl⟩))
    refine sMove (iv p1) S (wG 2 true 13 rfl rfl rfl hc11) (.inl rfl) rfl rfl (lb rfl) fun a S => ?_
    refine sBin (.bool (p1 == (-9223372036854775808))) S (wG 2 true 13 rfl rfl rfl hc11) rfl rfl rfl (bEq _ _ _ _ .i64 p1 (-9223372036854775808)) rfl (lb rfl) fun a S => ?_
    refine sPickT (.bool (p1 == (-9223372036854775808))) S (wN rfl) rfl rfl hc11 rfl rfl (lb rfl) fun a S => ?_
    exact leafL (leafT (⟨p1 == (-9223372036854775808), Option.some.inj h, S.fix [0] [] (by decide) rfl rfl rfl⟩))
  obtain ⟨o8, rfl, S⟩ := hI
  have h := g10
  clear g10
  try dsimp only at h
  rcases iteSome h with ⟨hc12, h⟩ | ⟨hc12, h⟩
  · refine sCondT S rfl hc12 ?_
    refine sSeq (fun K13 hK13 => ?_)
    refine sRegion ?_
    refine sBuild [(0, iv 1), (1, iv 1)] [iv 1, iv 1] S (wN rfl) rfl rfl rfl rfl (lb rfl) fun a S => ?_
    refine sStore (p := b2) (off := 0) (T := 23) (vs := [iv 0, iv 0]) (v := .agg #[iv 1, iv 1]) 0 [iv 1, iv 1] S (wN rfl) rfl rfl rfl rfl rfl rfl rfl (by simp) rfl fun a w S => ?_
    refine sMove (iv 0) S (wN rfl) (.inr rfl) rfl rfl (lb rfl) fun a S => ?_
    refine leafL (leafT (hK13 _ _ ?_))
    obtain rfl := Option.some.inj h
    have S := S.learn (fRep r_api_Ratio (.agg #[iv 1, iv 1]) (api_Ratio.mk 1 1)) rfl
    exact wp_ret (rThen (sRet (.tuple #[.agg #[iv 1, iv 1], iv 0]) S (rsl2 rfl (rvN (c := 4) (t := 23) (T := 23) (p := b2) 0 [iv 1, iv 1] S rfl rfl rfl rfl) (rvT (t := 5) (v := iv 0) S rfl)) ⟨(.agg #[iv 1, iv 1]), rfl, S.mem.sel [] [0] (by decide) rfl rfl⟩))
  refine sCondF S rfl hc12 ?_
  refine wp_skip (leafT (hK7 _ _ ?_))
  refine sSeq (fun K14 hK14 => ?_)
  obtain ⟨t16, h, g17⟩ := bindSome h
  refine sCut (fun a w => ∃ o15, o15 = t16 ∧ St [] E [] w0 61 a w [(0, iv p0), (1, iv p1), (4, .pointer (some ⟨b2, 0, none⟩)), (23, .bool o15)] [eBox b2 23 [iv 0, iv 0]] []) ?_ (fun a w hI => ?_)
  · refine sRegion ?_
    refine sMove (iv p0) S (wN rfl) (.inl rfl) rfl rfl (lb rfl) fun a S => ?_
    refine sBin (.bool (p0 == (-9223372036854775808))) S (wN rfl) rfl rfl rfl (bEq _ _ _ _ .i64 p0 (-9223372036854775808)) rfl (lb rfl) fun a S => ?_
    refine sMove (.bool (p0 == (-9223372036854775808))) S (wN rfl) (.inl rfl) rfl rfl (lb rfl) fun a S => ?_
    rcases iteSome h with ⟨hc18, h⟩ | ⟨hc18, h⟩
    · refine sSkip 2 false 20 21 S rfl rfl rfl hc18 rfl (lb rfl) fun a S => ?_
      refine sSkip 2 false 20 22 S rfl rfl rfl hc18 rfl (lb rfl) fun a S => ?_
      refine sPickT (.bool true) S (wN rfl) rfl rfl hc18 rfl rfl (lb rfl) fun a S => ?_
      exact leafL (leafT (⟨true, Option.some.inj h, S.fix [0] [] (by decide) rfl rfl rfl⟩))
    refine sMove (iv p1) S (wG 2 false 20 rfl rfl rfl hc18) (.inl rfl) rfl rfl (lb rfl) fun a S => ?_
    refine sBin (.bool (p1 == (-9223372036854775808))) S (wG 2 false 20 rfl rfl rfl hc18) rfl rfl rfl (bEq _ _ _ _ .i64 p1 (-9223372036854775808)) rfl (lb rfl) fun a S => ?_
    refine sPickF (.bool (p1 == (-9223372036854775808))) S (wN rfl) rfl rfl hc18 rfl rfl (lb rfl) fun a S => ?_
    exact leafL (leafT (⟨p1 == (-9223372036854775808), Option.some.inj h, S.fix [0] [] (by decide) rfl rfl rfl⟩))
  obtain ⟨o15, rfl, S⟩ := hI
  have h := g17
  clear g17
  try dsimp only at h
  rcases iteSome h with ⟨hc19, h⟩ | ⟨hc19, h⟩
  · refine sCondT S rfl hc19 ?_
    refine sSeq (fun K20 hK20 => ?_)
    obtain ⟨t22, h, g23⟩ := bindSome h
    refine sCut (fun a w => ∃ o21, o21 = t22 ∧ St [] E [] w0 61 a w [(0, iv p0), (1, iv p1), (4, .pointer (some ⟨b2, 0, none⟩)), (31, .bool o21)] [eBox b2 23 [iv 0, iv 0]] []) ?_ (fun a w hI => ?_)
    · refine sRegion ?_
      refine sMove (iv p0) S (wN rfl) (.inl rfl) rfl rfl (lb rfl) fun a S => ?_
      obtain ⟨z24, hx25, h⟩ := bindSome h
      refine sBin (iv z24) S (wN rfl) rfl rfl rfl (bRem _ _ _ _ (x := p0) (y := 2) hx25) rfl (lb rfl) fun a S => ?_
      refine sBin (.bool (z24 == 0)) S (wN rfl) rfl rfl rfl (bEq _ _ _ _ .i64 z24 0) rfl (lb rfl) fun a S => ?_
      refine sMove (.bool (z24 == 0)) S (wN rfl) (.inl rfl) rfl rfl (lb rfl) fun a S => ?_
      rcases iteSome h with ⟨hc26, h⟩ | ⟨hc26, h⟩
      rotate_left
      · refine sSkip 3 true 27 28 S rfl rfl rfl hc26 rfl (lb rfl) fun a S => ?_
        refine sSkip 3 true 27 29 S rfl rfl rfl hc26 rfl (lb rfl) fun a S => ?_
        refine sSkip 3 true 27 30 S rfl rfl rfl hc26 rfl (lb rfl) fun a S => ?_
        refine sPickF (.bool false) S (wN rfl) rfl rfl hc26 rfl rfl (lb rfl) fun a S => ?_
        exact leafL (leafT (⟨false, Option.some.inj h, S.fix [0] [] (by decide) rfl rfl rfl⟩))
      refine sMove (iv p1) S (wG 3 true 27 rfl rfl rfl hc26) (.inl rfl) rfl rfl (lb rfl) fun a S => ?_
      obtain ⟨z27, hx28, h⟩ := bindSome h
      refine sBin (iv z27) S (wG 3 true 27 rfl rfl rfl hc26) rfl rfl rfl (bRem _ _ _ _ (x := p1) (y := 2) hx28) rfl (lb rfl) fun a S => ?_
      refine sBin (.bool (z27 == 0)) S (wG 3 true 27 rfl rfl rfl hc26) rfl rfl rfl (bEq _ _ _ _ .i64 z27 0) rfl (lb rfl) fun a S => ?_
      refine sPickT (.bool (z27 == 0)) S (wN rfl) rfl rfl hc26 rfl rfl (lb rfl) fun a S => ?_
      exact leafL (leafT (⟨z27 == 0, Option.some.inj h, S.fix [0] [] (by decide) rfl rfl rfl⟩))
    obtain ⟨o21, rfl, S⟩ := hI
    have h := g23
    clear g23
    try dsimp only at h
    rcases iteSome h with ⟨hc29, h⟩ | ⟨hc29, h⟩
    rotate_left
    · refine sCondF S rfl hc29 ?_
      refine wp_skip (leafT (hK20 _ _ ?_))
      refine sSeq (fun K38 hK38 => ?_)
      refine sRegion ?_
      refine sBuild [] [iv 0, iv 0] S (wN rfl) rfl rfl rfl rfl (lb rfl) fun a S => ?_
      refine sStore (p := b2) (off := 0) (T := 23) (vs := [iv 0, iv 0]) (v := .agg #[iv 0, iv 0]) 0 [iv 0, iv 0] S (wN rfl) rfl rfl rfl rfl rfl rfl rfl (by simp) rfl fun a w S => ?_
      refine sMove (iv 16) S (wN rfl) (.inr rfl) rfl rfl (lb rfl) fun a S => ?_
      refine leafL (leafT (hK38 _ _ ?_))
      obtain rfl := Option.some.inj h
      have S := S.learn (fRep r_api_Ratio (.agg #[iv 0, iv 0]) (api_Ratio.mk 0 0)) rfl
      exact wp_ret (rThen (sRet (.tuple #[.agg #[iv 0, iv 0], iv 16]) S (rsl2 rfl (rvN (c := 4) (t := 23) (T := 23) (p := b2) 0 [iv 0, iv 0] S rfl rfl rfl rfl) (rvT (t := 5) (v := iv 16) S rfl)) ⟨(.agg #[iv 0, iv 0]), rfl, S.mem.sel [] [0] (by decide) rfl rfl⟩))
    refine sCondT S rfl hc29 ?_
    refine sSeq (fun K30 hK30 => ?_)
    refine sRegion ?_
    refine sMove (iv p0) S (wN rfl) (.inl rfl) rfl rfl (lb rfl) fun a S => ?_
    obtain ⟨z31, hx32, h⟩ := bindSome h
    refine sBin (iv z31) S (wN rfl) rfl rfl rfl (bQuo _ _ _ _ (x := p0) (y := 2) hx32) rfl (lb rfl) fun a S => ?_
    refine sMove (iv p1) S (wN rfl) (.inl rfl) rfl rfl (lb rfl) fun a S => ?_
    obtain ⟨z33, hx34, h⟩ := bindSome h
    refine sBin (iv z33) S (wN rfl) rfl rfl rfl (bQuo _ _ _ _ (x := p1) (y := 2) hx34) rfl (lb rfl) fun a S => ?_
    obtain ⟨r35, hx36, h⟩ := bindSome h
    refine sCall (X := Value) (f := 5) (vs := [iv z31, iv z33]) (val := c_raddleref23_Make_s1_val r35) (B' := fun _ => []) (D' := c_raddleref23_Make_s1_D r35) [] [eBox b2 23 [iv 0, iv 0]] [] [0] [] S (wN rfl) rfl callee5 rfl (by decide) rfl rfl (fun E1 w1 S1 => c_raddleref23_Make_s1 E1 w1 z31 z33 r35 hx36 S1) rfl (lb rfl) fun u37 a w S => ?_
    obtain rfl : u37 = .agg #[iv r35.1.Num, iv r35.1.Den] := S.mem.know (i := 0) (e := fRep r_api_Ratio (u37) r35.1) rfl
    refine sExtract (vs := [.agg #[iv r35.1.Num, iv r35.1.Den], iv r35.2]) (.agg #[iv r35.1.Num, iv r35.1.Den]) S (wN rfl) rfl rfl rfl rfl (lb rfl) fun a S => ?_
    refine sExtract (vs := [.agg #[iv r35.1.Num, iv r35.1.Den], iv r35.2]) (iv r35.2) S (wN rfl) rfl rfl rfl rfl (lb rfl) fun a S => ?_
    refine sStore (p := b2) (off := 0) (T := 23) (vs := [iv 0, iv 0]) (v := .agg #[iv r35.1.Num, iv r35.1.Den]) 0 [iv r35.1.Num, iv r35.1.Den] S (wN rfl) rfl rfl rfl rfl rfl rfl rfl (by simp) rfl fun a w S => ?_
    refine sMove (iv r35.2) S (wN rfl) (.inr rfl) rfl rfl (lb rfl) fun a S => ?_
    refine leafL (leafT (hK30 _ _ ?_))
    obtain rfl := Option.some.inj h
    exact wp_ret (rThen (rThen (sRet (.tuple #[.agg #[iv r35.1.Num, iv r35.1.Den], iv r35.2]) S (rsl2 rfl (rvN (c := 4) (t := 23) (T := 23) (p := b2) 0 [iv r35.1.Num, iv r35.1.Den] S rfl rfl rfl rfl) (rvT (t := 5) (v := iv r35.2) S rfl)) ⟨(.agg #[iv r35.1.Num, iv r35.1.Den]), rfl, S.mem.sel [] [0] (by decide) rfl rfl⟩)))
  refine sCondF S rfl hc19 ?_
  refine wp_skip (leafT (hK14 _ _ ?_))
  obtain ⟨t41, h, g42⟩ := bindSome h
  refine sCut (fun a w => ∃ o39, ∃ o40, (o39, o40) = t41 ∧ St [] E [] w0 61 a w [(0, iv o39), (1, iv o40), (4, .pointer (some ⟨b2, 0, none⟩))] [eBox b2 23 [iv 0, iv 0]] []) ?_ (fun a w hI => ?_)
  · refine sSeq (fun K43 hK43 => ?_)
    refine sRegion ?_
    refine sMove (iv p1) S (wN rfl) (.inl rfl) rfl rfl (lb rfl) fun a S => ?_
    refine sBin (.bool (decide (p1 < 0))) S (wN rfl) rfl rfl rfl (bLt _ _ _ _ .i64 p1 0) rfl (lb rfl) fun a S => ?_
    refine leafL (leafT (hK43 _ _ ?_))
    rcases iteSome h with ⟨hc44, h⟩ | ⟨hc44, h⟩
    rotate_left
    · refine sCondF S rfl hc44 ?_
      exact wp_skip (leafT (⟨p0, p1, Option.some.inj h, S.fix [0] [] (by decide) rfl rfl rfl⟩))
    refine sCondT S rfl hc44 ?_
    refine sRegion ?_
    refine sMove (iv p0) S (wN rfl) (.inl rfl) rfl rfl (lb rfl) fun a S => ?_
    refine sNeg (b := p0) S (wN rfl) rfl rfl rfl (lb rfl) fun a S => ?_
    refine sMove (iv p1) S (wN rfl) (.inl rfl) rfl rfl (lb rfl) fun a S => ?_
    refine sNeg (b := p1) S (wN rfl) rfl rfl rfl (lb rfl) fun a S => ?_
    refine sMove (iv (w64 (0 - p0))) S (wN rfl) (.inr rfl) rfl rfl (lb rfl) fun a S => ?_
    refine sMove (iv (w64 (0 - p1))) S (wN rfl) (.inr rfl) rfl rfl (lb rfl) fun a S => ?_
    exact leafL (leafT (⟨w64 (0 - p0), w64 (0 - p1), Option.some.inj h, S.fix [0] [] (by decide) rfl rfl rfl⟩))
  obtain ⟨o39, o40, rfl, S⟩ := hI
  have h := g42
  clear g42
  try dsimp only at h
  refine sSeq (fun K45 hK45 => ?_)
  refine sRegion ?_
  refine sMove (iv o39) S (wN rfl) (.inl rfl) rfl rfl (lb rfl) fun a S => ?_
  refine sMove (iv o40) S (wN rfl) (.inl rfl) rfl rfl (lb rfl) fun a S => ?_
  obtain ⟨r46, hx47, h⟩ := bindSome h
  have S1 := S.mem
  refine sCallQ (X := Unit) (f := 12) (vs := [iv o39, iv o40]) (val := fun _ => iv r46) S (wN rfl) rfl callee12 rfl (S1.quiet [] rfl) (fun E1 w1 S1 => c_raddleref23_common E1 w1 o39 o40 r46 hx47 S1) rfl (lb rfl) fun _ a w S => ?_
  refine sMove (iv r46) S (wN rfl) (.inr rfl) rfl rfl (lb rfl) fun a S => ?_
  refine leafL (leafT (hK45 _ _ ?_))
  refine sSeq (fun K48 hK48 => ?_)
  obtain ⟨z49, hx50, h⟩ := bindSome h
  obtain ⟨z51, hx52, h⟩ := bindSome h
  refine sDraw (nf := [7, 8]) (W := [(0, 49, iv o39), (1, 50, iv r46), (2, 51, iv z49), (3, 52, iv o40), (4, 53, iv r46), (5, 54, iv z51), (6, 55, .agg #[iv z49, iv z51])]) rfl S ?_
  refine node_by (A := anc_raddleref23_Make_s0_0) (nf := [7, 8]) (Y := []) (W := [(0, 49, iv o39), (1, 50, iv r46), (2, 51, iv z49), (3, 52, iv o40), (4, 53, iv r46), (5, 54, iv z51), (6, 55, .agg #[iv z49, iv z51])]) 9 (by kernel_rfl) (by kernel_rfl) (by kernel_rfl) (by kernel_rfl) (by kernel_rfl) [0, 1, 2, 3, 4, 5, 6] (by kernel_rfl) (by decide) (by decide) (aF 0 8 (by decide) ?_ (aF 1 7 (by decide) ?_ (aF 2 6 (by decide) ?_ (aF 3 5 (by decide) ?_ (aF 4 4 (by decide) ?_ (aF 5 3 (by decide) ?_ (aF 6 2 (by decide) ?_ (aN 7 1 (by decide) ?_ (aB 8 0 7 (by decide) (trivial)))))))))) [] (fun q hq => by cases hq) (fun hY => absurd (hY 7 (by decide)) (by decide))
  · refine fI 49 (iv o39) [(0, iv o39)] 0 [none] rfl rfl rfl rfl rfl rfl fun G a w S => ?_
    refine sMove (iv o39) S (wN rfl) (.inl rfl) rfl rfl (lb rfl) fun a S => ?_
    exact leafL ⟨rfl, S⟩
  · refine fI 50 (iv r46) [(6, iv r46)] 1 [none] rfl rfl rfl rfl rfl rfl fun G a w S => ?_
    refine sMove (iv r46) S (wN rfl) (.inl rfl) rfl rfl (lb rfl) fun a S => ?_
    exact leafL ⟨rfl, S⟩
  · refine fI 51 (iv z49) [(49, iv o39), (50, iv r46)] 2 [some 0, some 1] rfl rfl rfl rfl rfl rfl fun G a w S => ?_
    refine sBin (iv z49) S (wN rfl) rfl rfl rfl (bQuo _ _ _ _ (x := o39) (y := r46) hx50) rfl (lb rfl) fun a S => ?_
    exact leafL ⟨rfl, S⟩
  · refine fI 52 (iv o40) [(1, iv o40)] 3 [none] rfl rfl rfl rfl rfl rfl fun G a w S => ?_
    refine sMove (iv o40) S (wN rfl) (.inl rfl) rfl rfl (lb rfl) fun a S => ?_
    exact leafL ⟨rfl, S⟩
  · refine fI 53 (iv r46) [(6, iv r46)] 4 [none] rfl rfl rfl rfl rfl rfl fun G a w S => ?_
    refine sMove (iv r46) S (wN rfl) (.inl rfl) rfl rfl (lb rfl) fun a S => ?_
    exact leafL ⟨rfl, S⟩
  · refine fI 54 (iv z51) [(52, iv o40), (53, iv r46)] 5 [some 3, some 4] rfl rfl rfl rfl rfl rfl fun G a w S => ?_
    refine sBin (iv z51) S (wN rfl) rfl rfl rfl (bQuo _ _ _ _ (x := o40) (y := r46) hx52) rfl (lb rfl) fun a S => ?_
    exact leafL ⟨rfl, S⟩
  · refine fI 55 (.agg #[iv z49, iv z51]) [(51, iv z49), (54, iv z51)] 6 [some 2, some 5] rfl rfl rfl rfl rfl rfl fun G a w S => ?_
    refine sBuild [(0, iv z49), (1, iv z51)] [iv z49, iv z51] S (wN rfl) rfl rfl rfl rfl (lb rfl) fun a S => ?_
    exact leafL ⟨rfl, S⟩
  refine ⟨_, [], rfl, (srcs_of [] rfl rfl rfl), fun G a w S => ?_⟩
  refine sAlloc (.agg #[iv 0, iv 0]) S (wN rfl) rfl rfl [iv 0, iv 0] rfl rfl (lb rfl) fun a b54 w S => ?_
  refine leafL ⟨rfl, _, _, .inl ⟨7, (.pointer (some ⟨b54, 0, none⟩)), [], rfl, S, hz_of rfl, ?_⟩⟩
  refine node_by (A := anc_raddleref23_Make_s0_0) (nf := [7, 8]) (Y := [7]) 9 (by kernel_rfl) (by kernel_rfl) (by kernel_rfl) (by kernel_rfl) (by kernel_rfl) [7, 0, 1, 2, 3, 4, 5, 6] (by kernel_rfl) (by decide) (by decide) (aF 0 8 (by decide) ?_ (aF 1 7 (by decide) ?_ (aF 2 6 (by decide) ?_ (aF 3 5 (by decide) ?_ (aF 4 4 (by decide) ?_ (aF 5 3 (by decide) ?_ (aF 6 2 (by decide) ?_ (aY 7 1 (by decide) (aN 8 0 (by decide) ?_ (trivial)))))))))) [] (fun q hq => by cases hq) (fun hY => absurd (hY 8 (by decide)) (by decide))
  · refine fI 49 (iv o39) [(0, iv o39)] 1 [none] rfl rfl rfl rfl rfl rfl fun G a w S => ?_
    refine sMove (iv o39) S (wN rfl) (.inl rfl) rfl rfl (lb rfl) fun a S => ?_
    exact leafL ⟨rfl, S⟩
  · refine fI 50 (iv r46) [(6, iv r46)] 2 [none] rfl rfl rfl rfl rfl rfl fun G a w S => ?_
    refine sMove (iv r46) S (wN rfl) (.inl rfl) rfl rfl (lb rfl) fun a S => ?_
    exact leafL ⟨rfl, S⟩
  · refine fI 51 (iv z49) [(49, iv o39), (50, iv r46)] 3 [some 1, some 2] rfl rfl rfl rfl rfl rfl fun G a w S => ?_
    refine sBin (iv z49) S (wN rfl) rfl rfl rfl (bQuo _ _ _ _ (x := o39) (y := r46) hx50) rfl (lb rfl) fun a S => ?_
    exact leafL ⟨rfl, S⟩
  · refine fI 52 (iv o40) [(1, iv o40)] 4 [none] rfl rfl rfl rfl rfl rfl fun G a w S => ?_
    refine sMove (iv o40) S (wN rfl) (.inl rfl) rfl rfl (lb rfl) fun a S => ?_
    exact leafL ⟨rfl, S⟩
  · refine fI 53 (iv r46) [(6, iv r46)] 5 [none] rfl rfl rfl rfl rfl rfl fun G a w S => ?_
    refine sMove (iv r46) S (wN rfl) (.inl rfl) rfl rfl (lb rfl) fun a S => ?_
    exact leafL ⟨rfl, S⟩
  · refine fI 54 (iv z51) [(52, iv o40), (53, iv r46)] 6 [some 4, some 5] rfl rfl rfl rfl rfl rfl fun G a w S => ?_
    refine sBin (iv z51) S (wN rfl) rfl rfl rfl (bQuo _ _ _ _ (x := o40) (y := r46) hx52) rfl (lb rfl) fun a S => ?_
    exact leafL ⟨rfl, S⟩
  · refine fI 55 (.agg #[iv z49, iv z51]) [(51, iv z49), (54, iv z51)] 7 [some 3, some 6] rfl rfl rfl rfl rfl rfl fun G a w S => ?_
    refine sBuild [(0, iv z49), (1, iv z51)] [iv z49, iv z51] S (wN rfl) rfl rfl rfl rfl (lb rfl) fun a S => ?_
    exact leafL ⟨rfl, S⟩
  refine ⟨_, [(7, .pointer (some ⟨b54, 0, none⟩)), (55, .agg #[iv z49, iv z51])], rfl, (srcs_of [some 0, some 7] rfl rfl rfl), fun G a w S => ?_⟩
  refine sStore (p := b54) (off := 0) (T := 23) (vs := [iv 0, iv 0]) (v := .agg #[iv z49, iv z51]) 0 [iv z49, iv z51] S (wN rfl) rfl rfl rfl rfl rfl rfl rfl (by simp) rfl fun a w S => ?_
  refine leafL ⟨rfl, _, _, .inr ⟨[], rfl, S, hz_of rfl, ?_⟩⟩
  refine node_by (A := anc_raddleref23_Make_s0_0) (nf := [7, 8]) (Y := [8, 7]) 9 (by kernel_rfl) (by kernel_rfl) (by kernel_rfl) (by kernel_rfl) (by kernel_rfl) [7, 0, 1, 2, 3, 4, 5, 6] (by kernel_rfl) (by decide) (by decide) (aD 0 8 8 (by decide) (aD 1 7 8 (by decide) (aD 2 6 8 (by decide) (aD 3 5 8 (by decide) (aD 4 4 8 (by decide) (aD 5 3 8 (by decide) (aD 6 2 8 (by decide) (aY 7 1 (by decide) (aY 8 0 (by decide) (trivial)))))))))) [(4, .pointer (some ⟨b2, 0, none⟩)), (7, .pointer (some ⟨b54, 0, none⟩))] (fin_of [none, some 0] rfl (by kernel_rfl) (by kernel_rfl)) (fun _ a w S => ?_)
  refine leafT (hK48 _ _ ?_)
  refine sSeq (fun K55 hK55 => ?_)
  refine sSeq (fun K56 hK56 => ?_)
  refine sRegion ?_
  refine sLoadN (p := b54) (off := 0) (T := 23) (vs := [iv z49, iv z51]) 0 [iv z49, iv z51] S (wN rfl) rfl rfl rfl rfl rfl rfl rfl (lb rfl) fun a S => ?_
  obtain ⟨r57, hx58, h⟩ := bindSome h
  have S1 := S.mem
  have S1 := S1.learn (fRep r_api_Ratio (.agg #[iv z49, iv z51]) (api_Ratio.mk z49 z51)) rfl
  refine sCallQ (X := Unit) (f := 13) (vs := [.agg #[iv z49, iv z51]]) (val := fun _ => iv r57) S (wN rfl) rfl callee13 rfl (S1.quiet [0] rfl) (fun E1 w1 S1 => c_raddleref23_Check E1 w1 (api_Ratio.mk z49 z51) (.agg #[iv z49, iv z51]) r57 hx58 S1) rfl (lb rfl) fun _ a w S => ?_
  refine sBin (.bool (r57 != 0)) S (wN rfl) rfl rfl rfl (bNe _ _ _ _ .i64 r57 0) rfl (lb rfl) fun a S => ?_
  refine leafL (leafT (hK56 _ _ ?_))
  rcases iteSome h with ⟨hc59, h⟩ | ⟨hc59, h⟩
  · refine sCondT S rfl hc59 ?_
    refine sSeq (fun K60 hK60 => ?_)
    refine sRegion ?_
    refine sBuild [] [iv 0, iv 0] S (wN rfl) rfl rfl rfl rfl (lb rfl) fun a S => ?_
    refine sStore (p := b2) (off := 0) (T := 23) (vs := [iv 0, iv 0]) (v := .agg #[iv 0, iv 0]) 1 [iv 0, iv 0] S (wN rfl) rfl rfl rfl rfl rfl rfl rfl (by simp) rfl fun a w S => ?_
    refine sMove (iv 16) S (wN rfl) (.inr rfl) rfl rfl (lb rfl) fun a S => ?_
    refine leafL (leafT (hK60 _ _ ?_))
    obtain rfl := Option.some.inj h
    have S := S.learn (fRep r_api_Ratio (.agg #[iv 0, iv 0]) (api_Ratio.mk 0 0)) rfl
    exact wp_ret (rThen (sRet (.tuple #[.agg #[iv 0, iv 0], iv 16]) S (rsl2 rfl (rvN (c := 4) (t := 23) (T := 23) (p := b2) 0 [iv 0, iv 0] S rfl rfl rfl rfl) (rvT (t := 5) (v := iv 16) S rfl)) ⟨(.agg #[iv 0, iv 0]), rfl, S.mem.sel [] [0] (by decide) rfl rfl⟩))
  refine sCondF S rfl hc59 ?_
  refine wp_skip (leafT (hK55 _ _ ?_))
  refine sSeq (fun K61 hK61 => ?_)
  refine sRegion ?_
  refine sLoadN (p := b54) (off := 0) (T := 23) (vs := [iv z49, iv z51]) 0 [iv z49, iv z51] S (wN rfl) rfl rfl rfl rfl rfl rfl rfl (lb rfl) fun a S => ?_
  refine sStore (p := b2) (off := 0) (T := 23) (vs := [iv 0, iv 0]) (v := .agg #[iv z49, iv z51]) 1 [iv z49, iv z51] S (wN rfl) rfl rfl rfl rfl rfl rfl rfl (by simp) rfl fun a w S => ?_
  refine sMove (iv 0) S (wN rfl) (.inr rfl) rfl rfl (lb rfl) fun a S => ?_
  refine leafL (leafT (hK61 _ _ ?_))
  obtain rfl := Option.some.inj h
  have S := S.learn (fRep r_api_Ratio (.agg #[iv z49, iv z51]) (api_Ratio.mk z49 z51)) rfl
  exact wp_ret (sRet (.tuple #[.agg #[iv z49, iv z51], iv 0]) S (rsl2 rfl (rvN (c := 4) (t := 23) (T := 23) (p := b2) 0 [iv z49, iv z51] S rfl rfl rfl rfl) (rvT (t := 5) (v := iv 0) S rfl)) ⟨(.agg #[iv z49, iv z51]), rfl, S.mem.sel [] [0] (by decide) rfl rfl⟩)

end Go.Proofs.YtdfjcpnflmgdoaaDoor
namespace Go.Proofs.YtdfjcpnflmgdoaaDoor
open Go.RowKit
set_option linter.unusedVariables false

def anc_raddleref23_Make_0 : List (List Nat) := [[], [], [0, 1], [], [], [3, 4], [0, 1, 2, 3, 4, 5], [], [0, 1, 2, 3, 4, 5, 6, 7]]
noncomputable def F_raddleref23_Make (p0 : Int) (p1 : Int) : Option (api_Ratio × Int) :=
  if p1 == 0 then
    some ((api_Ratio.mk 0 0), 18)
  else
    Option.bind (α := Bool) (
      if p0 == (-9223372036854775808) then
        some (p1 == (-9223372036854775808))
      else
        some false) fun o8 =>
    if o8 then
      some ((api_Ratio.mk 1 1), 0)
    else
      Option.bind (α := Bool) (
        if p0 == (-9223372036854775808) then
          some true
        else
          some (p1 == (-9223372036854775808))) fun o15 =>
      if o15 then
        Option.bind (α := Bool) (
          Option.bind (remI p0 2) fun z24 =>
          if z24 == 0 then
            Option.bind (remI p1 2) fun z27 =>
            some (z27 == 0)
          else
            some false) fun o21 =>
        if o21 then
          Option.bind (quoI p0 2) fun z31 =>
          Option.bind (quoI p1 2) fun z33 =>
          Option.bind (F_raddleref23_Make_s0 z31 z33) fun r35 =>
          some (r35.1, r35.2)
        else
          some ((api_Ratio.mk 0 0), 16)
      else
        Option.bind (α := (Int × Int)) (
          if decide (p1 < 0) then
            some (w64 (0 - p0), w64 (0 - p1))
          else
            some (p0, p1)) fun (o39, o40) =>
        Option.bind (F_raddleref23_common o39 o40) fun r46 =>
        Option.bind (quoI o39 r46) fun z49 =>
        Option.bind (quoI o40 r46) fun z51 =>
        Option.bind (F_raddleref23_Check (api_Ratio.mk z49 z51)) fun r57 =>
        if r57 != 0 then
          some ((api_Ratio.mk 0 0), 16)
        else
          some ((api_Ratio.mk z49 z51), 0)
def c_raddleref23_Make_val (r : (api_Ratio × Int)) (x : Value) : Value := .tuple #[x, .int .i64 r.2]
def c_raddleref23_Make_D (r : (api_Ratio × Int)) (x : Value) : List Fact := [fRep r_api_Ratio x r.1]
set_option maxHeartbeats 4000000 in
set_option maxRecDepth 100000 in
theorem c_raddleref23_Make (E : Nat → Prop) (w0 : World) (p0 : Int) (p1 : Int) (r : (api_Ratio × Int)) (h : F_raddleref23_Make p0 p1 = some r) (S : St0 E [] w0 w0 [] []) :
    Calls Tryd.prog 5 #[iv p0, iv p1] w0 (Ret (X := Value) E [] w0 (c_raddleref23_Make_val r) (fun _ => []) (c_raddleref23_Make_D r)) := by
  unfold F_raddleref23_Make at h
  refine sEnter (args := [iv p0, iv p1]) 61 Tryd.func5 rfl rfl (by simp) S (fun a S => ?_)
  refine sSeq (fun K1 hK1 => ?_)
  refine sRegion ?_
  refine sAlloc (.agg #[iv 0, iv 0]) S (wN rfl) rfl rfl [iv 0, iv 0] rfl rfl (lb rfl) fun a b2 w S => ?_
  refine sMove (iv 0) S (wN rfl) (.inr rfl) rfl rfl (lb rfl) fun a S => ?_
  refine leafL (leafT (hK1 _ _ ?_))
  refine sSeq (fun K3 hK3 => ?_)
  refine sSeq (fun K4 hK4 => ?_)
  refine sRegion ?_
  refine sMove (iv p1) S (wN rfl) (.inl rfl) rfl rfl (lb rfl) fun a S => ?_
  refine sBin (.bool (p1 == 0)) S (wN rfl) rfl rfl rfl (bEq _ _ _ _ .i64 p1 0) rfl (lb rfl) fun a S => ?_
  refine leafL (leafT (hK4 _ _ ?_))
  rcases iteSome h with ⟨hc5, h⟩ | ⟨hc5, h⟩
  · refine sCondT S rfl hc5 ?_
    refine sSeq (fun K6 hK6 => ?_)
    refine sRegion ?_
    refine sBuild [] [iv 0, iv 0] S (wN rfl) rfl rfl rfl rfl (lb rfl) fun a S => ?_
    refine sStore (p := b2) (off := 0) (T := 23) (vs := [iv 0, iv 0]) (v := .agg #[iv 0, iv 0]) 0 [iv 0, iv 0] S (wN rfl) rfl rfl rfl rfl rfl rfl rfl (by simp) rfl fun a w S => ?_
    refine sMove (iv 18) S (wN rfl) (.inr rfl) rfl rfl (lb rfl) fun a S => ?_
    refine leafL (leafT (hK6 _ _ ?_))
    obtain rfl := Option.some.inj h
    have S := S.learn (fRep r_api_Ratio (.agg #[iv 0, iv 0]) (api_Ratio.mk 0 0)) rfl
    exact wp_ret (rThen (sRet (.tuple #[.agg #[iv 0, iv 0], iv 18]) S (rsl2 rfl (rvN (c := 4) (t := 23) (T := 23) (p := b2) 0 [iv 0, iv 0] S rfl rfl rfl rfl) (rvT (t := 5) (v := iv 18) S rfl)) ⟨(.agg #[iv 0, iv 0]), rfl, S.mem.sel [] [0] (by decide) rfl rfl⟩))
  refine sCondF S rfl hc5 ?_
  refine wp_skip (leafT (hK3 _ _ ?_))
  refine sSeq (fun K7 hK7 => ?_)
  obtain ⟨t9, h, g10⟩ := bindSome h
  refine sCut (fun a w => ∃ o8, o8 = t9 ∧ St [] E [] w0 61 a w [(0, iv p0), (1, iv p1), (4, .pointer (some ⟨b2, 0, none⟩)), (16, .bool o8)] [eBox b2 23 [iv 0, iv 0]] []) ?_ (fun a w hI => ?_)
  · refine sRegion ?_
    refine sMove (iv p0) S (wN rfl) (.inl rfl) rfl rfl (lb rfl) fun a S => ?_
    refine sBin (.bool (p0 == (-9223372036854775808))) S (wN rfl) rfl rfl rfl (bEq _ _ _ _ .i64 p0 (-9223372036854775808)) rfl (lb rfl) fun a S => ?_
    refine sMove (.bool (p0 == (-9223372036854775808))) S (wN rfl) (.inl rfl) rfl rfl (lb rfl) fun a S => ?_
    rcases iteSome h with ⟨hc11, h⟩ | ⟨hc11, h⟩
    rotate_left
    · refine sSkip 2 true 13 14 S rfl rfl rfl hc11 rfl (lb rfl) fun a S => ?_
      refine sSkip 2 true 13 15 S rfl rfl rfl hc11 rfl (lb rfl) fun a S => ?_
      refine sPickF (.bool false) S (wN rfl) rfl rfl hc11 rfl rfl (lb rfl) fun a S => ?_
      exact leafL (leafT (⟨false, Option.some.inj h, S.fix [0] [] (by decide) rfl rfl rfl⟩))
    refine sMove (iv p1) S (wG 2 true 13 rfl rfl rfl hc11) (.inl rfl) rfl rfl (lb rfl) fun a S => ?_
    refine sBin (.bool (p1 == (-9223372036854775808))) S (wG 2 true 13 rfl rfl rfl hc11) rfl rfl rfl (bEq _ _ _ _ .i64 p1 (-9223372036854775808)) rfl (lb rfl) fun a S => ?_
    refine sPickT (.bool (p1 == (-9223372036854775808))) S (wN rfl) rfl rfl hc11 rfl rfl (lb rfl) fun a S => ?_
    exact leafL (leafT (⟨p1 == (-9223372036854775808), Option.some.inj h, S.fix [0] [] (by decide) rfl rfl rfl⟩))
  obtain ⟨o8, rfl, S⟩ := hI
  have h := g10
  clear g10
  try dsimp only at h
  rcases iteSome h with ⟨hc12, h⟩ | ⟨hc12, h⟩
  · refine sCondT S rfl hc12 ?_
    refine sSeq (fun K13 hK13 => ?_)
    refine sRegion ?_
    refine sBuild [(0, iv 1), (1, iv 1)] [iv 1, iv 1] S (wN rfl) rfl rfl rfl rfl (lb rfl) fun a S => ?_
    refine sStore (p := b2) (off := 0) (T := 23) (vs := [iv 0, iv 0]) (v := .agg #[iv 1, iv 1]) 0 [iv 1, iv 1] S (wN rfl) rfl rfl rfl rfl rfl rfl rfl (by simp) rfl fun a w S => ?_
    refine sMove (iv 0) S (wN rfl) (.inr rfl) rfl rfl (lb rfl) fun a S => ?_
    refine leafL (leafT (hK13 _ _ ?_))
    obtain rfl := Option.some.inj h
    have S := S.learn (fRep r_api_Ratio (.agg #[iv 1, iv 1]) (api_Ratio.mk 1 1)) rfl
    exact wp_ret (rThen (sRet (.tuple #[.agg #[iv 1, iv 1], iv 0]) S (rsl2 rfl (rvN (c := 4) (t := 23) (T := 23) (p := b2) 0 [iv 1, iv 1] S rfl rfl rfl rfl) (rvT (t := 5) (v := iv 0) S rfl)) ⟨(.agg #[iv 1, iv 1]), rfl, S.mem.sel [] [0] (by decide) rfl rfl⟩))
  refine sCondF S rfl hc12 ?_
  refine wp_skip (leafT (hK7 _ _ ?_))
  refine sSeq (fun K14 hK14 => ?_)
  obtain ⟨t16, h, g17⟩ := bindSome h
  refine sCut (fun a w => ∃ o15, o15 = t16 ∧ St [] E [] w0 61 a w [(0, iv p0), (1, iv p1), (4, .pointer (some ⟨b2, 0, none⟩)), (23, .bool o15)] [eBox b2 23 [iv 0, iv 0]] []) ?_ (fun a w hI => ?_)
  · refine sRegion ?_
    refine sMove (iv p0) S (wN rfl) (.inl rfl) rfl rfl (lb rfl) fun a S => ?_
    refine sBin (.bool (p0 == (-9223372036854775808))) S (wN rfl) rfl rfl rfl (bEq _ _ _ _ .i64 p0 (-9223372036854775808)) rfl (lb rfl) fun a S => ?_
    refine sMove (.bool (p0 == (-9223372036854775808))) S (wN rfl) (.inl rfl) rfl rfl (lb rfl) fun a S => ?_
    rcases iteSome h with ⟨hc18, h⟩ | ⟨hc18, h⟩
    · refine sSkip 2 false 20 21 S rfl rfl rfl hc18 rfl (lb rfl) fun a S => ?_
      refine sSkip 2 false 20 22 S rfl rfl rfl hc18 rfl (lb rfl) fun a S => ?_
      refine sPickT (.bool true) S (wN rfl) rfl rfl hc18 rfl rfl (lb rfl) fun a S => ?_
      exact leafL (leafT (⟨true, Option.some.inj h, S.fix [0] [] (by decide) rfl rfl rfl⟩))
    refine sMove (iv p1) S (wG 2 false 20 rfl rfl rfl hc18) (.inl rfl) rfl rfl (lb rfl) fun a S => ?_
    refine sBin (.bool (p1 == (-9223372036854775808))) S (wG 2 false 20 rfl rfl rfl hc18) rfl rfl rfl (bEq _ _ _ _ .i64 p1 (-9223372036854775808)) rfl (lb rfl) fun a S => ?_
    refine sPickF (.bool (p1 == (-9223372036854775808))) S (wN rfl) rfl rfl hc18 rfl rfl (lb rfl) fun a S => ?_
    exact leafL (leafT (⟨p1 == (-9223372036854775808), Option.some.inj h, S.fix [0] [] (by decide) rfl rfl rfl⟩))
  obtain ⟨o15, rfl, S⟩ := hI
  have h := g17
  clear g17
  try dsimp only at h
  rcases iteSome h with ⟨hc19, h⟩ | ⟨hc19, h⟩
  · refine sCondT S rfl hc19 ?_
    refine sSeq (fun K20 hK20 => ?_)
    obtain ⟨t22, h, g23⟩ := bindSome h
    refine sCut (fun a w => ∃ o21, o21 = t22 ∧ St [] E [] w0 61 a w [(0, iv p0), (1, iv p1), (4, .pointer (some ⟨b2, 0, none⟩)), (31, .bool o21)] [eBox b2 23 [iv 0, iv 0]] []) ?_ (fun a w hI => ?_)
    · refine sRegion ?_
      refine sMove (iv p0) S (wN rfl) (.inl rfl) rfl rfl (lb rfl) fun a S => ?_
      obtain ⟨z24, hx25, h⟩ := bindSome h
      refine sBin (iv z24) S (wN rfl) rfl rfl rfl (bRem _ _ _ _ (x := p0) (y := 2) hx25) rfl (lb rfl) fun a S => ?_
      refine sBin (.bool (z24 == 0)) S (wN rfl) rfl rfl rfl (bEq _ _ _ _ .i64 z24 0) rfl (lb rfl) fun a S => ?_
      refine sMove (.bool (z24 == 0)) S (wN rfl) (.inl rfl) rfl rfl (lb rfl) fun a S => ?_
      rcases iteSome h with ⟨hc26, h⟩ | ⟨hc26, h⟩
      rotate_left
      · refine sSkip 3 true 27 28 S rfl rfl rfl hc26 rfl (lb rfl) fun a S => ?_
        refine sSkip 3 true 27 29 S rfl rfl rfl hc26 rfl (lb rfl) fun a S => ?_
        refine sSkip 3 true 27 30 S rfl rfl rfl hc26 rfl (lb rfl) fun a S => ?_
        refine sPickF (.bool false) S (wN rfl) rfl rfl hc26 rfl rfl (lb rfl) fun a S => ?_
        exact leafL (leafT (⟨false, Option.some.inj h, S.fix [0] [] (by decide) rfl rfl rfl⟩))
      refine sMove (iv p1) S (wG 3 true 27 rfl rfl rfl hc26) (.inl rfl) rfl rfl (lb rfl) fun a S => ?_
      obtain ⟨z27, hx28, h⟩ := bindSome h
      refine sBin (iv z27) S (wG 3 true 27 rfl rfl rfl hc26) rfl rfl rfl (bRem _ _ _ _ (x := p1) (y := 2) hx28) rfl (lb rfl) fun a S => ?_
      refine sBin (.bool (z27 == 0)) S (wG 3 true 27 rfl rfl rfl hc26) rfl rfl rfl (bEq _ _ _ _ .i64 z27 0) rfl (lb rfl) fun a S => ?_
      refine sPickT (.bool (z27 == 0)) S (wN rfl) rfl rfl hc26 rfl rfl (lb rfl) fun a S => ?_
      exact leafL (leafT (⟨z27 == 0, Option.some.inj h, S.fix [0] [] (by decide) rfl rfl rfl⟩))
    obtain ⟨o21, rfl, S⟩ := hI
    have h := g23
    clear g23
    try dsimp only at h
    rcases iteSome h with ⟨hc29, h⟩ | ⟨hc29, h⟩
    rotate_left
    · refine sCondF S rfl hc29 ?_
      refine wp_skip (leafT (hK20 _ _ ?_))
      refine sSeq (fun K38 hK38 => ?_)
      refine sRegion ?_
      refine sBuild [] [iv 0, iv 0] S (wN rfl) rfl rfl rfl rfl (lb rfl) fun a S => ?_
      refine sStore (p := b2) (off := 0) (T := 23) (vs := [iv 0, iv 0]) (v := .agg #[iv 0, iv 0]) 0 [iv 0, iv 0] S (wN rfl) rfl rfl rfl rfl rfl rfl rfl (by simp) rfl fun a w S => ?_
      refine sMove (iv 16) S (wN rfl) (.inr rfl) rfl rfl (lb rfl) fun a S => ?_
      refine leafL (leafT (hK38 _ _ ?_))
      obtain rfl := Option.some.inj h
      have S := S.learn (fRep r_api_Ratio (.agg #[iv 0, iv 0]) (api_Ratio.mk 0 0)) rfl
      exact wp_ret (rThen (sRet (.tuple #[.agg #[iv 0, iv 0], iv 16]) S (rsl2 rfl (rvN (c := 4) (t := 23) (T := 23) (p := b2) 0 [iv 0, iv 0] S rfl rfl rfl rfl) (rvT (t := 5) (v := iv 16) S rfl)) ⟨(.agg #[iv 0, iv 0]), rfl, S.mem.sel [] [0] (by decide) rfl rfl⟩))
    refine sCondT S rfl hc29 ?_
    refine sSeq (fun K30 hK30 => ?_)
    refine sRegion ?_
    refine sMove (iv p0) S (wN rfl) (.inl rfl) rfl rfl (lb rfl) fun a S => ?_
    obtain ⟨z31, hx32, h⟩ := bindSome h
    refine sBin (iv z31) S (wN rfl) rfl rfl rfl (bQuo _ _ _ _ (x := p0) (y := 2) hx32) rfl (lb rfl) fun a S => ?_
    refine sMove (iv p1) S (wN rfl) (.inl rfl) rfl rfl (lb rfl) fun a S => ?_
    obtain ⟨z33, hx34, h⟩ := bindSome h
    refine sBin (iv z33) S (wN rfl) rfl rfl rfl (bQuo _ _ _ _ (x := p1) (y := 2) hx34) rfl (lb rfl) fun a S => ?_
    obtain ⟨r35, hx36, h⟩ := bindSome h
    refine sCall (X := Value) (f := 5) (vs := [iv z31, iv z33]) (val := c_raddleref23_Make_s0_val r35) (B' := fun _ => []) (D' := c_raddleref23_Make_s0_D r35) [] [eBox b2 23 [iv 0, iv 0]] [] [0] [] S (wN rfl) rfl callee5 rfl (by decide) rfl rfl (fun E1 w1 S1 => c_raddleref23_Make_s0 E1 w1 z31 z33 r35 hx36 S1) rfl (lb rfl) fun u37 a w S => ?_
    obtain rfl : u37 = .agg #[iv r35.1.Num, iv r35.1.Den] := S.mem.know (i := 0) (e := fRep r_api_Ratio (u37) r35.1) rfl
    refine sExtract (vs := [.agg #[iv r35.1.Num, iv r35.1.Den], iv r35.2]) (.agg #[iv r35.1.Num, iv r35.1.Den]) S (wN rfl) rfl rfl rfl rfl (lb rfl) fun a S => ?_
    refine sExtract (vs := [.agg #[iv r35.1.Num, iv r35.1.Den], iv r35.2]) (iv r35.2) S (wN rfl) rfl rfl rfl rfl (lb rfl) fun a S => ?_
    refine sStore (p := b2) (off := 0) (T := 23) (vs := [iv 0, iv 0]) (v := .agg #[iv r35.1.Num, iv r35.1.Den]) 0 [iv r35.1.Num, iv r35.1.Den] S (wN rfl) rfl rfl rfl rfl rfl rfl rfl (by simp) rfl fun a w S => ?_
    refine sMove (iv r35.2) S (wN rfl) (.inr rfl) rfl rfl (lb rfl) fun a S => ?_
    refine leafL (leafT (hK30 _ _ ?_))
    obtain rfl := Option.some.inj h
    exact wp_ret (rThen (rThen (sRet (.tuple #[.agg #[iv r35.1.Num, iv r35.1.Den], iv r35.2]) S (rsl2 rfl (rvN (c := 4) (t := 23) (T := 23) (p := b2) 0 [iv r35.1.Num, iv r35.1.Den] S rfl rfl rfl rfl) (rvT (t := 5) (v := iv r35.2) S rfl)) ⟨(.agg #[iv r35.1.Num, iv r35.1.Den]), rfl, S.mem.sel [] [0] (by decide) rfl rfl⟩)))
  refine sCondF S rfl hc19 ?_
  refine wp_skip (leafT (hK14 _ _ ?_))
  obtain ⟨t41, h, g42⟩ := bindSome h
  refine sCut (fun a w => ∃ o39, ∃ o40, (o39, o40) = t41 ∧ St [] E [] w0 61 a w [(0, iv o39), (1, iv o40), (4, .pointer (some ⟨b2, 0, none⟩))] [eBox b2 23 [iv 0, iv 0]] []) ?_ (fun a w hI => ?_)
  · refine sSeq (fun K43 hK43 => ?_)
    refine sRegion ?_
    refine sMove (iv p1) S (wN rfl) (.inl rfl) rfl rfl (lb rfl) fun a S => ?_
    refine sBin (.bool (decide (p1 < 0))) S (wN rfl) rfl rfl rfl (bLt _ _ _ _ .i64 p1 0) rfl (lb rfl) fun a S => ?_
    refine leafL (leafT (hK43 _ _ ?_))
    rcases iteSome h with ⟨hc44, h⟩ | ⟨hc44, h⟩
    rotate_left
    · refine sCondF S rfl hc44 ?_
      exact wp_skip (leafT (⟨p0, p1, Option.some.inj h, S.fix [0] [] (by decide) rfl rfl rfl⟩))
    refine sCondT S rfl hc44 ?_
    refine sRegion ?_
    refine sMove (iv p0) S (wN rfl) (.inl rfl) rfl rfl (lb rfl) fun a S => ?_
    refine sNeg (b := p0) S (wN rfl) rfl rfl rfl (lb rfl) fun a S => ?_
    refine sMove (iv p1) S (wN rfl) (.inl rfl) rfl rfl (lb rfl) fun a S => ?_
    refine sNeg (b := p1) S (wN rfl) rfl rfl rfl (lb rfl) fun a S => ?_
    refine sMove (iv (w64 (0 - p0))) S (wN rfl) (.inr rfl) rfl rfl (lb rfl) fun a S => ?_
    refine sMove (iv (w64 (0 - p1))) S (wN rfl) (.inr rfl) rfl rfl (lb rfl) fun a S => ?_
    exact leafL (leafT (⟨w64 (0 - p0), w64 (0 - p1), Option.some.inj h, S.fix [0] [] (by decide) rfl rfl rfl⟩))
  obtain ⟨o39, o40, rfl, S⟩ := hI
  have h := g42
  clear g42
  try dsimp only at h
  refine sSeq (fun K45 hK45 => ?_)
  refine sRegion ?_
  refine sMove (iv o39) S (wN rfl) (.inl rfl) rfl rfl (lb rfl) fun a S => ?_
  refine sMove (iv o40) S (wN rfl) (.inl rfl) rfl rfl (lb rfl) fun a S => ?_
  obtain ⟨r46, hx47, h⟩ := bindSome h
  have S1 := S.mem
  refine sCallQ (X := Unit) (f := 12) (vs := [iv o39, iv o40]) (val := fun _ => iv r46) S (wN rfl) rfl callee12 rfl (S1.quiet [] rfl) (fun E1 w1 S1 => c_raddleref23_common E1 w1 o39 o40 r46 hx47 S1) rfl (lb rfl) fun _ a w S => ?_
  refine sMove (iv r46) S (wN rfl) (.inr rfl) rfl rfl (lb rfl) fun a S => ?_
  refine leafL (leafT (hK45 _ _ ?_))
  refine sSeq (fun K48 hK48 => ?_)
  obtain ⟨z49, hx50, h⟩ := bindSome h
  obtain ⟨z51, hx52, h⟩ := bindSome h
  refine sDraw (nf := [7, 8]) (W := [(0, 49, iv o39), (1, 50, iv r46), (2, 51, iv z49), (3, 52, iv o40), (4, 53, iv r46), (5, 54, iv z51), (6, 55, .agg #[iv z49, iv z51])]) rfl S ?_
  refine node_by (A := anc_raddleref23_Make_0) (nf := [7, 8]) (Y := []) (W := [(0, 49, iv o39), (1, 50, iv r46), (2, 51, iv z49), (3, 52, iv o40), (4, 53, iv r46), (5, 54, iv z51), (6, 55, .agg #[iv z49, iv z51])]) 9 (by kernel_rfl) (by kernel_rfl) (by kernel_rfl) (by kernel_rfl) (by kernel_rfl) [0, 1, 2, 3, 4, 5, 6] (by kernel_rfl) (by decide) (by decide) (aF 0 8 (by decide) ?_ (aF 1 7 (by decide) ?_ (aF 2 6 (by decide) ?_ (aF 3 5 (by decide) ?_ (aF 4 4 (by decide) ?_ (aF 5 3 (by decide) ?_ (aF 6 2 (by decide) ?_ (aN 7 1 (by decide) ?_ (aB 8 0 7 (by decide) (trivial)))))))))) [] (fun q hq => by cases hq) (fun hY => absurd (hY 7 (by decide)) (by decide))
  · refine fI 49 (iv o39) [(0, iv o39)] 0 [none] rfl rfl rfl rfl rfl rfl fun G a w S => ?_
    refine sMove (iv o39) S (wN rfl) (.inl rfl) rfl rfl (lb rfl) fun a S => ?_
    exact leafL ⟨rfl, S⟩
  · refine fI 50 (iv r46) [(6, iv r46)] 1 [none] rfl rfl rfl rfl rfl rfl fun G a w S => ?_
    refine sMove (iv r46) S (wN rfl) (.inl rfl) rfl rfl (lb rfl) fun a S => ?_
    exact leafL ⟨rfl, S⟩
  · refine fI 51 (iv z49) [(49, iv o39), (50, iv r46)] 2 [some 0, some 1] rfl rfl rfl rfl rfl rfl fun G a w S => ?_
    refine sBin (iv z49) S (wN rfl) rfl rfl rfl (bQuo _ _ _ _ (x := o39) (y := r46) hx50) rfl (lb rfl) fun a S => ?_
    exact leafL ⟨rfl, S⟩
  · refine fI 52 (iv o40) [(1, iv o40)] 3 [none] rfl rfl rfl rfl rfl rfl fun G a w S => ?_
    refine sMove (iv o40) S (wN rfl) (.inl rfl) rfl rfl (lb rfl) fun a S => ?_
    exact leafL ⟨rfl, S⟩
  · refine fI 53 (iv r46) [(6, iv r46)] 4 [none] rfl rfl rfl rfl rfl rfl fun G a w S => ?_
    refine sMove (iv r46) S (wN rfl) (.inl rfl) rfl rfl (lb rfl) fun a S => ?_
    exact leafL ⟨rfl, S⟩
  · refine fI 54 (iv z51) [(52, iv o40), (53, iv r46)] 5 [some 3, some 4] rfl rfl rfl rfl rfl rfl fun G a w S => ?_
    refine sBin (iv z51) S (wN rfl) rfl rfl rfl (bQuo _ _ _ _ (x := o40) (y := r46) hx52) rfl (lb rfl) fun a S => ?_
    exact leafL ⟨rfl, S⟩
  · refine fI 55 (.agg #[iv z49, iv z51]) [(51, iv z49), (54, iv z51)] 6 [some 2, some 5] rfl rfl rfl rfl rfl rfl fun G a w S => ?_
    refine sBuild [(0, iv z49), (1, iv z51)] [iv z49, iv z51] S (wN rfl) rfl rfl rfl rfl (lb rfl) fun a S => ?_
    exact leafL ⟨rfl, S⟩
  refine ⟨_, [], rfl, (srcs_of [] rfl rfl rfl), fun G a w S => ?_⟩
  refine sAlloc (.agg #[iv 0, iv 0]) S (wN rfl) rfl rfl [iv 0, iv 0] rfl rfl (lb rfl) fun a b54 w S => ?_
  refine leafL ⟨rfl, _, _, .inl ⟨7, (.pointer (some ⟨b54, 0, none⟩)), [], rfl, S, hz_of rfl, ?_⟩⟩
  refine node_by (A := anc_raddleref23_Make_0) (nf := [7, 8]) (Y := [7]) 9 (by kernel_rfl) (by kernel_rfl) (by kernel_rfl) (by kernel_rfl) (by kernel_rfl) [7, 0, 1, 2, 3, 4, 5, 6] (by kernel_rfl) (by decide) (by decide) (aF 0 8 (by decide) ?_ (aF 1 7 (by decide) ?_ (aF 2 6 (by decide) ?_ (aF 3 5 (by decide) ?_ (aF 4 4 (by decide) ?_ (aF 5 3 (by decide) ?_ (aF 6 2 (by decide) ?_ (aY 7 1 (by decide) (aN 8 0 (by decide) ?_ (trivial)))))))))) [] (fun q hq => by cases hq) (fun hY => absurd (hY 8 (by decide)) (by decide))
  · refine fI 49 (iv o39) [(0, iv o39)] 1 [none] rfl rfl rfl rfl rfl rfl fun G a w S => ?_
    refine sMove (iv o39) S (wN rfl) (.inl rfl) rfl rfl (lb rfl) fun a S => ?_
    exact leafL ⟨rfl, S⟩
  · refine fI 50 (iv r46) [(6, iv r46)] 2 [none] rfl rfl rfl rfl rfl rfl fun G a w S => ?_
    refine sMove (iv r46) S (wN rfl) (.inl rfl) rfl rfl (lb rfl) fun a S => ?_
    exact leafL ⟨rfl, S⟩
  · refine fI 51 (iv z49) [(49, iv o39), (50, iv r46)] 3 [some 1, some 2] rfl rfl rfl rfl rfl rfl fun G a w S => ?_
    refine sBin (iv z49) S (wN rfl) rfl rfl rfl (bQuo _ _ _ _ (x := o39) (y := r46) hx50) rfl (lb rfl) fun a S => ?_
    exact leafL ⟨rfl, S⟩
  · refine fI 52 (iv o40) [(1, iv o40)] 4 [none] rfl rfl rfl rfl rfl rfl fun G a w S => ?_
    refine sMove (iv o40) S (wN rfl) (.inl rfl) rfl rfl (lb rfl) fun a S => ?_
    exact leafL ⟨rfl, S⟩
  · refine fI 53 (iv r46) [(6, iv r46)] 5 [none] rfl rfl rfl rfl rfl rfl fun G a w S => ?_
    refine sMove (iv r46) S (wN rfl) (.inl rfl) rfl rfl (lb rfl) fun a S => ?_
    exact leafL ⟨rfl, S⟩
  · refine fI 54 (iv z51) [(52, iv o40), (53, iv r46)] 6 [some 4, some 5] rfl rfl rfl rfl rfl rfl fun G a w S => ?_
    refine sBin (iv z51) S (wN rfl) rfl rfl rfl (bQuo _ _ _ _ (x := o40) (y := r46) hx52) rfl (lb rfl) fun a S => ?_
    exact leafL ⟨rfl, S⟩
  · refine fI 55 (.agg #[iv z49, iv z51]) [(51, iv z49), (54, iv z51)] 7 [some 3, some 6] rfl rfl rfl rfl rfl rfl fun G a w S => ?_
    refine sBuild [(0, iv z49), (1, iv z51)] [iv z49, iv z51] S (wN rfl) rfl rfl rfl rfl (lb rfl) fun a S => ?_
    exact leafL ⟨rfl, S⟩
  refine ⟨_, [(7, .pointer (some ⟨b54, 0, none⟩)), (55, .agg #[iv z49, iv z51])], rfl, (srcs_of [some 0, some 7] rfl rfl rfl), fun G a w S => ?_⟩
  refine sStore (p := b54) (off := 0) (T := 23) (vs := [iv 0, iv 0]) (v := .agg #[iv z49, iv z51]) 0 [iv z49, iv z51] S (wN rfl) rfl rfl rfl rfl rfl rfl rfl (by simp) rfl fun a w S => ?_
  refine leafL ⟨rfl, _, _, .inr ⟨[], rfl, S, hz_of rfl, ?_⟩⟩
  refine node_by (A := anc_raddleref23_Make_0) (nf := [7, 8]) (Y := [8, 7]) 9 (by kernel_rfl) (by kernel_rfl) (by kernel_rfl) (by kernel_rfl) (by kernel_rfl) [7, 0, 1, 2, 3, 4, 5, 6] (by kernel_rfl) (by decide) (by decide) (aD 0 8 8 (by decide) (aD 1 7 8 (by decide) (aD 2 6 8 (by decide) (aD 3 5 8 (by decide) (aD 4 4 8 (by decide) (aD 5 3 8 (by decide) (aD 6 2 8 (by decide) (aY 7 1 (by decide) (aY 8 0 (by decide) (trivial)))))))))) [(4, .pointer (some ⟨b2, 0, none⟩)), (7, .pointer (some ⟨b54, 0, none⟩))] (fin_of [none, some 0] rfl (by kernel_rfl) (by kernel_rfl)) (fun _ a w S => ?_)
  refine leafT (hK48 _ _ ?_)
  refine sSeq (fun K55 hK55 => ?_)
  refine sSeq (fun K56 hK56 => ?_)
  refine sRegion ?_
  refine sLoadN (p := b54) (off := 0) (T := 23) (vs := [iv z49, iv z51]) 0 [iv z49, iv z51] S (wN rfl) rfl rfl rfl rfl rfl rfl rfl (lb rfl) fun a S => ?_
  obtain ⟨r57, hx58, h⟩ := bindSome h
  have S1 := S.mem
  have S1 := S1.learn (fRep r_api_Ratio (.agg #[iv z49, iv z51]) (api_Ratio.mk z49 z51)) rfl
  refine sCallQ (X := Unit) (f := 13) (vs := [.agg #[iv z49, iv z51]]) (val := fun _ => iv r57) S (wN rfl) rfl callee13 rfl (S1.quiet [0] rfl) (fun E1 w1 S1 => c_raddleref23_Check E1 w1 (api_Ratio.mk z49 z51) (.agg #[iv z49, iv z51]) r57 hx58 S1) rfl (lb rfl) fun _ a w S => ?_
  refine sBin (.bool (r57 != 0)) S (wN rfl) rfl rfl rfl (bNe _ _ _ _ .i64 r57 0) rfl (lb rfl) fun a S => ?_
  refine leafL (leafT (hK56 _ _ ?_))
  rcases iteSome h with ⟨hc59, h⟩ | ⟨hc59, h⟩
  · refine sCondT S rfl hc59 ?_
    refine sSeq (fun K60 hK60 => ?_)
    refine sRegion ?_
    refine sBuild [] [iv 0, iv 0] S (wN rfl) rfl rfl rfl rfl (lb rfl) fun a S => ?_
    refine sStore (p := b2) (off := 0) (T := 23) (vs := [iv 0, iv 0]) (v := .agg #[iv 0, iv 0]) 1 [iv 0, iv 0] S (wN rfl) rfl rfl rfl rfl rfl rfl rfl (by simp) rfl fun a w S => ?_
    refine sMove (iv 16) S (wN rfl) (.inr rfl) rfl rfl (lb rfl) fun a S => ?_
    refine leafL (leafT (hK60 _ _ ?_))
    obtain rfl := Option.some.inj h
    have S := S.learn (fRep r_api_Ratio (.agg #[iv 0, iv 0]) (api_Ratio.mk 0 0)) rfl
    exact wp_ret (rThen (sRet (.tuple #[.agg #[iv 0, iv 0], iv 16]) S (rsl2 rfl (rvN (c := 4) (t := 23) (T := 23) (p := b2) 0 [iv 0, iv 0] S rfl rfl rfl rfl) (rvT (t := 5) (v := iv 16) S rfl)) ⟨(.agg #[iv 0, iv 0]), rfl, S.mem.sel [] [0] (by decide) rfl rfl⟩))
  refine sCondF S rfl hc59 ?_
  refine wp_skip (leafT (hK55 _ _ ?_))
  refine sSeq (fun K61 hK61 => ?_)
  refine sRegion ?_
  refine sLoadN (p := b54) (off := 0) (T := 23) (vs := [iv z49, iv z51]) 0 [iv z49, iv z51] S (wN rfl) rfl rfl rfl rfl rfl rfl rfl (lb rfl) fun a S => ?_
  refine sStore (p := b2) (off := 0) (T := 23) (vs := [iv 0, iv 0]) (v := .agg #[iv z49, iv z51]) 1 [iv z49, iv z51] S (wN rfl) rfl rfl rfl rfl rfl rfl rfl (by simp) rfl fun a w S => ?_
  refine sMove (iv 0) S (wN rfl) (.inr rfl) rfl rfl (lb rfl) fun a S => ?_
  refine leafL (leafT (hK61 _ _ ?_))
  obtain rfl := Option.some.inj h
  have S := S.learn (fRep r_api_Ratio (.agg #[iv z49, iv z51]) (api_Ratio.mk z49 z51)) rfl
  exact wp_ret (sRet (.tuple #[.agg #[iv z49, iv z51], iv 0]) S (rsl2 rfl (rvN (c := 4) (t := 23) (T := 23) (p := b2) 0 [iv z49, iv z51] S rfl rfl rfl rfl) (rvT (t := 5) (v := iv 0) S rfl)) ⟨(.agg #[iv z49, iv z51]), rfl, S.mem.sel [] [0] (by decide) rfl rfl⟩)

end Go.Proofs.YtdfjcpnflmgdoaaDoor
namespace Go.Proofs.YtdfjcpnflmgdoaaDoor
open Go.RowKit
set_option linter.unusedVariables false

theorem gcd_loop {B : Int × Int → Option ((Int × Int) ⊕ Int)} (hB : ∀ a b : Int, B (a, b) = if (b != 0) = true then Option.bind (remI a b) fun z => some (.inl (b, z)) else some (.inr a)) (a b : Nat) : whileO B ((a : Int), (b : Int)) = some ((Nat.gcd a b : Nat) : Int) := by
  have key : ∃ t, whileO B ((a : Int), (b : Int)) = some t ∧ t = ((Nat.gcd a b : Nat) : Int) := by
    refine whileO_inv (fun s => ∃ x y : Nat, s = ((x : Int), (y : Int)) ∧ Nat.gcd x y = Nat.gcd a b) (fun s => s.2.toNat) _ ⟨a, b, rfl, rfl⟩ ?_
    rintro s ⟨x, y, rfl, hg⟩
    rw [hB]
    by_cases hy : y = 0
    · subst hy
      refine .inr ⟨(x : Int), by simp, ?_⟩
      rw [← hg, Nat.gcd_zero_right]
    · have h1 : ((y : Int) != 0) = true := nT (by omega)
      have h2 : remI (x : Int) (y : Int) = some ((x % y : Nat) : Int) := by
        unfold remI
        rw [if_neg (by omega)]
        rfl
      refine .inl ⟨((y : Int), ((x % y : Nat) : Int)), by rw [if_pos h1, h2]; rfl, ⟨y, x % y, rfl, ?_⟩, ?_⟩
      · rw [← hg, Nat.gcd_comm x y, Nat.gcd_rec y x, Nat.gcd_comm]
      · have := Nat.mod_lt x (Nat.pos_of_ne_zero hy)
        show ((x % y : Nat) : Int).toNat < ((y : Nat) : Int).toNat
        omega
  obtain ⟨t, h1, rfl⟩ := key
  exact h1
theorem ygcd_eq (a b : Nat) : F_yarn_gcd (a : Int) (b : Int) = some ((Nat.gcd a b : Nat) : Int) := by
  unfold F_yarn_gcd
  rw [gcd_loop (fun a b => rfl)]
  rfl
theorem u64_of {x : Int} (h0 : 0 ≤ x) (h1 : x ≤ 18446744073709551615) : IntKind.u64.wrap x = x := by
  unfold IntKind.wrap
  simp [IntKind.bits, IntKind.signed]
  omega
theorem i64_of {x : Int} (h0 : -9223372036854775808 ≤ x) (h1 : x ≤ 9223372036854775807) : IntKind.i64.wrap x = x := w64_of h0 h1
/-- the ratio of two numbers that are not negative -/
def mk (a b : Nat) : api_Ratio × Int := if a / Nat.gcd a b ≤ 1000000000 ∧ b / Nat.gcd a b ≤ 1000000000 then (⟨((a / Nat.gcd a b : Nat) : Int), ((b / Nat.gcd a b : Nat) : Int)⟩, 0) else (⟨0, 0⟩, 16)
theorem quo_nat {a g : Nat} (hg : 0 < g) (ha : a ≤ 9223372036854775807) : quoI (a : Int) (g : Int) = some ((a / g : Nat) : Int) := by
  unfold quoI
  rw [if_neg (by omega)]
  have h1 : a / g ≤ a := Nat.div_le_self _ _
  have : ((a : Int).tdiv (g : Int)) = ((a / g : Nat) : Int) := rfl
  have hq : w64 ((a / g : Nat) : Int) = ((a / g : Nat) : Int) := by
    generalize a / g = q at *
    exact w64_of (by omega) (by omega)
  rw [this, hq]
end Go.Proofs.YtdfjcpnflmgdoaaDoor
namespace Go.Proofs.YtdfjcpnflmgdoaaDoor
open Go.RowKit
set_option linter.unusedVariables false

def anc_yarn_Check_0 : List (List Nat) := [[], [0], [0, 1], [0, 1, 2], [0, 1, 2, 3], [0, 1, 2, 3, 4], [0, 1, 2, 3, 4, 5], [0, 1, 2, 3, 4, 5, 6], [0, 1, 2, 3, 4, 5, 6, 7], [0, 1, 2, 3, 4, 5, 6, 7, 8], [0, 1, 2, 3, 4, 5, 6, 7, 8, 9], [0, 1, 2, 3, 4, 5, 6, 7, 8, 9, 10], [0, 1, 2, 3, 4, 5, 6, 7, 8, 9, 10, 11], [0, 1, 2, 3, 4, 5, 6, 7, 8, 9, 10, 11, 12], [0, 1, 2, 3, 4, 5, 6, 7, 8, 9, 10, 11, 12, 13], [0, 1, 2, 3, 4, 5, 6, 7, 8, 9, 10, 11, 12, 13, 14], [0, 1, 2, 3, 4, 5, 6, 7, 8, 9, 10, 11, 12, 13, 14, 15], [0, 1, 2, 3, 4, 5, 6, 7, 8, 9, 10, 11, 12, 13, 14, 15, 16], [0, 1, 2, 3, 4, 5, 6, 7, 8, 9, 10, 11, 12, 13, 14], [0, 1, 2, 3, 4, 5, 6, 7, 8, 9, 10, 11, 12, 13, 14, 18], [0, 1, 2, 3, 4, 5, 6, 7, 8, 9, 10, 11, 12, 13, 14, 18, 19], [0, 1, 2, 3, 4, 5, 6, 7, 8, 9, 10, 11, 12, 13, 14, 15, 16, 17, 18, 19, 20], [0, 1, 2, 3, 4, 5, 6, 7, 8, 9, 10, 11, 12, 13, 14, 15, 16, 17, 18, 19, 20, 21], [0, 1, 2, 3, 4, 5, 6, 7, 8, 9, 10, 11, 12, 13, 14, 15, 16, 17, 18, 19, 20, 21, 22]]
noncomputable def F_yarn_Check (p0 : api_Ratio) : Option Int :=
  Option.bind (α := Bool) (
    if decide (p0.Den < 1) then
      some true
    else
      if decide (1000000000 < p0.Den) then
        some true
      else
        Option.bind (F_yarn_size p0.Num) fun r9 =>
        if decide (1000000000 < r9) then
          some true
        else
          Option.bind (F_yarn_gcd r9 (IntKind.u64.wrap p0.Den)) fun r12 =>
          some (r12 != 1)) fun o4 =>
  if o4 then
    some 8
  else
    some 0
set_option maxHeartbeats 4000000 in
set_option maxRecDepth 100000 in
theorem c_yarn_Check (E : Nat → Prop) (w0 : World) (p0 : api_Ratio) (v0 : Value) (r : Int) (h : F_yarn_Check p0 = some r) (S : St0 E [] w0 w0 [] [fRep r_api_Ratio (v0) p0]) :
    Calls Tryd.prog 14 #[v0] w0 (Ret (X := Unit) E [] w0 (fun _ => .int .i64 r) (fun _ => []) (fun _ => [])) := by
  unfold F_yarn_Check at h
  obtain rfl : v0 = .agg #[iv p0.Num, iv p0.Den] := S.know (i := 0) (e := fRep r_api_Ratio (v0) p0) rfl
  refine sEnter (args := [.agg #[iv p0.Num, iv p0.Den]]) 27 Tryd.func14 rfl rfl (by simp) S (fun a S => ?_)
  refine sSeq (fun K1 hK1 => ?_)
  refine sRegion ?_
  refine sBox (v := .agg #[iv p0.Num, iv p0.Den]) S (wN rfl) rfl rfl [iv p0.Num, iv p0.Den] rfl rfl (lb rfl) fun a b2 w S => ?_
  refine sMove (iv 0) S (wN rfl) (.inr rfl) rfl rfl (lb rfl) fun a S => ?_
  refine leafL (leafT (hK1 _ _ ?_))
  refine sSeq (fun K3 hK3 => ?_)
  obtain ⟨t5, h, g6⟩ := bindSome h
  refine sCut (fun a w => ∃ o4, o4 = t5 ∧ St [] E [] w0 27 a w [(26, .bool o4)] [] []) ?_ (fun a w hI => ?_)
  rotate_left
  · obtain ⟨o4, rfl, S⟩ := hI
    have h := g6
    clear g6
    try dsimp only at h
    rcases iteSome h with ⟨hc14, h⟩ | ⟨hc14, h⟩
    · refine sCondT S rfl hc14 ?_
      refine sSeq (fun K15 hK15 => ?_)
      refine sRegion ?_
      refine sMove (iv 8) S (wN rfl) (.inr rfl) rfl rfl (lb rfl) fun a S => ?_
      refine leafL (leafT (hK15 _ _ ?_))
      obtain rfl := Option.some.inj h
      exact wp_ret (rThen (sRet (iv 8) S (rsl1 rfl (rvT (t := 2) (v := iv 8) S rfl)) ⟨(), rfl, S.mem.sel [] [] (by decide) rfl rfl⟩))
    refine sCondF S rfl hc14 ?_
    refine wp_skip (leafT (hK3 _ _ ?_))
    refine sSeq (fun K16 hK16 => ?_)
    refine sRegion ?_
    refine sMove (iv 0) S (wN rfl) (.inr rfl) rfl rfl (lb rfl) fun a S => ?_
    refine leafL (leafT (hK16 _ _ ?_))
    obtain rfl := Option.some.inj h
    exact wp_ret (sRet (iv 0) S (rsl1 rfl (rvT (t := 2) (v := iv 0) S rfl)) ⟨(), rfl, S.mem.sel [] [] (by decide) rfl rfl⟩)
  rcases iteSome h with ⟨hc7, h⟩ | ⟨hc7, h⟩
  · refine sDraw (nf := []) (W := [(0, 3, .pointer (some ⟨b2, 1, none⟩)), (1, 4, iv p0.Den), (2, 5, .bool (decide (p0.Den < 1))), (3, 6, .bool (decide (p0.Den < 1))), (4, 7, undef), (5, 8, undef), (6, 9, undef), (7, 10, .bool true), (8, 11, .bool true), (9, 12, undef), (10, 13, undef), (11, 14, undef), (12, 15, undef), (13, 16, .bool true), (14, 17, .bool true), (15, 18, undef), (16, 19, undef), (17, 20, undef), (18, 21, undef), (19, 22, undef), (20, 23, undef), (21, 24, undef), (22, 25, undef), (23, 26, .bool true)]) rfl S ?_
    refine node_by (A := anc_yarn_Check_0) (nf := []) (Y := []) (W := [(0, 3, .pointer (some ⟨b2, 1, none⟩)), (1, 4, iv p0.Den), (2, 5, .bool (decide (p0.Den < 1))), (3, 6, .bool (decide (p0.Den < 1))), (4, 7, undef), (5, 8, undef), (6, 9, undef), (7, 10, .bool true), (8, 11, .bool true), (9, 12, undef), (10, 13, undef), (11, 14, undef), (12, 15, undef), (13, 16, .bool true), (14, 17, .bool true), (15, 18, undef), (16, 19, undef), (17, 20, undef), (18, 21, undef), (19, 22, undef), (20, 23, undef), (21, 24, undef), (22, 25, undef), (23, 26, .bool true)]) 24 (by kernel_rfl) (by kernel_rfl) (by kernel_rfl) (by kernel_rfl) (by kernel_rfl) [0, 1, 2, 3, 4, 5, 6, 7, 8, 9, 10, 11, 12, 13, 14, 15, 16, 17, 18, 19, 20, 21, 22, 23] (by kernel_rfl) (by decide) (by decide) (aF 0 23 (by decide) ?_ (aF 1 22 (by decide) ?_ (aF 2 21 (by decide) ?_ (aF 3 20 (by decide) ?_ (aF 4 19 (by decide) ?_ (aF 5 18 (by decide) ?_ (aF 6 17 (by decide) ?_ (aF 7 16 (by decide) ?_ (aF 8 15 (by decide) ?_ (aF 9 14 (by decide) ?_ (aF 10 13 (by decide) ?_ (aF 11 12 (by decide) ?_ (aF 12 11 (by decide) ?_ (aF 13 10 (by decide) ?_ (aF 14 9 (by decide) ?_ (aF 15 8 (by decide) ?_ (aF 16 7 (by decide) ?_ (aF 17 6 (by decide) ?_ (aF 18 5 (by decide) ?_ (aF 19 4 (by decide) ?_ (aF 20 3 (by decide) ?_ (aF 21 2 (by decide) ?_ (aF 22 1 (by decide) ?_ (aF 23 0 (by decide) ?_ (trivial))))))))))))))))))))))))) [(26, .bool true)] (fin_of [some 23] rfl (by kernel_rfl) (by kernel_rfl)) (fun _ a w S => ?_)
    · refine fI 3 (.pointer (some ⟨b2, 1, none⟩)) [(1, .pointer (some ⟨b2, 0, none⟩))] 0 [none] rfl rfl rfl rfl rfl rfl fun G a w S => ?_
      refine sField (b := b2) (off := 0) 1 1 S (wN rfl) rfl rfl rfl rfl rfl (lb rfl) fun a S => ?_
      exact leafL ⟨rfl, S⟩
    · refine fI 4 (iv p0.Den) [(3, .pointer (some ⟨b2, 1, none⟩))] 1 [some 0] rfl rfl rfl rfl rfl rfl fun G a w S => ?_
      refine sLoad1 (p := b2) (off := 1) (T := 23) (vs := [iv p0.Num, iv p0.Den]) 0 (iv p0.Den) S (wN rfl) rfl rfl rfl rfl rfl rfl (lb rfl) fun a S => ?_
      exact leafL ⟨rfl, S⟩
    · refine fI 5 (.bool (decide (p0.Den < 1))) [(4, iv p0.Den)] 2 [some 1] rfl rfl rfl rfl rfl rfl fun G a w S => ?_
      refine sBin (.bool (decide (p0.Den < 1))) S (wN rfl) rfl rfl rfl (bLt _ _ _ _ .i64 p0.Den 1) rfl (lb rfl) fun a S => ?_
      exact leafL ⟨rfl, S⟩
    · refine fI 6 (.bool (decide (p0.Den < 1))) [(5, .bool (decide (p0.Den < 1)))] 3 [some 2] rfl rfl rfl rfl rfl rfl fun G a w S => ?_
      refine sMove (.bool (decide (p0.Den < 1))) S (wN rfl) (.inl rfl) rfl rfl (lb rfl) fun a S => ?_
      exact leafL ⟨rfl, S⟩
    · refine fI 7 undef [(1, .pointer (some ⟨b2, 0, none⟩)), (6, .bool (decide (p0.Den < 1)))] 4 [none, some 3] rfl rfl rfl rfl rfl rfl fun G a w S => ?_
      refine sSkip 3 false 6 7 S rfl rfl rfl hc7 rfl (lb rfl) fun a S => ?_
      exact leafL ⟨rfl, S⟩
    · refine fI 8 undef [(7, undef), (6, .bool (decide (p0.Den < 1)))] 5 [some 4, some 3] rfl rfl rfl rfl rfl rfl fun G a w S => ?_
      refine sSkip 3 false 6 8 S rfl rfl rfl hc7 rfl (lb rfl) fun a S => ?_
      exact leafL ⟨rfl, S⟩
    · refine fI 9 undef [(8, undef), (6, .bool (decide (p0.Den < 1)))] 6 [some 5, some 3] rfl rfl rfl rfl rfl rfl fun G a w S => ?_
      refine sSkip 3 false 6 9 S rfl rfl rfl hc7 rfl (lb rfl) fun a S => ?_
      exact leafL ⟨rfl, S⟩
    · refine fI 10 (.bool true) [(6, .bool (decide (p0.Den < 1))), (9, undef)] 7 [some 3, some 6] rfl rfl rfl rfl rfl rfl fun G a w S => ?_
      refine sPickT (.bool true) S (wN rfl) rfl rfl hc7 rfl rfl (lb rfl) fun a S => ?_
      exact leafL ⟨rfl, S⟩
    · refine fI 11 (.bool true) [(10, .bool true)] 8 [some 7] rfl rfl rfl rfl rfl rfl fun G a w S => ?_
      refine sMove (.bool true) S (wN rfl) (.inl rfl) rfl rfl (lb rfl) fun a S => ?_
      exact leafL ⟨rfl, S⟩
    · refine fI 12 undef [(1, .pointer (some ⟨b2, 0, none⟩)), (11, .bool true)] 9 [none, some 8] rfl rfl rfl rfl rfl rfl fun G a w S => ?_
      refine sSkip 8 false 11 12 S rfl rfl rfl rfl rfl (lb rfl) fun a S => ?_
      exact leafL ⟨rfl, S⟩
    · refine fI 13 undef [(12, undef), (11, .bool true)] 10 [some 9, some 8] rfl rfl rfl rfl rfl rfl fun G a w S => ?_
      refine sSkip 8 false 11 13 S rfl rfl rfl rfl rfl (lb rfl) fun a S => ?_
      exact leafL ⟨rfl, S⟩
    · refine fI 14 undef [(13, undef), (11, .bool true)] 11 [some 10, some 8] rfl rfl rfl rfl rfl rfl fun G a w S => ?_
      refine sSkip 8 false 11 14 S rfl rfl rfl rfl rfl (lb rfl) fun a S => ?_
      exact leafL ⟨rfl, S⟩
    · refine fI 15 undef [(14, undef), (11, .bool true)] 12 [some 11, some 8] rfl rfl rfl rfl rfl rfl fun G a w S => ?_
      refine sSkip 8 false 11 15 S rfl rfl rfl rfl rfl (lb rfl) fun a S => ?_
      exact leafL ⟨rfl, S⟩
    · refine fI 16 (.bool true) [(11, .bool true), (15, undef)] 13 [some 8, some 12] rfl rfl rfl rfl rfl rfl fun G a w S => ?_
      refine sPickT (.bool true) S (wN rfl) rfl rfl rfl rfl rfl (lb rfl) fun a S => ?_
      exact leafL ⟨rfl, S⟩
    · refine fI 17 (.bool true) [(16, .bool true)] 14 [some 13] rfl rfl rfl rfl rfl rfl fun G a w S => ?_
      refine sMove (.bool true) S (wN rfl) (.inl rfl) rfl rfl (lb rfl) fun a S => ?_
      exact leafL ⟨rfl, S⟩
    · refine fI 18 undef [(1, .pointer (some ⟨b2, 0, none⟩)), (17, .bool true)] 15 [none, some 14] rfl rfl rfl rfl rfl rfl fun G a w S => ?_
      refine sSkip 14 false 17 18 S rfl rfl rfl rfl rfl (lb rfl) fun a S => ?_
      exact leafL ⟨rfl, S⟩
    · refine fI 19 undef [(18, undef), (17, .bool true)] 16 [some 15, some 14] rfl rfl rfl rfl rfl rfl fun G a w S => ?_
      refine sSkip 14 false 17 19 S rfl rfl rfl rfl rfl (lb rfl) fun a S => ?_
      exact leafL ⟨rfl, S⟩
    · refine fI 20 undef [(19, undef), (17, .bool true)] 17 [some 16, some 14] rfl rfl rfl rfl rfl rfl fun G a w S => ?_
      refine sSkip 14 false 17 20 S rfl rfl rfl rfl rfl (lb rfl) fun a S => ?_
      exact leafL ⟨rfl, S⟩
    · refine fI 21 undef [(1, .pointer (some ⟨b2, 0, none⟩)), (17, .bool true)] 18 [none, some 14] rfl rfl rfl rfl rfl rfl fun G a w S => ?_
      refine sSkip 14 false 17 21 S rfl rfl rfl rfl rfl (lb rfl) fun a S => ?_
      exact leafL ⟨rfl, S⟩
    · refine fI 22 undef [(21, undef), (17, .bool true)] 19 [some 18, some 14] rfl rfl rfl rfl rfl rfl fun G a w S => ?_
      refine sSkip 14 false 17 22 S rfl rfl rfl rfl rfl (lb rfl) fun a S => ?_
      exact leafL ⟨rfl, S⟩
    · refine fI 23 undef [(22, undef), (17, .bool true)] 20 [some 19, some 14] rfl rfl rfl rfl rfl rfl fun G a w S => ?_
      refine sSkip 14 false 17 23 S rfl rfl rfl rfl rfl (lb rfl) fun a S => ?_
      exact leafL ⟨rfl, S⟩
    · refine fI 24 undef [(20, undef), (23, undef), (17, .bool true)] 21 [some 17, some 20, some 14] rfl rfl rfl rfl rfl rfl fun G a w S => ?_
      refine sSkip 14 false 17 24 S rfl rfl rfl rfl rfl (lb rfl) fun a S => ?_
      exact leafL ⟨rfl, S⟩
    · refine fI 25 undef [(24, undef), (17, .bool true)] 22 [some 21, some 14] rfl rfl rfl rfl rfl rfl fun G a w S => ?_
      refine sSkip 14 false 17 25 S rfl rfl rfl rfl rfl (lb rfl) fun a S => ?_
      exact leafL ⟨rfl, S⟩
    · refine fI 26 (.bool true) [(17, .bool true), (25, undef)] 23 [some 14, some 22] rfl rfl rfl rfl rfl rfl fun G a w S => ?_
      refine sPickT (.bool true) S (wN rfl) rfl rfl rfl rfl rfl (lb rfl) fun a S => ?_
      exact leafL ⟨rfl, S⟩
    exact leafT (⟨true, Option.some.inj h, S.fix [] [] (by decide) rfl rfl rfl⟩)
  rcases iteSome h with ⟨hc8, h⟩ | ⟨hc8, h⟩
  · refine sDraw (nf := []) (W := [(0, 3, .pointer (some ⟨b2, 1, none⟩)), (1, 4, iv p0.Den), (2, 5, .bool (decide (p0.Den < 1))), (3, 6, .bool (decide (p0.Den < 1))), (4, 7, .pointer (some ⟨b2, 1, none⟩)), (5, 8, iv p0.Den), (6, 9, .bool (decide (1000000000 < p0.Den))), (7, 10, .bool (decide (1000000000 < p0.Den))), (8, 11, .bool (decide (1000000000 < p0.Den))), (9, 12, undef), (10, 13, undef), (11, 14, undef), (12, 15, undef), (13, 16, .bool true), (14, 17, .bool true), (15, 18, undef), (16, 19, undef), (17, 20, undef), (18, 21, undef), (19, 22, undef), (20, 23, undef), (21, 24, undef), (22, 25, undef), (23, 26, .bool true)]) rfl S ?_
    refine node_by (A := anc_yarn_Check_0) (nf := []) (Y := []) (W := [(0, 3, .pointer (some ⟨b2, 1, none⟩)), (1, 4, iv p0.Den), (2, 5, .bool (decide (p0.Den < 1))), (3, 6, .bool (decide (p0.Den < 1))), (4, 7, .pointer (some ⟨b2, 1, none⟩)), (5, 8, iv p0.Den), (6, 9, .bool (decide (1000000000 < p0.Den))), (7, 10, .bool (decide (1000000000 < p0.Den))), (8, 11, .bool (decide (1000000000 < p0.Den))), (9, 12, undef), (10, 13, undef), (11, 14, undef), (12, 15, undef), (13, 16, .bool true), (14, 17, .bool true), (15, 18, undef), (16, 19, undef), (17, 20, undef), (18, 21, undef), (19, 22, undef), (20, 23, undef), (21, 24, undef), (22, 25, undef), (23, 26, .bool true)]) 24 (by kernel_rfl) (by kernel_rfl) (by kernel_rfl) (by kernel_rfl) (by kernel_rfl) [0, 1, 2, 3, 4, 5, 6, 7, 8, 9, 10, 11, 12, 13, 14, 15, 16, 17, 18, 19, 20, 21, 22, 23] (by kernel_rfl) (by decide) (by decide) (aF 0 23 (by decide) ?_ (aF 1 22 (by decide) ?_ (aF 2 21 (by decide) ?_ (aF 3 20 (by decide) ?_ (aF 4 19 (by decide) ?_ (aF 5 18 (by decide) ?_ (aF 6 17 (by decide) ?_ (aF 7 16 (by decide) ?_ (aF 8 15 (by decide) ?_ (aF 9 14 (by decide) ?_ (aF 10 13 (by decide) ?_ (aF 11 12 (by decide) ?_ (aF 12 11 (by decide) ?_ (aF 13 10 (by decide) ?_ (aF 14 9 (by decide) ?_ (aF 15 8 (by decide) ?_ (aF 16 7 (by decide) ?_ (aF 17 6 (by decide) ?_ (aF 18 5 (by decide) ?_ (aF 19 4 (by decide) ?_ (aF 20 3 (by decide) ?_ (aF 21 2 (by decide) ?_ (aF 22 1 (by decide) ?_ (aF 23 0 (by decide) ?_ (trivial))))))))))))))))))))))))) [(26, .bool true)] (fin_of [some 23] rfl (by kernel_rfl) (by kernel_rfl)) (fun _ a w S => ?_)
    · refine fI 3 (.pointer (some ⟨b2, 1, none⟩)) [(1, .pointer (some ⟨b2, 0, none⟩))] 0 [none] rfl rfl rfl rfl rfl rfl fun G a w S => ?_
      refine sField (b := b2) (off := 0) 1 1 S (wN rfl) rfl rfl rfl rfl rfl (lb rfl) fun a S => ?_
      exact leafL ⟨rfl, S⟩
    · refine fI 4 (iv p0.Den) [(3, .pointer (some ⟨b2, 1, none⟩))] 1 [some 0] rfl rfl rfl rfl rfl rfl fun G a w S => ?_
      refine sLoad1 (p := b2) (off := 1) (T := 23) (vs := [iv p0.Num, iv p0.Den]) 0 (iv p0.Den) S (wN rfl) rfl rfl rfl rfl rfl rfl (lb rfl) fun a S => ?_
      exact leafL ⟨rfl, S⟩
    · refine fI 5 (.bool (decide (p0.Den < 1))) [(4, iv p0.Den)] 2 [some 1] rfl rfl rfl rfl rfl rfl fun G a w S => ?_
      refine sBin (.bool (decide (p0.Den < 1))) S (wN rfl) rfl rfl rfl (bLt _ _ _ _ .i64 p0.Den 1) rfl (lb rfl) fun a S => ?_
      exact leafL ⟨rfl, S⟩
    · refine fI 6 (.bool (decide (p0.Den < 1))) [(5, .bool (decide (p0.Den < 1)))] 3 [some 2] rfl rfl rfl rfl rfl rfl fun G a w S => ?_
      refine sMove (.bool (decide (p0.Den < 1))) S (wN rfl) (.inl rfl) rfl rfl (lb rfl) fun a S => ?_
      exact leafL ⟨rfl, S⟩
    · refine fI 7 (.pointer (some ⟨b2, 1, none⟩)) [(1, .pointer (some ⟨b2, 0, none⟩)), (6, .bool (decide (p0.Den < 1)))] 4 [none, some 3] rfl rfl rfl rfl rfl rfl fun G a w S => ?_
      refine sField (b := b2) (off := 0) 1 1 S (wG 3 false 6 rfl rfl rfl hc7) rfl rfl rfl rfl rfl (lb rfl) fun a S => ?_
      exact leafL ⟨rfl, S⟩
    · refine fI 8 (iv p0.Den) [(7, .pointer (some ⟨b2, 1, none⟩)), (6, .bool (decide (p0.Den < 1)))] 5 [some 4, some 3] rfl rfl rfl rfl rfl rfl fun G a w S => ?_
      refine sLoad1 (p := b2) (off := 1) (T := 23) (vs := [iv p0.Num, iv p0.Den]) 0 (iv p0.Den) S (wG 3 false 6 rfl rfl rfl hc7) rfl rfl rfl rfl rfl rfl (lb rfl) fun a S => ?_
      exact leafL ⟨rfl, S⟩
    · refine fI 9 (.bool (decide (1000000000 < p0.Den))) [(8, iv p0.Den), (6, .bool (decide (p0.Den < 1)))] 6 [some 5, some 3] rfl rfl rfl rfl rfl rfl fun G a w S => ?_
      refine sBin (.bool (decide (1000000000 < p0.Den))) S (wG 3 false 6 rfl rfl rfl hc7) rfl rfl rfl (bGt _ _ _ _ .i64 p0.Den 1000000000) rfl (lb rfl) fun a S => ?_
      exact leafL ⟨rfl, S⟩
    · refine fI 10 (.bool (decide (1000000000 < p0.Den))) [(6, .bool (decide (p0.Den < 1))), (9, .bool (decide (1000000000 < p0.Den)))] 7 [some 3, some 6] rfl rfl rfl rfl rfl rfl fun G a w S => ?_
      refine sPickF (.bool (decide (1000000000 < p0.Den))) S (wN rfl) rfl rfl hc7 rfl rfl (lb rfl) fun a S => ?_
      exact leafL ⟨rfl, S⟩
    · refine fI 11 (.bool (decide (1000000000 < p0.Den))) [(10, .bool (decide (1000000000 < p0.Den)))] 8 [some 7] rfl rfl rfl rfl rfl rfl fun G a w S => ?_
      refine sMove (.bool (decide (1000000000 < p0.Den))) S (wN rfl) (.inl rfl) rfl rfl (lb rfl) fun a S => ?_
      exact leafL ⟨rfl, S⟩
    · refine fI 12 undef [(1, .pointer (some ⟨b2, 0, none⟩)), (11, .bool (decide (1000000000 < p0.Den)))] 9 [none, some 8] rfl rfl rfl rfl rfl rfl fun G a w S => ?_
      refine sSkip 8 false 11 12 S rfl rfl rfl hc8 rfl (lb rfl) fun a S => ?_
      exact leafL ⟨rfl, S⟩
    · refine fI 13 undef [(12, undef), (11, .bool (decide (1000000000 < p0.Den)))] 10 [some 9, some 8] rfl rfl rfl rfl rfl rfl fun G a w S => ?_
      refine sSkip 8 false 11 13 S rfl rfl rfl hc8 rfl (lb rfl) fun a S => ?_
      exact leafL ⟨rfl, S⟩
    · refine fI 14 undef [(13, undef), (11, .bool (decide (1000000000 < p0.Den)))] 11 [some 10, some 8] rfl rfl rfl rfl rfl rfl fun G a w S => ?_
      refine sSkip 8 false 11 14 S rfl rfl rfl hc8 rfl (lb rfl) fun a S => ?_
      exact leafL ⟨rfl, S⟩
    · refine fI 15 undef [(14, undef), (11, .bool (decide (1000000000 < p0.Den)))] 12 [some 11, some 8] rfl rfl rfl rfl rfl rfl fun G a w S => ?_
      refine sSkip 8 false 11 15 S rfl rfl rfl hc8 rfl (lb rfl) fun a S => ?_
      exact leafL ⟨rfl, S⟩
    · refine fI 16 (.bool true) [(11, .bool (decide (1000000000 < p0.Den))), (15, undef)] 13 [some 8, some 12] rfl rfl rfl rfl rfl rfl fun G a w S => ?_
      refine sPickT (.bool true) S (wN rfl) rfl rfl hc8 rfl rfl (lb rfl) fun a S => ?_
      exact leafL ⟨rfl, S⟩
    · refine fI 17 (.bool true) [(16, .bool true)] 14 [some 13] rfl rfl rfl rfl rfl rfl fun G a w S => ?_
      refine sMove (.bool true) S (wN rfl) (.inl rfl) rfl rfl (lb rfl) fun a S => ?_
      exact leafL ⟨rfl, S⟩
    · refine fI 18 undef [(1, .pointer (some ⟨b2, 0, none⟩)), (17, .bool true)] 15 [none, some 14] rfl rfl rfl rfl rfl rfl fun G a w S => ?_
      refine sSkip 14 false 17 18 S rfl rfl rfl rfl rfl (lb rfl) fun a S => ?_
      exact leafL ⟨rfl, S⟩
    · refine fI 19 undef [(18, undef), (17, .bool true)] 16 [some 15, some 14] rfl rfl rfl rfl rfl rfl fun G a w S => ?_
      refine sSkip 14 false 17 19 S rfl rfl rfl rfl rfl (lb rfl) fun a S => ?_
      exact leafL ⟨rfl, S⟩
    · refine fI 20 undef [(19, undef), (17, .bool true)] 17 [some 16, some 14] rfl rfl rfl rfl rfl rfl fun G a w S => ?_
      refine sSkip 14 false 17 20 S rfl rfl rfl rfl rfl (lb rfl) fun a S => ?_
      exact leafL ⟨rfl, S⟩
    · refine fI 21 undef [(1, .pointer (some ⟨b2, 0, none⟩)), (17, .bool true)] 18 [none, some 14] rfl rfl rfl rfl rfl rfl fun G a w S => ?_
      refine sSkip 14 false 17 21 S rfl rfl rfl rfl rfl (lb rfl) fun a S => ?_
      exact leafL ⟨rfl, S⟩
    · refine fI 22 undef [(21, undef), (17, .bool true)] 19 [some 18, some 14] rfl rfl rfl rfl rfl rfl fun G a w S => ?_
      refine sSkip 14 false 17 22 S rfl rfl rfl rfl rfl (lb rfl) fun a S => ?_
      exact leafL ⟨rfl, S⟩
    · refine fI 23 undef [(22, undef), (17, .bool true)] 20 [some 19, some 14] rfl rfl rfl rfl rfl rfl fun G a w S => ?_
      refine sSkip 14 false 17 23 S rfl rfl rfl rfl rfl (lb rfl) fun a S => ?_
      exact leafL ⟨rfl, S⟩
    · refine fI 24 undef [(20, undef), (23, undef), (17, .bool true)] 21 [some 17, some 20, some 14] rfl rfl rfl rfl rfl rfl fun G a w S => ?_
      refine sSkip 14 false 17 24 S rfl rfl rfl rfl rfl (lb rfl) fun a S => ?_
      exact leafL ⟨rfl, S⟩
    · refine fI 25 undef [(24, undef), (17, .bool true)] 22 [some 21, some 14] rfl rfl rfl rfl rfl rfl fun G a w S => ?_
      refine sSkip 14 false 17 25 S rfl rfl rfl rfl rfl (lb rfl) fun a S => ?_
      exact leafL ⟨rfl, S⟩
    · refine fI 26 (.bool true) [(17, .bool true), (25, undef)] 23 [some 14, some 22] rfl rfl rfl rfl rfl rfl fun G a w S => ?_
      refine sPickT (.bool true) S (wN rfl) rfl rfl rfl rfl rfl (lb rfl) fun a S => ?_
      exact leafL ⟨rfl, S⟩
    exact leafT (⟨true, Option.some.inj h, S.fix [] [] (by decide) rfl rfl rfl⟩)
  obtain ⟨r9, hx10, h⟩ := bindSome h
  rcases iteSome h with ⟨hc11, h⟩ | ⟨hc11, h⟩
  · refine sDraw (nf := []) (W := [(0, 3, .pointer (some ⟨b2, 1, none⟩)), (1, 4, iv p0.Den), (2, 5, .bool (decide (p0.Den < 1))), (3, 6, .bool (decide (p0.Den < 1))), (4, 7, .pointer (some ⟨b2, 1, none⟩)), (5, 8, iv p0.Den), (6, 9, .bool (decide (1000000000 < p0.Den))), (7, 10, .bool (decide (1000000000 < p0.Den))), (8, 11, .bool (decide (1000000000 < p0.Den))), (9, 12, .pointer (some ⟨b2, 0, none⟩)), (10, 13, iv p0.Num), (11, 14, .int .u64 r9), (12, 15, .bool (decide (1000000000 < r9))), (13, 16, .bool (decide (1000000000 < r9))), (14, 17, .bool (decide (1000000000 < r9))), (15, 18, undef), (16, 19, undef), (17, 20, undef), (18, 21, undef), (19, 22, undef), (20, 23, undef), (21, 24, undef), (22, 25, undef), (23, 26, .bool true)]) rfl S ?_
    refine node_by (A := anc_yarn_Check_0) (nf := []) (Y := []) (W := [(0, 3, .pointer (some ⟨b2, 1, none⟩)), (1, 4, iv p0.Den), (2, 5, .bool (decide (p0.Den < 1))), (3, 6, .bool (decide (p0.Den < 1))), (4, 7, .pointer (some ⟨b2, 1, none⟩)), (5, 8, iv p0.Den), (6, 9, .bool (decide (1000000000 < p0.Den))), (7, 10, .bool (decide (1000000000 < p0.Den))), (8, 11, .bool (decide (1000000000 < p0.Den))), (9, 12, .pointer (some ⟨b2, 0, none⟩)), (10, 13, iv p0.Num), (11, 14, .int .u64 r9), (12, 15, .bool (decide (1000000000 < r9))), (13, 16, .bool (decide (1000000000 < r9))), (14, 17, .bool (decide (1000000000 < r9))), (15, 18, undef), (16, 19, undef), (17, 20, undef), (18, 21, undef), (19, 22, undef), (20, 23, undef), (21, 24, undef), (22, 25, undef), (23, 26, .bool true)]) 24 (by kernel_rfl) (by kernel_rfl) (by kernel_rfl) (by kernel_rfl) (by kernel_rfl) [0, 1, 2, 3, 4, 5, 6, 7, 8, 9, 10, 11, 12, 13, 14, 15, 16, 17, 18, 19, 20, 21, 22, 23] (by kernel_rfl) (by decide) (by decide) (aF 0 23 (by decide) ?_ (aF 1 22 (by decide) ?_ (aF 2 21 (by decide) ?_ (aF 3 20 (by decide) ?_ (aF 4 19 (by decide) ?_ (aF 5 18 (by decide) ?_ (aF 6 17 (by decide) ?_ (aF 7 16 (by decide) ?_ (aF 8 15 (by decide) ?_ (aF 9 14 (by decide) ?_ (aF 10 13 (by decide) ?_ (aF 11 12 (by decide) ?_ (aF 12 11 (by decide) ?_ (aF 13 10 (by decide) ?_ (aF 14 9 (by decide) ?_ (aF 15 8 (by decide) ?_ (aF 16 7 (by decide) ?_ (aF 17 6 (by decide) ?_ (aF 18 5 (by decide) ?_ (aF 19 4 (by decide) ?_ (aF 20 3 (by decide) ?_ (aF 21 2 (by decide) ?_ (aF 22 1 (by decide) ?_ (aF 23 0 (by decide) ?_ (trivial))))))))))))))))))))))))) [(26, .bool true)] (fin_of [some 23] rfl (by kernel_rfl) (by kernel_rfl)) (fun _ a w S => ?_)
    · refine fI 3 (.pointer (some ⟨b2, 1, none⟩)) [(1, .pointer (some ⟨b2, 0, none⟩))] 0 [none] rfl rfl rfl rfl rfl rfl fun G a w S => ?_
      refine sField (b := b2) (off := 0) 1 1 S (wN rfl) rfl rfl rfl rfl rfl (lb rfl) fun a S => ?_
      exact leafL ⟨rfl, S⟩
    · refine fI 4 (iv p0.Den) [(3, .pointer (some ⟨b2, 1, none⟩))] 1 [some 0] rfl rfl rfl rfl rfl rfl fun G a w S => ?_
      refine sLoad1 (p := b2) (off := 1) (T := 23) (vs := [iv p0.Num, iv p0.Den]) 0 (iv p0.Den) S (wN rfl) rfl rfl rfl rfl rfl rfl (lb rfl) fun a S => ?_
      exact leafL ⟨rfl, S⟩
    · refine fI 5 (.bool (decide (p0.Den < 1))) [(4, iv p0.Den)] 2 [some 1] rfl rfl rfl rfl rfl rfl fun G a w S => ?_
      refine sBin (.bool (decide (p0.Den < 1))) S (wN rfl) rfl rfl rfl (bLt _ _ _ _ .i64 p0.Den 1) rfl (lb rfl) fun a S => ?_
      exact leafL ⟨rfl, S⟩
    · refine fI 6 (.bool (decide (p0.Den < 1))) [(5, .bool (decide (p0.Den < 1)))] 3 [some 2] rfl rfl rfl rfl rfl rfl fun G a w S => ?_
      refine sMove (.bool (decide (p0.Den < 1))) S (wN rfl) (.inl rfl) rfl rfl (lb rfl) fun a S => ?_
      exact leafL ⟨rfl, S⟩
    · refine fI 7 (.pointer (some ⟨b2, 1, none⟩)) [(1, .pointer (some ⟨b2, 0, none⟩)), (6, .bool (decide (p0.Den < 1)))] 4 [none, some 3] rfl rfl rfl rfl rfl rfl fun G a w S => ?_
      refine sField (b := b2) (off := 0) 1 1 S (wG 3 false 6 rfl rfl rfl hc7) rfl rfl rfl rfl rfl (lb rfl) fun a S => ?_
      exact leafL ⟨rfl, S⟩
    · refine fI 8 (iv p0.Den) [(7, .pointer (some ⟨b2, 1, none⟩)), (6, .bool (decide (p0.Den < 1)))] 5 [some 4, some 3] rfl rfl rfl rfl rfl rfl fun G a w S => ?_
      refine sLoad1 (p := b2) (off := 1) (T := 23) (vs := [iv p0.Num, iv p0.Den]) 0 (iv p0.Den) S (wG 3 false 6 rfl rfl rfl hc7) rfl rfl rfl rfl rfl rfl (lb rfl) fun a S => ?_
      exact leafL ⟨rfl, S⟩
    · refine fI 9 (.bool (decide (1000000000 < p0.Den))) [(8, iv p0.Den), (6, .bool (decide (p0.Den < 1)))] 6 [some 5, some 3] rfl rfl rfl rfl rfl rfl fun G a w S => ?_
      refine sBin (.bool (decide (1000000000 < p0.Den))) S (wG 3 false 6 rfl rfl rfl hc7) rfl rfl rfl (bGt _ _ _ _ .i64 p0.Den 1000000000) rfl (lb rfl) fun a S => ?_
      exact leafL ⟨rfl, S⟩
    · refine fI 10 (.bool (decide (1000000000 < p0.Den))) [(6, .bool (decide (p0.Den < 1))), (9, .bool (decide (1000000000 < p0.Den)))] 7 [some 3, some 6] rfl rfl rfl rfl rfl rfl fun G a w S => ?_
      refine sPickF (.bool (decide (1000000000 < p0.Den))) S (wN rfl) rfl rfl hc7 rfl rfl (lb rfl) fun a S => ?_
      exact leafL ⟨rfl, S⟩
    · refine fI 11 (.bool (decide (1000000000 < p0.Den))) [(10, .bool (decide (1000000000 < p0.Den)))] 8 [some 7] rfl rfl rfl rfl rfl rfl fun G a w S => ?_
      refine sMove (.bool (decide (1000000000 < p0.Den))) S (wN rfl) (.inl rfl) rfl rfl (lb rfl) fun a S => ?_
      exact leafL ⟨rfl, S⟩
    · refine fI 12 (.pointer (some ⟨b2, 0, none⟩)) [(1, .pointer (some ⟨b2, 0, none⟩)), (11, .bool (decide (1000000000 < p0.Den)))] 9 [none, some 8] rfl rfl rfl rfl rfl rfl fun G a w S => ?_
      refine sField (b := b2) (off := 0) 0 0 S (wG 8 false 11 rfl rfl rfl hc8) rfl rfl rfl rfl rfl (lb rfl) fun a S => ?_
      exact leafL ⟨rfl, S⟩
    · refine fI 13 (iv p0.Num) [(12, .pointer (some ⟨b2, 0, none⟩)), (11, .bool (decide (1000000000 < p0.Den)))] 10 [some 9, some 8] rfl rfl rfl rfl rfl rfl fun G a w S => ?_
      refine sLoad1 (p := b2) (off := 0) (T := 23) (vs := [iv p0.Num, iv p0.Den]) 0 (iv p0.Num) S (wG 8 false 11 rfl rfl rfl hc8) rfl rfl rfl rfl rfl rfl (lb rfl) fun a S => ?_
      exact leafL ⟨rfl, S⟩
    · refine fI 14 (.int .u64 r9) [(13, iv p0.Num), (11, .bool (decide (1000000000 < p0.Den)))] 11 [some 10, some 8] rfl rfl rfl rfl rfl rfl fun G a w S => ?_
      have S1 := S.mem
      refine sCallQ (X := Unit) (f := 10) (vs := [iv p0.Num]) (val := fun _ => .int .u64 r9) S (wG 8 false 11 rfl rfl rfl hc8) rfl callee10 rfl (S1.quiet [] rfl) (fun E1 w1 S1 => c_yarn_size E1 w1 p0.Num r9 hx10 S1) rfl (lb rfl) fun _ a w S => ?_
      exact leafL ⟨rfl, S⟩
    · refine fI 15 (.bool (decide (1000000000 < r9))) [(14, .int .u64 r9), (11, .bool (decide (1000000000 < p0.Den)))] 12 [some 11, some 8] rfl rfl rfl rfl rfl rfl fun G a w S => ?_
      refine sBin (.bool (decide (1000000000 < r9))) S (wG 8 false 11 rfl rfl rfl hc8) rfl rfl rfl (bGt _ _ _ _ .u64 r9 1000000000) rfl (lb rfl) fun a S => ?_
      exact leafL ⟨rfl, S⟩
    · refine fI 16 (.bool (decide (1000000000 < r9))) [(11, .bool (decide (1000000000 < p0.Den))), (15, .bool (decide (1000000000 < r9)))] 13 [some 8, some 12] rfl rfl rfl rfl rfl rfl fun G a w S => ?_
      refine sPickF (.bool (decide (1000000000 < r9))) S (wN rfl) rfl rfl hc8 rfl rfl (lb rfl) fun a S => ?_
      exact leafL ⟨rfl, S⟩
    · refine fI 17 (.bool (decide (1000000000 < r9))) [(16, .bool (decide (1000000000 < r9)))] 14 [some 13] rfl rfl rfl rfl rfl rfl fun G a w S => ?_
      refine sMove (.bool (decide (1000000000 < r9))) S (wN rfl) (.inl rfl) rfl rfl (lb rfl) fun a S => ?_
      exact leafL ⟨rfl, S⟩
    · refine fI 18 undef [(1, .pointer (some ⟨b2, 0, none⟩)), (17, .bool (decide (1000000000 < r9)))] 15 [none, some 14] rfl rfl rfl rfl rfl rfl fun G a w S => ?_
      refine sSkip 14 false 17 18 S rfl rfl rfl hc11 rfl (lb rfl) fun a S => ?_
      exact leafL ⟨rfl, S⟩
    · refine fI 19 undef [(18, undef), (17, .bool (decide (1000000000 < r9)))] 16 [some 15, some 14] rfl rfl rfl rfl rfl rfl fun G a w S => ?_
      refine sSkip 14 false 17 19 S rfl rfl rfl hc11 rfl (lb rfl) fun a S => ?_
      exact leafL ⟨rfl, S⟩
    · refine fI 20 undef [(19, undef), (17, .bool (decide (1000000000 < r9)))] 17 [some 16, some 14] rfl rfl rfl rfl rfl rfl fun G a w S => ?_
      refine sSkip 14 false 17 20 S rfl rfl rfl hc11 rfl (lb rfl) fun a S => ?_
      exact leafL ⟨rfl, S⟩
    · refine fI 21 undef [(1, .pointer (some ⟨b2, 0, none⟩)), (17, .bool (decide (1000000000 < r9)))] 18 [none, some 14] rfl rfl rfl rfl rfl rfl fun G a w S => ?_
      refine sSkip 14 false 17 21 S rfl rfl rfl hc11 rfl (lb rfl) fun a S => ?_
      exact leafL ⟨rfl, S⟩
    · refine fI 22 undef [(21, undef), (17, .bool (decide (1000000000 < r9)))] 19 [some 18, some 14] rfl rfl rfl rfl rfl rfl fun G a w S => ?_
      refine sSkip 14 false 17 22 S rfl rfl rfl hc11 rfl (lb rfl) fun a S => ?_
      exact leafL ⟨rfl, S⟩
    · refine fI 23 undef [(22, undef), (17, .bool (decide (1000000000 < r9)))] 20 [some 19, some 14] rfl rfl rfl rfl rfl rfl fun G a w S => ?_
      refine sSkip 14 false 17 23 S rfl rfl rfl hc11 rfl (lb rfl) fun a S => ?_
      exact leafL ⟨rfl, S⟩
    · refine fI 24 undef [(20, undef), (23, undef), (17, .bool (decide (1000000000 < r9)))] 21 [some 17, some 20, some 14] rfl rfl rfl rfl rfl rfl fun G a w S => ?_
      refine sSkip 14 false 17 24 S rfl rfl rfl hc11 rfl (lb rfl) fun a S => ?_
      exact leafL ⟨rfl, S⟩
    · refine fI 25 undef [(24, undef), (17, .bool (decide (1000000000 < r9)))] 22 [some 21, some 14] rfl rfl rfl rfl rfl rfl fun G a w S => ?_
      refine sSkip 14 false 17 25 S rfl rfl rfl hc11 rfl (lb rfl) fun a S => ?_
      exact leafL ⟨rfl, S⟩
    · refine fI 26 (.bool true) [(17, .bool (decide (1000000000 < r9))), (25, undef)] 23 [some 14, some 22] rfl rfl rfl rfl rfl rfl fun G a w S => ?_
      refine sPickT (.bool true) S (wN rfl) rfl rfl hc11 rfl rfl (lb rfl) fun a S => ?_
      exact leafL ⟨rfl, S⟩
    exact leafT (⟨true, Option.some.inj h, S.fix [] [] (by decide) rfl rfl rfl⟩)
  obtain ⟨r12, hx13, h⟩ := bindSome h
  refine sDraw (nf := []) (W := [(0, 3, .pointer (some ⟨b2, 1, none⟩)), (1, 4, iv p0.Den), (2, 5, .bool (decide (p0.Den < 1))), (3, 6, .bool (decide (p0.Den < 1))), (4, 7, .pointer (some ⟨b2, 1, none⟩)), (5, 8, iv p0.Den), (6, 9, .bool (decide (1000000000 < p0.Den))), (7, 10, .bool (decide (1000000000 < p0.Den))), (8, 11, .bool (decide (1000000000 < p0.Den))), (9, 12, .pointer (some ⟨b2, 0, none⟩)), (10, 13, iv p0.Num), (11, 14, .int .u64 r9), (12, 15, .bool (decide (1000000000 < r9))), (13, 16, .bool (decide (1000000000 < r9))), (14, 17, .bool (decide (1000000000 < r9))), (15, 18, .pointer (some ⟨b2, 0, none⟩)), (16, 19, iv p0.Num), (17, 20, .int .u64 r9), (18, 21, .pointer (some ⟨b2, 1, none⟩)), (19, 22, iv p0.Den), (20, 23, .int .u64 (IntKind.u64.wrap p0.Den)), (21, 24, .int .u64 r12), (22, 25, .bool (r12 != 1)), (23, 26, .bool (r12 != 1))]) rfl S ?_
  refine node_by (A := anc_yarn_Check_0) (nf := []) (Y := []) (W := [(0, 3, .pointer (some ⟨b2, 1, none⟩)), (1, 4, iv p0.Den), (2, 5, .bool (decide (p0.Den < 1))), (3, 6, .bool (decide (p0.Den < 1))), (4, 7, .pointer (some ⟨b2, 1, none⟩)), (5, 8, iv p0.Den), (6, 9, .bool (decide (1000000000 < p0.Den))), (7, 10, .bool (decide (1000000000 < p0.Den))), (8, 11, .bool (decide (1000000000 < p0.Den))), (9, 12, .pointer (some ⟨b2, 0, none⟩)), (10, 13, iv p0.Num), (11, 14, .int .u64 r9), (12, 15, .bool (decide (1000000000 < r9))), (13, 16, .bool (decide (1000000000 < r9))), (14, 17, .bool (decide (1000000000 < r9))), (15, 18, .pointer (some ⟨b2, 0, none⟩)), (16, 19, iv p0.Num), (17, 20, .int .u64 r9), (18, 21, .pointer (some ⟨b2, 1, none⟩)), (19, 22, iv p0.Den), (20, 23, .int .u64 (IntKind.u64.wrap p0.Den)), (21, 24, .int .u64 r12), (22, 25, .bool (r12 != 1)), (23, 26, .bool (r12 != 1))]) 24 (by kernel_rfl) (by kernel_rfl) (by kernel_rfl) (by kernel_rfl) (by kernel_rfl) [0, 1, 2, 3, 4, 5, 6, 7, 8, 9, 10, 11, 12, 13, 14, 15, 16, 17, 18, 19, 20, 21, 22, 23] (by kernel_rfl) (by decide) (by decide) (aF 0 23 (by decide) ?_ (aF 1 22 (by decide) ?_ (aF 2 21 (by decide) ?_ (aF 3 20 (by decide) ?_ (aF 4 19 (by decide) ?_ (aF 5 18 (by decide) ?_ (aF 6 17 (by decide) ?_ (aF 7 16 (by decide) ?_ (aF 8 15 (by decide) ?_ (aF 9 14 (by decide) ?_ (aF 10 13 (by decide) ?_ (aF 11 12 (by decide) ?_ (aF 12 11 (by decide) ?_ (aF 13 10 (by decide) ?_ (aF 14 9 (by decide) ?_ (aF 15 8 (by decide) ?_ (aF 16 7 (by decide) ?_ (aF 17 6 (by decide) ?_ (aF 18 5 (by decide) ?_ (aF 19 4 (by decide) ?_ (aF 20 3 (by decide) ?_ (aF 21 2 (by decide) ?_ (aF 22 1 (by decide) ?_ (aF 23 0 (by decide) ?_ (trivial))))))))))))))))))))))))) [(26, .bool (r12 != 1))] (fin_of [some 23] rfl (by kernel_rfl) (by kernel_rfl)) (fun _ a w S => ?_)
  · refine fI 3 (.pointer (some ⟨b2, 1, none⟩)) [(1, .pointer (some ⟨b2, 0, none⟩))] 0 [none] rfl rfl rfl rfl rfl rfl fun G a w S => ?_
    refine sField (b := b2) (off := 0) 1 1 S (wN rfl) rfl rfl rfl rfl rfl (lb rfl) fun a S => ?_
    exact leafL ⟨rfl, S⟩
  · refine fI 4 (iv p0.Den) [(3, .pointer (some ⟨b2, 1, none⟩))] 1 [some 0] rfl rfl rfl rfl rfl rfl fun G a w S => ?_
    refine sLoad1 (p := b2) (off := 1) (T := 23) (vs := [iv p0.Num, iv p0.Den]) 0 (iv p0.Den) S (wN rfl) rfl rfl rfl rfl rfl rfl (lb rfl) fun a S => ?_
    exact leafL ⟨rfl, S⟩
  · refine fI 5 (.bool (decide (p0.Den < 1))) [(4, iv p0.Den)] 2 [some 1] rfl rfl rfl rfl rfl rfl fun G a w S => ?_
    refine sBin (.bool (decide (p0.Den < 1))) S (wN rfl) rfl rfl rfl (bLt _ _ _ _ .i64 p0.Den 1) rfl (lb rfl) fun a S => ?_
    exact leafL ⟨rfl, S⟩
  · refine fI 6 (.bool (decide (p0.Den < 1))) [(5, .bool (decide (p0.Den < 1)))] 3 [some 2] rfl rfl rfl rfl rfl rfl fun G a w S => ?_
    refine sMove (.bool (decide (p0.Den < 1))) S (wN rfl) (.inl rfl) rfl rfl (lb rfl) fun a S => ?_
    exact leafL ⟨rfl, S⟩
  · refine fI 7 (.pointer (some ⟨b2, 1, none⟩)) [(1, .pointer (some ⟨b2, 0, none⟩)), (6, .bool (decide (p0.Den < 1)))] 4 [none, some 3] rfl rfl rfl rfl rfl rfl fun G a w S => ?_
    refine sField (b := b2) (off := 0) 1 1 S (wG 3 false 6 rfl rfl rfl hc7) rfl rfl rfl rfl rfl (lb rfl) fun a S => ?_
    exact leafL ⟨rfl, S⟩
  · refine fI 8 (iv p0.Den) [(7, .pointer (some ⟨b2, 1, none⟩)), (6, .bool (decide (p0.Den < 1)))] 5 [some 4, some 3] rfl rfl rfl rfl rfl rfl fun G a w S => ?_
    refine sLoad1 (p := b2) (off := 1) (T := 23) (vs := [iv p0.Num, iv p0.Den]) 0 (iv p0.Den) S (wG 3 false 6 rfl rfl rfl hc7) rfl rfl rfl rfl rfl rfl (lb rfl) fun a S => ?_
    exact leafL ⟨rfl, S⟩
  · refine fI 9 (.bool (decide (1000000000 < p0.Den))) [(8, iv p0.Den), (6, .bool (decide (p0.Den < 1)))] 6 [some 5, some 3] rfl rfl rfl rfl rfl rfl fun G a w S => ?_
    refine sBin (.bool (decide (1000000000 < p0.Den))) S (wG 3 false 6 rfl rfl rfl hc7) rfl rfl rfl (bGt _ _ _ _ .i64 p0.Den 1000000000) rfl (lb rfl) fun a S => ?_
    exact leafL ⟨rfl, S⟩
  · refine fI 10 (.bool (decide (1000000000 < p0.Den))) [(6, .bool (decide (p0.Den < 1))), (9, .bool (decide (1000000000 < p0.Den)))] 7 [some 3, some 6] rfl rfl rfl rfl rfl rfl fun G a w S => ?_
    refine sPickF (.bool (decide (1000000000 < p0.Den))) S (wN rfl) rfl rfl hc7 rfl rfl (lb rfl) fun a S => ?_
    exact leafL ⟨rfl, S⟩
  · refine fI 11 (.bool (decide (1000000000 < p0.Den))) [(10, .bool (decide (1000000000 < p0.Den)))] 8 [some 7] rfl rfl rfl rfl rfl rfl fun G a w S => ?_
    refine sMove (.bool (decide (1000000000 < p0.Den))) S (wN rfl) (.inl rfl) rfl rfl (lb rfl) fun a S => ?_
    exact leafL ⟨rfl, S⟩
  · refine fI 12 (.pointer (some ⟨b2, 0, none⟩)) [(1, .pointer (some ⟨b2, 0, none⟩)), (11, .bool (decide (1000000000 < p0.Den)))] 9 [none, some 8] rfl rfl rfl rfl rfl rfl fun G a w S => ?_
    refine sField (b := b2) (off := 0) 0 0 S (wG 8 false 11 rfl rfl rfl hc8) rfl rfl rfl rfl rfl (lb rfl) fun a S => ?_
    exact leafL ⟨rfl, S⟩
  · refine fI 13 (iv p0.Num) [(12, .pointer (some ⟨b2, 0, none⟩)), (11, .bool (decide (1000000000 < p0.Den)))] 10 [some 9, some 8] rfl rfl rfl rfl rfl rfl fun G a w S => ?_
    refine sLoad1 (p := b2) (off := 0) (T := 23) (vs := [iv p0.Num, iv p0.Den]) 0 (iv p0.Num) S (wG 8 false 11 rfl rfl rfl hc8) rfl rfl rfl rfl rfl rfl (lb rfl) fun a S => ?_
    exact leafL ⟨rfl, S⟩
  · refine fI 14 (.int .u64 r9) [(13, iv p0.Num), (11, .bool (decide (1000000000 < p0.Den)))] 11 [some 10, some 8] rfl rfl rfl rfl rfl rfl fun G a w S => ?_
    have S1 := S.mem
    refine sCallQ (X := Unit) (f := 10) (vs := [iv p0.Num]) (val := fun _ => .int .u64 r9) S (wG 8 false 11 rfl rfl rfl hc8) rfl callee10 rfl (S1.quiet [] rfl) (fun E1 w1 S1 => c_yarn_size E1 w1 p0.Num r9 hx10 S1) rfl (lb rfl) fun _ a w S => ?_
    exact leafL ⟨rfl, S⟩
  · refine fI 15 (.bool (decide (1000000000 < r9))) [(14, .int .u64 r9), (11, .bool (decide (1000000000 < p0.Den)))] 12 [some 11, some 8] rfl rfl rfl rfl rfl rfl fun G a w S => ?_
    refine sBin (.bool (decide (1000000000 < r9))) S (wG 8 false 11 rfl rfl rfl hc8) rfl rfl rfl (bGt _ _ _ _ .u64 r9 1000000000) rfl (lb rfl) fun a S => ?_
    exact leafL ⟨rfl, S⟩
  · refine fI 16 (.bool (decide (1000000000 < r9))) [(11, .bool (decide (1000000000 < p0.Den))), (15, .bool (decide (1000000000 < r9)))] 13 [some 8, some 12] rfl rfl rfl rfl rfl rfl fun G a w S => ?_
    refine sPickF (.bool (decide (1000000000 < r9))) S (wN rfl) rfl rfl hc8 rfl rfl (lb rfl) fun a S => ?_
    exact leafL ⟨rfl, S⟩
  · refine fI 17 (.bool (decide (1000000000 < r9))) [(16, .bool (decide (1000000000 < r9)))] 14 [some 13] rfl rfl rfl rfl rfl rfl fun G a w S => ?_
    refine sMove (.bool (decide (1000000000 < r9))) S (wN rfl) (.inl rfl) rfl rfl (lb rfl) fun a S => ?_
    exact leafL ⟨rfl, S⟩
  · refine fI 18 (.pointer (some ⟨b2, 0, none⟩)) [(1, .pointer (some ⟨b2, 0, none⟩)), (17, .bool (decide (1000000000 < r9)))] 15 [none, some 14] rfl rfl rfl rfl rfl rfl fun G a w S => ?_
    refine sField (b := b2) (off := 0) 0 0 S (wG 14 false 17 rfl rfl rfl hc11) rfl rfl rfl rfl rfl (lb rfl) fun a S => ?_
    exact leafL ⟨rfl, S⟩
  · refine fI 19 (iv p0.Num) [(18, .pointer (some ⟨b2, 0, none⟩)), (17, .bool (decide (1000000000 < r9)))] 16 [some 15, some 14] rfl rfl rfl rfl rfl rfl fun G a w S => ?_
    refine sLoad1 (p := b2) (off := 0) (T := 23) (vs := [iv p0.Num, iv p0.Den]) 0 (iv p0.Num) S (wG 14 false 17 rfl rfl rfl hc11) rfl rfl rfl rfl rfl rfl (lb rfl) fun a S => ?_
    exact leafL ⟨rfl, S⟩
  · refine fI 20 (.int .u64 r9) [(19, iv p0.Num), (17, .bool (decide (1000000000 < r9)))] 17 [some 16, some 14] rfl rfl rfl rfl rfl rfl fun G a w S => ?_
    have S1 := S.mem
    refine sCallQ (X := Unit) (f := 10) (vs := [iv p0.Num]) (val := fun _ => .int .u64 r9) S (wG 14 false 17 rfl rfl rfl hc11) rfl callee10 rfl (S1.quiet [] rfl) (fun E1 w1 S1 => c_yarn_size E1 w1 p0.Num r9 hx10 S1) rfl (lb rfl) fun _ a w S => ?_
    exact leafL ⟨rfl, S⟩
  · refine fI 21 (.pointer (some ⟨b2, 1, none⟩)) [(1, .pointer (some ⟨b2, 0, none⟩)), (17, .bool (decide (1000000000 < r9)))] 18 [none, some 14] rfl rfl rfl rfl rfl rfl fun G a w S => ?_
    refine sField (b := b2) (off := 0) 1 1 S (wG 14 false 17 rfl rfl rfl hc11) rfl rfl rfl rfl rfl (lb rfl) fun a S => ?_
    exact leafL ⟨rfl, S⟩
  · refine fI 22 (iv p0.Den) [(21, .pointer (some ⟨b2, 1, none⟩)), (17, .bool (decide (1000000000 < r9)))] 19 [some 18, some 14] rfl rfl rfl rfl rfl rfl fun G a w S => ?_
    refine sLoad1 (p := b2) (off := 1) (T := 23) (vs := [iv p0.Num, iv p0.Den]) 0 (iv p0.Den) S (wG 14 false 17 rfl rfl rfl hc11) rfl rfl rfl rfl rfl rfl (lb rfl) fun a S => ?_
    exact leafL ⟨rfl, S⟩
  · refine fI 23 (.int .u64 (IntKind.u64.wrap p0.Den)) [(22, iv p0.Den), (17, .bool (decide (1000000000 < r9)))] 20 [some 19, some 14] rfl rfl rfl rfl rfl rfl fun G a w S => ?_
    refine sConv (k := .i64) (k2 := .u64) (b := p0.Den) S (wG 14 false 17 rfl rfl rfl hc11) rfl Tryd.underlying2 Tryd.underlying36 rfl rfl (lb rfl) fun a S => ?_
    exact leafL ⟨rfl, S⟩
  · refine fI 24 (.int .u64 r12) [(20, .int .u64 r9), (23, .int .u64 (IntKind.u64.wrap p0.Den)), (17, .bool (decide (1000000000 < r9)))] 21 [some 17, some 20, some 14] rfl rfl rfl rfl rfl rfl fun G a w S => ?_
    have S1 := S.mem
    refine sCallQ (X := Unit) (f := 11) (vs := [.int .u64 r9, .int .u64 (IntKind.u64.wrap p0.Den)]) (val := fun _ => .int .u64 r12) S (wG 14 false 17 rfl rfl rfl hc11) rfl callee11 rfl (S1.quiet [] rfl) (fun E1 w1 S1 => c_yarn_gcd E1 w1 r9 (IntKind.u64.wrap p0.Den) r12 hx13 S1) rfl (lb rfl) fun _ a w S => ?_
    exact leafL ⟨rfl, S⟩
  · refine fI 25 (.bool (r12 != 1)) [(24, .int .u64 r12), (17, .bool (decide (1000000000 < r9)))] 22 [some 21, some 14] rfl rfl rfl rfl rfl rfl fun G a w S => ?_
    refine sBin (.bool (r12 != 1)) S (wG 14 false 17 rfl rfl rfl hc11) rfl rfl rfl (bNe _ _ _ _ .u64 r12 1) rfl (lb rfl) fun a S => ?_
    exact leafL ⟨rfl, S⟩
  · refine fI 26 (.bool (r12 != 1)) [(17, .bool (decide (1000000000 < r9))), (25, .bool (r12 != 1))] 23 [some 14, some 22] rfl rfl rfl rfl rfl rfl fun G a w S => ?_
    refine sPickF (.bool (r12 != 1)) S (wN rfl) rfl rfl hc11 rfl rfl (lb rfl) fun a S => ?_
    exact leafL ⟨rfl, S⟩
  exact leafT (⟨r12 != 1, Option.some.inj h, S.fix [] [] (by decide) rfl rfl rfl⟩)

end Go.Proofs.YtdfjcpnflmgdoaaDoor
namespace Go.Proofs.YtdfjcpnflmgdoaaDoor
open Go.RowKit
set_option linter.unusedVariables false

theorem gcd_any {B : Int × Int → Option ((Int × Int) ⊕ Int)} (hB : ∀ a b : Int, B (a, b) = if (b != 0) = true then Option.bind (remI a b) fun z => some (.inl (b, z)) else some (.inr a)) (a b : Int) : ∃ t, whileO B (a, b) = some t ∧ t.natAbs = Nat.gcd a.natAbs b.natAbs := by
  refine whileO_inv (fun s => Nat.gcd s.1.natAbs s.2.natAbs = Nat.gcd a.natAbs b.natAbs) (fun s => s.2.natAbs) _ rfl ?_
  rintro ⟨x, y⟩ hg
  dsimp only at hg
  rw [hB]
  by_cases hy : y = 0
  · subst hy
    refine .inr ⟨x, by simp, ?_⟩
    rw [← hg]; simp
  · have h1 : (y != 0) = true := nT hy
    have h2 : remI x y = some (x.tmod y) := by unfold remI; rw [if_neg hy]
    have h3 : (x.tmod y).natAbs = x.natAbs % y.natAbs := Int.natAbs_tmod x y
    refine .inl ⟨(y, x.tmod y), by rw [if_pos h1, h2]; rfl, ?_, ?_⟩
    · show Nat.gcd y.natAbs (x.tmod y).natAbs = _
      rw [← hg, h3, Nat.gcd_comm x.natAbs, Nat.gcd_rec y.natAbs x.natAbs, Nat.gcd_comm]
    · show (x.tmod y).natAbs < y.natAbs
      rw [h3]
      exact Nat.mod_lt _ (by omega)
/-- ratios of whatever sign -/
def okr (r : api_Ratio) : Prop := 1 ≤ r.Den ∧ r.Den ≤ 1000000000 ∧ r.Num.natAbs ≤ 1000000000 ∧ Nat.gcd r.Num.natAbs r.Den.natAbs = 1
instance (r : api_Ratio) : Decidable (okr r) := by unfold okr; exact inferInstance
theorem common_any (a b : Int) (ha : a.natAbs ≤ 9223372036854775807) (hb : b.natAbs ≤ 9223372036854775807) : F_raddleref23_common a b = some ((Nat.gcd a.natAbs b.natAbs : Nat) : Int) := by
  obtain ⟨t, t1, t2⟩ := gcd_any (B := raddleref23_common_l1) (fun a b => rfl) a b
  have hg : Nat.gcd a.natAbs b.natAbs ≤ 9223372036854775807 := by
    by_cases h : b.natAbs = 0
    · rw [h, Nat.gcd_zero_right]; exact ha
    · exact Nat.le_trans (Nat.gcd_le_right _ (Nat.pos_of_ne_zero h)) hb
  unfold F_raddleref23_common
  rw [t1]
  simp only [Option.bind_some]
  rw [← t2] at hg ⊢
  by_cases h : t < 0
  · simp only [dT h, if_true]
    rw [w64_of (by omega) (by omega)]
    congr 1
    omega
  · simp only [dF h, Bool.false_eq_true, if_false]
    congr 1
    omega
theorem size_any (x : Int) (h0 : -9223372036854775808 ≤ x) (h1 : x ≤ 9223372036854775807) : F_yarn_size x = some ((x.natAbs : Nat) : Int) := by
  unfold F_yarn_size
  by_cases h : x < 0
  · simp only [dT h, if_true]
    have : IntKind.u64.wrap (0 - IntKind.u64.wrap x) = ((x.natAbs : Nat) : Int) := by
      have e1 : IntKind.u64.wrap x = x + 18446744073709551616 := by
        unfold IntKind.wrap
        simp [IntKind.bits, IntKind.signed]
        omega
      rw [e1]
      unfold IntKind.wrap
      simp [IntKind.bits, IntKind.signed]
      omega
    rw [this]
  · simp only [dF h, Bool.false_eq_true, if_false]
    rw [u64_of (by omega) (by omega)]
    congr 1
    omega
theorem rcheck_any (r : api_Ratio) (h0 : -9223372036854775808 ≤ r.Num) (h1 : r.Num ≤ 9223372036854775807) (h2 : r.Den ≤ 9223372036854775807) : F_raddleref23_Check r = some (if okr r then 0 else 8) := by
  unfold F_raddleref23_Check
  by_cases e1 : r.Den < 1
  · rw [if_neg (fun h : okr r => by have a1 := h.1; have a2 := h.2.1; have a3 := h.2.2.1; omega)]; simp only [dT e1, if_true, Option.bind_some]
  by_cases e2 : 1000000000 < r.Den
  · rw [if_neg (fun h : okr r => by have a1 := h.1; have a2 := h.2.1; have a3 := h.2.2.1; omega)]; simp only [dF e1, dT e2, Bool.false_eq_true, if_true, if_false, Option.bind_some]
  by_cases e3 : r.Num < -1000000000
  · rw [if_neg (fun h : okr r => by have a1 := h.1; have a2 := h.2.1; have a3 := h.2.2.1; omega)]; simp only [dF e1, dF e2, dT e3, Bool.false_eq_true, if_true, if_false, Option.bind_some]
  by_cases e4 : 1000000000 < r.Num
  · rw [if_neg (fun h : okr r => by have a1 := h.1; have a2 := h.2.1; have a3 := h.2.2.1; omega)]; simp only [dF e1, dF e2, dF e3, dT e4, Bool.false_eq_true, if_true, if_false, Option.bind_some]
  simp only [dF e1, dF e2, dF e3, dF e4, Bool.false_eq_true, if_false, common_any r.Num r.Den (by omega) (by omega), Option.bind_some]
  by_cases e5 : Nat.gcd r.Num.natAbs r.Den.natAbs = 1
  · rw [if_pos (show okr r from ⟨by omega, by omega, by omega, e5⟩), e5]; rfl
  · rw [if_neg (fun h : okr r => e5 h.2.2.2)]
    simp only [nT (show ¬ ((Nat.gcd r.Num.natAbs r.Den.natAbs : Nat) : Int) = 1 by omega), if_true]
theorem ycheck_any (r : api_Ratio) (h0 : -9223372036854775808 ≤ r.Num) (h1 : r.Num ≤ 9223372036854775807) (h2 : r.Den ≤ 9223372036854775807) : F_yarn_Check r = some (if okr r then 0 else 8) := by
  unfold F_yarn_Check
  by_cases e1 : r.Den < 1
  · rw [if_neg (fun h : okr r => by have a1 := h.1; have a2 := h.2.1; have a3 := h.2.2.1; omega)]; simp only [dT e1, if_true, Option.bind_some]
  by_cases e2 : 1000000000 < r.Den
  · rw [if_neg (fun h : okr r => by have a1 := h.1; have a2 := h.2.1; have a3 := h.2.2.1; omega)]; simp only [dF e1, dT e2, Bool.false_eq_true, if_true, if_false, Option.bind_some]
  simp only [dF e1, dF e2, Bool.false_eq_true, if_false, size_any r.Num h0 h1, Option.bind_some]
  by_cases e3 : 1000000000 < ((r.Num.natAbs : Nat) : Int)
  · rw [if_neg (fun h : okr r => by have a1 := h.1; have a2 := h.2.1; have a3 := h.2.2.1; omega)]; simp only [dT e3, if_true, Option.bind_some]
  have e6 : IntKind.u64.wrap r.Den = ((r.Den.natAbs : Nat) : Int) := by rw [u64_of (by omega) (by omega)]; omega
  simp only [dF e3, Bool.false_eq_true, if_false, e6, ygcd_eq, Option.bind_some]
  by_cases e5 : Nat.gcd r.Num.natAbs r.Den.natAbs = 1
  · rw [if_pos (show okr r from ⟨by omega, by omega, by omega, e5⟩), e5]; rfl
  · rw [if_neg (fun h : okr r => e5 h.2.2.2)]
    simp only [nT (show ¬ ((Nat.gcd r.Num.natAbs r.Den.natAbs : Nat) : Int) = 1 by omega), if_true]
/-- Make, whatever the signs -/
def smk (x y : Int) : api_Ratio × Int := if y = 0 then (⟨0, 0⟩, 18) else if (mk x.natAbs y.natAbs).2 = 0 then (⟨if (decide (x < 0) != decide (y < 0)) = true then -(mk x.natAbs y.natAbs).1.Num else (mk x.natAbs y.natAbs).1.Num, (mk x.natAbs y.natAbs).1.Den⟩, 0) else (⟨0, 0⟩, 16)
theorem quo_any {x : Int} {g : Nat} (hg : 0 < g) (hx : x.natAbs ≤ 9223372036854775807) : quoI x (g : Int) = some (if x < 0 then -((x.natAbs / g : Nat) : Int) else ((x.natAbs / g : Nat) : Int)) := by
  have h1 : x.natAbs / g ≤ x.natAbs := Nat.div_le_self _ _
  unfold quoI
  rw [if_neg (by omega)]
  have ht : x.tdiv (g : Int) = if x < 0 then -((x.natAbs / g : Nat) : Int) else ((x.natAbs / g : Nat) : Int) := by
    by_cases h : x < 0
    · rw [if_pos h]
      have e : x = -((x.natAbs : Nat) : Int) := by omega
      rw [e, Int.neg_tdiv, Int.natAbs_neg, Int.natAbs_natCast]; rfl
    · rw [if_neg h]
      have e : x = ((x.natAbs : Nat) : Int) := by omega
      rw [e, Int.natAbs_natCast]; rfl
  rw [ht]
  generalize x.natAbs / g = q at *
  congr 1
  by_cases h : x < 0
  · rw [if_pos h]; exact w64_of (by omega) (by omega)
  · rw [if_neg h]; exact w64_of (by omega) (by omega)
theorem rmake_pos (x : Int) (b : Nat) (hx : x.natAbs ≤ 9223372036854775807) (hb : b ≤ 9223372036854775807) (hb0 : 0 < b) :
    (Option.bind (F_raddleref23_common x (b : Int)) fun r => Option.bind (quoI x r) fun z46 => Option.bind (quoI (b : Int) r) fun z48 => Option.bind (F_raddleref23_Check (api_Ratio.mk z46 z48)) fun r54 => if (r54 != 0) = true then some ((api_Ratio.mk 0 0), 16) else some ((api_Ratio.mk z46 z48), 0)) =
      some (if (mk x.natAbs b).2 = 0 then (⟨if x < 0 then -(mk x.natAbs b).1.Num else (mk x.natAbs b).1.Num, (mk x.natAbs b).1.Den⟩, 0) else (⟨0, 0⟩, (16 : Int))) := by
  have hg : 0 < Nat.gcd x.natAbs b := Nat.gcd_pos_of_pos_right _ hb0
  have h3 : Nat.gcd (x.natAbs / Nat.gcd x.natAbs b) (b / Nat.gcd x.natAbs b) = 1 := Nat.gcd_div_gcd_div_gcd_of_pos_right hb0
  have h4 : 1 ≤ b / Nat.gcd x.natAbs b := (Nat.le_div_iff_mul_le hg).2 (by rw [Nat.one_mul]; exact Nat.gcd_le_right _ hb0)
  rw [common_any x (b : Int) hx (by omega), Int.natAbs_natCast, Option.bind_some, quo_any hg hx, quo_nat hg hb]
  simp only [Option.bind_some]
  unfold mk
  have h1 : x.natAbs / Nat.gcd x.natAbs b ≤ x.natAbs := Nat.div_le_self _ _
  have h2 : b / Nat.gcd x.natAbs b ≤ b := Nat.div_le_self _ _
  generalize x.natAbs / Nat.gcd x.natAbs b = u at *
  generalize b / Nat.gcd x.natAbs b = v at *
  have hz : ∃ z : Int, (if x < 0 then -(u : Int) else (u : Int)) = z ∧ z.natAbs = u := by
    by_cases h : x < 0
    · exact ⟨-(u : Int), by rw [if_pos h], by omega⟩
    · exact ⟨(u : Int), by rw [if_neg h], by omega⟩
  obtain ⟨z, z1, z2⟩ := hz
  rw [z1, rcheck_any _ (by show -9223372036854775808 ≤ z; omega) (by show z ≤ _; omega) (by show (v : Int) ≤ _; omega)]
  simp only [Option.bind_some]
  by_cases e : u ≤ 1000000000 ∧ v ≤ 1000000000
  · have ho : okr (api_Ratio.mk z (v : Int)) := ⟨by show (1 : Int) ≤ v; omega, by show (v : Int) ≤ _; omega, by show z.natAbs ≤ _; omega, by show Nat.gcd z.natAbs (v : Int).natAbs = 1; rw [z2, Int.natAbs_natCast]; exact h3⟩
    rw [if_pos ho, if_pos e]
    simp only [bne_self_eq_false, Bool.false_eq_true, if_false, if_true]
    rw [z1]
  · have ho : ¬ okr (api_Ratio.mk z (v : Int)) := fun h => by
      have a1 : (v : Int) ≤ 1000000000 := h.2.1
      have a2 : z.natAbs ≤ 1000000000 := h.2.2.1
      exact e ⟨by omega, by omega⟩
    rw [if_neg ho, if_neg e]
    simp only [nT (show ¬ (8 : Int) = 0 by omega), if_true, show ¬ (16 : Int) = 0 by omega, if_false]
theorem rmake_any (x y : Int) (hx : x.natAbs ≤ 9223372036854775807) (hy : y.natAbs ≤ 9223372036854775807) : F_raddleref23_Make x y = some (smk x y) := by
  unfold F_raddleref23_Make smk
  by_cases h0 : y = 0
  · rw [if_pos h0]; simp only [bT h0, if_true]
  rw [if_neg h0]
  simp only [bF h0, bF (show ¬ x = -9223372036854775808 by omega), bF (show ¬ y = -9223372036854775808 by omega), Bool.false_eq_true, if_false, Option.bind_some]
  by_cases hn : y < 0
  · have k1 : w64 (0 - x) = -x := by rw [w64_of (by omega) (by omega)]; omega
    have k2 : w64 (0 - y) = ((y.natAbs : Nat) : Int) := by rw [w64_of (by omega) (by omega)]; omega
    simp only [dT hn, if_true, Option.bind_some, k1, k2]
    rw [rmake_pos (-x) y.natAbs (by omega) hy (by omega), Int.natAbs_neg]
    congr 1
    by_cases hm : (mk x.natAbs y.natAbs).2 = 0
    · rw [if_pos hm, if_pos hm]
      by_cases hxn : x < 0
      · rw [if_neg (by omega)]; simp [hxn]
      · by_cases hx0 : x = 0
        · subst hx0
          have : (mk 0 y.natAbs).1.Num = 0 := by
            unfold mk
            simp
            split <;> rfl
          simp [this]
        · rw [if_pos (by omega)]; simp [hxn]
    · rw [if_neg hm, if_neg hm]
  · have k2 : y = ((y.natAbs : Nat) : Int) := by omega
    simp only [dF hn, Bool.false_eq_true, if_false, Option.bind_some]
    have := rmake_pos x y.natAbs hx hy (by omega)
    rw [← k2] at this
    rw [this]
    congr 1
    by_cases hm : (mk x.natAbs y.natAbs).2 = 0
    · rw [if_pos hm, if_pos hm]
      by_cases hxn : x < 0
      · rw [if_pos hxn]; simp [hxn]
      · rw [if_neg hxn]; simp [hxn]
    · rw [if_neg hm, if_neg hm]

end Go.Proofs.YtdfjcpnflmgdoaaDoor
namespace Go.Proofs.YtdfjcpnflmgdoaaDoor
open Go.RowKit
set_option linter.unusedVariables false

theorem quoK_nat2 {a g : Nat} (hg : 0 < g) (ha : a ≤ 9223372036854775808) : quoK .u64 (a : Int) (g : Int) = some ((a / g : Nat) : Int) := by
  unfold quoK
  rw [if_neg (by omega)]
  have h1 : a / g ≤ a := Nat.div_le_self _ _
  have : ((a : Int).tdiv (g : Int)) = ((a / g : Nat) : Int) := rfl
  have hq : IntKind.u64.wrap ((a / g : Nat) : Int) = ((a / g : Nat) : Int) := by
    generalize a / g = q at *
    exact u64_of (by omega) (by omega)
  rw [this, hq]
theorem ymake_full (x y : Int) (hx0 : -9223372036854775808 ≤ x) (hx1 : x ≤ 9223372036854775807) (hy0 : -9223372036854775808 ≤ y) (hy1 : y ≤ 9223372036854775807) : F_yarn_Make x y = some (smk x y) := by
  unfold F_yarn_Make smk
  by_cases h0 : y = 0
  · rw [if_pos h0]; simp only [bT h0, if_true]
  rw [if_neg h0]
  have hb0 : 0 < y.natAbs := by omega
  have hg : 0 < Nat.gcd x.natAbs y.natAbs := Nat.gcd_pos_of_pos_right _ hb0
  simp only [bF h0, Bool.false_eq_true, if_false, size_any x hx0 hx1, size_any y hy0 hy1, ygcd_eq, Option.bind_some, quoK_nat2 hg (show x.natAbs ≤ 9223372036854775808 by omega), quoK_nat2 hg (show y.natAbs ≤ 9223372036854775808 by omega)]
  unfold mk
  generalize x.natAbs / Nat.gcd x.natAbs y.natAbs = u at *
  generalize y.natAbs / Nat.gcd x.natAbs y.natAbs = v at *
  by_cases e1 : u ≤ 1000000000
  · by_cases e2 : v ≤ 1000000000
    · have hm : (if u ≤ 1000000000 ∧ v ≤ 1000000000 then ((⟨(u : Int), (v : Int)⟩ : api_Ratio), (0 : Int)) else (⟨0, 0⟩, 16)) = (⟨(u : Int), (v : Int)⟩, 0) := if_pos ⟨e1, e2⟩
      rw [hm]
      have k1 : IntKind.i64.wrap (u : Int) = u := i64_of (by omega) (by omega)
      have k2 : IntKind.i64.wrap (v : Int) = v := i64_of (by omega) (by omega)
      have k3 : w64 (0 - (u : Int)) = -(u : Int) := by rw [w64_of (by omega) (by omega)]; omega
      simp only [dF (show ¬ (1000000000 : Int) < u by omega), dF (show ¬ (1000000000 : Int) < v by omega), Bool.false_eq_true, if_false, Option.bind_some, k1, k2, k3, if_true]
      cases (decide (x < 0) != decide (y < 0)) <;> rfl
    · have hm : (if u ≤ 1000000000 ∧ v ≤ 1000000000 then ((⟨(u : Int), (v : Int)⟩ : api_Ratio), (0 : Int)) else (⟨0, 0⟩, 16)) = (⟨0, 0⟩, 16) := if_neg (by omega)
      rw [hm]
      simp only [dF (show ¬ (1000000000 : Int) < u by omega), dT (show (1000000000 : Int) < v by omega), Bool.false_eq_true, if_false, if_true, Option.bind_some, show ¬ (16 : Int) = 0 by omega]
  · have hm : (if u ≤ 1000000000 ∧ v ≤ 1000000000 then ((⟨(u : Int), (v : Int)⟩ : api_Ratio), (0 : Int)) else (⟨0, 0⟩, 16)) = (⟨0, 0⟩, 16) := if_neg (by omega)
    rw [hm]
    simp only [dT (show (1000000000 : Int) < u by omega), if_true, Option.bind_some, show ¬ (16 : Int) = 0 by omega, if_false]
theorem mk_two (m n : Nat) : mk (2 * m) (2 * n) = mk m n := by
  unfold mk
  rw [Nat.gcd_mul_left, Nat.mul_div_mul_left _ _ (by omega), Nat.mul_div_mul_left _ _ (by omega)]
theorem smk_two (a b : Int) : smk (2 * a) (2 * b) = smk a b := by
  unfold smk
  have h1 : (2 * a).natAbs = 2 * a.natAbs := by omega
  have h2 : (2 * b).natAbs = 2 * b.natAbs := by omega
  have h3 : decide (2 * a < 0) = decide (a < 0) := by by_cases h : a < 0 <;> simp [h] <;> omega
  have h4 : decide (2 * b < 0) = decide (b < 0) := by by_cases h : b < 0 <;> simp [h] <;> omega
  rw [h1, h2, mk_two, h3, h4]
  by_cases h0 : b = 0
  · rw [if_pos (by omega), if_pos h0]
  · rw [if_neg (by omega), if_neg h0]
theorem odd_big {n : Nat} (hn : n % 2 = 1) : Nat.gcd 9223372036854775808 n = 1 := by
  have h : Nat.Coprime 2 n := by
    unfold Nat.Coprime
    rw [Nat.gcd_rec, hn]
    rfl
  have := Nat.Coprime.pow_left 63 h
  exact this
theorem rmake_s0 (x y : Int) (hx : x.natAbs ≤ 9223372036854775807) (hy : y.natAbs ≤ 9223372036854775807) : F_raddleref23_Make_s0 x y = some (smk x y) := by
  unfold F_raddleref23_Make_s0 smk
  by_cases h0 : y = 0
  · rw [if_pos h0]; simp only [bT h0, if_true]
  rw [if_neg h0]
  simp only [bF h0, bF (show ¬ x = -9223372036854775808 by omega), bF (show ¬ y = -9223372036854775808 by omega), Bool.false_eq_true, if_false, Option.bind_some]
  by_cases hn : y < 0
  · have k1 : w64 (0 - x) = -x := by rw [w64_of (by omega) (by omega)]; omega
    have k2 : w64 (0 - y) = ((y.natAbs : Nat) : Int) := by rw [w64_of (by omega) (by omega)]; omega
    simp only [dT hn, if_true, Option.bind_some, k1, k2]
    rw [rmake_pos (-x) y.natAbs (by omega) hy (by omega), Int.natAbs_neg]
    congr 1
    by_cases hm : (mk x.natAbs y.natAbs).2 = 0
    · rw [if_pos hm, if_pos hm]
      by_cases hxn : x < 0
      · rw [if_neg (by omega)]; simp [hxn]
      · by_cases hx0 : x = 0
        · subst hx0
          have : (mk 0 y.natAbs).1.Num = 0 := by
            unfold mk
            simp
            split <;> rfl
          simp [this]
        · rw [if_pos (by omega)]; simp [hxn]
    · rw [if_neg hm, if_neg hm]
  · have k2 : y = ((y.natAbs : Nat) : Int) := by omega
    simp only [dF hn, Bool.false_eq_true, if_false, Option.bind_some]
    have := rmake_pos x y.natAbs hx hy (by omega)
    rw [← k2] at this
    rw [this]
    congr 1
    by_cases hm : (mk x.natAbs y.natAbs).2 = 0
    · rw [if_pos hm, if_pos hm]
      by_cases hxn : x < 0
      · rw [if_pos hxn]; simp [hxn]
      · rw [if_neg hxn]; simp [hxn]
    · rw [if_neg hm, if_neg hm]
theorem smk_odd (x y : Int) (h0 : y ≠ 0) (h : x = -9223372036854775808 ∧ y % 2 = 1 ∨ y = -9223372036854775808 ∧ x % 2 = 1) : smk x y = (⟨0, 0⟩, 16) := by
  have hm : mk x.natAbs y.natAbs = (⟨0, 0⟩, 16) := by
    unfold mk
    rcases h with ⟨rfl, h⟩ | ⟨rfl, h⟩
    · have e : Nat.gcd (Int.natAbs (-9223372036854775808)) y.natAbs = 1 := odd_big (by omega)
      rw [e, Nat.div_one]
      exact if_neg (fun h => absurd h.1 (by decide))
    · have e : Nat.gcd x.natAbs (Int.natAbs (-9223372036854775808)) = 1 := by rw [Nat.gcd_comm]; exact odd_big (by omega)
      rw [e, Nat.div_one, Nat.div_one]
      exact if_neg (fun h => absurd h.2 (by decide))
  unfold smk
  rw [if_neg h0, hm]
  exact if_neg (by decide)
theorem rem_two (x : Int) : ∃ r, remI x 2 = some r ∧ (r = 0 ↔ x % 2 = 0) := by
  refine ⟨x.tmod 2, rfl, ?_⟩
  exact ⟨fun h => Int.emod_eq_zero_of_dvd (Int.dvd_of_tmod_eq_zero h), fun h => Int.tmod_eq_zero_of_dvd (Int.dvd_of_emod_eq_zero h)⟩
theorem quo_two (x : Int) (h0 : -9223372036854775808 ≤ x) (h1 : x ≤ 9223372036854775807) (h : x % 2 = 0) : ∃ z, quoI x 2 = some z ∧ x = 2 * z := by
  obtain ⟨z, rfl⟩ : ∃ z, x = 2 * z := ⟨x / 2, by omega⟩
  refine ⟨z, ?_, rfl⟩
  unfold quoI
  rw [if_neg (by omega), Int.mul_tdiv_cancel_left _ (by omega), w64_of (by omega) (by omega)]
theorem rmake_full (x y : Int) (hx0 : -9223372036854775808 ≤ x) (hx1 : x ≤ 9223372036854775807) (hy0 : -9223372036854775808 ≤ y) (hy1 : y ≤ 9223372036854775807) : F_raddleref23_Make x y = some (smk x y) := by
  by_cases hl : x ≠ -9223372036854775808 ∧ y ≠ -9223372036854775808
  · exact rmake_any x y (by omega) (by omega)
  unfold F_raddleref23_Make
  by_cases h0 : y = 0
  · unfold smk; rw [if_pos h0]; simp only [bT h0, if_true]
  by_cases hb : x = -9223372036854775808 ∧ y = -9223372036854775808
  · obtain ⟨rfl, rfl⟩ := hb
    have hm : mk 9223372036854775808 9223372036854775808 = (⟨1, 1⟩, 0) := by
      unfold mk
      rw [Nat.gcd_self]
      rfl
    have hs : smk (-9223372036854775808) (-9223372036854775808) = (⟨1, 1⟩, 0) := by
      unfold smk
      rw [if_neg (by omega), show Int.natAbs (-9223372036854775808) = 9223372036854775808 from rfl, hm]
      simp
    rw [hs]
    rfl
  have o8 : (if (x == -9223372036854775808) = true then some (y == -9223372036854775808) else some false) = some false := by
    by_cases hx : x = -9223372036854775808
    · rw [if_pos (bT hx), bF (fun hy => hb ⟨hx, hy⟩)]
    · simp only [bF hx, Bool.false_eq_true, if_false]
  have o15 : (if (x == -9223372036854775808) = true then some true else some (y == -9223372036854775808)) = some true := by
    by_cases hx : x = -9223372036854775808
    · rw [if_pos (bT hx)]
    · simp only [bF hx, Bool.false_eq_true, if_false]
      rw [bT (by omega)]
  simp only [bF h0, Bool.false_eq_true, if_false, o8, Option.bind_some, o15, if_true]
  obtain ⟨r, r1, r2⟩ := rem_two x
  obtain ⟨s, s1, s2⟩ := rem_two y
  rw [r1, s1]
  simp only [Option.bind_some]
  by_cases he : x % 2 = 0 ∧ y % 2 = 0
  · obtain ⟨u, u1, rfl⟩ := quo_two x hx0 hx1 he.1
    obtain ⟨v, v1, rfl⟩ := quo_two y hy0 hy1 he.2
    rw [u1, v1]
    simp only [bT (r2.2 he.1), bT (s2.2 he.2), if_true, Option.bind_some]
    rw [rmake_s0 u v (by omega) (by omega), smk_two]
    rfl
  · have o21 : (if (r == 0) = true then some (s == 0) else some false) = some false := by
      by_cases hx : x % 2 = 0
      · rw [if_pos (bT (r2.2 hx)), bF (fun h => he ⟨hx, s2.1 h⟩)]
      · simp only [bF (fun h => hx (r2.1 h)), Bool.false_eq_true, if_false]
    simp only [o21, Option.bind_some, Bool.false_eq_true, if_false]
    rw [smk_odd x y h0 (by omega)]

end Go.Proofs.YtdfjcpnflmgdoaaDoor
namespace Go.Proofs.YtdfjcpnflmgdoaaDoor
open Go.RowKit
set_option linter.unusedVariables false

noncomputable def F_yarn_Text (p0 : api_Ratio) : Option (ByteArray × Int) :=
  Option.bind (F_yarn_Check p0) fun r5 =>
  if r5 != 0 then
    some ((⟨#[]⟩ : ByteArray), r5)
  else
    Option.bind (F_strconv_FormatInt p0.Num 10) fun r11 =>
    Option.bind (α := ByteArray) (
      if p0.Den != 1 then
        Option.bind (F_strconv_FormatInt p0.Den 10) fun r18 =>
        Option.bind (addS (⟨#[47]⟩ : ByteArray) r18) fun z20 =>
        Option.bind (addS r11 z20) fun z22 =>
        some z22
      else
        some r11) fun o13 =>
    some (o13, 0)
set_option maxHeartbeats 4000000 in
set_option maxRecDepth 100000 in
theorem c_yarn_Text (E : Nat → Prop) (w0 : World) (p0 : api_Ratio) (v0 : Value) (r : (ByteArray × Int)) (h : F_yarn_Text p0 = some r) (S : St0 E [] w0 w0 [] [fRep r_api_Ratio (v0) p0, fGv gTab cTab]) :
    Calls Tryd.prog 6 #[v0] w0 (Ret (X := Unit) E [] w0 (fun _ => .tuple #[.string r.1, .int .i64 r.2]) (fun _ => []) (fun _ => [])) := by
  unfold F_yarn_Text at h
  obtain rfl : v0 = .agg #[iv p0.Num, iv p0.Den] := S.know (i := 0) (e := fRep r_api_Ratio (v0) p0) rfl
  refine sEnter (args := [.agg #[iv p0.Num, iv p0.Den]]) 24 Tryd.func6 rfl rfl (by simp) S (fun a S => ?_)
  refine sSeq (fun K1 hK1 => ?_)
  refine sRegion ?_
  refine sBox (v := .agg #[iv p0.Num, iv p0.Den]) S (wN rfl) rfl rfl [iv p0.Num, iv p0.Den] rfl rfl (lb rfl) fun a b2 w S => ?_
  refine sMove (.string (⟨#[]⟩ : ByteArray)) S (wN rfl) (.inr rfl) rfl rfl (lb rfl) fun a S => ?_
  refine sMove (iv 0) S (wN rfl) (.inr rfl) rfl rfl (lb rfl) fun a S => ?_
  refine leafL (leafT (hK1 _ _ ?_))
  refine sSeq (fun K3 hK3 => ?_)
  refine sSeq (fun K4 hK4 => ?_)
  refine sRegion ?_
  refine sLoadN (p := b2) (off := 0) (T := 23) (vs := [iv p0.Num, iv p0.Den]) 0 [iv p0.Num, iv p0.Den] S (wN rfl) rfl rfl rfl rfl rfl rfl rfl (lb rfl) fun a S => ?_
  obtain ⟨r5, hx6, h⟩ := bindSome h
  have S1 := S.mem
  refine sCallQ (X := Unit) (f := 14) (vs := [.agg #[iv p0.Num, iv p0.Den]]) (val := fun _ => iv r5) S (wN rfl) rfl callee14 rfl (S1.quiet [0] rfl) (fun E1 w1 S1 => c_yarn_Check E1 w1 p0 (.agg #[iv p0.Num, iv p0.Den]) r5 hx6 S1) rfl (lb rfl) fun _ a w S => ?_
  refine sMove (iv r5) S (wN rfl) (.inr rfl) rfl rfl (lb rfl) fun a S => ?_
  refine leafL (leafT (hK4 _ _ ?_))
  refine sSeq (fun K7 hK7 => ?_)
  refine sRegion ?_
  refine sMove (iv r5) S (wN rfl) (.inl rfl) rfl rfl (lb rfl) fun a S => ?_
  refine sBin (.bool (r5 != 0)) S (wN rfl) rfl rfl rfl (bNe _ _ _ _ .i64 r5 0) rfl (lb rfl) fun a S => ?_
  refine leafL (leafT (hK7 _ _ ?_))
  rcases iteSome h with ⟨hc8, h⟩ | ⟨hc8, h⟩
  · refine sCondT S rfl hc8 ?_
    refine sSeq (fun K9 hK9 => ?_)
    refine sRegion ?_
    refine sMove (iv r5) S (wN rfl) (.inl rfl) rfl rfl (lb rfl) fun a S => ?_
    refine sMove (.string (⟨#[]⟩ : ByteArray)) S (wN rfl) (.inr rfl) rfl rfl (lb rfl) fun a S => ?_
    refine sMove (iv r5) S (wN rfl) (.inr rfl) rfl rfl (lb rfl) fun a S => ?_
    refine leafL (leafT (hK9 _ _ ?_))
    obtain rfl := Option.some.inj h
    exact wp_ret (rThen (sRet (.tuple #[.string (⟨#[]⟩ : ByteArray), iv r5]) S (rsl2 rfl (rvT (t := 2) (v := .string (⟨#[]⟩ : ByteArray)) S rfl) (rvT (t := 3) (v := iv r5) S rfl)) ⟨(), rfl, S.mem.sel [] [] (by decide) rfl rfl⟩))
  refine sCondF S rfl hc8 ?_
  refine wp_skip (leafT (hK3 _ _ ?_))
  refine sSeq (fun K10 hK10 => ?_)
  refine sRegion ?_
  refine sField (b := b2) (off := 0) 0 0 S (wN rfl) rfl rfl rfl rfl rfl (lb rfl) fun a S => ?_
  refine sLoad1 (p := b2) (off := 0) (T := 23) (vs := [iv p0.Num, iv p0.Den]) 0 (iv p0.Num) S (wN rfl) rfl rfl rfl rfl rfl rfl (lb rfl) fun a S => ?_
  obtain ⟨r11, hx12, h⟩ := bindSome h
  have S1 := S.mem
  refine sCallQ (X := Unit) (f := 15) (vs := [iv p0.Num, iv 10]) (val := fun _ => .string r11) S (wN rfl) rfl callee15 rfl (S1.quiet [1] rfl) (fun E1 w1 S1 => c_strconv_FormatInt E1 w1 p0.Num 10 r11 hx12 S1) rfl (lb rfl) fun _ a w S => ?_
  refine sMove (.string r11) S (wN rfl) (.inr rfl) rfl rfl (lb rfl) fun a S => ?_
  refine leafL (leafT (hK10 _ _ ?_))
  obtain ⟨t14, h, g15⟩ := bindSome h
  refine sCut (fun a w => ∃ o13, o13 = t14 ∧ St [] E [] w0 24 a w [(5, .string o13)] [] [fGv gTab cTab]) ?_ (fun a w hI => ?_)
  rotate_left
  · obtain ⟨o13, rfl, S⟩ := hI
    have h := g15
    clear g15
    try dsimp only at h
    refine sSeq (fun K24 hK24 => ?_)
    refine sRegion ?_
    refine sMove (.string o13) S (wN rfl) (.inl rfl) rfl rfl (lb rfl) fun a S => ?_
    refine sMove (.string o13) S (wN rfl) (.inr rfl) rfl rfl (lb rfl) fun a S => ?_
    refine sMove (iv 0) S (wN rfl) (.inr rfl) rfl rfl (lb rfl) fun a S => ?_
    refine leafL (leafT (hK24 _ _ ?_))
    obtain rfl := Option.some.inj h
    exact wp_ret (sRet (.tuple #[.string o13, iv 0]) S (rsl2 rfl (rvT (t := 2) (v := .string o13) S rfl) (rvT (t := 3) (v := iv 0) S rfl)) ⟨(), rfl, S.mem.sel [] [] (by decide) rfl rfl⟩)
  refine sSeq (fun K16 hK16 => ?_)
  refine sRegion ?_
  refine sField (b := b2) (off := 0) 1 1 S (wN rfl) rfl rfl rfl rfl rfl (lb rfl) fun a S => ?_
  refine sLoad1 (p := b2) (off := 1) (T := 23) (vs := [iv p0.Num, iv p0.Den]) 0 (iv p0.Den) S (wN rfl) rfl rfl rfl rfl rfl rfl (lb rfl) fun a S => ?_
  refine sBin (.bool (p0.Den != 1)) S (wN rfl) rfl rfl rfl (bNe _ _ _ _ .i64 p0.Den 1) rfl (lb rfl) fun a S => ?_
  refine leafL (leafT (hK16 _ _ ?_))
  rcases iteSome h with ⟨hc17, h⟩ | ⟨hc17, h⟩
  rotate_left
  · refine sCondF S rfl hc17 ?_
    exact wp_skip (leafT (⟨r11, Option.some.inj h, S.fix [] [1] (by decide) rfl rfl rfl⟩))
  refine sCondT S rfl hc17 ?_
  refine sRegion ?_
  refine sMove (.string r11) S (wN rfl) (.inl rfl) rfl rfl (lb rfl) fun a S => ?_
  refine sField (b := b2) (off := 0) 1 1 S (wN rfl) rfl rfl rfl rfl rfl (lb rfl) fun a S => ?_
  refine sLoad1 (p := b2) (off := 1) (T := 23) (vs := [iv p0.Num, iv p0.Den]) 0 (iv p0.Den) S (wN rfl) rfl rfl rfl rfl rfl rfl (lb rfl) fun a S => ?_
  obtain ⟨r18, hx19, h⟩ := bindSome h
  have S1 := S.mem
  refine sCallQ (X := Unit) (f := 15) (vs := [iv p0.Den, iv 10]) (val := fun _ => .string r18) S (wN rfl) rfl callee15 rfl (S1.quiet [1] rfl) (fun E1 w1 S1 => c_strconv_FormatInt E1 w1 p0.Den 10 r18 hx19 S1) rfl (lb rfl) fun _ a w S => ?_
  obtain ⟨z20, hx21, h⟩ := bindSome h
  refine sBin (.string z20) S (wN rfl) rfl rfl rfl (bAddS _ _ _ _ (x := (⟨#[47]⟩ : ByteArray)) (y := r18) hx21) rfl (lb rfl) fun a S => ?_
  obtain ⟨z22, hx23, h⟩ := bindSome h
  refine sBin (.string z22) S (wN rfl) rfl rfl rfl (bAddS _ _ _ _ (x := r11) (y := z20) hx23) rfl (lb rfl) fun a S => ?_
  refine sMove (.string z22) S (wN rfl) (.inr rfl) rfl rfl (lb rfl) fun a S => ?_
  exact leafL (leafT (⟨z22, Option.some.inj h, S.fix [] [1] (by decide) rfl rfl rfl⟩))

end Go.Proofs.YtdfjcpnflmgdoaaDoor
namespace Go.Proofs.YtdfjcpnflmgdoaaDoor
open Go.RowKit
set_option linter.unusedVariables false

noncomputable def raddleref23_Decimal_s1_l1  : (Int × ByteArray) → Option ((Int × ByteArray) ⊕ ByteArray) := fun s0 => match s0 with
  | (s7, s8) =>
    Option.bind (remI s7 10) fun z13 =>
    Option.bind (addS (strO ([IntKind.u8.wrap (w64 (48 + z13))] : List Int)) s8) fun z17 =>
    Option.bind (quoI s7 10) fun z20 =>
    if z20 == 0 then
      some (.inr z17)
    else
      some (.inl (z20, z17))
noncomputable def F_raddleref23_Decimal_s1 (p0 : Int) : Option ByteArray :=
  if decide (p0 < 0) then
    none
  else
    Option.bind (whileO (raddleref23_Decimal_s1_l1) (p0, (⟨#[]⟩ : ByteArray))) fun z =>
      some z
set_option maxHeartbeats 4000000 in
set_option maxRecDepth 100000 in
theorem c_raddleref23_Decimal_s1 (E : Nat → Prop) (w0 : World) (p0 : Int) (r : ByteArray) (h : F_raddleref23_Decimal_s1 p0 = some r) (S : St0 E [] w0 w0 [] []) :
    Calls Tryd.prog 16 #[iv p0] w0 (Ret (X := Unit) E [] w0 (fun _ => .string r) (fun _ => []) (fun _ => [])) := by
  unfold F_raddleref23_Decimal_s1 at h
  refine sEnter (args := [iv p0]) 23 Tryd.func16 rfl rfl (by simp) S (fun a S => ?_)
  refine sSeq (fun K1 hK1 => ?_)
  refine sRegion ?_
  refine sMove (.string (⟨#[]⟩ : ByteArray)) S (wN rfl) (.inr rfl) rfl rfl (lb rfl) fun a S => ?_
  refine leafL (leafT (hK1 _ _ ?_))
  refine sSeq (fun K2 hK2 => ?_)
  refine sSeq (fun K3 hK3 => ?_)
  refine sRegion ?_
  refine sMove (iv p0) S (wN rfl) (.inl rfl) rfl rfl (lb rfl) fun a S => ?_
  refine sBin (.bool (decide (p0 < 0))) S (wN rfl) rfl rfl rfl (bLt _ _ _ _ .i64 p0 0) rfl (lb rfl) fun a S => ?_
  refine leafL (leafT (hK3 _ _ ?_))
  rcases iteSome h with ⟨hc4, h⟩ | ⟨hc4, h⟩
  · refine sCondT S rfl hc4 ?_
    refine sSeq (fun K5 hK5 => ?_)
    refine sRegion ?_
    refine sMove (iv p0) S (wN rfl) (.inl rfl) rfl rfl (lb rfl) fun a S => ?_
    refine sNeg (b := p0) S (wN rfl) rfl rfl rfl (lb rfl) fun a S => ?_
    cases h
  refine sCondF S rfl hc4 ?_
  refine wp_skip (leafT (hK2 _ _ ?_))
  refine sSeq (fun K6 hK6 => ?_)
  refine sRegion ?_
  refine sMove (.string (⟨#[]⟩ : ByteArray)) S (wN rfl) (.inr rfl) rfl rfl (lb rfl) fun a S => ?_
  refine leafL (leafT (hK6 _ _ ?_))
  refine wp_block ?_
  obtain ⟨t11, hl, g10⟩ := bindSome h
  refine sLoop hl (fun s0 a w => match s0 with | (s7, s8) => St [] E [] w0 23 a w [(0, iv s7), (3, .string s8)] [] []) (S.fix [] [] (by decide) rfl rfl rfl) ?_
  clear hl h
  intro s0 a w c0 hI h hu9
  obtain ⟨s7, s8⟩ := s0
  unfold raddleref23_Decimal_s1_l1 at h
  dsimp only at h hI
  have S := hI
  refine wp_block ?_
  refine sSeq (fun K12 hK12 => ?_)
  refine sRegion ?_
  refine sMove (iv s7) S (wN rfl) (.inl rfl) rfl rfl (lb rfl) fun a S => ?_
  obtain ⟨z13, hx14, h⟩ := bindSome h
  refine sBin (iv z13) S (wN rfl) rfl rfl rfl (bRem _ _ _ _ (x := s7) (y := 10) hx14) rfl (lb rfl) fun a S => ?_
  refine sBin (iv (w64 (48 + z13))) S (wN rfl) rfl rfl rfl (bAdd _ _ _ _ 48 z13) rfl (lb rfl) fun a S => ?_
  refine sConv (k := .i64) (k2 := .u8) (b := w64 (48 + z13)) S (wN rfl) rfl Tryd.underlying2 Tryd.underlying5 rfl rfl (lb rfl) fun a S => ?_
  refine sLit (r := (rI .u8)) (T := 5) (xs := ([IntKind.u8.wrap (w64 (48 + z13))] : List Int)) [(0, .int .u8 (IntKind.u8.wrap (w64 (48 + z13))))] 1 [.int .u8 (IntKind.u8.wrap (w64 (48 + z13)))] [.int .u8 (IntKind.u8.wrap (w64 (48 + z13)))] (.int .u8 0) 1 S (wN rfl) rfl rfl Tryd.underlying50 rfl (by decide) (by decide) (by kernel_rfl) rfl (fun E1 w1 hE => All.cons rfl (All.nil _ _ _)) rfl rfl (lb rfl) fun a w ad15 cp16 S => ?_
  refine sBytesStr (e := 5) (v := .slice ad15 ([IntKind.u8.wrap (w64 (48 + z13))] : List Int).length cp16) (ys := ([IntKind.u8.wrap (w64 (48 + z13))] : List Int)) S (wN rfl) rfl rfl Tryd.underlying50 Tryd.underlying5 Tryd.underlying9 (src_R (T := 5) 0 S.mem rfl) rfl (lb rfl) fun a S => ?_
  refine sMove (.string s8) S (wN rfl) (.inl rfl) rfl rfl (lb rfl) fun a S => ?_
  obtain ⟨z17, hx18, h⟩ := bindSome h
  refine sBin (.string z17) S (wN rfl) rfl rfl rfl (bAddS _ _ _ _ (x := strO ([IntKind.u8.wrap (w64 (48 + z13))] : List Int)) (y := s8) hx18) rfl (lb rfl) fun a S => ?_
  refine sMove (.string z17) S (wN rfl) (.inr rfl) rfl rfl (lb rfl) fun a S => ?_
  refine leafL (leafT (hK12 _ _ ?_))
  refine sSeq (fun K19 hK19 => ?_)
  refine sRegion ?_
  refine sMove (iv s7) S (wN rfl) (.inl rfl) rfl rfl (lb rfl) fun a S => ?_
  obtain ⟨z20, hx21, h⟩ := bindSome h
  refine sBin (iv z20) S (wN rfl) rfl rfl rfl (bQuo _ _ _ _ (x := s7) (y := 10) hx21) rfl (lb rfl) fun a S => ?_
  refine sMove (iv z20) S (wN rfl) (.inr rfl) rfl rfl (lb rfl) fun a S => ?_
  refine leafL (leafT (hK19 _ _ ?_))
  refine sSeq (fun K22 hK22 => ?_)
  refine sRegion ?_
  refine sMove (iv z20) S (wN rfl) (.inl rfl) rfl rfl (lb rfl) fun a S => ?_
  refine sBin (.bool (z20 == 0)) S (wN rfl) rfl rfl rfl (bEq _ _ _ _ .i64 z20 0) rfl (lb rfl) fun a S => ?_
  refine leafL (leafT (hK22 _ _ ?_))
  rcases iteSome h with ⟨hc23, h⟩ | ⟨hc23, h⟩
  rotate_left
  · refine sCondF S rfl hc23 ?_
    exact wp_skip (leafB (leafT (⟨(z20, z17), (Option.some.inj h).symm, (S.fix [] [] (by decide) rfl rfl rfl)⟩)))
  refine sCondT S rfl hc23 ?_
  refine sSeq (fun K24 hK24 => ?_)
  refine sRegion ?_
  refine sMove (.string z17) S (wN rfl) (.inl rfl) rfl rfl (lb rfl) fun a S => ?_
  refine sMove (.string z17) S (wN rfl) (.inr rfl) rfl rfl (lb rfl) fun a S => ?_
  refine leafL (leafT (hK24 _ _ ?_))
  obtain rfl := Option.some.inj h
  obtain rfl := hu9 _ rfl
  have h := g10
  clear g10
  try dsimp only at h
  obtain rfl := Option.some.inj h
  exact wp_ret (rBlock (rThen (rBlock (sRet (.string z17) S (rsl1 rfl (rvT (t := 2) (v := .string z17) S rfl)) ⟨(), rfl, S.mem.sel [] [] (by decide) rfl rfl⟩))))

end Go.Proofs.YtdfjcpnflmgdoaaDoor
namespace Go.Proofs.YtdfjcpnflmgdoaaDoor
open Go.RowKit
set_option linter.unusedVariables false

noncomputable def raddleref23_Decimal_s0_l1  : (Int × ByteArray) → Option ((Int × ByteArray) ⊕ ByteArray) := fun s0 => match s0 with
  | (s11, s12) =>
    Option.bind (remI s11 10) fun z17 =>
    Option.bind (addS (strO ([IntKind.u8.wrap (w64 (48 + z17))] : List Int)) s12) fun z21 =>
    Option.bind (quoI s11 10) fun z24 =>
    if z24 == 0 then
      some (.inr z21)
    else
      some (.inl (z24, z21))
noncomputable def F_raddleref23_Decimal_s0 (p0 : Int) : Option ByteArray :=
  if decide (p0 < 0) then
    Option.bind (F_raddleref23_Decimal_s1 (w64 (0 - p0))) fun r6 =>
    Option.bind (addS (⟨#[45]⟩ : ByteArray) r6) fun z8 =>
    some z8
  else
    Option.bind (whileO (raddleref23_Decimal_s0_l1) (p0, (⟨#[]⟩ : ByteArray))) fun z =>
      some z
set_option maxHeartbeats 4000000 in
set_option maxRecDepth 100000 in
theorem c_raddleref23_Decimal_s0 (E : Nat → Prop) (w0 : World) (p0 : Int) (r : ByteArray) (h : F_raddleref23_Decimal_s0 p0 = some r) (S : St0 E [] w0 w0 [] []) :
    Calls Tryd.prog 16 #[iv p0] w0 (Ret (X := Unit) E [] w0 (fun _ => .string r) (fun _ => []) (fun _ => [])) := by
  unfold F_raddleref23_Decimal_s0 at h
  refine sEnter (args := [iv p0]) 23 Tryd.func16 rfl rfl (by simp) S (fun a S => ?_)
  refine sSeq (fun K1 hK1 => ?_)
  refine sRegion ?_
  refine sMove (.string (⟨#[]⟩ : ByteArray)) S (wN rfl) (.inr rfl) rfl rfl (lb rfl) fun a S => ?_
  refine leafL (leafT (hK1 _ _ ?_))
  refine sSeq (fun K2 hK2 => ?_)
  refine sSeq (fun K3 hK3 => ?_)
  refine sRegion ?_
  refine sMove (iv p0) S (wN rfl) (.inl rfl) rfl rfl (lb rfl) fun a S => ?_
  refine sBin (.bool (decide (p0 < 0))) S (wN rfl) rfl rfl rfl (bLt _ _ _ _ .i64 p0 0) rfl (lb rfl) fun a S => ?_
  refine leafL (leafT (hK3 _ _ ?_))
  rcases iteSome h with ⟨hc4, h⟩ | ⟨hc4, h⟩
  · refine sCondT S rfl hc4 ?_
    refine sSeq (fun K5 hK5 => ?_)
    refine sRegion ?_
    refine sMove (iv p0) S (wN rfl) (.inl rfl) rfl rfl (lb rfl) fun a S => ?_
    refine sNeg (b := p0) S (wN rfl) rfl rfl rfl (lb rfl) fun a S => ?_
    obtain ⟨r6, hx7, h⟩ := bindSome h
    have S1 := S.mem
    refine sCallQ (X := Unit) (f := 16) (vs := [iv (w64 (0 - p0))]) (val := fun _ => .string r6) S (wN rfl) rfl callee16 rfl (S1.quiet [] rfl) (fun E1 w1 S1 => c_raddleref23_Decimal_s1 E1 w1 (w64 (0 - p0)) r6 hx7 S1) rfl (lb rfl) fun _ a w S => ?_
    obtain ⟨z8, hx9, h⟩ := bindSome h
    refine sBin (.string z8) S (wN rfl) rfl rfl rfl (bAddS _ _ _ _ (x := (⟨#[45]⟩ : ByteArray)) (y := r6) hx9) rfl (lb rfl) fun a S => ?_
    refine sMove (.string z8) S (wN rfl) (.inr rfl) rfl rfl (lb rfl) fun a S => ?_
    refine leafL (leafT (hK5 _ _ ?_))
    obtain rfl := Option.some.inj h
    exact wp_ret (rThen (sRet (.string z8) S (rsl1 rfl (rvT (t := 2) (v := .string z8) S rfl)) ⟨(), rfl, S.mem.sel [] [] (by decide) rfl rfl⟩))
  refine sCondF S rfl hc4 ?_
  refine wp_skip (leafT (hK2 _ _ ?_))
  refine sSeq (fun K10 hK10 => ?_)
  refine sRegion ?_
  refine sMove (.string (⟨#[]⟩ : ByteArray)) S (wN rfl) (.inr rfl) rfl rfl (lb rfl) fun a S => ?_
  refine leafL (leafT (hK10 _ _ ?_))
  refine wp_block ?_
  obtain ⟨t15, hl, g14⟩ := bindSome h
  refine sLoop hl (fun s0 a w => match s0 with | (s11, s12) => St [] E [] w0 23 a w [(0, iv s11), (3, .string s12)] [] []) (S.fix [] [] (by decide) rfl rfl rfl) ?_
  clear hl h
  intro s0 a w c0 hI h hu13
  obtain ⟨s11, s12⟩ := s0
  unfold raddleref23_Decimal_s0_l1 at h
  dsimp only at h hI
  have S := hI
  refine wp_block ?_
  refine sSeq (fun K16 hK16 => ?_)
  refine sRegion ?_
  refine sMove (iv s11) S (wN rfl) (.inl rfl) rfl rfl (lb rfl) fun a S => ?_
  obtain ⟨z17, hx18, h⟩ := bindSome h
  refine sBin (iv z17) S (wN rfl) rfl rfl rfl (bRem _ _ _ _ (x := s11) (y := 10) hx18) rfl (lb rfl) fun a S => ?_
  refine sBin (iv (w64 (48 + z17))) S (wN rfl) rfl rfl rfl (bAdd _ _ _ _ 48 z17) rfl (lb rfl) fun a S => ?_
  refine sConv (k := .i64) (k2 := .u8) (b := w64 (48 + z17)) S (wN rfl) rfl Tryd.underlying2 Tryd.underlying5 rfl rfl (lb rfl) fun a S => ?_
  refine sLit (r := (rI .u8)) (T := 5) (xs := ([IntKind.u8.wrap (w64 (48 + z17))] : List Int)) [(0, .int .u8 (IntKind.u8.wrap (w64 (48 + z17))))] 1 [.int .u8 (IntKind.u8.wrap (w64 (48 + z17)))] [.int .u8 (IntKind.u8.wrap (w64 (48 + z17)))] (.int .u8 0) 1 S (wN rfl) rfl rfl Tryd.underlying50 rfl (by decide) (by decide) (by kernel_rfl) rfl (fun E1 w1 hE => All.cons rfl (All.nil _ _ _)) rfl rfl (lb rfl) fun a w ad19 cp20 S => ?_
  refine sBytesStr (e := 5) (v := .slice ad19 ([IntKind.u8.wrap (w64 (48 + z17))] : List Int).length cp20) (ys := ([IntKind.u8.wrap (w64 (48 + z17))] : List Int)) S (wN rfl) rfl rfl Tryd.underlying50 Tryd.underlying5 Tryd.underlying9 (src_R (T := 5) 0 S.mem rfl) rfl (lb rfl) fun a S => ?_
  refine sMove (.string s12) S (wN rfl) (.inl rfl) rfl rfl (lb rfl) fun a S => ?_
  obtain ⟨z21, hx22, h⟩ := bindSome h
  refine sBin (.string z21) S (wN rfl) rfl rfl rfl (bAddS _ _ _ _ (x := strO ([IntKind.u8.wrap (w64 (48 + z17))] : List Int)) (y := s12) hx22) rfl (lb rfl) fun a S => ?_
  refine sMove (.string z21) S (wN rfl) (.inr rfl) rfl rfl (lb rfl) fun a S => ?_
  refine leafL (leafT (hK16 _ _ ?_))
  refine sSeq (fun K23 hK23 => ?_)
  refine sRegion ?_
  refine sMove (iv s11) S (wN rfl) (.inl rfl) rfl rfl (lb rfl) fun a S => ?_
  obtain ⟨z24, hx25, h⟩ := bindSome h
  refine sBin (iv z24) S (wN rfl) rfl rfl rfl (bQuo _ _ _ _ (x := s11) (y := 10) hx25) rfl (lb rfl) fun a S => ?_
  refine sMove (iv z24) S (wN rfl) (.inr rfl) rfl rfl (lb rfl) fun a S => ?_
  refine leafL (leafT (hK23 _ _ ?_))
  refine sSeq (fun K26 hK26 => ?_)
  refine sRegion ?_
  refine sMove (iv z24) S (wN rfl) (.inl rfl) rfl rfl (lb rfl) fun a S => ?_
  refine sBin (.bool (z24 == 0)) S (wN rfl) rfl rfl rfl (bEq _ _ _ _ .i64 z24 0) rfl (lb rfl) fun a S => ?_
  refine leafL (leafT (hK26 _ _ ?_))
  rcases iteSome h with ⟨hc27, h⟩ | ⟨hc27, h⟩
  rotate_left
  · refine sCondF S rfl hc27 ?_
    exact wp_skip (leafB (leafT (⟨(z24, z21), (Option.some.inj h).symm, (S.fix [] [] (by decide) rfl rfl rfl)⟩)))
  refine sCondT S rfl hc27 ?_
  refine sSeq (fun K28 hK28 => ?_)
  refine sRegion ?_
  refine sMove (.string z21) S (wN rfl) (.inl rfl) rfl rfl (lb rfl) fun a S => ?_
  refine sMove (.string z21) S (wN rfl) (.inr rfl) rfl rfl (lb rfl) fun a S => ?_
  refine leafL (leafT (hK28 _ _ ?_))
  obtain rfl := Option.some.inj h
  obtain rfl := hu13 _ rfl
  have h := g14
  clear g14
  try dsimp only at h
  obtain rfl := Option.some.inj h
  exact wp_ret (rBlock (rThen (rBlock (sRet (.string z21) S (rsl1 rfl (rvT (t := 2) (v := .string z21) S rfl)) ⟨(), rfl, S.mem.sel [] [] (by decide) rfl rfl⟩))))

end Go.Proofs.YtdfjcpnflmgdoaaDoor
namespace Go.Proofs.YtdfjcpnflmgdoaaDoor
open Go.RowKit
set_option linter.unusedVariables false

noncomputable def raddleref23_Decimal_l1  : (Int × ByteArray) → Option ((Int × ByteArray) ⊕ ByteArray) := fun s0 => match s0 with
  | (s11, s12) =>
    Option.bind (remI s11 10) fun z17 =>
    Option.bind (addS (strO ([IntKind.u8.wrap (w64 (48 + z17))] : List Int)) s12) fun z21 =>
    Option.bind (quoI s11 10) fun z24 =>
    if z24 == 0 then
      some (.inr z21)
    else
      some (.inl (z24, z21))
noncomputable def F_raddleref23_Decimal (p0 : Int) : Option ByteArray :=
  if decide (p0 < 0) then
    Option.bind (F_raddleref23_Decimal_s0 (w64 (0 - p0))) fun r6 =>
    Option.bind (addS (⟨#[45]⟩ : ByteArray) r6) fun z8 =>
    some z8
  else
    Option.bind (whileO (raddleref23_Decimal_l1) (p0, (⟨#[]⟩ : ByteArray))) fun z =>
      some z
set_option maxHeartbeats 4000000 in
set_option maxRecDepth 100000 in
theorem c_raddleref23_Decimal (E : Nat → Prop) (w0 : World) (p0 : Int) (r : ByteArray) (h : F_raddleref23_Decimal p0 = some r) (S : St0 E [] w0 w0 [] []) :
    Calls Tryd.prog 16 #[iv p0] w0 (Ret (X := Unit) E [] w0 (fun _ => .string r) (fun _ => []) (fun _ => [])) := by
  unfold F_raddleref23_Decimal at h
  refine sEnter (args := [iv p0]) 23 Tryd.func16 rfl rfl (by simp) S (fun a S => ?_)
  refine sSeq (fun K1 hK1 => ?_)
  refine sRegion ?_
  refine sMove (.string (⟨#[]⟩ : ByteArray)) S (wN rfl) (.inr rfl) rfl rfl (lb rfl) fun a S => ?_
  refine leafL (leafT (hK1 _ _ ?_))
  refine sSeq (fun K2 hK2 => ?_)
  refine sSeq (fun K3 hK3 => ?_)
  refine sRegion ?_
  refine sMove (iv p0) S (wN rfl) (.inl rfl) rfl rfl (lb rfl) fun a S => ?_
  refine sBin (.bool (decide (p0 < 0))) S (wN rfl) rfl rfl rfl (bLt _ _ _ _ .i64 p0 0) rfl (lb rfl) fun a S => ?_
  refine leafL (leafT (hK3 _ _ ?_))
  rcases iteSome h with ⟨hc4, h⟩ | ⟨hc4, h⟩
  · refine sCondT S rfl hc4 ?_
    refine sSeq (fun K5 hK5 => ?_)
    refine sRegion ?_
    refine sMove (iv p0) S (wN rfl) (.inl rfl) rfl rfl (lb rfl) fun a S => ?_
    refine sNeg (b := p0) S (wN rfl) rfl rfl rfl (lb rfl) fun a S => ?_
    obtain ⟨r6, hx7, h⟩ := bindSome h
    have S1 := S.mem
    refine sCallQ (X := Unit) (f := 16) (vs := [iv (w64 (0 - p0))]) (val := fun _ => .string r6) S (wN rfl) rfl callee16 rfl (S1.quiet [] rfl) (fun E1 w1 S1 => c_raddleref23_Decimal_s0 E1 w1 (w64 (0 - p0)) r6 hx7 S1) rfl (lb rfl) fun _ a w S => ?_
    obtain ⟨z8, hx9, h⟩ := bindSome h
    refine sBin (.string z8) S (wN rfl) rfl rfl rfl (bAddS _ _ _ _ (x := (⟨#[45]⟩ : ByteArray)) (y := r6) hx9) rfl (lb rfl) fun a S => ?_
    refine sMove (.string z8) S (wN rfl) (.inr rfl) rfl rfl (lb rfl) fun a S => ?_
    refine leafL (leafT (hK5 _ _ ?_))
    obtain rfl := Option.some.inj h
    exact wp_ret (rThen (sRet (.string z8) S (rsl1 rfl (rvT (t := 2) (v := .string z8) S rfl)) ⟨(), rfl, S.mem.sel [] [] (by decide) rfl rfl⟩))
  refine sCondF S rfl hc4 ?_
  refine wp_skip (leafT (hK2 _ _ ?_))
  refine sSeq (fun K10 hK10 => ?_)
  refine sRegion ?_
  refine sMove (.string (⟨#[]⟩ : ByteArray)) S (wN rfl) (.inr rfl) rfl rfl (lb rfl) fun a S => ?_
  refine leafL (leafT (hK10 _ _ ?_))
  refine wp_block ?_
  obtain ⟨t15, hl, g14⟩ := bindSome h
  refine sLoop hl (fun s0 a w => match s0 with | (s11, s12) => St [] E [] w0 23 a w [(0, iv s11), (3, .string s12)] [] []) (S.fix [] [] (by decide) rfl rfl rfl) ?_
  clear hl h
  intro s0 a w c0 hI h hu13
  obtain ⟨s11, s12⟩ := s0
  unfold raddleref23_Decimal_l1 at h
  dsimp only at h hI
  have S := hI
  refine wp_block ?_
  refine sSeq (fun K16 hK16 => ?_)
  refine sRegion ?_
  refine sMove (iv s11) S (wN rfl) (.inl rfl) rfl rfl (lb rfl) fun a S => ?_
  obtain ⟨z17, hx18, h⟩ := bindSome h
  refine sBin (iv z17) S (wN rfl) rfl rfl rfl (bRem _ _ _ _ (x := s11) (y := 10) hx18) rfl (lb rfl) fun a S => ?_
  refine sBin (iv (w64 (48 + z17))) S (wN rfl) rfl rfl rfl (bAdd _ _ _ _ 48 z17) rfl (lb rfl) fun a S => ?_
  refine sConv (k := .i64) (k2 := .u8) (b := w64 (48 + z17)) S (wN rfl) rfl Tryd.underlying2 Tryd.underlying5 rfl rfl (lb rfl) fun a S => ?_
  refine sLit (r := (rI .u8)) (T := 5) (xs := ([IntKind.u8.wrap (w64 (48 + z17))] : List Int)) [(0, .int .u8 (IntKind.u8.wrap (w64 (48 + z17))))] 1 [.int .u8 (IntKind.u8.wrap (w64 (48 + z17)))] [.int .u8 (IntKind.u8.wrap (w64 (48 + z17)))] (.int .u8 0) 1 S (wN rfl) rfl rfl Tryd.underlying50 rfl (by decide) (by decide) (by kernel_rfl) rfl (fun E1 w1 hE => All.cons rfl (All.nil _ _ _)) rfl rfl (lb rfl) fun a w ad19 cp20 S => ?_
  refine sBytesStr (e := 5) (v := .slice ad19 ([IntKind.u8.wrap (w64 (48 + z17))] : List Int).length cp20) (ys := ([IntKind.u8.wrap (w64 (48 + z17))] : List Int)) S (wN rfl) rfl rfl Tryd.underlying50 Tryd.underlying5 Tryd.underlying9 (src_R (T := 5) 0 S.mem rfl) rfl (lb rfl) fun a S => ?_
  refine sMove (.string s12) S (wN rfl) (.inl rfl) rfl rfl (lb rfl) fun a S => ?_
  obtain ⟨z21, hx22, h⟩ := bindSome h
  refine sBin (.string z21) S (wN rfl) rfl rfl rfl (bAddS _ _ _ _ (x := strO ([IntKind.u8.wrap (w64 (48 + z17))] : List Int)) (y := s12) hx22) rfl (lb rfl) fun a S => ?_
  refine sMove (.string z21) S (wN rfl) (.inr rfl) rfl rfl (lb rfl) fun a S => ?_
  refine leafL (leafT (hK16 _ _ ?_))
  refine sSeq (fun K23 hK23 => ?_)
  refine sRegion ?_
  refine sMove (iv s11) S (wN rfl) (.inl rfl) rfl rfl (lb rfl) fun a S => ?_
  obtain ⟨z24, hx25, h⟩ := bindSome h
  refine sBin (iv z24) S (wN rfl) rfl rfl rfl (bQuo _ _ _ _ (x := s11) (y := 10) hx25) rfl (lb rfl) fun a S => ?_
  refine sMove (iv z24) S (wN rfl) (.inr rfl) rfl rfl (lb rfl) fun a S => ?_
  refine leafL (leafT (hK23 _ _ ?_))
  refine sSeq (fun K26 hK26 => ?_)
  refine sRegion ?_
  refine sMove (iv z24) S (wN rfl) (.inl rfl) rfl rfl (lb rfl) fun a S => ?_
  refine sBin (.bool (z24 == 0)) S (wN rfl) rfl rfl rfl (bEq _ _ _ _ .i64 z24 0) rfl (lb rfl) fun a S => ?_
  refine leafL (leafT (hK26 _ _ ?_))
  rcases iteSome h with ⟨hc27, h⟩ | ⟨hc27, h⟩
  rotate_left
  · refine sCondF S rfl hc27 ?_
    exact wp_skip (leafB (leafT (⟨(z24, z21), (Option.some.inj h).symm, (S.fix [] [] (by decide) rfl rfl rfl)⟩)))
  refine sCondT S rfl hc27 ?_
  refine sSeq (fun K28 hK28 => ?_)
  refine sRegion ?_
  refine sMove (.string z21) S (wN rfl) (.inl rfl) rfl rfl (lb rfl) fun a S => ?_
  refine sMove (.string z21) S (wN rfl) (.inr rfl) rfl rfl (lb rfl) fun a S => ?_
  refine leafL (leafT (hK28 _ _ ?_))
  obtain rfl := Option.some.inj h
  obtain rfl := hu13 _ rfl
  have h := g14
  clear g14
  try dsimp only at h
  obtain rfl := Option.some.inj h
  exact wp_ret (rBlock (rThen (rBlock (sRet (.string z21) S (rsl1 rfl (rvT (t := 2) (v := .string z21) S rfl)) ⟨(), rfl, S.mem.sel [] [] (by decide) rfl rfl⟩))))

end Go.Proofs.YtdfjcpnflmgdoaaDoor
namespace Go.Proofs.YtdfjcpnflmgdoaaDoor
open Go.RowKit
set_option linter.unusedVariables false

def anc_raddleref23_Text_0 : List (List Nat) := [[], [0], [0, 1], [0, 1, 2], [], [4], [0, 1, 2, 4, 5], [0, 1, 2, 3, 4, 5, 6], [0, 1, 2, 3, 4, 5, 6, 7], [0, 1, 2, 3, 4, 5, 6, 7, 8]]
noncomputable def F_raddleref23_Text (p0 : api_Ratio) : Option (ByteArray × Int) :=
  Option.bind (F_raddleref23_Check p0) fun r5 =>
  if r5 != 0 then
    some ((⟨#[]⟩ : ByteArray), r5)
  else
    if p0.Den == 1 then
      Option.bind (F_raddleref23_Decimal p0.Num) fun r13 =>
      some (r13, 0)
    else
      Option.bind (F_raddleref23_Decimal p0.Num) fun r16 =>
      Option.bind (addS r16 (⟨#[47]⟩ : ByteArray)) fun z18 =>
      Option.bind (F_raddleref23_Decimal p0.Den) fun r20 =>
      Option.bind (addS z18 r20) fun z22 =>
      some (z22, 0)
set_option maxHeartbeats 4000000 in
set_option maxRecDepth 100000 in
theorem c_raddleref23_Text (E : Nat → Prop) (w0 : World) (p0 : api_Ratio) (v0 : Value) (r : (ByteArray × Int)) (h : F_raddleref23_Text p0 = some r) (S : St0 E [] w0 w0 [] [fRep r_api_Ratio (v0) p0]) :
    Calls Tryd.prog 7 #[v0] w0 (Ret (X := Unit) E [] w0 (fun _ => .tuple #[.string r.1, .int .i64 r.2]) (fun _ => []) (fun _ => [])) := by
  unfold F_raddleref23_Text at h
  obtain rfl : v0 = .agg #[iv p0.Num, iv p0.Den] := S.know (i := 0) (e := fRep r_api_Ratio (v0) p0) rfl
  refine sEnter (args := [.agg #[iv p0.Num, iv p0.Den]]) 23 Tryd.func7 rfl rfl (by simp) S (fun a S => ?_)
  refine sSeq (fun K1 hK1 => ?_)
  refine sRegion ?_
  refine sBox (v := .agg #[iv p0.Num, iv p0.Den]) S (wN rfl) rfl rfl [iv p0.Num, iv p0.Den] rfl rfl (lb rfl) fun a b2 w S => ?_
  refine sMove (.string (⟨#[]⟩ : ByteArray)) S (wN rfl) (.inr rfl) rfl rfl (lb rfl) fun a S => ?_
  refine sMove (iv 0) S (wN rfl) (.inr rfl) rfl rfl (lb rfl) fun a S => ?_
  refine leafL (leafT (hK1 _ _ ?_))
  refine sSeq (fun K3 hK3 => ?_)
  refine sSeq (fun K4 hK4 => ?_)
  refine sRegion ?_
  refine sLoadN (p := b2) (off := 0) (T := 23) (vs := [iv p0.Num, iv p0.Den]) 0 [iv p0.Num, iv p0.Den] S (wN rfl) rfl rfl rfl rfl rfl rfl rfl (lb rfl) fun a S => ?_
  obtain ⟨r5, hx6, h⟩ := bindSome h
  have S1 := S.mem
  refine sCallQ (X := Unit) (f := 13) (vs := [.agg #[iv p0.Num, iv p0.Den]]) (val := fun _ => iv r5) S (wN rfl) rfl callee13 rfl (S1.quiet [0] rfl) (fun E1 w1 S1 => c_raddleref23_Check E1 w1 p0 (.agg #[iv p0.Num, iv p0.Den]) r5 hx6 S1) rfl (lb rfl) fun _ a w S => ?_
  refine sBin (.bool (r5 != 0)) S (wN rfl) rfl rfl rfl (bNe _ _ _ _ .i64 r5 0) rfl (lb rfl) fun a S => ?_
  refine leafL (leafT (hK4 _ _ ?_))
  rcases iteSome h with ⟨hc7, h⟩ | ⟨hc7, h⟩
  · refine sCondT S rfl hc7 ?_
    refine sSeq (fun K8 hK8 => ?_)
    refine sRegion ?_
    refine sLoadN (p := b2) (off := 0) (T := 23) (vs := [iv p0.Num, iv p0.Den]) 0 [iv p0.Num, iv p0.Den] S (wN rfl) rfl rfl rfl rfl rfl rfl rfl (lb rfl) fun a S => ?_
    have S1 := S.mem
    refine sCallQ (X := Unit) (f := 13) (vs := [.agg #[iv p0.Num, iv p0.Den]]) (val := fun _ => iv r5) S (wN rfl) rfl callee13 rfl (S1.quiet [0] rfl) (fun E1 w1 S1 => c_raddleref23_Check E1 w1 p0 (.agg #[iv p0.Num, iv p0.Den]) r5 hx6 S1) rfl (lb rfl) fun _ a w S => ?_
    refine sMove (.string (⟨#[]⟩ : ByteArray)) S (wN rfl) (.inr rfl) rfl rfl (lb rfl) fun a S => ?_
    refine sMove (iv r5) S (wN rfl) (.inr rfl) rfl rfl (lb rfl) fun a S => ?_
    refine leafL (leafT (hK8 _ _ ?_))
    obtain rfl := Option.some.inj h
    exact wp_ret (rThen (sRet (.tuple #[.string (⟨#[]⟩ : ByteArray), iv r5]) S (rsl2 rfl (rvT (t := 2) (v := .string (⟨#[]⟩ : ByteArray)) S rfl) (rvT (t := 3) (v := iv r5) S rfl)) ⟨(), rfl, S.mem.sel [] [] (by decide) rfl rfl⟩))
  refine sCondF S rfl hc7 ?_
  refine wp_skip (leafT (hK3 _ _ ?_))
  refine sSeq (fun K9 hK9 => ?_)
  refine sSeq (fun K10 hK10 => ?_)
  refine sRegion ?_
  refine sField (b := b2) (off := 0) 1 1 S (wN rfl) rfl rfl rfl rfl rfl (lb rfl) fun a S => ?_
  refine sLoad1 (p := b2) (off := 1) (T := 23) (vs := [iv p0.Num, iv p0.Den]) 0 (iv p0.Den) S (wN rfl) rfl rfl rfl rfl rfl rfl (lb rfl) fun a S => ?_
  refine sBin (.bool (p0.Den == 1)) S (wN rfl) rfl rfl rfl (bEq _ _ _ _ .i64 p0.Den 1) rfl (lb rfl) fun a S => ?_
  refine leafL (leafT (hK10 _ _ ?_))
  rcases iteSome h with ⟨hc11, h⟩ | ⟨hc11, h⟩
  · refine sCondT S rfl hc11 ?_
    refine sSeq (fun K12 hK12 => ?_)
    refine sRegion ?_
    refine sField (b := b2) (off := 0) 0 0 S (wN rfl) rfl rfl rfl rfl rfl (lb rfl) fun a S => ?_
    refine sLoad1 (p := b2) (off := 0) (T := 23) (vs := [iv p0.Num, iv p0.Den]) 0 (iv p0.Num) S (wN rfl) rfl rfl rfl rfl rfl rfl (lb rfl) fun a S => ?_
    obtain ⟨r13, hx14, h⟩ := bindSome h
    have S1 := S.mem
    refine sCallQ (X := Unit) (f := 16) (vs := [iv p0.Num]) (val := fun _ => .string r13) S (wN rfl) rfl callee16 rfl (S1.quiet [] rfl) (fun E1 w1 S1 => c_raddleref23_Decimal E1 w1 p0.Num r13 hx14 S1) rfl (lb rfl) fun _ a w S => ?_
    refine sMove (.string r13) S (wN rfl) (.inr rfl) rfl rfl (lb rfl) fun a S => ?_
    refine sMove (iv 0) S (wN rfl) (.inr rfl) rfl rfl (lb rfl) fun a S => ?_
    refine leafL (leafT (hK12 _ _ ?_))
    obtain rfl := Option.some.inj h
    exact wp_ret (rThen (sRet (.tuple #[.string r13, iv 0]) S (rsl2 rfl (rvT (t := 2) (v := .string r13) S rfl) (rvT (t := 3) (v := iv 0) S rfl)) ⟨(), rfl, S.mem.sel [] [] (by decide) rfl rfl⟩))
  refine sCondF S rfl hc11 ?_
  refine wp_skip (leafT (hK9 _ _ ?_))
  refine sSeq (fun K15 hK15 => ?_)
  obtain ⟨r16, hx17, h⟩ := bindSome h
  obtain ⟨z18, hx19, h⟩ := bindSome h
  obtain ⟨r20, hx21, h⟩ := bindSome h
  obtain ⟨z22, hx23, h⟩ := bindSome h
  refine sDraw (nf := []) (W := [(0, 15, .pointer (some ⟨b2, 0, none⟩)), (1, 16, iv p0.Num), (2, 17, .string r16), (3, 18, .string z18), (4, 19, .pointer (some ⟨b2, 1, none⟩)), (5, 20, iv p0.Den), (6, 21, .string r20), (7, 22, .string z22), (8, 2, .string z22), (9, 3, iv 0)]) rfl S ?_
  refine node_by (A := anc_raddleref23_Text_0) (nf := []) (Y := []) (W := [(0, 15, .pointer (some ⟨b2, 0, none⟩)), (1, 16, iv p0.Num), (2, 17, .string r16), (3, 18, .string z18), (4, 19, .pointer (some ⟨b2, 1, none⟩)), (5, 20, iv p0.Den), (6, 21, .string r20), (7, 22, .string z22), (8, 2, .string z22), (9, 3, iv 0)]) 10 (by kernel_rfl) (by kernel_rfl) (by kernel_rfl) (by kernel_rfl) (by kernel_rfl) [0, 1, 2, 3, 4, 5, 6, 7, 8, 9] (by kernel_rfl) (by decide) (by decide) (aF 0 9 (by decide) ?_ (aF 1 8 (by decide) ?_ (aF 2 7 (by decide) ?_ (aF 3 6 (by decide) ?_ (aF 4 5 (by decide) ?_ (aF 5 4 (by decide) ?_ (aF 6 3 (by decide) ?_ (aF 7 2 (by decide) ?_ (aF 8 1 (by decide) ?_ (aF 9 0 (by decide) ?_ (trivial))))))))))) [(2, .string z22), (3, iv 0)] (fin_of [some 8, some 9] rfl (by kernel_rfl) (by kernel_rfl)) (fun _ a w S => ?_)
  · refine fI 15 (.pointer (some ⟨b2, 0, none⟩)) [(1, .pointer (some ⟨b2, 0, none⟩))] 0 [none] rfl rfl rfl rfl rfl rfl fun G a w S => ?_
    refine sField (b := b2) (off := 0) 0 0 S (wN rfl) rfl rfl rfl rfl rfl (lb rfl) fun a S => ?_
    exact leafL ⟨rfl, S⟩
  · refine fI 16 (iv p0.Num) [(15, .pointer (some ⟨b2, 0, none⟩))] 1 [some 0] rfl rfl rfl rfl rfl rfl fun G a w S => ?_
    refine sLoad1 (p := b2) (off := 0) (T := 23) (vs := [iv p0.Num, iv p0.Den]) 0 (iv p0.Num) S (wN rfl) rfl rfl rfl rfl rfl rfl (lb rfl) fun a S => ?_
    exact leafL ⟨rfl, S⟩
  · refine fI 17 (.string r16) [(16, iv p0.Num)] 2 [some 1] rfl rfl rfl rfl rfl rfl fun G a w S => ?_
    have S1 := S.mem
    refine sCallQ (X := Unit) (f := 16) (vs := [iv p0.Num]) (val := fun _ => .string r16) S (wN rfl) rfl callee16 rfl (S1.quiet [] rfl) (fun E1 w1 S1 => c_raddleref23_Decimal E1 w1 p0.Num r16 hx17 S1) rfl (lb rfl) fun _ a w S => ?_
    exact leafL ⟨rfl, S⟩
  · refine fI 18 (.string z18) [(17, .string r16)] 3 [some 2] rfl rfl rfl rfl rfl rfl fun G a w S => ?_
    refine sBin (.string z18) S (wN rfl) rfl rfl rfl (bAddS _ _ _ _ (x := r16) (y := (⟨#[47]⟩ : ByteArray)) hx19) rfl (lb rfl) fun a S => ?_
    exact leafL ⟨rfl, S⟩
  · refine fI 19 (.pointer (some ⟨b2, 1, none⟩)) [(1, .pointer (some ⟨b2, 0, none⟩))] 4 [none] rfl rfl rfl rfl rfl rfl fun G a w S => ?_
    refine sField (b := b2) (off := 0) 1 1 S (wN rfl) rfl rfl rfl rfl rfl (lb rfl) fun a S => ?_
    exact leafL ⟨rfl, S⟩
  · refine fI 20 (iv p0.Den) [(19, .pointer (some ⟨b2, 1, none⟩))] 5 [some 4] rfl rfl rfl rfl rfl rfl fun G a w S => ?_
    refine sLoad1 (p := b2) (off := 1) (T := 23) (vs := [iv p0.Num, iv p0.Den]) 0 (iv p0.Den) S (wN rfl) rfl rfl rfl rfl rfl rfl (lb rfl) fun a S => ?_
    exact leafL ⟨rfl, S⟩
  · refine fI 21 (.string r20) [(20, iv p0.Den)] 6 [some 5] rfl rfl rfl rfl rfl rfl fun G a w S => ?_
    have S1 := S.mem
    refine sCallQ (X := Unit) (f := 16) (vs := [iv p0.Den]) (val := fun _ => .string r20) S (wN rfl) rfl callee16 rfl (S1.quiet [] rfl) (fun E1 w1 S1 => c_raddleref23_Decimal E1 w1 p0.Den r20 hx21 S1) rfl (lb rfl) fun _ a w S => ?_
    exact leafL ⟨rfl, S⟩
  · refine fI 22 (.string z22) [(18, .string z18), (21, .string r20)] 7 [some 3, some 6] rfl rfl rfl rfl rfl rfl fun G a w S => ?_
    refine sBin (.string z22) S (wN rfl) rfl rfl rfl (bAddS _ _ _ _ (x := z18) (y := r20) hx23) rfl (lb rfl) fun a S => ?_
    exact leafL ⟨rfl, S⟩
  · refine fI 2 (.string z22) [(22, .string z22)] 8 [some 7] rfl rfl rfl rfl rfl rfl fun G a w S => ?_
    refine sMove (.string z22) S (wN rfl) (.inr rfl) rfl rfl (lb rfl) fun a S => ?_
    exact leafL ⟨rfl, S⟩
  · refine fI 3 (iv 0) [] 9 [] rfl rfl rfl rfl rfl rfl fun G a w S => ?_
    refine sMove (iv 0) S (wN rfl) (.inr rfl) rfl rfl (lb rfl) fun a S => ?_
    exact leafL ⟨rfl, S⟩
  refine leafT (hK15 _ _ ?_)
  obtain rfl := Option.some.inj h
  exact wp_ret (sRet (.tuple #[.string z22, iv 0]) S (rsl2 rfl (rvT (t := 2) (v := .string z22) S rfl) (rvT (t := 3) (v := iv 0) S rfl)) ⟨(), rfl, S.mem.sel [] [] (by decide) rfl rfl⟩)

end Go.Proofs.YtdfjcpnflmgdoaaDoor
namespace Go.Proofs.YtdfjcpnflmgdoaaDoor
open Go.RowKit
set_option linter.unusedVariables false

noncomputable def yarn_digits_l1 (p0 : ByteArray) : (Int × Nat) → Option ((Int × Nat) ⊕ ((Int × Bool) ⊕ Int)) := fun s0 => match s0 with
  | (s19, s20) =>
    if decide (s20 < p0.size) then
      Option.bind (α := Bool) (
        if decide (((Utf8.decode p0 s20).1 : Int) < 48) then
          some true
        else
          some (decide (57 < ((Utf8.decode p0 s20).1 : Int)))) fun o30 =>
      if o30 then
        some (.inr (.inl (0, false)))
      else
        some (.inl (w64 ((w64 (10 * s19)) + (IntKind.i64.wrap (IntKind.i32.wrap (((Utf8.decode p0 s20).1 : Int) - 48)))), (s20 + (Utf8.decode p0 s20).2)))
    else
      some (.inr (.inr s19))
noncomputable def F_yarn_digits (p0 : ByteArray) : Option (Int × Bool) :=
  Option.bind (α := Bool) (
    if (p0.size : Int) == 0 then
      some true
    else
      if decide (10 < (p0.size : Int)) then
        some true
      else
        Option.bind (idxS p0 0) fun x8 =>
        if x8 == 48 then
          some (decide (1 < (p0.size : Int)))
        else
          some false) fun o3 =>
  if o3 then
    some (0, false)
  else
    Option.bind (α := Int ⊕ (Int × Bool)) (
      Option.bind (whileO (yarn_digits_l1 p0) (0, 0)) fun z0 => match z0 with
        | .inl z =>
          some (.inr z)
        | .inr e24 =>
          some (.inl e24)) fun z0 => match z0 with
      | .inl o14 =>
        some (o14, true)
      | .inr z =>
        some z
set_option maxHeartbeats 4000000 in
set_option maxRecDepth 100000 in
theorem c_yarn_digits (E : Nat → Prop) (w0 : World) (p0 : ByteArray) (r : (Int × Bool)) (h : F_yarn_digits p0 = some r) (S : St0 E [] w0 w0 [] []) :
    Calls Tryd.prog 19 #[.string p0] w0 (Ret (X := Unit) E [] w0 (fun _ => .tuple #[.int .i64 r.1, .bool r.2]) (fun _ => []) (fun _ => [])) := by
  unfold F_yarn_digits at h
  refine sEnter (args := [.string p0]) 43 Tryd.func19 rfl rfl (by simp) S (fun a S => ?_)
  refine sSeq (fun K1 hK1 => ?_)
  refine sRegion ?_
  refine sMove (iv 0) S (wN rfl) (.inr rfl) rfl rfl (lb rfl) fun a S => ?_
  refine sMove (.bool false) S (wN rfl) (.inr rfl) rfl rfl (lb rfl) fun a S => ?_
  refine leafL (leafT (hK1 _ _ ?_))
  refine sSeq (fun K2 hK2 => ?_)
  obtain ⟨t4, h, g5⟩ := bindSome h
  refine sCut (fun a w => ∃ o3, o3 = t4 ∧ St [] E [] w0 43 a w [(0, .string p0), (24, .bool o3)] [] []) ?_ (fun a w hI => ?_)
  · refine sRegion ?_
    refine sMove (.string p0) S (wN rfl) (.inl rfl) rfl rfl (lb rfl) fun a S => ?_
    refine sLenS (v := p0) S (wN rfl) rfl Tryd.underlying9 rfl rfl (lb rfl) fun a S => ?_
    refine sBin (.bool ((p0.size : Int) == 0)) S (wN rfl) rfl rfl rfl (bEq _ _ _ _ .i64 (p0.size : Int) 0) rfl (lb rfl) fun a S => ?_
    refine sMove (.bool ((p0.size : Int) == 0)) S (wN rfl) (.inl rfl) rfl rfl (lb rfl) fun a S => ?_
    rcases iteSome h with ⟨hc6, h⟩ | ⟨hc6, h⟩
    · refine sSkip 3 false 10 11 S rfl rfl rfl hc6 rfl (lb rfl) fun a S => ?_
      refine sSkip 3 false 10 12 S rfl rfl rfl hc6 rfl (lb rfl) fun a S => ?_
      refine sSkip 3 false 10 13 S rfl rfl rfl hc6 rfl (lb rfl) fun a S => ?_
      refine sPickT (.bool true) S (wN rfl) rfl rfl hc6 rfl rfl (lb rfl) fun a S => ?_
      refine sMove (.bool true) S (wN rfl) (.inl rfl) rfl rfl (lb rfl) fun a S => ?_
      refine sSkip 8 false 15 16 S rfl rfl rfl rfl rfl (lb rfl) fun a S => ?_
      refine sSkip 8 false 15 17 S rfl rfl rfl rfl rfl (lb rfl) fun a S => ?_
      refine sSkip 8 false 15 18 S rfl rfl rfl rfl rfl (lb rfl) fun a S => ?_
      refine sSkip 8 false 15 19 S rfl rfl rfl rfl rfl (lb rfl) fun a S => ?_
      refine sSkipU 12 true 19 20 S rfl rfl rfl rfl (lb rfl) fun a S => ?_
      refine sSkipU 12 true 19 21 S rfl rfl rfl rfl (lb rfl) fun a S => ?_
      refine sSkipU 12 true 19 22 S rfl rfl rfl rfl (lb rfl) fun a S => ?_
      refine sSkip 8 false 15 23 S rfl rfl rfl rfl rfl (lb rfl) fun a S => ?_
      refine sPickT (.bool true) S (wN rfl) rfl rfl rfl rfl rfl (lb rfl) fun a S => ?_
      exact leafL (leafT (⟨true, Option.some.inj h, S.fix [] [] (by decide) rfl rfl rfl⟩))
    refine sMove (.string p0) S (wG 3 false 10 rfl rfl rfl hc6) (.inl rfl) rfl rfl (lb rfl) fun a S => ?_
    refine sLenS (v := p0) S (wG 3 false 10 rfl rfl rfl hc6) rfl Tryd.underlying9 rfl rfl (lb rfl) fun a S => ?_
    refine sBin (.bool (decide (10 < (p0.size : Int)))) S (wG 3 false 10 rfl rfl rfl hc6) rfl rfl rfl (bGt _ _ _ _ .i64 (p0.size : Int) 10) rfl (lb rfl) fun a S => ?_
    refine sPickF (.bool (decide (10 < (p0.size : Int)))) S (wN rfl) rfl rfl hc6 rfl rfl (lb rfl) fun a S => ?_
    refine sMove (.bool (decide (10 < (p0.size : Int)))) S (wN rfl) (.inl rfl) rfl rfl (lb rfl) fun a S => ?_
    rcases iteSome h with ⟨hc7, h⟩ | ⟨hc7, h⟩
    · refine sSkip 8 false 15 16 S rfl rfl rfl hc7 rfl (lb rfl) fun a S => ?_
      refine sSkip 8 false 15 17 S rfl rfl rfl hc7 rfl (lb rfl) fun a S => ?_
      refine sSkip 8 false 15 18 S rfl rfl rfl hc7 rfl (lb rfl) fun a S => ?_
      refine sSkip 8 false 15 19 S rfl rfl rfl hc7 rfl (lb rfl) fun a S => ?_
      refine sSkipU 12 true 19 20 S rfl rfl rfl rfl (lb rfl) fun a S => ?_
      refine sSkipU 12 true 19 21 S rfl rfl rfl rfl (lb rfl) fun a S => ?_
      refine sSkipU 12 true 19 22 S rfl rfl rfl rfl (lb rfl) fun a S => ?_
      refine sSkip 8 false 15 23 S rfl rfl rfl hc7 rfl (lb rfl) fun a S => ?_
      refine sPickT (.bool true) S (wN rfl) rfl rfl hc7 rfl rfl (lb rfl) fun a S => ?_
      exact leafL (leafT (⟨true, Option.some.inj h, S.fix [] [] (by decide) rfl rfl rfl⟩))
    refine sMove (.string p0) S (wG 8 false 15 rfl rfl rfl hc7) (.inl rfl) rfl rfl (lb rfl) fun a S => ?_
    obtain ⟨x8, hx9, h⟩ := bindSome h
    refine sIndexS (v := p0) (j := 0) (k := .i64) S (wG 8 false 15 rfl rfl rfl hc7) rfl Tryd.underlying9 rfl rfl hx9 rfl (lb rfl) fun a S => ?_
    refine sBin (.bool (x8 == 48)) S (wG 8 false 15 rfl rfl rfl hc7) rfl rfl rfl (bEq _ _ _ _ .u8 x8 48) rfl (lb rfl) fun a S => ?_
    refine sMove (.bool (x8 == 48)) S (wG 8 false 15 rfl rfl rfl hc7) (.inl rfl) rfl rfl (lb rfl) fun a S => ?_
    rcases iteSome h with ⟨hc10, h⟩ | ⟨hc10, h⟩
    rotate_left
    · refine sSkip 12 true 19 20 S rfl rfl rfl hc10 rfl (lb rfl) fun a S => ?_
      refine sSkip 12 true 19 21 S rfl rfl rfl hc10 rfl (lb rfl) fun a S => ?_
      refine sSkip 12 true 19 22 S rfl rfl rfl hc10 rfl (lb rfl) fun a S => ?_
      refine sPickF (.bool false) S (wG 8 false 15 rfl rfl rfl hc7) rfl rfl hc10 rfl rfl (lb rfl) fun a S => ?_
      refine sPickF (.bool false) S (wN rfl) rfl rfl hc7 rfl rfl (lb rfl) fun a S => ?_
      exact leafL (leafT (⟨false, Option.some.inj h, S.fix [] [] (by decide) rfl rfl rfl⟩))
    refine sMove (.string p0) S (wG 12 true 19 rfl rfl rfl hc10) (.inl rfl) rfl rfl (lb rfl) fun a S => ?_
    refine sLenS (v := p0) S (wG 12 true 19 rfl rfl rfl hc10) rfl Tryd.underlying9 rfl rfl (lb rfl) fun a S => ?_
    refine sBin (.bool (decide (1 < (p0.size : Int)))) S (wG 12 true 19 rfl rfl rfl hc10) rfl rfl rfl (bGt _ _ _ _ .i64 (p0.size : Int) 1) rfl (lb rfl) fun a S => ?_
    refine sPickT (.bool (decide (1 < (p0.size : Int)))) S (wG 8 false 15 rfl rfl rfl hc7) rfl rfl hc10 rfl rfl (lb rfl) fun a S => ?_
    refine sPickF (.bool (decide (1 < (p0.size : Int)))) S (wN rfl) rfl rfl hc7 rfl rfl (lb rfl) fun a S => ?_
    exact leafL (leafT (⟨decide (1 < (p0.size : Int)), Option.some.inj h, S.fix [] [] (by decide) rfl rfl rfl⟩))
  obtain ⟨o3, rfl, S⟩ := hI
  have h := g5
  clear g5
  try dsimp only at h
  rcases iteSome h with ⟨hc11, h⟩ | ⟨hc11, h⟩
  · refine sCondT S rfl hc11 ?_
    refine sSeq (fun K12 hK12 => ?_)
    refine sRegion ?_
    refine sMove (iv 0) S (wN rfl) (.inr rfl) rfl rfl (lb rfl) fun a S => ?_
    refine sMove (.bool false) S (wN rfl) (.inr rfl) rfl rfl (lb rfl) fun a S => ?_
    refine leafL (leafT (hK12 _ _ ?_))
    obtain rfl := Option.some.inj h
    exact wp_ret (rThen (sRet (.tuple #[iv 0, .bool false]) S (rsl2 rfl (rvT (t := 2) (v := iv 0) S rfl) (rvT (t := 3) (v := .bool false) S rfl)) ⟨(), rfl, S.mem.sel [] [] (by decide) rfl rfl⟩))
  refine sCondF S rfl hc11 ?_
  refine wp_skip (leafT (hK2 _ _ ?_))
  refine sSeq (fun K13 hK13 => ?_)
  refine sRegion ?_
  refine sMove (iv 0) S (wN rfl) (.inr rfl) rfl rfl (lb rfl) fun a S => ?_
  refine leafL (leafT (hK13 _ _ ?_))
  obtain ⟨t15, h, g16⟩ := bindSome h
  refine sCut (fun a w => ∃ o14, .inl o14 = t15 ∧ St [] E [] w0 43 a w [(4, iv o14)] [] []) ?_ (fun a w hI => ?_)
  rotate_left
  · obtain ⟨o14, rfl, S⟩ := hI
    have h := g16
    clear g16
    try dsimp only at h
    refine sSeq (fun K37 hK37 => ?_)
    refine sRegion ?_
    refine sMove (iv o14) S (wN rfl) (.inl rfl) rfl rfl (lb rfl) fun a S => ?_
    refine sMove (iv o14) S (wN rfl) (.inr rfl) rfl rfl (lb rfl) fun a S => ?_
    refine sMove (.bool true) S (wN rfl) (.inr rfl) rfl rfl (lb rfl) fun a S => ?_
    refine leafL (leafT (hK37 _ _ ?_))
    obtain rfl := Option.some.inj h
    exact wp_ret (sRet (.tuple #[iv o14, .bool true]) S (rsl2 rfl (rvT (t := 2) (v := iv o14) S rfl) (rvT (t := 3) (v := .bool true) S rfl)) ⟨(), rfl, S.mem.sel [] [] (by decide) rfl rfl⟩)
  refine sSeq (fun K17 hK17 => ?_)
  refine sRegion ?_
  refine sMove (.string p0) S (wN rfl) (.inl rfl) rfl rfl (lb rfl) fun a S => ?_
  refine sRangeS (s := p0) S (wN rfl) rfl Tryd.underlying9 rfl rfl (lb rfl) fun a b18 w S => ?_
  refine leafL (leafT (hK17 _ _ ?_))
  refine wp_block ?_
  obtain ⟨t23, hl, g22⟩ := bindSome h
  refine sLoop hl (fun s0 a w => match s0 with | (s19, s20) => St [] E [] w0 43 a w [(4, iv s19), (26, .pointer (some ⟨b18, 0, none⟩))] [eIter b18 p0 s20] []) (S.fix [0] [] (by decide) rfl rfl rfl) ?_
  clear hl h
  intro s0 a w c0 hI h hu21
  obtain ⟨s19, s20⟩ := s0
  unfold yarn_digits_l1 at h
  dsimp only at h hI
  have S := hI
  refine sSeq (fun K25 hK25 => ?_)
  refine sRegion ?_
  rcases iteSome h with ⟨hc26, h⟩ | ⟨hc26, h⟩
  rotate_left
  · refine sNextE (s := p0) (b := b18) (pos := s20) 0 S (wN rfl) rfl rfl rfl (of_decide_eq_false hc26) rfl (lb rfl) fun a S => ?_
    refine sExtract (vs := [.bool false]) (.bool false) S (wN rfl) rfl rfl rfl rfl (lb rfl) fun a S => ?_
    refine leafL (leafT (hK25 _ _ ?_))
    refine sSeq (fun K36 hK36 => ?_)
    refine sCondF S rfl rfl ?_
    obtain rfl := Option.some.inj h
    obtain rfl := hu21 _ rfl
    have h := g22
    clear g22
    try dsimp only at h
    exact wp_exit (xThen (xThen (xHit (leafT (⟨s19, Option.some.inj h, S.fix [] [] (by decide) rfl rfl rfl⟩)))))
  refine sNextS (s := p0) (b := b18) (pos := s20) 0 S (wN rfl) rfl rfl rfl (of_decide_eq_true hc26) rfl (lb rfl) fun a w S => ?_
  refine sExtract (vs := [.bool true, iv ((s20 : Nat) : Int), .int .i32 ((Utf8.decode p0 s20).1 : Int)]) (.bool true) S (wN rfl) rfl rfl rfl rfl (lb rfl) fun a S => ?_
  refine leafL (leafT (hK25 _ _ ?_))
  refine sSeq (fun K27 hK27 => ?_)
  refine sCondT S rfl rfl ?_
  refine wp_skip (leafT (hK27 _ _ ?_))
  refine wp_block ?_
  refine sSeq (fun K28 hK28 => ?_)
  refine sRegion ?_
  refine sExtract (vs := [.bool true, iv ((s20 : Nat) : Int), .int .i32 ((Utf8.decode p0 s20).1 : Int)]) (.int .i32 ((Utf8.decode p0 s20).1 : Int)) S (wN rfl) rfl rfl rfl rfl (lb rfl) fun a S => ?_
  refine sMove (.int .i32 ((Utf8.decode p0 s20).1 : Int)) S (wN rfl) (.inr rfl) rfl rfl (lb rfl) fun a S => ?_
  refine leafL (leafT (hK28 _ _ ?_))
  refine sSeq (fun K29 hK29 => ?_)
  obtain ⟨t31, h, g32⟩ := bindSome h
  refine sCut (fun a w => ∃ o30, o30 = t31 ∧ St [] E [] w0 43 a w [(4, iv s19), (6, .int .i32 ((Utf8.decode p0 s20).1 : Int)), (26, .pointer (some ⟨b18, 0, none⟩)), (35, .bool o30)] [eIter b18 p0 (s20 + (Utf8.decode p0 s20).2)] []) ?_ (fun a w hI => ?_)
  · refine sRegion ?_
    refine sMove (.int .i32 ((Utf8.decode p0 s20).1 : Int)) S (wN rfl) (.inl rfl) rfl rfl (lb rfl) fun a S => ?_
    refine sBin (.bool (decide (((Utf8.decode p0 s20).1 : Int) < 48))) S (wN rfl) rfl rfl rfl (bLt _ _ _ _ .i32 ((Utf8.decode p0 s20).1 : Int) 48) rfl (lb rfl) fun a S => ?_
    refine sMove (.bool (decide (((Utf8.decode p0 s20).1 : Int) < 48))) S (wN rfl) (.inl rfl) rfl rfl (lb rfl) fun a S => ?_
    rcases iteSome h with ⟨hc33, h⟩ | ⟨hc33, h⟩
    · refine sSkip 2 false 32 33 S rfl rfl rfl hc33 rfl (lb rfl) fun a S => ?_
      refine sSkip 2 false 32 34 S rfl rfl rfl hc33 rfl (lb rfl) fun a S => ?_
      refine sPickT (.bool true) S (wN rfl) rfl rfl hc33 rfl rfl (lb rfl) fun a S => ?_
      exact leafL (leafT (⟨true, Option.some.inj h, S.fix [0] [] (by decide) rfl rfl rfl⟩))
    refine sMove (.int .i32 ((Utf8.decode p0 s20).1 : Int)) S (wG 2 false 32 rfl rfl rfl hc33) (.inl rfl) rfl rfl (lb rfl) fun a S => ?_
    refine sBin (.bool (decide (57 < ((Utf8.decode p0 s20).1 : Int)))) S (wG 2 false 32 rfl rfl rfl hc33) rfl rfl rfl (bGt _ _ _ _ .i32 ((Utf8.decode p0 s20).1 : Int) 57) rfl (lb rfl) fun a S => ?_
    refine sPickF (.bool (decide (57 < ((Utf8.decode p0 s20).1 : Int)))) S (wN rfl) rfl rfl hc33 rfl rfl (lb rfl) fun a S => ?_
    exact leafL (leafT (⟨decide (57 < ((Utf8.decode p0 s20).1 : Int)), Option.some.inj h, S.fix [0] [] (by decide) rfl rfl rfl⟩))
  obtain ⟨o30, rfl, S⟩ := hI
  have h := g32
  clear g32
  try dsimp only at h
  rcases iteSome h with ⟨hc34, h⟩ | ⟨hc34, h⟩
  · refine sCondT S rfl hc34 ?_
    refine sSeq (fun K35 hK35 => ?_)
    refine sRegion ?_
    refine sMove (iv 0) S (wN rfl) (.inr rfl) rfl rfl (lb rfl) fun a S => ?_
    refine sMove (.bool false) S (wN rfl) (.inr rfl) rfl rfl (lb rfl) fun a S => ?_
    refine leafL (leafT (hK35 _ _ ?_))
    obtain rfl := Option.some.inj h
    obtain rfl := hu21 _ rfl
    have h := g22
    clear g22
    try dsimp only at h
    obtain rfl := Option.some.inj h
    have h := g16
    clear g16
    try dsimp only at h
    obtain rfl := Option.some.inj h
    exact wp_ret (rThen (rBlock (rThen (rBlock (rThen (sRet (.tuple #[iv 0, .bool false]) S (rsl2 rfl (rvT (t := 2) (v := iv 0) S rfl) (rvT (t := 3) (v := .bool false) S rfl)) ⟨(), rfl, S.mem.sel [] [] (by decide) rfl rfl⟩))))))
  refine sCondF S rfl hc34 ?_
  refine wp_skip (leafT (hK29 _ _ ?_))
  refine sRegion ?_
  refine sMove (iv s19) S (wN rfl) (.inl rfl) rfl rfl (lb rfl) fun a S => ?_
  refine sBin (iv (w64 (10 * s19))) S (wN rfl) rfl rfl rfl (bMul _ _ _ _ 10 s19) rfl (lb rfl) fun a S => ?_
  refine sMove (.int .i32 ((Utf8.decode p0 s20).1 : Int)) S (wN rfl) (.inl rfl) rfl rfl (lb rfl) fun a S => ?_
  refine sBin (.int .i32 (IntKind.i32.wrap (((Utf8.decode p0 s20).1 : Int) - 48))) S (wN rfl) rfl rfl rfl (bSubK _ _ _ _ .i32 ((Utf8.decode p0 s20).1 : Int) 48) rfl (lb rfl) fun a S => ?_
  refine sConv (k := .i32) (k2 := .i64) (b := IntKind.i32.wrap (((Utf8.decode p0 s20).1 : Int) - 48)) S (wN rfl) rfl Tryd.underlying21 Tryd.underlying2 rfl rfl (lb rfl) fun a S => ?_
  refine sBin (iv (w64 ((w64 (10 * s19)) + (IntKind.i64.wrap (IntKind.i32.wrap (((Utf8.decode p0 s20).1 : Int) - 48)))))) S (wN rfl) rfl rfl rfl (bAdd _ _ _ _ (w64 (10 * s19)) (IntKind.i64.wrap (IntKind.i32.wrap (((Utf8.decode p0 s20).1 : Int) - 48)))) rfl (lb rfl) fun a S => ?_
  refine sMove (iv (w64 ((w64 (10 * s19)) + (IntKind.i64.wrap (IntKind.i32.wrap (((Utf8.decode p0 s20).1 : Int) - 48)))))) S (wN rfl) (.inr rfl) rfl rfl (lb rfl) fun a S => ?_
  exact leafL (leafB (leafT (⟨(w64 ((w64 (10 * s19)) + (IntKind.i64.wrap (IntKind.i32.wrap (((Utf8.decode p0 s20).1 : Int) - 48)))), (s20 + (Utf8.decode p0 s20).2)), (Option.some.inj h).symm, (S.fix [0] [] (by decide) rfl rfl rfl)⟩)))

end Go.Proofs.YtdfjcpnflmgdoaaDoor
namespace Go.Proofs.YtdfjcpnflmgdoaaDoor
open Go.RowKit
set_option linter.unusedVariables false

noncomputable def F_yarn_Parse (p0 : ByteArray) : Option (api_Ratio × Int) :=
  Option.bind (F_strings_CutPrefix p0 (⟨#[45]⟩ : ByteArray)) fun r4 =>
  Option.bind (F_strings_Cut r4.1 (⟨#[47]⟩ : ByteArray)) fun r7 =>
  Option.bind (α := ByteArray) (
    if !r7.2.2 then
      some (⟨#[49]⟩ : ByteArray)
    else
      some r7.2.1) fun o9 =>
  Option.bind (F_yarn_digits r7.1) fun r15 =>
  Option.bind (F_yarn_digits o9) fun r18 =>
  Option.bind (α := Int) (
    if r4.2 then
      some (w64 (0 - r15.1))
    else
      some r15.1) fun o20 =>
  Option.bind (α := Bool) (
    if !r15.2 then
      some true
    else
      if !r18.2 then
        some true
      else
        Option.bind (F_yarn_Check (api_Ratio.mk o20 r18.1)) fun r33 =>
        some (r33 != 0)) fun o28 =>
  if o28 then
    some ((api_Ratio.mk 0 0), 12)
  else
    Option.bind (F_yarn_Text (api_Ratio.mk o20 r18.1)) fun r39 =>
    if r39.1 != p0 then
      some ((api_Ratio.mk 0 0), 12)
    else
      some ((api_Ratio.mk o20 r18.1), 0)
def c_yarn_Parse_val (r : (api_Ratio × Int)) (x : Value) : Value := .tuple #[x, .int .i64 r.2]
def c_yarn_Parse_D (r : (api_Ratio × Int)) (x : Value) : List Fact := [fRep r_api_Ratio x r.1]
set_option maxHeartbeats 4000000 in
set_option maxRecDepth 100000 in
theorem c_yarn_Parse (E : Nat → Prop) (w0 : World) (p0 : ByteArray) (r : (api_Ratio × Int)) (h : F_yarn_Parse p0 = some r) (S : St0 E [] w0 w0 [] [fGv gMax cMax, fGv gTab cTab]) :
    Calls Tryd.prog 8 #[.string p0] w0 (Ret (X := Value) E [] w0 (c_yarn_Parse_val r) (fun _ => []) (c_yarn_Parse_D r)) := by
  unfold F_yarn_Parse at h
  refine sEnter (args := [.string p0]) 67 Tryd.func8 rfl rfl (by simp) S (fun a S => ?_)
  refine sSeq (fun K1 hK1 => ?_)
  refine sRegion ?_
  refine sAlloc (.agg #[iv 0, iv 0]) S (wN rfl) rfl rfl [iv 0, iv 0] rfl rfl (lb rfl) fun a b2 w S => ?_
  refine sMove (iv 0) S (wN rfl) (.inr rfl) rfl rfl (lb rfl) fun a S => ?_
  refine leafL (leafT (hK1 _ _ ?_))
  refine sSeq (fun K3 hK3 => ?_)
  refine sRegion ?_
  refine sMove (.string p0) S (wN rfl) (.inl rfl) rfl rfl (lb rfl) fun a S => ?_
  obtain ⟨r4, hx5, h⟩ := bindSome h
  have S1 := S.mem
  refine sCallQ (X := Unit) (f := 17) (vs := [.string p0, .string (⟨#[45]⟩ : ByteArray)]) (val := fun _ => .tuple #[.string r4.1, .bool r4.2]) S (wN rfl) rfl callee17 rfl (S1.quiet [] rfl) (fun E1 w1 S1 => c_strings_CutPrefix E1 w1 p0 (⟨#[45]⟩ : ByteArray) r4 hx5 S1) rfl (lb rfl) fun _ a w S => ?_
  refine sMove (.tuple #[.string r4.1, .bool r4.2]) S (wN rfl) (.inl rfl) rfl rfl (lb rfl) fun a S => ?_
  refine sExtract (vs := [.string r4.1, .bool r4.2]) (.string r4.1) S (wN rfl) rfl rfl rfl rfl (lb rfl) fun a S => ?_
  refine sExtract (vs := [.string r4.1, .bool r4.2]) (.bool r4.2) S (wN rfl) rfl rfl rfl rfl (lb rfl) fun a S => ?_
  refine sMove (.string r4.1) S (wN rfl) (.inr rfl) rfl rfl (lb rfl) fun a S => ?_
  refine sMove (.bool r4.2) S (wN rfl) (.inr rfl) rfl rfl (lb rfl) fun a S => ?_
  refine leafL (leafT (hK3 _ _ ?_))
  refine sSeq (fun K6 hK6 => ?_)
  refine sRegion ?_
  refine sMove (.string r4.1) S (wN rfl) (.inl rfl) rfl rfl (lb rfl) fun a S => ?_
  obtain ⟨r7, hx8, h⟩ := bindSome h
  have S1 := S.mem
  refine sCallQ (X := Unit) (f := 18) (vs := [.string r4.1, .string (⟨#[47]⟩ : ByteArray)]) (val := fun _ => .tuple #[.string r7.1, .string r7.2.1, .bool r7.2.2]) S (wN rfl) rfl callee18 rfl (S1.quiet [0] rfl) (fun E1 w1 S1 => c_strings_Cut E1 w1 r4.1 (⟨#[47]⟩ : ByteArray) r7 hx8 S1) rfl (lb rfl) fun _ a w S => ?_
  refine sMove (.tuple #[.string r7.1, .string r7.2.1, .bool r7.2.2]) S (wN rfl) (.inl rfl) rfl rfl (lb rfl) fun a S => ?_
  refine sExtract (vs := [.string r7.1, .string r7.2.1, .bool r7.2.2]) (.string r7.1) S (wN rfl) rfl rfl rfl rfl (lb rfl) fun a S => ?_
  refine sExtract (vs := [.string r7.1, .string r7.2.1, .bool r7.2.2]) (.string r7.2.1) S (wN rfl) rfl rfl rfl rfl (lb rfl) fun a S => ?_
  refine sExtract (vs := [.string r7.1, .string r7.2.1, .bool r7.2.2]) (.bool r7.2.2) S (wN rfl) rfl rfl rfl rfl (lb rfl) fun a S => ?_
  refine sMove (.string r7.1) S (wN rfl) (.inr rfl) rfl rfl (lb rfl) fun a S => ?_
  refine sMove (.string r7.2.1) S (wN rfl) (.inr rfl) rfl rfl (lb rfl) fun a S => ?_
  refine sMove (.bool r7.2.2) S (wN rfl) (.inr rfl) rfl rfl (lb rfl) fun a S => ?_
  refine leafL (leafT (hK6 _ _ ?_))
  obtain ⟨t10, h, g11⟩ := bindSome h
  refine sCut (fun a w => ∃ o9, o9 = t10 ∧ St [] E [] w0 67 a w [(0, .string p0), (2, .pointer (some ⟨b2, 0, none⟩)), (5, .bool r4.2), (6, .string r7.1), (7, .string o9)] [eBox b2 23 [iv 0, iv 0]] [fGv gMax cMax, fGv gTab cTab]) ?_ (fun a w hI => ?_)
  · refine sSeq (fun K12 hK12 => ?_)
    refine sRegion ?_
    refine sMove (.bool r7.2.2) S (wN rfl) (.inl rfl) rfl rfl (lb rfl) fun a S => ?_
    refine sNot (b := r7.2.2) S (wN rfl) rfl rfl rfl (lb rfl) fun a S => ?_
    refine leafL (leafT (hK12 _ _ ?_))
    rcases iteSome h with ⟨hc13, h⟩ | ⟨hc13, h⟩
    rotate_left
    · refine sCondF S rfl hc13 ?_
      exact wp_skip (leafT (⟨r7.2.1, Option.some.inj h, S.fix [0] [0, 1] (by decide) rfl rfl rfl⟩))
    refine sCondT S rfl hc13 ?_
    refine sRegion ?_
    refine sMove (.string (⟨#[49]⟩ : ByteArray)) S (wN rfl) (.inr rfl) rfl rfl (lb rfl) fun a S => ?_
    exact leafL (leafT (⟨(⟨#[49]⟩ : ByteArray), Option.some.inj h, S.fix [0] [0, 1] (by decide) rfl rfl rfl⟩))
  obtain ⟨o9, rfl, S⟩ := hI
  have h := g11
  clear g11
  try dsimp only at h
  refine sSeq (fun K14 hK14 => ?_)
  refine sRegion ?_
  refine sMove (.string r7.1) S (wN rfl) (.inl rfl) rfl rfl (lb rfl) fun a S => ?_
  obtain ⟨r15, hx16, h⟩ := bindSome h
  have S1 := S.mem
  refine sCallQ (X := Unit) (f := 19) (vs := [.string r7.1]) (val := fun _ => .tuple #[iv r15.1, .bool r15.2]) S (wN rfl) rfl callee19 rfl (S1.quiet [] rfl) (fun E1 w1 S1 => c_yarn_digits E1 w1 r7.1 r15 hx16 S1) rfl (lb rfl) fun _ a w S => ?_
  refine sMove (.tuple #[iv r15.1, .bool r15.2]) S (wN rfl) (.inl rfl) rfl rfl (lb rfl) fun a S => ?_
  refine sExtract (vs := [iv r15.1, .bool r15.2]) (iv r15.1) S (wN rfl) rfl rfl rfl rfl (lb rfl) fun a S => ?_
  refine sExtract (vs := [iv r15.1, .bool r15.2]) (.bool r15.2) S (wN rfl) rfl rfl rfl rfl (lb rfl) fun a S => ?_
  refine sMove (iv r15.1) S (wN rfl) (.inr rfl) rfl rfl (lb rfl) fun a S => ?_
  refine sMove (.bool r15.2) S (wN rfl) (.inr rfl) rfl rfl (lb rfl) fun a S => ?_
  refine leafL (leafT (hK14 _ _ ?_))
  refine sSeq (fun K17 hK17 => ?_)
  refine sRegion ?_
  refine sMove (.string o9) S (wN rfl) (.inl rfl) rfl rfl (lb rfl) fun a S => ?_
  obtain ⟨r18, hx19, h⟩ := bindSome h
  have S1 := S.mem
  refine sCallQ (X := Unit) (f := 19) (vs := [.string o9]) (val := fun _ => .tuple #[iv r18.1, .bool r18.2]) S (wN rfl) rfl callee19 rfl (S1.quiet [] rfl) (fun E1 w1 S1 => c_yarn_digits E1 w1 o9 r18 hx19 S1) rfl (lb rfl) fun _ a w S => ?_
  refine sMove (.tuple #[iv r18.1, .bool r18.2]) S (wN rfl) (.inl rfl) rfl rfl (lb rfl) fun a S => ?_
  refine sExtract (vs := [iv r18.1, .bool r18.2]) (iv r18.1) S (wN rfl) rfl rfl rfl rfl (lb rfl) fun a S => ?_
  refine sExtract (vs := [iv r18.1, .bool r18.2]) (.bool r18.2) S (wN rfl) rfl rfl rfl rfl (lb rfl) fun a S => ?_
  refine sMove (iv r18.1) S (wN rfl) (.inr rfl) rfl rfl (lb rfl) fun a S => ?_
  refine sMove (.bool r18.2) S (wN rfl) (.inr rfl) rfl rfl (lb rfl) fun a S => ?_
  refine leafL (leafT (hK17 _ _ ?_))
  obtain ⟨t21, h, g22⟩ := bindSome h
  refine sCut (fun a w => ∃ o20, o20 = t21 ∧ St [] E [] w0 67 a w [(0, .string p0), (2, .pointer (some ⟨b2, 0, none⟩)), (9, iv o20), (10, .bool r15.2), (11, iv r18.1), (12, .bool r18.2)] [eBox b2 23 [iv 0, iv 0]] [fGv gMax cMax, fGv gTab cTab]) ?_ (fun a w hI => ?_)
  · refine sSeq (fun K23 hK23 => ?_)
    refine sRegion ?_
    refine sMove (.bool r4.2) S (wN rfl) (.inl rfl) rfl rfl (lb rfl) fun a S => ?_
    refine leafL (leafT (hK23 _ _ ?_))
    rcases iteSome h with ⟨hc24, h⟩ | ⟨hc24, h⟩
    rotate_left
    · refine sCondF S rfl hc24 ?_
      exact wp_skip (leafT (⟨r15.1, Option.some.inj h, S.fix [0] [0, 1] (by decide) rfl rfl rfl⟩))
    refine sCondT S rfl hc24 ?_
    refine sRegion ?_
    refine sMove (iv r15.1) S (wN rfl) (.inl rfl) rfl rfl (lb rfl) fun a S => ?_
    refine sNeg (b := r15.1) S (wN rfl) rfl rfl rfl (lb rfl) fun a S => ?_
    refine sMove (iv (w64 (0 - r15.1))) S (wN rfl) (.inr rfl) rfl rfl (lb rfl) fun a S => ?_
    exact leafL (leafT (⟨w64 (0 - r15.1), Option.some.inj h, S.fix [0] [0, 1] (by decide) rfl rfl rfl⟩))
  obtain ⟨o20, rfl, S⟩ := hI
  have h := g22
  clear g22
  try dsimp only at h
  refine sSeq (fun K25 hK25 => ?_)
  refine sRegion ?_
  refine sMove (iv o20) S (wN rfl) (.inl rfl) rfl rfl (lb rfl) fun a S => ?_
  refine sMove (iv r18.1) S (wN rfl) (.inl rfl) rfl rfl (lb rfl) fun a S => ?_
  refine sBuild [(0, iv o20), (1, iv r18.1)] [iv o20, iv r18.1] S (wN rfl) rfl rfl rfl rfl (lb rfl) fun a S => ?_
  refine sAlloc (.agg #[iv 0, iv 0]) S (wN rfl) rfl rfl [iv 0, iv 0] rfl rfl (lb rfl) fun a b26 w S => ?_
  refine sStore (p := b26) (off := 0) (T := 23) (vs := [iv 0, iv 0]) (v := .agg #[iv o20, iv r18.1]) 0 [iv o20, iv r18.1] S (wN rfl) rfl rfl rfl rfl rfl rfl rfl (by simp) rfl fun a w S => ?_
  refine leafL (leafT (hK25 _ _ ?_))
  refine sSeq (fun K27 hK27 => ?_)
  obtain ⟨t29, h, g30⟩ := bindSome h
  refine sCut (fun a w => ∃ o28, o28 = t29 ∧ St [] E [] w0 67 a w [(0, .string p0), (2, .pointer (some ⟨b2, 0, none⟩)), (13, .pointer (some ⟨b26, 0, none⟩)), (55, .bool o28)] [eBox b2 23 [iv 0, iv 0], eBox b26 23 [iv o20, iv r18.1]] [fGv gMax cMax, fGv gTab cTab]) ?_ (fun a w hI => ?_)
  · refine sRegion ?_
    refine sMove (.bool r15.2) S (wN rfl) (.inl rfl) rfl rfl (lb rfl) fun a S => ?_
    refine sNot (b := r15.2) S (wN rfl) rfl rfl rfl (lb rfl) fun a S => ?_
    refine sMove (.bool (!r15.2)) S (wN rfl) (.inl rfl) rfl rfl (lb rfl) fun a S => ?_
    rcases iteSome h with ⟨hc31, h⟩ | ⟨hc31, h⟩
    · refine sSkip 2 false 47 48 S rfl rfl rfl hc31 rfl (lb rfl) fun a S => ?_
      refine sSkip 2 false 47 49 S rfl rfl rfl hc31 rfl (lb rfl) fun a S => ?_
      refine sPickT (.bool true) S (wN rfl) rfl rfl hc31 rfl rfl (lb rfl) fun a S => ?_
      refine sMove (.bool true) S (wN rfl) (.inl rfl) rfl rfl (lb rfl) fun a S => ?_
      refine sSkip 6 false 51 52 S rfl rfl rfl rfl rfl (lb rfl) fun a S => ?_
      refine sSkip 6 false 51 53 S rfl rfl rfl rfl rfl (lb rfl) fun a S => ?_
      refine sSkip 6 false 51 54 S rfl rfl rfl rfl rfl (lb rfl) fun a S => ?_
      refine sPickT (.bool true) S (wN rfl) rfl rfl rfl rfl rfl (lb rfl) fun a S => ?_
      exact leafL (leafT (⟨true, Option.some.inj h, S.fix [1, 0] [0, 1] (by decide) rfl rfl rfl⟩))
    refine sMove (.bool r18.2) S (wG 2 false 47 rfl rfl rfl hc31) (.inl rfl) rfl rfl (lb rfl) fun a S => ?_
    refine sNot (b := r18.2) S (wG 2 false 47 rfl rfl rfl hc31) rfl rfl rfl (lb rfl) fun a S => ?_
    refine sPickF (.bool (!r18.2)) S (wN rfl) rfl rfl hc31 rfl rfl (lb rfl) fun a S => ?_
    refine sMove (.bool (!r18.2)) S (wN rfl) (.inl rfl) rfl rfl (lb rfl) fun a S => ?_
    rcases iteSome h with ⟨hc32, h⟩ | ⟨hc32, h⟩
    · refine sSkip 6 false 51 52 S rfl rfl rfl hc32 rfl (lb rfl) fun a S => ?_
      refine sSkip 6 false 51 53 S rfl rfl rfl hc32 rfl (lb rfl) fun a S => ?_
      refine sSkip 6 false 51 54 S rfl rfl rfl hc32 rfl (lb rfl) fun a S => ?_
      refine sPickT (.bool true) S (wN rfl) rfl rfl hc32 rfl rfl (lb rfl) fun a S => ?_
      exact leafL (leafT (⟨true, Option.some.inj h, S.fix [1, 0] [0, 1] (by decide) rfl rfl rfl⟩))
    refine sLoadN (p := b26) (off := 0) (T := 23) (vs := [iv o20, iv r18.1]) 0 [iv o20, iv r18.1] S (wG 6 false 51 rfl rfl rfl hc32) rfl rfl rfl rfl rfl rfl rfl (lb rfl) fun a S => ?_
    obtain ⟨r33, hx34, h⟩ := bindSome h
    have S1 := S.mem
    have S1 := S1.learn (fRep r_api_Ratio (.agg #[iv o20, iv r18.1]) (api_Ratio.mk o20 r18.1)) rfl
    refine sCallQ (X := Unit) (f := 14) (vs := [.agg #[iv o20, iv r18.1]]) (val := fun _ => iv r33) S (wG 6 false 51 rfl rfl rfl hc32) rfl callee14 rfl (S1.quiet [0] rfl) (fun E1 w1 S1 => c_yarn_Check E1 w1 (api_Ratio.mk o20 r18.1) (.agg #[iv o20, iv r18.1]) r33 hx34 S1) rfl (lb rfl) fun _ a w S => ?_
    refine sBin (.bool (r33 != 0)) S (wG 6 false 51 rfl rfl rfl hc32) rfl rfl rfl (bNe _ _ _ _ .i64 r33 0) rfl (lb rfl) fun a S => ?_
    refine sPickF (.bool (r33 != 0)) S (wN rfl) rfl rfl hc32 rfl rfl (lb rfl) fun a S => ?_
    exact leafL (leafT (⟨r33 != 0, Option.some.inj h, S.fix [1, 0] [0, 1] (by decide) rfl rfl rfl⟩))
  obtain ⟨o28, rfl, S⟩ := hI
  have h := g30
  clear g30
  try dsimp only at h
  rcases iteSome h with ⟨hc35, h⟩ | ⟨hc35, h⟩
  · refine sCondT S rfl hc35 ?_
    refine sSeq (fun K36 hK36 => ?_)
    refine sRegion ?_
    refine sBuild [] [iv 0, iv 0] S (wN rfl) rfl rfl rfl rfl (lb rfl) fun a S => ?_
    refine sStore (p := b2) (off := 0) (T := 23) (vs := [iv 0, iv 0]) (v := .agg #[iv 0, iv 0]) 0 [iv 0, iv 0] S (wN rfl) rfl rfl rfl rfl rfl rfl rfl (by simp) rfl fun a w S => ?_
    refine sMove (iv 12) S (wN rfl) (.inr rfl) rfl rfl (lb rfl) fun a S => ?_
    refine leafL (leafT (hK36 _ _ ?_))
    obtain rfl := Option.some.inj h
    have S := S.learn (fRep r_api_Ratio (.agg #[iv 0, iv 0]) (api_Ratio.mk 0 0)) rfl
    exact wp_ret (rThen (sRet (.tuple #[.agg #[iv 0, iv 0], iv 12]) S (rsl2 rfl (rvN (c := 2) (t := 23) (T := 23) (p := b2) 0 [iv 0, iv 0] S rfl rfl rfl rfl) (rvT (t := 3) (v := iv 12) S rfl)) ⟨(.agg #[iv 0, iv 0]), rfl, S.mem.sel [] [0] (by decide) rfl rfl⟩))
  refine sCondF S rfl hc35 ?_
  refine wp_skip (leafT (hK27 _ _ ?_))
  refine sSeq (fun K37 hK37 => ?_)
  refine sSeq (fun K38 hK38 => ?_)
  refine sRegion ?_
  refine sLoadN (p := b26) (off := 0) (T := 23) (vs := [iv o20, iv r18.1]) 1 [iv o20, iv r18.1] S (wN rfl) rfl rfl rfl rfl rfl rfl rfl (lb rfl) fun a S => ?_
  obtain ⟨r39, hx40, h⟩ := bindSome h
  have S1 := S.mem
  have S1 := S1.learn (fRep r_api_Ratio (.agg #[iv o20, iv r18.1]) (api_Ratio.mk o20 r18.1)) rfl
  refine sCallQ (X := Unit) (f := 6) (vs := [.agg #[iv o20, iv r18.1]]) (val := fun _ => .tuple #[.string r39.1, iv r39.2]) S (wN rfl) rfl callee6 rfl (S1.quiet [0, 2] rfl) (fun E1 w1 S1 => c_yarn_Text E1 w1 (api_Ratio.mk o20 r18.1) (.agg #[iv o20, iv r18.1]) r39 hx40 S1) rfl (lb rfl) fun _ a w S => ?_
  refine sMove (.tuple #[.string r39.1, iv r39.2]) S (wN rfl) (.inl rfl) rfl rfl (lb rfl) fun a S => ?_
  refine sExtract (vs := [.string r39.1, iv r39.2]) (.string r39.1) S (wN rfl) rfl rfl rfl rfl (lb rfl) fun a S => ?_
  refine sExtract (vs := [.string r39.1, iv r39.2]) (iv r39.2) S (wN rfl) rfl rfl rfl rfl (lb rfl) fun a S => ?_
  refine sMove (.string r39.1) S (wN rfl) (.inr rfl) rfl rfl (lb rfl) fun a S => ?_
  refine sMove (iv r39.2) S (wN rfl) (.inr rfl) rfl rfl (lb rfl) fun a S => ?_
  refine leafL (leafT (hK38 _ _ ?_))
  refine sSeq (fun K41 hK41 => ?_)
  refine sRegion ?_
  refine sMove (.string r39.1) S (wN rfl) (.inl rfl) rfl rfl (lb rfl) fun a S => ?_
  refine sMove (.string p0) S (wN rfl) (.inl rfl) rfl rfl (lb rfl) fun a S => ?_
  refine sBin (.bool (r39.1 != p0)) S (wN rfl) rfl rfl rfl (bNeS _ _ _ _ r39.1 p0) rfl (lb rfl) fun a S => ?_
  refine leafL (leafT (hK41 _ _ ?_))
  rcases iteSome h with ⟨hc42, h⟩ | ⟨hc42, h⟩
  · refine sCondT S rfl hc42 ?_
    refine sSeq (fun K43 hK43 => ?_)
    refine sRegion ?_
    refine sBuild [] [iv 0, iv 0] S (wN rfl) rfl rfl rfl rfl (lb rfl) fun a S => ?_
    refine sStore (p := b2) (off := 0) (T := 23) (vs := [iv 0, iv 0]) (v := .agg #[iv 0, iv 0]) 0 [iv 0, iv 0] S (wN rfl) rfl rfl rfl rfl rfl rfl rfl (by simp) rfl fun a w S => ?_
    refine sMove (iv 12) S (wN rfl) (.inr rfl) rfl rfl (lb rfl) fun a S => ?_
    refine leafL (leafT (hK43 _ _ ?_))
    obtain rfl := Option.some.inj h
    have S := S.learn (fRep r_api_Ratio (.agg #[iv 0, iv 0]) (api_Ratio.mk 0 0)) rfl
    exact wp_ret (rThen (sRet (.tuple #[.agg #[iv 0, iv 0], iv 12]) S (rsl2 rfl (rvN (c := 2) (t := 23) (T := 23) (p := b2) 0 [iv 0, iv 0] S rfl rfl rfl rfl) (rvT (t := 3) (v := iv 12) S rfl)) ⟨(.agg #[iv 0, iv 0]), rfl, S.mem.sel [] [0] (by decide) rfl rfl⟩))
  refine sCondF S rfl hc42 ?_
  refine wp_skip (leafT (hK37 _ _ ?_))
  refine sSeq (fun K44 hK44 => ?_)
  refine sRegion ?_
  refine sLoadN (p := b26) (off := 0) (T := 23) (vs := [iv o20, iv r18.1]) 1 [iv o20, iv r18.1] S (wN rfl) rfl rfl rfl rfl rfl rfl rfl (lb rfl) fun a S => ?_
  refine sStore (p := b2) (off := 0) (T := 23) (vs := [iv 0, iv 0]) (v := .agg #[iv o20, iv r18.1]) 0 [iv o20, iv r18.1] S (wN rfl) rfl rfl rfl rfl rfl rfl rfl (by simp) rfl fun a w S => ?_
  refine sMove (iv 0) S (wN rfl) (.inr rfl) rfl rfl (lb rfl) fun a S => ?_
  refine leafL (leafT (hK44 _ _ ?_))
  obtain rfl := Option.some.inj h
  have S := S.learn (fRep r_api_Ratio (.agg #[iv o20, iv r18.1]) (api_Ratio.mk o20 r18.1)) rfl
  exact wp_ret (sRet (.tuple #[.agg #[iv o20, iv r18.1], iv 0]) S (rsl2 rfl (rvN (c := 2) (t := 23) (T := 23) (p := b2) 0 [iv o20, iv r18.1] S rfl rfl rfl rfl) (rvT (t := 3) (v := iv 0) S rfl)) ⟨(.agg #[iv o20, iv r18.1]), rfl, S.mem.sel [] [0] (by decide) rfl rfl⟩)

end Go.Proofs.YtdfjcpnflmgdoaaDoor
namespace Go.Proofs.YtdfjcpnflmgdoaaDoor
open Go.RowKit
set_option linter.unusedVariables false

noncomputable def raddleref23_Number_l1 (p0 : ByteArray) (o3 : Int) : (Int × Int) → Option ((Int × Int) ⊕ ((Int × Bool) ⊕ Int)) := fun s0 => match s0 with
  | (s17, s18) =>
    if decide (s18 < (p0.size : Int)) then
      Option.bind (α := Bool) (
        Option.bind (idxS p0 s18) fun x31 =>
        if decide (x31 < 48) then
          some true
        else
          if decide (57 < x31) then
            some true
          else
            some (decide ((w64 (o3 + 9)) < s18))) fun o28 =>
      if o28 then
        some (.inr (.inl (0, false)))
      else
        Option.bind (idxS p0 s18) fun x37 =>
        some (.inl (w64 ((w64 (10 * s17)) + (IntKind.i64.wrap (IntKind.u8.wrap (x37 - 48)))), w64 (s18 + 1)))
    else
      some (.inr (.inr s17))
noncomputable def F_raddleref23_Number (p0 : ByteArray) : Option (Int × Bool) :=
  Option.bind (α := Int) (
    Option.bind (α := Bool) (
      if decide (0 < (p0.size : Int)) then
        Option.bind (idxS p0 0) fun x10 =>
        some (x10 == 45)
      else
        some false) fun o6 =>
    if o6 then
      some 1
    else
      some 0) fun o3 =>
  Option.bind (α := Int ⊕ (Int × Bool)) (
    Option.bind (whileO (raddleref23_Number_l1 p0 o3) (0, o3)) fun z0 => match z0 with
      | .inl z =>
        some (.inr z)
      | .inr e22 =>
        some (.inl e22)) fun z0 => match z0 with
    | .inl o13 =>
      Option.bind (α := Int) (
        if o3 == 1 then
          some (w64 (0 - o13))
        else
          some o13) fun o39 =>
      Option.bind (α := Bool) (
        if decide (o3 < (p0.size : Int)) then
          Option.bind (F_raddleref23_Decimal o39) fun r48 =>
          some (r48 == p0)
        else
          some false) fun o44 =>
      some (o39, o44)
    | .inr z =>
      some z
set_option maxHeartbeats 4000000 in
set_option maxRecDepth 100000 in
theorem c_raddleref23_Number (E : Nat → Prop) (w0 : World) (p0 : ByteArray) (r : (Int × Bool)) (h : F_raddleref23_Number p0 = some r) (S : St0 E [] w0 w0 [] []) :
    Calls Tryd.prog 20 #[.string p0] w0 (Ret (X := Unit) E [] w0 (fun _ => .tuple #[.int .i64 r.1, .bool r.2]) (fun _ => []) (fun _ => [])) := by
  unfold F_raddleref23_Number at h
  refine sEnter (args := [.string p0]) 61 Tryd.func20 rfl rfl (by simp) S (fun a S => ?_)
  refine sSeq (fun K1 hK1 => ?_)
  refine sRegion ?_
  refine sMove (iv 0) S (wN rfl) (.inr rfl) rfl rfl (lb rfl) fun a S => ?_
  refine sMove (.bool false) S (wN rfl) (.inr rfl) rfl rfl (lb rfl) fun a S => ?_
  refine leafL (leafT (hK1 _ _ ?_))
  refine sSeq (fun K2 hK2 => ?_)
  refine sRegion ?_
  refine sMove (iv 0) S (wN rfl) (.inr rfl) rfl rfl (lb rfl) fun a S => ?_
  refine sMove (iv 0) S (wN rfl) (.inr rfl) rfl rfl (lb rfl) fun a S => ?_
  refine leafL (leafT (hK2 _ _ ?_))
  obtain ⟨t4, h, g5⟩ := bindSome h
  refine sCut (fun a w => ∃ o3, o3 = t4 ∧ St [] E [] w0 61 a w [(0, .string p0), (4, iv o3), (5, iv 0)] [] []) ?_ (fun a w hI => ?_)
  · obtain ⟨t7, h, g8⟩ := bindSome h
    refine sCut (fun a w => ∃ o6, o6 = t7 ∧ St [] E [] w0 61 a w [(0, .string p0), (4, iv 0), (5, iv 0), (14, .bool o6)] [] []) ?_ (fun a w hI => ?_)
    rotate_left
    · obtain ⟨o6, rfl, S⟩ := hI
      have h := g8
      clear g8
      try dsimp only at h
      rcases iteSome h with ⟨hc12, h⟩ | ⟨hc12, h⟩
      rotate_left
      · refine sCondF S rfl hc12 ?_
        exact wp_skip (leafT (⟨0, Option.some.inj h, S.fix [] [] (by decide) rfl rfl rfl⟩))
      refine sCondT S rfl hc12 ?_
      refine sRegion ?_
      refine sMove (iv 1) S (wN rfl) (.inr rfl) rfl rfl (lb rfl) fun a S => ?_
      exact leafL (leafT (⟨1, Option.some.inj h, S.fix [] [] (by decide) rfl rfl rfl⟩))
    refine sRegion ?_
    refine sMove (.string p0) S (wN rfl) (.inl rfl) rfl rfl (lb rfl) fun a S => ?_
    refine sLenS (v := p0) S (wN rfl) rfl Tryd.underlying9 rfl rfl (lb rfl) fun a S => ?_
    refine sBin (.bool (decide (0 < (p0.size : Int)))) S (wN rfl) rfl rfl rfl (bGt _ _ _ _ .i64 (p0.size : Int) 0) rfl (lb rfl) fun a S => ?_
    refine sMove (.bool (decide (0 < (p0.size : Int)))) S (wN rfl) (.inl rfl) rfl rfl (lb rfl) fun a S => ?_
    rcases iteSome h with ⟨hc9, h⟩ | ⟨hc9, h⟩
    rotate_left
    · refine sSkip 3 true 10 11 S rfl rfl rfl hc9 rfl (lb rfl) fun a S => ?_
      refine sSkip 3 true 10 12 S rfl rfl rfl hc9 rfl (lb rfl) fun a S => ?_
      refine sSkip 3 true 10 13 S rfl rfl rfl hc9 rfl (lb rfl) fun a S => ?_
      refine sPickF (.bool false) S (wN rfl) rfl rfl hc9 rfl rfl (lb rfl) fun a S => ?_
      exact leafL (leafT (⟨false, Option.some.inj h, S.fix [] [] (by decide) rfl rfl rfl⟩))
    refine sMove (.string p0) S (wG 3 true 10 rfl rfl rfl hc9) (.inl rfl) rfl rfl (lb rfl) fun a S => ?_
    obtain ⟨x10, hx11, h⟩ := bindSome h
    refine sIndexS (v := p0) (j := 0) (k := .i64) S (wG 3 true 10 rfl rfl rfl hc9) rfl Tryd.underlying9 rfl rfl hx11 rfl (lb rfl) fun a S => ?_
    refine sBin (.bool (x10 == 45)) S (wG 3 true 10 rfl rfl rfl hc9) rfl rfl rfl (bEq _ _ _ _ .u8 x10 45) rfl (lb rfl) fun a S => ?_
    refine sPickT (.bool (x10 == 45)) S (wN rfl) rfl rfl hc9 rfl rfl (lb rfl) fun a S => ?_
    exact leafL (leafT (⟨x10 == 45, Option.some.inj h, S.fix [] [] (by decide) rfl rfl rfl⟩))
  obtain ⟨o3, rfl, S⟩ := hI
  have h := g5
  clear g5
  try dsimp only at h
  obtain ⟨t14, h, g15⟩ := bindSome h
  refine sCut (fun a w => ∃ o13, .inl o13 = t14 ∧ St [] E [] w0 61 a w [(0, .string p0), (4, iv o3), (5, iv o13)] [] []) ?_ (fun a w hI => ?_)
  rotate_left
  · obtain ⟨o13, rfl, S⟩ := hI
    have h := g15
    clear g15
    try dsimp only at h
    obtain ⟨t40, h, g41⟩ := bindSome h
    refine sCut (fun a w => ∃ o39, o39 = t40 ∧ St [] E [] w0 61 a w [(0, .string p0), (4, iv o3), (5, iv o39)] [] []) ?_ (fun a w hI => ?_)
    · refine sSeq (fun K42 hK42 => ?_)
      refine sRegion ?_
      refine sMove (iv o3) S (wN rfl) (.inl rfl) rfl rfl (lb rfl) fun a S => ?_
      refine sBin (.bool (o3 == 1)) S (wN rfl) rfl rfl rfl (bEq _ _ _ _ .i64 o3 1) rfl (lb rfl) fun a S => ?_
      refine leafL (leafT (hK42 _ _ ?_))
      rcases iteSome h with ⟨hc43, h⟩ | ⟨hc43, h⟩
      rotate_left
      · refine sCondF S rfl hc43 ?_
        exact wp_skip (leafT (⟨o13, Option.some.inj h, S.fix [] [] (by decide) rfl rfl rfl⟩))
      refine sCondT S rfl hc43 ?_
      refine sRegion ?_
      refine sMove (iv o13) S (wN rfl) (.inl rfl) rfl rfl (lb rfl) fun a S => ?_
      refine sNeg (b := o13) S (wN rfl) rfl rfl rfl (lb rfl) fun a S => ?_
      refine sMove (iv (w64 (0 - o13))) S (wN rfl) (.inr rfl) rfl rfl (lb rfl) fun a S => ?_
      exact leafL (leafT (⟨w64 (0 - o13), Option.some.inj h, S.fix [] [] (by decide) rfl rfl rfl⟩))
    obtain ⟨o39, rfl, S⟩ := hI
    have h := g41
    clear g41
    try dsimp only at h
    obtain ⟨t45, h, g46⟩ := bindSome h
    refine sCut (fun a w => ∃ o44, o44 = t45 ∧ St [] E [] w0 61 a w [(2, iv o39), (3, .bool o44)] [] []) ?_ (fun a w hI => ?_)
    rotate_left
    · obtain ⟨o44, rfl, S⟩ := hI
      have h := g46
      clear g46
      try dsimp only at h
      obtain rfl := Option.some.inj h
      exact wp_ret (sRet (.tuple #[iv o39, .bool o44]) S (rsl2 rfl (rvT (t := 2) (v := iv o39) S rfl) (rvT (t := 3) (v := .bool o44) S rfl)) ⟨(), rfl, S.mem.sel [] [] (by decide) rfl rfl⟩)
    refine sRegion ?_
    refine sMove (iv o39) S (wN rfl) (.inl rfl) rfl rfl (lb rfl) fun a S => ?_
    refine sMove (.string p0) S (wN rfl) (.inl rfl) rfl rfl (lb rfl) fun a S => ?_
    refine sLenS (v := p0) S (wN rfl) rfl Tryd.underlying9 rfl rfl (lb rfl) fun a S => ?_
    refine sMove (iv o3) S (wN rfl) (.inl rfl) rfl rfl (lb rfl) fun a S => ?_
    refine sBin (.bool (decide (o3 < (p0.size : Int)))) S (wN rfl) rfl rfl rfl (bGt _ _ _ _ .i64 (p0.size : Int) o3) rfl (lb rfl) fun a S => ?_
    refine sMove (.bool (decide (o3 < (p0.size : Int)))) S (wN rfl) (.inl rfl) rfl rfl (lb rfl) fun a S => ?_
    rcases iteSome h with ⟨hc47, h⟩ | ⟨hc47, h⟩
    rotate_left
    · refine sSkip 5 true 55 56 S rfl rfl rfl hc47 rfl (lb rfl) fun a S => ?_
      refine sSkip 5 true 55 57 S rfl rfl rfl hc47 rfl (lb rfl) fun a S => ?_
      refine sSkip 5 true 55 58 S rfl rfl rfl hc47 rfl (lb rfl) fun a S => ?_
      refine sSkip 5 true 55 59 S rfl rfl rfl hc47 rfl (lb rfl) fun a S => ?_
      refine sPickF (.bool false) S (wN rfl) rfl rfl hc47 rfl rfl (lb rfl) fun a S => ?_
      refine sMove (iv o39) S (wN rfl) (.inr rfl) rfl rfl (lb rfl) fun a S => ?_
      refine sMove (.bool false) S (wN rfl) (.inr rfl) rfl rfl (lb rfl) fun a S => ?_
      exact leafL (leafT (⟨false, Option.some.inj h, S.fix [] [] (by decide) rfl rfl rfl⟩))
    refine sMove (iv o39) S (wG 5 true 55 rfl rfl rfl hc47) (.inl rfl) rfl rfl (lb rfl) fun a S => ?_
    obtain ⟨r48, hx49, h⟩ := bindSome h
    have S1 := S.mem
    refine sCallQ (X := Unit) (f := 16) (vs := [iv o39]) (val := fun _ => .string r48) S (wG 5 true 55 rfl rfl rfl hc47) rfl callee16 rfl (S1.quiet [] rfl) (fun E1 w1 S1 => c_raddleref23_Decimal E1 w1 o39 r48 hx49 S1) rfl (lb rfl) fun _ a w S => ?_
    refine sMove (.string p0) S (wG 5 true 55 rfl rfl rfl hc47) (.inl rfl) rfl rfl (lb rfl) fun a S => ?_
    refine sBin (.bool (r48 == p0)) S (wG 5 true 55 rfl rfl rfl hc47) rfl rfl rfl (bEqS _ _ _ _ r48 p0) rfl (lb rfl) fun a S => ?_
    refine sPickT (.bool (r48 == p0)) S (wN rfl) rfl rfl hc47 rfl rfl (lb rfl) fun a S => ?_
    refine sMove (iv o39) S (wN rfl) (.inr rfl) rfl rfl (lb rfl) fun a S => ?_
    refine sMove (.bool (r48 == p0)) S (wN rfl) (.inr rfl) rfl rfl (lb rfl) fun a S => ?_
    exact leafL (leafT (⟨r48 == p0, Option.some.inj h, S.fix [] [] (by decide) rfl rfl rfl⟩))
  refine sSeq (fun K16 hK16 => ?_)
  refine sRegion ?_
  refine sMove (iv o3) S (wN rfl) (.inl rfl) rfl rfl (lb rfl) fun a S => ?_
  refine sMove (iv o3) S (wN rfl) (.inr rfl) rfl rfl (lb rfl) fun a S => ?_
  refine leafL (leafT (hK16 _ _ ?_))
  refine wp_block ?_
  obtain ⟨t21, hl, g20⟩ := bindSome h
  refine sLoop hl (fun s0 a w => match s0 with | (s17, s18) => St [] E [] w0 61 a w [(0, .string p0), (4, iv o3), (5, iv s17), (6, iv s18)] [] []) (S.fix [] [] (by decide) rfl rfl rfl) ?_
  clear hl h
  intro s0 a w c0 hI h hu19
  obtain ⟨s17, s18⟩ := s0
  unfold raddleref23_Number_l1 at h
  dsimp only at h hI
  have S := hI
  refine sSeq (fun K23 hK23 => ?_)
  refine sSeq (fun K24 hK24 => ?_)
  refine sRegion ?_
  refine sMove (iv s18) S (wN rfl) (.inl rfl) rfl rfl (lb rfl) fun a S => ?_
  refine sMove (.string p0) S (wN rfl) (.inl rfl) rfl rfl (lb rfl) fun a S => ?_
  refine sLenS (v := p0) S (wN rfl) rfl Tryd.underlying9 rfl rfl (lb rfl) fun a S => ?_
  refine sBin (.bool (decide (s18 < (p0.size : Int)))) S (wN rfl) rfl rfl rfl (bLt _ _ _ _ .i64 s18 (p0.size : Int)) rfl (lb rfl) fun a S => ?_
  refine leafL (leafT (hK24 _ _ ?_))
  rcases iteSome h with ⟨hc25, h⟩ | ⟨hc25, h⟩
  rotate_left
  · refine sCondF S rfl hc25 ?_
    obtain rfl := Option.some.inj h
    obtain rfl := hu19 _ rfl
    have h := g20
    clear g20
    try dsimp only at h
    exact wp_exit (xThen (xThen (xHit (leafT (⟨s17, Option.some.inj h, S.fix [] [] (by decide) rfl rfl rfl⟩)))))
  refine sCondT S rfl hc25 ?_
  refine wp_skip (leafT (hK23 _ _ ?_))
  refine sSeq (fun K26 hK26 => ?_)
  refine wp_block ?_
  refine sSeq (fun K27 hK27 => ?_)
  obtain ⟨t29, h, g30⟩ := bindSome h
  refine sCut (fun a w => ∃ o28, o28 = t29 ∧ St [] E [] w0 61 a w [(0, .string p0), (4, iv o3), (5, iv s17), (6, iv s18), (37, .bool o28)] [] []) ?_ (fun a w hI => ?_)
  rotate_left
  · obtain ⟨o28, rfl, S⟩ := hI
    have h := g30
    clear g30
    try dsimp only at h
    rcases iteSome h with ⟨hc35, h⟩ | ⟨hc35, h⟩
    · refine sCondT S rfl hc35 ?_
      refine sSeq (fun K36 hK36 => ?_)
      refine sRegion ?_
      refine sMove (iv 0) S (wN rfl) (.inr rfl) rfl rfl (lb rfl) fun a S => ?_
      refine sMove (.bool false) S (wN rfl) (.inr rfl) rfl rfl (lb rfl) fun a S => ?_
      refine leafL (leafT (hK36 _ _ ?_))
      obtain rfl := Option.some.inj h
      obtain rfl := hu19 _ rfl
      have h := g20
      clear g20
      try dsimp only at h
      obtain rfl := Option.some.inj h
      have h := g15
      clear g15
      try dsimp only at h
      obtain rfl := Option.some.inj h
      exact wp_ret (rThen (rBlock (rThen (rThen (rBlock (rThen (sRet (.tuple #[iv 0, .bool false]) S (rsl2 rfl (rvT (t := 2) (v := iv 0) S rfl) (rvT (t := 3) (v := .bool false) S rfl)) ⟨(), rfl, S.mem.sel [] [] (by decide) rfl rfl⟩)))))))
    refine sCondF S rfl hc35 ?_
    refine wp_skip (leafT (hK27 _ _ ?_))
    refine sRegion ?_
    refine sMove (iv s17) S (wN rfl) (.inl rfl) rfl rfl (lb rfl) fun a S => ?_
    refine sBin (iv (w64 (10 * s17))) S (wN rfl) rfl rfl rfl (bMul _ _ _ _ 10 s17) rfl (lb rfl) fun a S => ?_
    refine sMove (.string p0) S (wN rfl) (.inl rfl) rfl rfl (lb rfl) fun a S => ?_
    refine sMove (iv s18) S (wN rfl) (.inl rfl) rfl rfl (lb rfl) fun a S => ?_
    obtain ⟨x37, hx38, h⟩ := bindSome h
    refine sIndexS (v := p0) (j := s18) (k := .i64) S (wN rfl) rfl Tryd.underlying9 rfl rfl hx38 rfl (lb rfl) fun a S => ?_
    refine sBin (.int .u8 (IntKind.u8.wrap (x37 - 48))) S (wN rfl) rfl rfl rfl (bSubK _ _ _ _ .u8 x37 48) rfl (lb rfl) fun a S => ?_
    refine sConv (k := .u8) (k2 := .i64) (b := IntKind.u8.wrap (x37 - 48)) S (wN rfl) rfl Tryd.underlying5 Tryd.underlying2 rfl rfl (lb rfl) fun a S => ?_
    refine sBin (iv (w64 ((w64 (10 * s17)) + (IntKind.i64.wrap (IntKind.u8.wrap (x37 - 48)))))) S (wN rfl) rfl rfl rfl (bAdd _ _ _ _ (w64 (10 * s17)) (IntKind.i64.wrap (IntKind.u8.wrap (x37 - 48)))) rfl (lb rfl) fun a S => ?_
    refine sMove (iv (w64 ((w64 (10 * s17)) + (IntKind.i64.wrap (IntKind.u8.wrap (x37 - 48)))))) S (wN rfl) (.inr rfl) rfl rfl (lb rfl) fun a S => ?_
    refine leafL (leafB (leafT (hK26 _ _ ?_)))
    refine sRegion ?_
    refine sMove (iv s18) S (wN rfl) (.inl rfl) rfl rfl (lb rfl) fun a S => ?_
    refine sBin (iv (w64 (s18 + 1))) S (wN rfl) rfl rfl rfl (bAdd _ _ _ _ s18 1) rfl (lb rfl) fun a S => ?_
    refine sMove (iv (w64 (s18 + 1))) S (wN rfl) (.inr rfl) rfl rfl (lb rfl) fun a S => ?_
    exact leafL (leafT (⟨(w64 ((w64 (10 * s17)) + (IntKind.i64.wrap (IntKind.u8.wrap (x37 - 48)))), w64 (s18 + 1)), (Option.some.inj h).symm, (S.fix [] [] (by decide) rfl rfl rfl)⟩))
  refine sRegion ?_
  refine sMove (.string p0) S (wN rfl) (.inl rfl) rfl rfl (lb rfl) fun a S => ?_
  refine sMove (iv s18) S (wN rfl) (.inl rfl) rfl rfl (lb rfl) fun a S => ?_
  obtain ⟨x31, hx32, h⟩ := bindSome h
  refine sIndexS (v := p0) (j := s18) (k := .i64) S (wN rfl) rfl Tryd.underlying9 rfl rfl hx32 rfl (lb rfl) fun a S => ?_
  refine sBin (.bool (decide (x31 < 48))) S (wN rfl) rfl rfl rfl (bLt _ _ _ _ .u8 x31 48) rfl (lb rfl) fun a S => ?_
  refine sMove (.bool (decide (x31 < 48))) S (wN rfl) (.inl rfl) rfl rfl (lb rfl) fun a S => ?_
  rcases iteSome h with ⟨hc33, h⟩ | ⟨hc33, h⟩
  · refine sSkip 4 false 26 27 S rfl rfl rfl hc33 rfl (lb rfl) fun a S => ?_
    refine sSkip 4 false 26 28 S rfl rfl rfl hc33 rfl (lb rfl) fun a S => ?_
    refine sSkip 4 false 26 29 S rfl rfl rfl hc33 rfl (lb rfl) fun a S => ?_
    refine sSkip 4 false 26 30 S rfl rfl rfl hc33 rfl (lb rfl) fun a S => ?_
    refine sPickT (.bool true) S (wN rfl) rfl rfl hc33 rfl rfl (lb rfl) fun a S => ?_
    refine sMove (.bool true) S (wN rfl) (.inl rfl) rfl rfl (lb rfl) fun a S => ?_
    refine sSkip 10 false 32 33 S rfl rfl rfl rfl rfl (lb rfl) fun a S => ?_
    refine sSkip 10 false 32 34 S rfl rfl rfl rfl rfl (lb rfl) fun a S => ?_
    refine sSkip 10 false 32 35 S rfl rfl rfl rfl rfl (lb rfl) fun a S => ?_
    refine sSkip 10 false 32 36 S rfl rfl rfl rfl rfl (lb rfl) fun a S => ?_
    refine sPickT (.bool true) S (wN rfl) rfl rfl rfl rfl rfl (lb rfl) fun a S => ?_
    exact leafL (leafT (⟨true, Option.some.inj h, S.fix [] [] (by decide) rfl rfl rfl⟩))
  refine sMove (.string p0) S (wG 4 false 26 rfl rfl rfl hc33) (.inl rfl) rfl rfl (lb rfl) fun a S => ?_
  refine sMove (iv s18) S (wG 4 false 26 rfl rfl rfl hc33) (.inl rfl) rfl rfl (lb rfl) fun a S => ?_
  refine sIndexS (v := p0) (j := s18) (k := .i64) S (wG 4 false 26 rfl rfl rfl hc33) rfl Tryd.underlying9 rfl rfl hx32 rfl (lb rfl) fun a S => ?_
  refine sBin (.bool (decide (57 < x31))) S (wG 4 false 26 rfl rfl rfl hc33) rfl rfl rfl (bGt _ _ _ _ .u8 x31 57) rfl (lb rfl) fun a S => ?_
  refine sPickF (.bool (decide (57 < x31))) S (wN rfl) rfl rfl hc33 rfl rfl (lb rfl) fun a S => ?_
  refine sMove (.bool (decide (57 < x31))) S (wN rfl) (.inl rfl) rfl rfl (lb rfl) fun a S => ?_
  rcases iteSome h with ⟨hc34, h⟩ | ⟨hc34, h⟩
  · refine sSkip 10 false 32 33 S rfl rfl rfl hc34 rfl (lb rfl) fun a S => ?_
    refine sSkip 10 false 32 34 S rfl rfl rfl hc34 rfl (lb rfl) fun a S => ?_
    refine sSkip 10 false 32 35 S rfl rfl rfl hc34 rfl (lb rfl) fun a S => ?_
    refine sSkip 10 false 32 36 S rfl rfl rfl hc34 rfl (lb rfl) fun a S => ?_
    refine sPickT (.bool true) S (wN rfl) rfl rfl hc34 rfl rfl (lb rfl) fun a S => ?_
    exact leafL (leafT (⟨true, Option.some.inj h, S.fix [] [] (by decide) rfl rfl rfl⟩))
  refine sMove (iv s18) S (wG 10 false 32 rfl rfl rfl hc34) (.inl rfl) rfl rfl (lb rfl) fun a S => ?_
  refine sMove (iv o3) S (wG 10 false 32 rfl rfl rfl hc34) (.inl rfl) rfl rfl (lb rfl) fun a S => ?_
  refine sBin (iv (w64 (o3 + 9))) S (wG 10 false 32 rfl rfl rfl hc34) rfl rfl rfl (bAdd _ _ _ _ o3 9) rfl (lb rfl) fun a S => ?_
  refine sBin (.bool (decide ((w64 (o3 + 9)) < s18))) S (wG 10 false 32 rfl rfl rfl hc34) rfl rfl rfl (bGt _ _ _ _ .i64 s18 (w64 (o3 + 9))) rfl (lb rfl) fun a S => ?_
  refine sPickF (.bool (decide ((w64 (o3 + 9)) < s18))) S (wN rfl) rfl rfl hc34 rfl rfl (lb rfl) fun a S => ?_
  exact leafL (leafT (⟨decide ((w64 (o3 + 9)) < s18), Option.some.inj h, S.fix [] [] (by decide) rfl rfl rfl⟩))

end Go.Proofs.YtdfjcpnflmgdoaaDoor
