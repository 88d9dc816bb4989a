/- Several texts in one: G5 LCS LCV FrCostSkeins -/
import Derived.WalkKit
import Derived.Maps.AppendAt
import Derived.Deep.AppendLies
import Derived.KernelRfl
import Derived.Laws.OwnMore
import Derived.Great.BuildSlice
import Derived.Orders
import Derived.Laws.StructEq
import Derived.ChangeKeysEq
import Derived.Defers
import Derived.Laws.BytesString
import Derived.RangeFuncNested
import Derived.RangeFuncBound
import Derived.RangeFuncCalls
import Derived.RangeFuncLeaves
import Derived.OrdersIn
import Derived.LoopNIn
import Derived.Test.YtdbgkakmhlmpbaaProg
import Derived.ProofKit
import Derived.OpenShut
import Derived.ChangeOld
import Derived.Deep.Slices
import Derived.Lib.SmallJoins
import Derived.JoinedOf
import Derived.JoinedAt
import Derived.Below
import Derived.Test.YtdbgkakmhlmpbaaRows
import Derived.Test.YtdbgkakmhlmpbaaMCostSkeins6
namespace Go.Proofs.Ytdbgkakmhlmpbaa
open Go.RowKit
set_option linter.unusedVariables false

noncomputable def F_raddlelaw45_CostSkeins (p0 : api_Bill) (p1 : api_Count) (p2 : Int) (p3 : Int) : Option Bool :=
  Option.bind (F_raddlelaw45_alive) fun r5 =>
  Option.bind (F_cost_Price p0 p1 p2 p3) fun r8 =>
  Option.bind (F_cost_Weight p0 p1) fun r11 =>
  Option.bind (α := Bool) (
    if r8.2.2 != 0 then
      some true
    else
      some (!r5)) fun o16 =>
  if o16 then
    Option.bind (α := Bool) (
      if r5 then
        if r11.2 == 0 then
          some true
        else
          some (r11.2 == r8.2.2)
      else
        some false) fun o21 =>
    some o21
  else
    Option.bind (α := Bool) (
      if r11.2 != 0 then
        some true
      else
        Option.bind (F_raddleref23_Check r11.1) fun r31 =>
        if r31 != 0 then
          some true
        else
          if decide (r8.1 < 0) then
            some true
          else
            if decide (1000000000 < r8.1) then
              some true
            else
              if decide (p2 < 1) then
                some true
              else
                some (decide (1000000000 < p2))) fun o27 =>
    if o27 then
      some false
    else
      Option.bind (α := Bool) (
        if r5 then
          if r8.2.1 == (w64 (r8.1 * p3)) then
            Option.bind (F_raddlelaw45_over r11.1 r8.1 p2) fun r44 =>
            if r44 then
              if r8.1 == 0 then
                some true
              else
                Option.bind (F_raddlelaw45_over r11.1 (w64 (r8.1 - 1)) p2) fun r48 =>
                some (!r48)
            else
              some false
          else
            some false
        else
          some false) fun o39 =>
      some o39
set_option maxHeartbeats 4000000 in
set_option maxRecDepth 100000 in
theorem c_raddlelaw45_CostSkeins (E : Nat → Prop) (w0 : World) (p0 : api_Bill) (v0 : Value) (p1 : api_Count) (v1 : Value) (p2 : Int) (p3 : Int) (r : Bool) (h : F_raddlelaw45_CostSkeins p0 p1 p2 p3 = some r) (S : St0 E [] w0 w0 [] [fRep r_api_Bill (v0) p0, fRep r_api_Count (v1) p1]) :
    Calls Try.prog 5 #[v0, v1, iv p2, iv p3] w0 (Ret (X := Unit) E [] w0 (fun _ => .bool r) (fun _ => []) (fun _ => [])) := by
  unfold F_raddlelaw45_CostSkeins at h
  obtain rfl : v0 = .agg #[iv p0.Length, iv p0.Time] := S.know (i := 0) (e := fRep r_api_Bill (v0) p0) rfl
  obtain rfl : v1 = .agg #[.int .u8 p1.System, iv p1.N.Num, iv p1.N.Den] := S.know (i := 1) (e := fRep r_api_Count (v1) p1) rfl
  refine sEnter (args := [.agg #[iv p0.Length, iv p0.Time], .agg #[.int .u8 p1.System, iv p1.N.Num, iv p1.N.Den], iv p2, iv p3]) 96 Try.func5 rfl rfl (by simp) S (fun a S => ?_)
  refine sSeq (fun K1 hK1 => ?_)
  refine sRegion ?_
  refine sBox (v := .agg #[iv p0.Length, iv p0.Time]) S (wN rfl) rfl rfl [iv p0.Length, iv p0.Time] rfl rfl (lb rfl) fun a b2 w S => ?_
  refine sBox (v := .agg #[.int .u8 p1.System, iv p1.N.Num, iv p1.N.Den]) S (wN rfl) rfl rfl [.int .u8 p1.System, iv p1.N.Num, iv p1.N.Den] rfl rfl (lb rfl) fun a b3 w S => ?_
  refine sMove (.bool false) S (wN rfl) (.inr rfl) rfl rfl (lb rfl) fun a S => ?_
  refine leafL (leafT (hK1 _ _ ?_))
  refine sSeq (fun K4 hK4 => ?_)
  refine sRegion ?_
  obtain ⟨r5, hx6, h⟩ := bindSome h
  have S1 := S.mem
  refine sCallQ (X := Unit) (f := 24) (vs := []) (val := fun _ => .bool r5) S (wN rfl) rfl callee24 rfl (S1.quiet [] rfl) (fun E1 w1 S1 => c_raddlelaw45_alive E1 w1  r5 hx6 S1) rfl (lb rfl) fun _ a w S => ?_
  refine sMove (.bool r5) S (wN rfl) (.inr rfl) rfl rfl (lb rfl) fun a S => ?_
  refine leafL (leafT (hK4 _ _ ?_))
  refine sSeq (fun K7 hK7 => ?_)
  refine sRegion ?_
  refine sLoadN (p := b2) (off := 0) (T := 23) (vs := [iv p0.Length, iv p0.Time]) 1 [iv p0.Length, iv p0.Time] S (wN rfl) rfl rfl rfl rfl rfl rfl rfl (lb rfl) fun a S => ?_
  refine sLoadN (p := b3) (off := 0) (T := 27) (vs := [.int .u8 p1.System, iv p1.N.Num, iv p1.N.Den]) 0 [.int .u8 p1.System, iv p1.N.Num, iv p1.N.Den] S (wN rfl) rfl rfl rfl rfl rfl rfl rfl (lb rfl) fun a S => ?_
  refine sMove (iv p2) S (wN rfl) (.inl rfl) rfl rfl (lb rfl) fun a S => ?_
  refine sMove (iv p3) S (wN rfl) (.inl rfl) rfl rfl (lb rfl) fun a S => ?_
  obtain ⟨r8, hx9, h⟩ := bindSome h
  have S1 := S.mem
  refine sCallQ (X := Unit) (f := 12) (vs := [.agg #[iv p0.Length, iv p0.Time], .agg #[.int .u8 p1.System, iv p1.N.Num, iv p1.N.Den], iv p2, iv p3]) (val := fun _ => .tuple #[iv r8.1, iv r8.2.1, iv r8.2.2]) S (wN rfl) rfl callee12 rfl (S1.quiet [0, 1] rfl) (fun E1 w1 S1 => c_cost_Price E1 w1 p0 (.agg #[iv p0.Length, iv p0.Time]) p1 (.agg #[.int .u8 p1.System, iv p1.N.Num, iv p1.N.Den]) p2 p3 r8 hx9 S1) rfl (lb rfl) fun _ a w S => ?_
  refine sMove (.tuple #[iv r8.1, iv r8.2.1, iv r8.2.2]) S (wN rfl) (.inl rfl) rfl rfl (lb rfl) fun a S => ?_
  refine sExtract (vs := [iv r8.1, iv r8.2.1, iv r8.2.2]) (iv r8.1) S (wN rfl) rfl rfl rfl rfl (lb rfl) fun a S => ?_
  refine sExtract (vs := [iv r8.1, iv r8.2.1, iv r8.2.2]) (iv r8.2.1) S (wN rfl) rfl rfl rfl rfl (lb rfl) fun a S => ?_
  refine sExtract (vs := [iv r8.1, iv r8.2.1, iv r8.2.2]) (iv r8.2.2) S (wN rfl) rfl rfl rfl rfl (lb rfl) fun a S => ?_
  refine sMove (iv r8.1) S (wN rfl) (.inr rfl) rfl rfl (lb rfl) fun a S => ?_
  refine sMove (iv r8.2.1) S (wN rfl) (.inr rfl) rfl rfl (lb rfl) fun a S => ?_
  refine sMove (iv r8.2.2) S (wN rfl) (.inr rfl) rfl rfl (lb rfl) fun a S => ?_
  refine leafL (leafT (hK7 _ _ ?_))
  refine sSeq (fun K10 hK10 => ?_)
  refine sRegion ?_
  refine sLoadN (p := b2) (off := 0) (T := 23) (vs := [iv p0.Length, iv p0.Time]) 1 [iv p0.Length, iv p0.Time] S (wN rfl) rfl rfl rfl rfl rfl rfl rfl (lb rfl) fun a S => ?_
  refine sLoadN (p := b3) (off := 0) (T := 27) (vs := [.int .u8 p1.System, iv p1.N.Num, iv p1.N.Den]) 0 [.int .u8 p1.System, iv p1.N.Num, iv p1.N.Den] S (wN rfl) rfl rfl rfl rfl rfl rfl rfl (lb rfl) fun a S => ?_
  obtain ⟨r11, hx12, h⟩ := bindSome h
  refine sCall (X := Value) (f := 10) (vs := [.agg #[iv p0.Length, iv p0.Time], .agg #[.int .u8 p1.System, iv p1.N.Num, iv p1.N.Den]]) (val := c_cost_Weight_val r11) (B' := fun _ => []) (D' := c_cost_Weight_D r11) [] [eBox b3 27 [.int .u8 p1.System, iv p1.N.Num, iv p1.N.Den], eBox b2 23 [iv p0.Length, iv p0.Time]] [fRep r_api_Bill (.agg #[iv p0.Length, iv p0.Time]) p0, fRep r_api_Count (.agg #[.int .u8 p1.System, iv p1.N.Num, iv p1.N.Den]) p1] [0, 1] [0, 1] S (wN rfl) rfl callee10 rfl (by decide) rfl rfl (fun E1 w1 S1 => c_cost_Weight E1 w1 p0 (.agg #[iv p0.Length, iv p0.Time]) p1 (.agg #[.int .u8 p1.System, iv p1.N.Num, iv p1.N.Den]) r11 hx12 S1) rfl (lb rfl) fun u13 a w S => ?_
  obtain rfl : u13 = .agg #[iv r11.1.Num, iv r11.1.Den] := S.mem.know (i := 0) (e := fRep r_api_Ratio (u13) r11.1) rfl
  refine sMove (.tuple #[.agg #[iv r11.1.Num, iv r11.1.Den], iv r11.2]) S (wN rfl) (.inl rfl) rfl rfl (lb rfl) fun a S => ?_
  refine sExtract (vs := [.agg #[iv r11.1.Num, iv r11.1.Den], iv r11.2]) (.agg #[iv r11.1.Num, iv r11.1.Den]) S (wN rfl) rfl rfl rfl rfl (lb rfl) fun a S => ?_
  refine sExtract (vs := [.agg #[iv r11.1.Num, iv r11.1.Den], iv r11.2]) (iv r11.2) S (wN rfl) rfl rfl rfl rfl (lb rfl) fun a S => ?_
  refine sAlloc (.agg #[iv 0, iv 0]) S (wN rfl) rfl rfl [iv 0, iv 0] rfl rfl (lb rfl) fun a b14 w S => ?_
  refine sStore (p := b14) (off := 0) (T := 25) (vs := [iv 0, iv 0]) (v := .agg #[iv r11.1.Num, iv r11.1.Den]) 0 [iv r11.1.Num, iv r11.1.Den] S (wN rfl) rfl rfl rfl rfl rfl rfl rfl (by simp) rfl fun a w S => ?_
  refine sMove (iv r11.2) S (wN rfl) (.inr rfl) rfl rfl (lb rfl) fun a S => ?_
  refine leafL (leafT (hK10 _ _ ?_))
  refine sSeq (fun K15 hK15 => ?_)
  obtain ⟨t17, h, g18⟩ := bindSome h
  refine sCut (fun a w => ∃ o16, o16 = t17 ∧ St [] E [] w0 96 a w [(2, iv p2), (3, iv p3), (9, .bool r5), (10, iv r8.1), (11, iv r8.2.1), (12, iv r8.2.2), (13, .pointer (some ⟨b14, 0, none⟩)), (14, iv r11.2), (36, .bool o16)] [eBox b14 25 [iv r11.1.Num, iv r11.1.Den]] []) ?_ (fun a w hI => ?_)
  · refine sRegion ?_
    refine sMove (iv r8.2.2) S (wN rfl) (.inl rfl) rfl rfl (lb rfl) fun a S => ?_
    refine sBin (.bool (r8.2.2 != 0)) S (wN rfl) rfl rfl rfl (bNe _ _ _ _ .i64 r8.2.2 0) rfl (lb rfl) fun a S => ?_
    refine sMove (.bool (r8.2.2 != 0)) S (wN rfl) (.inl rfl) rfl rfl (lb rfl) fun a S => ?_
    rcases iteSome h with ⟨hc19, h⟩ | ⟨hc19, h⟩
    · refine sSkip 2 false 33 34 S rfl rfl rfl hc19 rfl (lb rfl) fun a S => ?_
      refine sSkip 2 false 33 35 S rfl rfl rfl hc19 rfl (lb rfl) fun a S => ?_
      refine sPickT (.bool true) S (wN rfl) rfl rfl hc19 rfl rfl (lb rfl) fun a S => ?_
      exact leafL (leafT (⟨true, Option.some.inj h, S.fix [0] [] (by decide) rfl rfl rfl⟩))
    refine sMove (.bool r5) S (wG 2 false 33 rfl rfl rfl hc19) (.inl rfl) rfl rfl (lb rfl) fun a S => ?_
    refine sNot (b := r5) S (wG 2 false 33 rfl rfl rfl hc19) rfl rfl rfl (lb rfl) fun a S => ?_
    refine sPickF (.bool (!r5)) S (wN rfl) rfl rfl hc19 rfl rfl (lb rfl) fun a S => ?_
    exact leafL (leafT (⟨!r5, Option.some.inj h, S.fix [0] [] (by decide) rfl rfl rfl⟩))
  obtain ⟨o16, rfl, S⟩ := hI
  have h := g18
  clear g18
  try dsimp only at h
  rcases iteSome h with ⟨hc20, h⟩ | ⟨hc20, h⟩
  · refine sCondT S rfl hc20 ?_
    obtain ⟨t22, h, g23⟩ := bindSome h
    refine sCut (fun a w => ∃ o21, o21 = t22 ∧ St [] E [] w0 96 a w [(8, .bool o21)] [] []) ?_ (fun a w hI => ?_)
    rotate_left
    · obtain ⟨o21, rfl, S⟩ := hI
      have h := g23
      clear g23
      try dsimp only at h
      obtain rfl := Option.some.inj h
      exact wp_ret (rThen (sRet (.bool o21) S (rsl1 rfl (rvT (t := 8) (v := .bool o21) S rfl)) ⟨(), rfl, S.mem.sel [] [] (by decide) rfl rfl⟩))
    refine sRegion ?_
    refine sMove (.bool r5) S (wN rfl) (.inl rfl) rfl rfl (lb rfl) fun a S => ?_
    refine sMove (.bool r5) S (wN rfl) (.inl rfl) rfl rfl (lb rfl) fun a S => ?_
    rcases iteSome h with ⟨hc24, h⟩ | ⟨hc24, h⟩
    rotate_left
    · refine sSkip 1 true 38 39 S rfl rfl rfl hc24 rfl (lb rfl) fun a S => ?_
      refine sSkip 1 true 38 40 S rfl rfl rfl hc24 rfl (lb rfl) fun a S => ?_
      refine sSkip 1 true 38 41 S rfl rfl rfl hc24 rfl (lb rfl) fun a S => ?_
      refine sSkipU 4 false 41 42 S rfl rfl rfl rfl (lb rfl) fun a S => ?_
      refine sSkipU 4 false 41 43 S rfl rfl rfl rfl (lb rfl) fun a S => ?_
      refine sSkipU 4 false 41 44 S rfl rfl rfl rfl (lb rfl) fun a S => ?_
      refine sSkip 1 true 38 45 S rfl rfl rfl hc24 rfl (lb rfl) fun a S => ?_
      refine sPickF (.bool false) S (wN rfl) rfl rfl hc24 rfl rfl (lb rfl) fun a S => ?_
      refine sMove (.bool false) S (wN rfl) (.inr rfl) rfl rfl (lb rfl) fun a S => ?_
      exact leafL (leafT (⟨false, Option.some.inj h, S.fix [] [] (by decide) rfl rfl rfl⟩))
    refine sMove (iv r11.2) S (wG 1 true 38 rfl rfl rfl hc24) (.inl rfl) rfl rfl (lb rfl) fun a S => ?_
    refine sBin (.bool (r11.2 == 0)) S (wG 1 true 38 rfl rfl rfl hc24) rfl rfl rfl (bEq _ _ _ _ .i64 r11.2 0) rfl (lb rfl) fun a S => ?_
    refine sMove (.bool (r11.2 == 0)) S (wG 1 true 38 rfl rfl rfl hc24) (.inl rfl) rfl rfl (lb rfl) fun a S => ?_
    rcases iteSome h with ⟨hc25, h⟩ | ⟨hc25, h⟩
    · refine sSkip 4 false 41 42 S rfl rfl rfl hc25 rfl (lb rfl) fun a S => ?_
      refine sSkip 4 false 41 43 S rfl rfl rfl hc25 rfl (lb rfl) fun a S => ?_
      refine sSkip 4 false 41 44 S rfl rfl rfl hc25 rfl (lb rfl) fun a S => ?_
      refine sPickT (.bool true) S (wG 1 true 38 rfl rfl rfl hc24) rfl rfl hc25 rfl rfl (lb rfl) fun a S => ?_
      refine sPickT (.bool true) S (wN rfl) rfl rfl hc24 rfl rfl (lb rfl) fun a S => ?_
      refine sMove (.bool true) S (wN rfl) (.inr rfl) rfl rfl (lb rfl) fun a S => ?_
      exact leafL (leafT (⟨true, Option.some.inj h, S.fix [] [] (by decide) rfl rfl rfl⟩))
    refine sMove (iv r11.2) S (wG 4 false 41 rfl rfl rfl hc25) (.inl rfl) rfl rfl (lb rfl) fun a S => ?_
    refine sMove (iv r8.2.2) S (wG 4 false 41 rfl rfl rfl hc25) (.inl rfl) rfl rfl (lb rfl) fun a S => ?_
    refine sBin (.bool (r11.2 == r8.2.2)) S (wG 4 false 41 rfl rfl rfl hc25) rfl rfl rfl (bEq _ _ _ _ .i64 r11.2 r8.2.2) rfl (lb rfl) fun a S => ?_
    refine sPickF (.bool (r11.2 == r8.2.2)) S (wG 1 true 38 rfl rfl rfl hc24) rfl rfl hc25 rfl rfl (lb rfl) fun a S => ?_
    refine sPickT (.bool (r11.2 == r8.2.2)) S (wN rfl) rfl rfl hc24 rfl rfl (lb rfl) fun a S => ?_
    refine sMove (.bool (r11.2 == r8.2.2)) S (wN rfl) (.inr rfl) rfl rfl (lb rfl) fun a S => ?_
    exact leafL (leafT (⟨r11.2 == r8.2.2, Option.some.inj h, S.fix [] [] (by decide) rfl rfl rfl⟩))
  refine sCondF S rfl hc20 ?_
  refine wp_skip (leafT (hK15 _ _ ?_))
  refine sSeq (fun K26 hK26 => ?_)
  obtain ⟨t28, h, g29⟩ := bindSome h
  refine sCut (fun a w => ∃ o27, o27 = t28 ∧ St [] E [] w0 96 a w [(2, iv p2), (3, iv p3), (9, .bool r5), (10, iv r8.1), (11, iv r8.2.1), (13, .pointer (some ⟨b14, 0, none⟩)), (69, .bool o27)] [eBox b14 25 [iv r11.1.Num, iv r11.1.Den]] []) ?_ (fun a w hI => ?_)
  · refine sRegion ?_
    refine sMove (iv r11.2) S (wN rfl) (.inl rfl) rfl rfl (lb rfl) fun a S => ?_
    refine sBin (.bool (r11.2 != 0)) S (wN rfl) rfl rfl rfl (bNe _ _ _ _ .i64 r11.2 0) rfl (lb rfl) fun a S => ?_
    refine sMove (.bool (r11.2 != 0)) S (wN rfl) (.inl rfl) rfl rfl (lb rfl) fun a S => ?_
    rcases iteSome h with ⟨hc30, h⟩ | ⟨hc30, h⟩
    · refine sSkip 2 false 49 50 S rfl rfl rfl hc30 rfl (lb rfl) fun a S => ?_
      refine sSkip 2 false 49 51 S rfl rfl rfl hc30 rfl (lb rfl) fun a S => ?_
      refine sSkip 2 false 49 52 S rfl rfl rfl hc30 rfl (lb rfl) fun a S => ?_
      refine sPickT (.bool true) S (wN rfl) rfl rfl hc30 rfl rfl (lb rfl) fun a S => ?_
      refine sMove (.bool true) S (wN rfl) (.inl rfl) rfl rfl (lb rfl) fun a S => ?_
      refine sSkip 7 false 54 55 S rfl rfl rfl rfl rfl (lb rfl) fun a S => ?_
      refine sSkip 7 false 54 56 S rfl rfl rfl rfl rfl (lb rfl) fun a S => ?_
      refine sPickT (.bool true) S (wN rfl) rfl rfl rfl rfl rfl (lb rfl) fun a S => ?_
      refine sMove (.bool true) S (wN rfl) (.inl rfl) rfl rfl (lb rfl) fun a S => ?_
      refine sSkip 11 false 58 59 S rfl rfl rfl rfl rfl (lb rfl) fun a S => ?_
      refine sSkip 11 false 58 60 S rfl rfl rfl rfl rfl (lb rfl) fun a S => ?_
      refine sPickT (.bool true) S (wN rfl) rfl rfl rfl rfl rfl (lb rfl) fun a S => ?_
      refine sMove (.bool true) S (wN rfl) (.inl rfl) rfl rfl (lb rfl) fun a S => ?_
      refine sSkip 15 false 62 63 S rfl rfl rfl rfl rfl (lb rfl) fun a S => ?_
      refine sSkip 15 false 62 64 S rfl rfl rfl rfl rfl (lb rfl) fun a S => ?_
      refine sPickT (.bool true) S (wN rfl) rfl rfl rfl rfl rfl (lb rfl) fun a S => ?_
      refine sMove (.bool true) S (wN rfl) (.inl rfl) rfl rfl (lb rfl) fun a S => ?_
      refine sSkip 19 false 66 67 S rfl rfl rfl rfl rfl (lb rfl) fun a S => ?_
      refine sSkip 19 false 66 68 S rfl rfl rfl rfl rfl (lb rfl) fun a S => ?_
      refine sPickT (.bool true) S (wN rfl) rfl rfl rfl rfl rfl (lb rfl) fun a S => ?_
      exact leafL (leafT (⟨true, Option.some.inj h, S.fix [0] [] (by decide) rfl rfl rfl⟩))
    refine sLoadN (p := b14) (off := 0) (T := 25) (vs := [iv r11.1.Num, iv r11.1.Den]) 0 [iv r11.1.Num, iv r11.1.Den] S (wG 2 false 49 rfl rfl rfl hc30) rfl rfl rfl rfl rfl rfl rfl (lb rfl) fun a S => ?_
    obtain ⟨r31, hx32, h⟩ := bindSome h
    have S1 := S.mem
    have S1 := S1.learn (fRep r_api_Ratio (.agg #[iv r11.1.Num, iv r11.1.Den]) r11.1) rfl
    refine sCallQ (X := Unit) (f := 25) (vs := [.agg #[iv r11.1.Num, iv r11.1.Den]]) (val := fun _ => iv r31) S (wG 2 false 49 rfl rfl rfl hc30) rfl callee25 rfl (S1.quiet [0] rfl) (fun E1 w1 S1 => c_raddleref23_Check E1 w1 r11.1 (.agg #[iv r11.1.Num, iv r11.1.Den]) r31 hx32 S1) rfl (lb rfl) fun _ a w S => ?_
    refine sBin (.bool (r31 != 0)) S (wG 2 false 49 rfl rfl rfl hc30) rfl rfl rfl (bNe _ _ _ _ .i64 r31 0) rfl (lb rfl) fun a S => ?_
    refine sPickF (.bool (r31 != 0)) S (wN rfl) rfl rfl hc30 rfl rfl (lb rfl) fun a S => ?_
    refine sMove (.bool (r31 != 0)) S (wN rfl) (.inl rfl) rfl rfl (lb rfl) fun a S => ?_
    rcases iteSome h with ⟨hc33, h⟩ | ⟨hc33, h⟩
    · refine sSkip 7 false 54 55 S rfl rfl rfl hc33 rfl (lb rfl) fun a S => ?_
      refine sSkip 7 false 54 56 S rfl rfl rfl hc33 rfl (lb rfl) fun a S => ?_
      refine sPickT (.bool true) S (wN rfl) rfl rfl hc33 rfl rfl (lb rfl) fun a S => ?_
      refine sMove (.bool true) S (wN rfl) (.inl rfl) rfl rfl (lb rfl) fun a S => ?_
      refine sSkip 11 false 58 59 S rfl rfl rfl rfl rfl (lb rfl) fun a S => ?_
      refine sSkip 11 false 58 60 S rfl rfl rfl rfl rfl (lb rfl) fun a S => ?_
      refine sPickT (.bool true) S (wN rfl) rfl rfl rfl rfl rfl (lb rfl) fun a S => ?_
      refine sMove (.bool true) S (wN rfl) (.inl rfl) rfl rfl (lb rfl) fun a S => ?_
      refine sSkip 15 false 62 63 S rfl rfl rfl rfl rfl (lb rfl) fun a S => ?_
      refine sSkip 15 false 62 64 S rfl rfl rfl rfl rfl (lb rfl) fun a S => ?_
      refine sPickT (.bool true) S (wN rfl) rfl rfl rfl rfl rfl (lb rfl) fun a S => ?_
      refine sMove (.bool true) S (wN rfl) (.inl rfl) rfl rfl (lb rfl) fun a S => ?_
      refine sSkip 19 false 66 67 S rfl rfl rfl rfl rfl (lb rfl) fun a S => ?_
      refine sSkip 19 false 66 68 S rfl rfl rfl rfl rfl (lb rfl) fun a S => ?_
      refine sPickT (.bool true) S (wN rfl) rfl rfl rfl rfl rfl (lb rfl) fun a S => ?_
      exact leafL (leafT (⟨true, Option.some.inj h, S.fix [0] [] (by decide) rfl rfl rfl⟩))
    refine sMove (iv r8.1) S (wG 7 false 54 rfl rfl rfl hc33) (.inl rfl) rfl rfl (lb rfl) fun a S => ?_
    refine sBin (.bool (decide (r8.1 < 0))) S (wG 7 false 54 rfl rfl rfl hc33) rfl rfl rfl (bLt _ _ _ _ .i64 r8.1 0) rfl (lb rfl) fun a S => ?_
    refine sPickF (.bool (decide (r8.1 < 0))) S (wN rfl) rfl rfl hc33 rfl rfl (lb rfl) fun a S => ?_
    refine sMove (.bool (decide (r8.1 < 0))) S (wN rfl) (.inl rfl) rfl rfl (lb rfl) fun a S => ?_
    rcases iteSome h with ⟨hc34, h⟩ | ⟨hc34, h⟩
    · refine sSkip 11 false 58 59 S rfl rfl rfl hc34 rfl (lb rfl) fun a S => ?_
      refine sSkip 11 false 58 60 S rfl rfl rfl hc34 rfl (lb rfl) fun a S => ?_
      refine sPickT (.bool true) S (wN rfl) rfl rfl hc34 rfl rfl (lb rfl) fun a S => ?_
      refine sMove (.bool true) S (wN rfl) (.inl rfl) rfl rfl (lb rfl) fun a S => ?_
      refine sSkip 15 false 62 63 S rfl rfl rfl rfl rfl (lb rfl) fun a S => ?_
      refine sSkip 15 false 62 64 S rfl rfl rfl rfl rfl (lb rfl) fun a S => ?_
      refine sPickT (.bool true) S (wN rfl) rfl rfl rfl rfl rfl (lb rfl) fun a S => ?_
      refine sMove (.bool true) S (wN rfl) (.inl rfl) rfl rfl (lb rfl) fun a S => ?_
      refine sSkip 19 false 66 67 S rfl rfl rfl rfl rfl (lb rfl) fun a S => ?_
      refine sSkip 19 false 66 68 S rfl rfl rfl rfl rfl (lb rfl) fun a S => ?_
      refine sPickT (.bool true) S (wN rfl) rfl rfl rfl rfl rfl (lb rfl) fun a S => ?_
      exact leafL (leafT (⟨true, Option.some.inj h, S.fix [0] [] (by decide) rfl rfl rfl⟩))
    refine sMove (iv r8.1) S (wG 11 false 58 rfl rfl rfl hc34) (.inl rfl) rfl rfl (lb rfl) fun a S => ?_
    refine sBin (.bool (decide (1000000000 < r8.1))) S (wG 11 false 58 rfl rfl rfl hc34) rfl rfl rfl (bGt _ _ _ _ .i64 r8.1 1000000000) rfl (lb rfl) fun a S => ?_
    refine sPickF (.bool (decide (1000000000 < r8.1))) S (wN rfl) rfl rfl hc34 rfl rfl (lb rfl) fun a S => ?_
    refine sMove (.bool (decide (1000000000 < r8.1))) S (wN rfl) (.inl rfl) rfl rfl (lb rfl) fun a S => ?_
    rcases iteSome h with ⟨hc35, h⟩ | ⟨hc35, h⟩
    · refine sSkip 15 false 62 63 S rfl rfl rfl hc35 rfl (lb rfl) fun a S => ?_
      refine sSkip 15 false 62 64 S rfl rfl rfl hc35 rfl (lb rfl) fun a S => ?_
      refine sPickT (.bool true) S (wN rfl) rfl rfl hc35 rfl rfl (lb rfl) fun a S => ?_
      refine sMove (.bool true) S (wN rfl) (.inl rfl) rfl rfl (lb rfl) fun a S => ?_
      refine sSkip 19 false 66 67 S rfl rfl rfl rfl rfl (lb rfl) fun a S => ?_
      refine sSkip 19 false 66 68 S rfl rfl rfl rfl rfl (lb rfl) fun a S => ?_
      refine sPickT (.bool true) S (wN rfl) rfl rfl rfl rfl rfl (lb rfl) fun a S => ?_
      exact leafL (leafT (⟨true, Option.some.inj h, S.fix [0] [] (by decide) rfl rfl rfl⟩))
    refine sMove (iv p2) S (wG 15 false 62 rfl rfl rfl hc35) (.inl rfl) rfl rfl (lb rfl) fun a S => ?_
    refine sBin (.bool (decide (p2 < 1))) S (wG 15 false 62 rfl rfl rfl hc35) rfl rfl rfl (bLt _ _ _ _ .i64 p2 1) rfl (lb rfl) fun a S => ?_
    refine sPickF (.bool (decide (p2 < 1))) S (wN rfl) rfl rfl hc35 rfl rfl (lb rfl) fun a S => ?_
    refine sMove (.bool (decide (p2 < 1))) S (wN rfl) (.inl rfl) rfl rfl (lb rfl) fun a S => ?_
    rcases iteSome h with ⟨hc36, h⟩ | ⟨hc36, h⟩
    · refine sSkip 19 false 66 67 S rfl rfl rfl hc36 rfl (lb rfl) fun a S => ?_
      refine sSkip 19 false 66 68 S rfl rfl rfl hc36 rfl (lb rfl) fun a S => ?_
      refine sPickT (.bool true) S (wN rfl) rfl rfl hc36 rfl rfl (lb rfl) fun a S => ?_
      exact leafL (leafT (⟨true, Option.some.inj h, S.fix [0] [] (by decide) rfl rfl rfl⟩))
    refine sMove (iv p2) S (wG 19 false 66 rfl rfl rfl hc36) (.inl rfl) rfl rfl (lb rfl) fun a S => ?_
    refine sBin (.bool (decide (1000000000 < p2))) S (wG 19 false 66 rfl rfl rfl hc36) rfl rfl rfl (bGt _ _ _ _ .i64 p2 1000000000) rfl (lb rfl) fun a S => ?_
    refine sPickF (.bool (decide (1000000000 < p2))) S (wN rfl) rfl rfl hc36 rfl rfl (lb rfl) fun a S => ?_
    exact leafL (leafT (⟨decide (1000000000 < p2), Option.some.inj h, S.fix [0] [] (by decide) rfl rfl rfl⟩))
  obtain ⟨o27, rfl, S⟩ := hI
  have h := g29
  clear g29
  try dsimp only at h
  rcases iteSome h with ⟨hc37, h⟩ | ⟨hc37, h⟩
  · refine sCondT S rfl hc37 ?_
    refine sSeq (fun K38 hK38 => ?_)
    refine sRegion ?_
    refine sMove (.bool false) S (wN rfl) (.inr rfl) rfl rfl (lb rfl) fun a S => ?_
    refine leafL (leafT (hK38 _ _ ?_))
    obtain rfl := Option.some.inj h
    exact wp_ret (rThen (sRet (.bool false) S (rsl1 rfl (rvT (t := 8) (v := .bool false) S rfl)) ⟨(), rfl, S.mem.sel [] [] (by decide) rfl rfl⟩))
  refine sCondF S rfl hc37 ?_
  refine wp_skip (leafT (hK26 _ _ ?_))
  obtain ⟨t40, h, g41⟩ := bindSome h
  refine sCut (fun a w => ∃ o39, o39 = t40 ∧ St [] E [] w0 96 a w [(8, .bool o39)] [] []) ?_ (fun a w hI => ?_)
  rotate_left
  · obtain ⟨o39, rfl, S⟩ := hI
    have h := g41
    clear g41
    try dsimp only at h
    obtain rfl := Option.some.inj h
    exact wp_ret (sRet (.bool o39) S (rsl1 rfl (rvT (t := 8) (v := .bool o39) S rfl)) ⟨(), rfl, S.mem.sel [] [] (by decide) rfl rfl⟩)
  refine sRegion ?_
  refine sMove (.bool r5) S (wN rfl) (.inl rfl) rfl rfl (lb rfl) fun a S => ?_
  refine sMove (.bool r5) S (wN rfl) (.inl rfl) rfl rfl (lb rfl) fun a S => ?_
  rcases iteSome h with ⟨hc42, h⟩ | ⟨hc42, h⟩
  rotate_left
  · refine sSkip 1 true 71 72 S rfl rfl rfl hc42 rfl (lb rfl) fun a S => ?_
    refine sSkip 1 true 71 73 S rfl rfl rfl hc42 rfl (lb rfl) fun a S => ?_
    refine sSkip 1 true 71 74 S rfl rfl rfl hc42 rfl (lb rfl) fun a S => ?_
    refine sSkip 1 true 71 75 S rfl rfl rfl hc42 rfl (lb rfl) fun a S => ?_
    refine sSkip 1 true 71 76 S rfl rfl rfl hc42 rfl (lb rfl) fun a S => ?_
    refine sPickF (.bool false) S (wN rfl) rfl rfl hc42 rfl rfl (lb rfl) fun a S => ?_
    refine sMove (.bool false) S (wN rfl) (.inl rfl) rfl rfl (lb rfl) fun a S => ?_
    refine sSkip 8 true 78 79 S rfl rfl rfl rfl rfl (lb rfl) fun a S => ?_
    refine sSkip 8 true 78 80 S rfl rfl rfl rfl rfl (lb rfl) fun a S => ?_
    refine sSkip 8 true 78 81 S rfl rfl rfl rfl rfl (lb rfl) fun a S => ?_
    refine sSkip 8 true 78 82 S rfl rfl rfl rfl rfl (lb rfl) fun a S => ?_
    refine sPickF (.bool false) S (wN rfl) rfl rfl rfl rfl rfl (lb rfl) fun a S => ?_
    refine sMove (.bool false) S (wN rfl) (.inl rfl) rfl rfl (lb rfl) fun a S => ?_
    refine sSkip 14 true 84 85 S rfl rfl rfl rfl rfl (lb rfl) fun a S => ?_
    refine sSkip 14 true 84 86 S rfl rfl rfl rfl rfl (lb rfl) fun a S => ?_
    refine sSkip 14 true 84 87 S rfl rfl rfl rfl rfl (lb rfl) fun a S => ?_
    refine sSkipU 17 false 87 88 S rfl rfl rfl rfl (lb rfl) fun a S => ?_
    refine sSkipU 17 false 87 89 S rfl rfl rfl rfl (lb rfl) fun a S => ?_
    refine sSkipU 17 false 87 90 S rfl rfl rfl rfl (lb rfl) fun a S => ?_
    refine sSkipU 17 false 87 91 S rfl rfl rfl rfl (lb rfl) fun a S => ?_
    refine sSkipU 17 false 87 92 S rfl rfl rfl rfl (lb rfl) fun a S => ?_
    refine sSkipU 17 false 87 93 S rfl rfl rfl rfl (lb rfl) fun a S => ?_
    refine sSkip 14 true 84 94 S rfl rfl rfl rfl rfl (lb rfl) fun a S => ?_
    refine sPickF (.bool false) S (wN rfl) rfl rfl rfl rfl rfl (lb rfl) fun a S => ?_
    refine sMove (.bool false) S (wN rfl) (.inr rfl) rfl rfl (lb rfl) fun a S => ?_
    exact leafL (leafT (⟨false, Option.some.inj h, S.fix [] [] (by decide) rfl rfl rfl⟩))
  refine sMove (iv r8.2.1) S (wG 1 true 71 rfl rfl rfl hc42) (.inl rfl) rfl rfl (lb rfl) fun a S => ?_
  refine sMove (iv r8.1) S (wG 1 true 71 rfl rfl rfl hc42) (.inl rfl) rfl rfl (lb rfl) fun a S => ?_
  refine sMove (iv p3) S (wG 1 true 71 rfl rfl rfl hc42) (.inl rfl) rfl rfl (lb rfl) fun a S => ?_
  refine sBin (iv (w64 (r8.1 * p3))) S (wG 1 true 71 rfl rfl rfl hc42) rfl rfl rfl (bMul _ _ _ _ r8.1 p3) rfl (lb rfl) fun a S => ?_
  refine sBin (.bool (r8.2.1 == (w64 (r8.1 * p3)))) S (wG 1 true 71 rfl rfl rfl hc42) rfl rfl rfl (bEq _ _ _ _ .i64 r8.2.1 (w64 (r8.1 * p3))) rfl (lb rfl) fun a S => ?_
  refine sPickT (.bool (r8.2.1 == (w64 (r8.1 * p3)))) S (wN rfl) rfl rfl hc42 rfl rfl (lb rfl) fun a S => ?_
  refine sMove (.bool (r8.2.1 == (w64 (r8.1 * p3)))) S (wN rfl) (.inl rfl) rfl rfl (lb rfl) fun a S => ?_
  rcases iteSome h with ⟨hc43, h⟩ | ⟨hc43, h⟩
  rotate_left
  · refine sSkip 8 true 78 79 S rfl rfl rfl hc43 rfl (lb rfl) fun a S => ?_
    refine sSkip 8 true 78 80 S rfl rfl rfl hc43 rfl (lb rfl) fun a S => ?_
    refine sSkip 8 true 78 81 S rfl rfl rfl hc43 rfl (lb rfl) fun a S => ?_
    refine sSkip 8 true 78 82 S rfl rfl rfl hc43 rfl (lb rfl) fun a S => ?_
    refine sPickF (.bool false) S (wN rfl) rfl rfl hc43 rfl rfl (lb rfl) fun a S => ?_
    refine sMove (.bool false) S (wN rfl) (.inl rfl) rfl rfl (lb rfl) fun a S => ?_
    refine sSkip 14 true 84 85 S rfl rfl rfl rfl rfl (lb rfl) fun a S => ?_
    refine sSkip 14 true 84 86 S rfl rfl rfl rfl rfl (lb rfl) fun a S => ?_
    refine sSkip 14 true 84 87 S rfl rfl rfl rfl rfl (lb rfl) fun a S => ?_
    refine sSkipU 17 false 87 88 S rfl rfl rfl rfl (lb rfl) fun a S => ?_
    refine sSkipU 17 false 87 89 S rfl rfl rfl rfl (lb rfl) fun a S => ?_
    refine sSkipU 17 false 87 90 S rfl rfl rfl rfl (lb rfl) fun a S => ?_
    refine sSkipU 17 false 87 91 S rfl rfl rfl rfl (lb rfl) fun a S => ?_
    refine sSkipU 17 false 87 92 S rfl rfl rfl rfl (lb rfl) fun a S => ?_
    refine sSkipU 17 false 87 93 S rfl rfl rfl rfl (lb rfl) fun a S => ?_
    refine sSkip 14 true 84 94 S rfl rfl rfl rfl rfl (lb rfl) fun a S => ?_
    refine sPickF (.bool false) S (wN rfl) rfl rfl rfl rfl rfl (lb rfl) fun a S => ?_
    refine sMove (.bool false) S (wN rfl) (.inr rfl) rfl rfl (lb rfl) fun a S => ?_
    exact leafL (leafT (⟨false, Option.some.inj h, S.fix [] [] (by decide) rfl rfl rfl⟩))
  refine sLoadN (p := b14) (off := 0) (T := 25) (vs := [iv r11.1.Num, iv r11.1.Den]) 0 [iv r11.1.Num, iv r11.1.Den] S (wG 8 true 78 rfl rfl rfl hc43) rfl rfl rfl rfl rfl rfl rfl (lb rfl) fun a S => ?_
  refine sMove (iv r8.1) S (wG 8 true 78 rfl rfl rfl hc43) (.inl rfl) rfl rfl (lb rfl) fun a S => ?_
  refine sMove (iv p2) S (wG 8 true 78 rfl rfl rfl hc43) (.inl rfl) rfl rfl (lb rfl) fun a S => ?_
  obtain ⟨r44, hx45, h⟩ := bindSome h
  have S1 := S.mem
  have S1 := S1.learn (fRep r_api_Ratio (.agg #[iv r11.1.Num, iv r11.1.Den]) r11.1) rfl
  refine sCallQ (X := Unit) (f := 26) (vs := [.agg #[iv r11.1.Num, iv r11.1.Den], iv r8.1, iv p2]) (val := fun _ => .bool r44) S (wG 8 true 78 rfl rfl rfl hc43) rfl callee26 rfl (S1.quiet [0] rfl) (fun E1 w1 S1 => c_raddlelaw45_over E1 w1 r11.1 (.agg #[iv r11.1.Num, iv r11.1.Den]) r8.1 p2 r44 hx45 S1) rfl (lb rfl) fun _ a w S => ?_
  refine sPickT (.bool r44) S (wN rfl) rfl rfl hc43 rfl rfl (lb rfl) fun a S => ?_
  refine sMove (.bool r44) S (wN rfl) (.inl rfl) rfl rfl (lb rfl) fun a S => ?_
  rcases iteSome h with ⟨hc46, h⟩ | ⟨hc46, h⟩
  rotate_left
  · refine sSkip 14 true 84 85 S rfl rfl rfl hc46 rfl (lb rfl) fun a S => ?_
    refine sSkip 14 true 84 86 S rfl rfl rfl hc46 rfl (lb rfl) fun a S => ?_
    refine sSkip 14 true 84 87 S rfl rfl rfl hc46 rfl (lb rfl) fun a S => ?_
    refine sSkipU 17 false 87 88 S rfl rfl rfl rfl (lb rfl) fun a S => ?_
    refine sSkipU 17 false 87 89 S rfl rfl rfl rfl (lb rfl) fun a S => ?_
    refine sSkipU 17 false 87 90 S rfl rfl rfl rfl (lb rfl) fun a S => ?_
    refine sSkipU 17 false 87 91 S rfl rfl rfl rfl (lb rfl) fun a S => ?_
    refine sSkipU 17 false 87 92 S rfl rfl rfl rfl (lb rfl) fun a S => ?_
    refine sSkipU 17 false 87 93 S rfl rfl rfl rfl (lb rfl) fun a S => ?_
    refine sSkip 14 true 84 94 S rfl rfl rfl hc46 rfl (lb rfl) fun a S => ?_
    refine sPickF (.bool false) S (wN rfl) rfl rfl hc46 rfl rfl (lb rfl) fun a S => ?_
    refine sMove (.bool false) S (wN rfl) (.inr rfl) rfl rfl (lb rfl) fun a S => ?_
    exact leafL (leafT (⟨false, Option.some.inj h, S.fix [] [] (by decide) rfl rfl rfl⟩))
  refine sMove (iv r8.1) S (wG 14 true 84 rfl rfl rfl hc46) (.inl rfl) rfl rfl (lb rfl) fun a S => ?_
  refine sBin (.bool (r8.1 == 0)) S (wG 14 true 84 rfl rfl rfl hc46) rfl rfl rfl (bEq _ _ _ _ .i64 r8.1 0) rfl (lb rfl) fun a S => ?_
  refine sMove (.bool (r8.1 == 0)) S (wG 14 true 84 rfl rfl rfl hc46) (.inl rfl) rfl rfl (lb rfl) fun a S => ?_
  rcases iteSome h with ⟨hc47, h⟩ | ⟨hc47, h⟩
  · refine sSkip 17 false 87 88 S rfl rfl rfl hc47 rfl (lb rfl) fun a S => ?_
    refine sSkip 17 false 87 89 S rfl rfl rfl hc47 rfl (lb rfl) fun a S => ?_
    refine sSkip 17 false 87 90 S rfl rfl rfl hc47 rfl (lb rfl) fun a S => ?_
    refine sSkip 17 false 87 91 S rfl rfl rfl hc47 rfl (lb rfl) fun a S => ?_
    refine sSkip 17 false 87 92 S rfl rfl rfl hc47 rfl (lb rfl) fun a S => ?_
    refine sSkip 17 false 87 93 S rfl rfl rfl hc47 rfl (lb rfl) fun a S => ?_
    refine sPickT (.bool true) S (wG 14 true 84 rfl rfl rfl hc46) rfl rfl hc47 rfl rfl (lb rfl) fun a S => ?_
    refine sPickT (.bool true) S (wN rfl) rfl rfl hc46 rfl rfl (lb rfl) fun a S => ?_
    refine sMove (.bool true) S (wN rfl) (.inr rfl) rfl rfl (lb rfl) fun a S => ?_
    exact leafL (leafT (⟨true, Option.some.inj h, S.fix [] [] (by decide) rfl rfl rfl⟩))
  refine sLoadN (p := b14) (off := 0) (T := 25) (vs := [iv r11.1.Num, iv r11.1.Den]) 0 [iv r11.1.Num, iv r11.1.Den] S (wG 17 false 87 rfl rfl rfl hc47) rfl rfl rfl rfl rfl rfl rfl (lb rfl) fun a S => ?_
  refine sMove (iv r8.1) S (wG 17 false 87 rfl rfl rfl hc47) (.inl rfl) rfl rfl (lb rfl) fun a S => ?_
  refine sBin (iv (w64 (r8.1 - 1))) S (wG 17 false 87 rfl rfl rfl hc47) rfl rfl rfl (bSub _ _ _ _ r8.1 1) rfl (lb rfl) fun a S => ?_
  refine sMove (iv p2) S (wG 17 false 87 rfl rfl rfl hc47) (.inl rfl) rfl rfl (lb rfl) fun a S => ?_
  obtain ⟨r48, hx49, h⟩ := bindSome h
  have S1 := S.mem
  have S1 := S1.learn (fRep r_api_Ratio (.agg #[iv r11.1.Num, iv r11.1.Den]) r11.1) rfl
  refine sCallQ (X := Unit) (f := 26) (vs := [.agg #[iv r11.1.Num, iv r11.1.Den], iv (w64 (r8.1 - 1)), iv p2]) (val := fun _ => .bool r48) S (wG 17 false 87 rfl rfl rfl hc47) rfl callee26 rfl (S1.quiet [0] rfl) (fun E1 w1 S1 => c_raddlelaw45_over E1 w1 r11.1 (.agg #[iv r11.1.Num, iv r11.1.Den]) (w64 (r8.1 - 1)) p2 r48 hx49 S1) rfl (lb rfl) fun _ a w S => ?_
  refine sNot (b := r48) S (wG 17 false 87 rfl rfl rfl hc47) rfl rfl rfl (lb rfl) fun a S => ?_
  refine sPickF (.bool (!r48)) S (wG 14 true 84 rfl rfl rfl hc46) rfl rfl hc47 rfl rfl (lb rfl) fun a S => ?_
  refine sPickT (.bool (!r48)) S (wN rfl) rfl rfl hc46 rfl rfl (lb rfl) fun a S => ?_
  refine sMove (.bool (!r48)) S (wN rfl) (.inr rfl) rfl rfl (lb rfl) fun a S => ?_
  exact leafL (leafT (⟨!r48, Option.some.inj h, S.fix [] [] (by decide) rfl rfl rfl⟩))

end Go.Proofs.Ytdbgkakmhlmpbaa
namespace Go.Proofs.Ytdbgkakmhlmpbaa
open Go.RowKit
set_option linter.unusedVariables false

theorem over_val {a b n W : Nat} (b0 : 0 < b) (a1 : a ≤ 1000000000) (h : n * W ≤ 9223372036854775807) : F_raddlelaw45_over ⟨(a : Int), (b : Int)⟩ (n : Int) (W : Int) = some (decide (ceilN a b ≤ n * W)) := by
  have h1 : quoI (a : Int) (b : Int) = some ((a / b : Nat) : Int) := quo_nat b0 (by omega)
  have h2 : remI (a : Int) (b : Int) = some ((a % b : Nat) : Int) := by
    unfold remI
    rw [if_neg (by omega)]
    rfl
  have hq : a / b ≤ a := Nat.div_le_self _ _
  have h3 : w64 ((n : Int) * (W : Int)) = ((n * W : Nat) : Int) := wmul (by omega)
  unfold F_raddlelaw45_over ceilN
  simp only [h1, h2, Option.bind_some, h3]
  generalize a / b = q at *
  generalize a % b = m at *
  generalize n * W = z at *
  by_cases hm : m = 0
  · subst hm
    simp only [show (((0 : Nat) : Int) != 0) = false from rfl, Bool.false_eq_true, if_false, Option.bind_some, ne_eq, not_true_eq_false, Int.ofNat_le]
  · simp only [nT (show ¬ (m : Int) = 0 by omega), if_true, Option.bind_some, ne_eq, hm, not_false_eq_true]
    rw [w64_of (by omega) (by omega)]
    congr 1
    exact decide_eq_decide.2 (by omega)
theorem law_CostSkeins' (ha : F_raddlelaw45_alive = some true) (b : api_Bill) (c : api_Count) (skein cents : Int) (wb : wf_api_Bill b) (wc : wf_api_Count c) (ws : InK .i64 skein) (wp : InK .i64 cents) : F_raddlelaw45_CostSkeins b c skein cents = some true := by
  obtain ⟨r, r1, r2⟩ : ∃ r : api_Ratio × Int, F_yarn_Weigh c b.Length = some r ∧ (r.2 = 0 → ∃ x y : Nat, r = (⟨(x : Int), (y : Int)⟩, 0) ∧ 0 < y ∧ x ≤ 1000000000 ∧ y ≤ 1000000000 ∧ Nat.gcd x y = 1) := by
    rcases weigh_val c wc with h | ⟨x, y, x0, x1, y0, y1, h1, h2⟩
    · obtain ⟨r, h1, h2⟩ := h b.Length
      exact ⟨r, h1, fun h => absurd h h2⟩
    · by_cases hl : b.Length < 0 ∨ 1000000000 < b.Length
      · obtain ⟨r, h3, h4⟩ := h1 _ hl
        exact ⟨r, h3, fun h => absurd h h4⟩
      · obtain ⟨L, hL⟩ : ∃ L : Nat, b.Length = L := ⟨b.Length.toNat, by omega⟩
        rw [hL, h2 L (by omega)]
        refine ⟨_, rfl, fun h => ?_⟩
        rcases mk_cases (L * x) (10000 * y) (by omega) with ⟨u, v, q, e, h1, h2, h3, h4, h5, h6, h7⟩ | e
        · exact ⟨u, v, e, h4, h5, h6, h7⟩
        · rw [e] at h; cases h
  unfold F_raddlelaw45_CostSkeins
  simp only [ha, Option.bind_some, Bool.not_true, if_true, F_cost_Price, F_cost_Weight, r1]
  by_cases hb : b.Length < 0 ∨ b.Time < 0
  · have hc : (if decide (b.Length < 0) = true then some true else some (decide (b.Time < 0))) = some true := by
      by_cases h0 : b.Length < 0
      · simp only [dT h0, if_true]
      · simp only [dF h0, dT (show b.Time < 0 by omega), Bool.false_eq_true, if_false]
    simp only [hc, Option.bind_some, if_true, nT (show ¬ (2 : Int) = 0 by omega), bF (show ¬ (2 : Int) = 0 by omega), Bool.false_eq_true, if_false, beq_self_eq_true]
  simp only [dF (show ¬ b.Length < 0 by omega), dF (show ¬ b.Time < 0 by omega), Bool.false_eq_true, if_false, Option.bind_some]
  by_cases hr : r.2 = 0
  case neg =>
    have hs : F_yarn_Skeins c b.Length skein = some (0, r.2) := by
      unfold F_yarn_Skeins
      simp only [r1, Option.bind_some, nT hr, if_true]
    simp only [hs, Option.bind_some, nT hr, if_true, bF hr, Bool.false_eq_true, if_false, beq_self_eq_true]
  obtain ⟨x, y, rfl, y0, x1, y1, g⟩ := r2 hr
  rcases skeins_val (wt := skein) r1 rfl rfl y0 x1 y1 with ⟨t, t1, t2⟩ | ⟨W, rfl, W0, W1, h⟩
  · simp only [t1, Option.bind_some, nT t2, if_true, beq_self_eq_true]
  have hD0 : 0 < y * W := Nat.mul_pos y0 W0
  have nb := ceil_bd (a := x) hD0
  have spec : ∀ k : Nat, ceilN x (y * W) ≤ k ↔ ceilN x y ≤ k * W := by
    intro k
    rw [ceil_le hD0, ceil_le y0, Nat.mul_assoc, Nat.mul_comm W y]
  generalize ceilN x (y * W) = n at *
  simp only [h, Option.bind_some, bne_self_eq_false, Bool.false_eq_true, if_false]
  by_cases c0 : cents < 0
  · simp only [dT c0, if_true, Option.bind_some, nT (show ¬ (2 : Int) = 0 by omega), bne_self_eq_false, beq_self_eq_true]
  by_cases c1 : 1000000 < cents
  · simp only [dF c0, dT c1, if_true, Bool.false_eq_true, if_false, Option.bind_some, nT (show ¬ (2 : Int) = 0 by omega), bne_self_eq_false, beq_self_eq_true]
  have hk : F_raddleref23_Check ⟨(x : Int), (y : Int)⟩ = some 0 := by
    rw [rcheck_eq, if_pos ⟨y0, y1, x1, g⟩]
  have m1 : n * W ≤ 1000000000 * 1000000000 := Nat.mul_le_mul (by omega) W1
  have m2 : (n - 1) * W ≤ 1000000000 * 1000000000 := Nat.mul_le_mul (by omega) W1
  have o1 := over_val (n := n) (W := W) y0 x1 (by omega)
  have o2 := over_val (n := n - 1) (W := W) y0 x1 (by omega)
  rw [dT ((spec n).1 (Nat.le_refl _))] at o1
  simp only [dF c0, dF c1, Bool.false_eq_true, if_false, Option.bind_some, bne_self_eq_false, hk, dF (show ¬ (n : Int) < 0 by omega), dF (show ¬ (1000000000 : Int) < (n : Int) by omega), dF (show ¬ (W : Int) < 1 by omega), dF (show ¬ (1000000000 : Int) < (W : Int) by omega), beq_self_eq_true, if_true, o1]
  by_cases hn : n = 0
  · simp only [bT (show (n : Int) = 0 by omega), if_true, Option.bind_some]
  · have e : w64 ((n : Int) - 1) = ((n - 1 : Nat) : Int) := by rw [w64_of (by omega) (by omega)]; omega
    rw [dF (show ¬ ceilN x y ≤ (n - 1) * W from fun hx => by have := (spec (n - 1)).2 hx; omega)] at o2
    simp only [bF (show ¬ (n : Int) = 0 by omega), Bool.false_eq_true, if_false, e, o2, Option.bind_some, Bool.not_false]

end Go.Proofs.Ytdbgkakmhlmpbaa
namespace Go.Proofs.Ytdbgkakmhlmpbaa
open Go.RowKit
set_option linter.unusedVariables false

theorem law_CostSkeins (b : api_Bill) (c : api_Count) (skein cents : Int) (wb : wf_api_Bill b) (wc : wf_api_Count c) (ws : InK .i64 skein) (wp : InK .i64 cents) : F_raddlelaw45_CostSkeins b c skein cents = some true := law_CostSkeins' k_raddlelaw45_alive b c skein cents wb wc ws wp

end Go.Proofs.Ytdbgkakmhlmpbaa
namespace Go.Proofs.Ytdbgkakmhlmpbaa
open Go.RowKit
set_option linter.unusedVariables false

namespace frameCostSkeins
open Go.ChangeShapes Go.WideShapes Go.ChangeAt Go.Joins
theorem own : ownKnob Try.prog.godebug = none := by kernel_rfl
theorem laidOut : laidOutB Try.prog = true := by kernel_rfl
set_option maxRecDepth 100000 in
theorem lifted (os : Os) (started : os.Started) (H : Type) (enc : TypeId × Value → H) :
    ReturnsInHanded {} Try.checked os 5 .any (Rows.costSkeinsSpec.pre6 enc Try.prog Try.f5 Rows.costSkeinsRow.domain false) (Rows.costSkeinsSpec.post enc Try.prog Try.f5 false true false false) := by
  refine returnsInHanded_of_change (C := Try.checked) own started (by kernel_rfl) Try.func5
    (ChangeSpec.witness6 (enc := enc) (C := Try.checked) false ⟨#[], #[.agg #[iv 0, iv 0], .agg #[.int .u8 0, iv 0, iv 0], .int .i64 0, .int .i64 0], []⟩ 8 (by kernel_rfl) (by kernel_rfl) (by kernel_rfl) (by kernel_rfl)) ?_
  intro W base args ds gs before hval0 hW hcnd _
  have hval : ∀ (j : Nat) t v, Try.f5.params[j]? = some t → args[j]? = some v → Value.okWide Try.prog W .any base t v := hval0
  have hW' := hW
  obtain ⟨p, q, hA0, hV, rfl, hfz, hnd⟩ := hW
  have hA : DataW.TrodAll enc Try.prog W 0 (fun _ => true) true Try.f5.params.toList args.toList ds p := hA0
  rw [Try.params5] at hA hval
  obtain ⟨v0, vs0, d0, ds0, p0, q0, hargs, rfl, rfl, h0, r0⟩ := trodAll_cons hA
  obtain ⟨v1, vs1, d1, ds1, p1, q1, rfl, rfl, rfl, h1, r1⟩ := trodAll_cons r0
  obtain ⟨v2, vs2, d2, ds2, p2, q2, rfl, rfl, rfl, h2, r2⟩ := trodAll_cons r1
  obtain ⟨v3, vs3, d3, ds3, p3, q3, rfl, rfl, rfl, h3, r3⟩ := trodAll_cons r2
  obtain ⟨rfl, rfl, rfl⟩ := trodAll_nil r3
  obtain rfl : args = #[v0, v1, v2, v3] := by cases args; simp_all
  obtain ⟨rfl, rfl⟩ := trodVars_none hV
  have k0 := h0
  have lt0 : ∀ x ∈ p0, x.block < W.heap.size := by obtain ⟨m, hm⟩ := k0; exact DataW.trod_lt m _ _ _ hm
  have k1 := h1
  have lt1 : ∀ x ∈ p1, x.block < W.heap.size := by obtain ⟨m, hm⟩ := k1; exact DataW.trod_lt m _ _ _ hm
  have k2 := h2
  have lt2 : ∀ x ∈ p2, x.block < W.heap.size := by obtain ⟨m, hm⟩ := k2; exact DataW.trod_lt m _ _ _ hm
  have k3 := h3
  have lt3 : ∀ x ∈ p3, x.block < W.heap.size := by obtain ⟨m, hm⟩ := k3; exact DataW.trod_lt m _ _ _ hm
  obtain ⟨x0, rep0, wf0⟩ := top_agg Try.underlying23 aggr_api_Bill op_api_Bill (hval 0 _ v0 rfl rfl) h0
  obtain ⟨x1, rep1, wf1⟩ := top_agg Try.underlying27 aggr_api_Count op_api_Count (hval 1 _ v1 rfl rfl) h1
  obtain ⟨x2, rfl, rfl, rfl, wf2⟩ := open_int Try.underlying2 (hval 2 _ v2 rfl rfl) h2
  obtain ⟨x3, rfl, rfl, rfl, wf3⟩ := open_int Try.underlying3 (hval 3 _ v3 rfl rfl) h3
  clear hA0 hval0
  refine (c_raddlelaw45_CostSkeins (fun _ => False) W x0 v0 x1 v1 x2 x3 true (law_CostSkeins x0 x1 x2 x3 wf0 wf1 wf2 wf3) (St0.start (by intro d hd; simp only [List.mem_cons, List.not_mem_nil, or_false] at hd; rcases hd with rfl | rfl; exact rep0; exact rep1))).mono fun e W' hr => ?_
  obtain ⟨_, he, hS⟩ := hr
  have bel := hS.chg.below
  subst he
  exact ⟨_, rfl, _, _, _, [], _, [], hW', trodAll_mk1 (shut_bool Try.underlying4 _), (trodAll_cons_mk (Below.trod laidOut (by kernel_rfl) (of_decide_eq_true (by kernel_rfl)) k0 bel lt0) (trodAll_cons_mk (Below.trod laidOut (by kernel_rfl) (of_decide_eq_true (by kernel_rfl)) k1 bel lt1) (trodAll_cons_mk (Below.trod laidOut (by kernel_rfl) (of_decide_eq_true (by kernel_rfl)) k2 bel lt2) (trodAll_cons_mk (Below.trod laidOut (by kernel_rfl) (of_decide_eq_true (by kernel_rfl)) k3 bel lt3) trodAll_mk0)))), rfl, bel.frame _, fun h => by cases h⟩
theorem over : Rows.costSkeinsRow.holds Try.pinned (OpenSpec.ofChange Rows.costSkeinsSpec) :=
  OpenClaim.holds_of_wide 5 Try.f5 rfl rfl rfl rfl rfl rfl rfl ⟨rfl, rfl, rfl, rfl, rfl⟩ rfl rfl rfl rfl rfl (by kernel_rfl) Try.func5 (by kernel_rfl)
    (of_decide_eq_true (by kernel_rfl)) (by unfold Func.isWrapper; first | (rw [if_pos (by decide +kernel)]; kernel_rfl) | (rw [if_neg (by decide +kernel)]; exact ⟨rfl, rfl⟩))
    (fun os started H enc _ => lifted os started H enc)
end frameCostSkeins
theorem costSkeins_holds : Rows.CostSkeinsSaid := frameCostSkeins.over

end Go.Proofs.Ytdbgkakmhlmpbaa
